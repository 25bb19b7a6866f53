import PyProof.Rows.All
import Wide.All
import OpenK.AllK
import Wide.FinOn
import PyProof.InstStoreFacts
import KE.IntBitsLaws
import KE.KSortTup
import KE.KDictSum
import PySem.Challenge.RW_nt0052_01
open PySem PySem.W PyProof.Rows PySem.Calls
set_option Elab.async false
set_option tactic.hygienic false
set_option autoImplicit true
set_option linter.unusedVariables false
set_option maxRecDepth 100000
set_option pp.deepTerms false
set_option maxHeartbeats 8000000
set_option genSizeOf false
set_option genInjectivity false
set_option bootstrap.genMatcherCode false
namespace Mine
theorem leN {n a b:Nat}(h:n≤a) (e:Nat.ble a b=true):n≤b:=Nat.le_trans h (Nat.le_of_ble_eq_true e)
theorem ltN {n a b:Nat}(h:n≤a) (e:Nat.blt a b=true):n<b:=Nat.lt_of_le_of_lt h (Nat.le_of_ble_eq_true e)
theorem leSum {a b m n c:Nat}(h1:m≤a) (h2:n≤b) (e:Nat.ble (a+b) c=true):m+n≤c:=leN (Nat.add_le_add h1 h2) e
theorem leApp {α:Type}{x y:List α}{a b:Nat}(h1:x.length≤a) (h2:y.length≤b):(x++y).length≤a+b:=by rw [List.length_append];exact Nat.add_le_add h1 h2
theorem leMap {α β:Type}{f:α→β}{x:List α}{a:Nat}(h:x.length≤a):(x.map f).length≤a:=by rw [List.length_map];exact h
theorem leCons {α:Type}{z:α}{x:List α}{a:Nat}(h:x.length≤a):(z::x).length≤a+1:=Nat.succ_le_succ h
theorem castN {n:Nat}{a:Int}(h:(n:Int)<a) {b:Nat}(e:a≤(b:Int)):n<b:=Int.ofNat_lt.mp (Int.lt_of_lt_of_le h e)
@[elab_as_elim] theorem len0 {α:Type}{p:List α→Prop}{l:List α}(hl:l.length=0) (h:p []):p l:=by
  cases l with
  | nil=>exact h
  | cons=>cases hl
@[elab_as_elim] theorem lenS {α:Type}{p:List α→Prop}{n:Nat}{l:List α}(hl:l.length=n+1) (h:∀a r,r.length=n→p (a::r)):p l:=by
  cases l with
  | nil=>cases hl
  | cons a r=>exact h a r (Nat.succ.inj hl)
@[elab_as_elim] theorem len1 {α:Type}{p:List α→Prop}{l:List α}(hl:l.length=1) (h:∀a,p [a]):p l:=lenS hl fun a r hr=>len0 (p:=fun r=>p (a::r)) hr (h a)
@[elab_as_elim] theorem len2 {α:Type}{p:List α→Prop}{l:List α}(hl:l.length=2) (h:∀a b,p [a,b]):p l:=lenS hl fun a r hr=>len1 (p:=fun r=>p (a::r)) hr (h a)
@[elab_as_elim] theorem len3 {α:Type}{p:List α→Prop}{l:List α}(hl:l.length=3) (h:∀a b c,p [a,b,c]):p l:=lenS hl fun a r hr=>len2 (p:=fun r=>p (a::r)) hr (h a)
@[elab_as_elim] theorem len4 {α:Type}{p:List α→Prop}{l:List α}(hl:l.length=4) (h:∀a b c d,p [a,b,c,d]):p l:=lenS hl fun a r hr=>len3 (p:=fun r=>p (a::r)) hr (h a)
@[elab_as_elim] theorem len5 {α:Type}{p:List α→Prop}{l:List α}(hl:l.length=5) (h:∀a b c d e,p [a,b,c,d,e]):p l:=lenS hl fun a r hr=>len4 (p:=fun r=>p (a::r)) hr (h a)
inductive D where
  | none | bool (b:Bool) | int (i:Int) | str (l:List Nat) | bytes (l:List UInt8)
  | cst (v:Value) | ref (a:Addr) | tup (l:List D) | lst (l:List D) | inst (C:Addr) (ns:List Str) (l:List D)
noncomputable abbrev PG:Program:=PySem.Challenge.pw_nt0052_01
noncomputable def KeyNames:List DictEntry→List Str→Prop
  | [],ns=>ns=[]
  | e::r,ns=>∃x t ns',ns=x::ns'∧e.key=.str x t∧KeyNames r ns'
inductive SeqR (cls:String) (h:Heap) (N:Addr→Prop) (R:List Value→Prop) (v:Value):Prop
  | mk (a:Addr) (n:Nat) (items:List Value) (e:v=.ref a) (hn:¬ N a) (hg:h.get? a=some {cls:=.type cls,data:=.seq (List.toArray items) n }) (r:R items)
inductive InstR (h:Heap) (N:Addr→Prop) (C:Addr) (ns:List Str) (R:List Value→Prop) (v:Value):Prop
  | mk (a d:Addr) (n:Nat) (es:List DictEntry) (e:v=.ref a) (hn:¬ N a) (hg:h.get? a=some ⟨.ref C,some d,.plain,#[]⟩) (hd:¬ N d) (he:h.get? d=some (dictOf es n)) (hk:KeyNames es ns∧ns.Nodup) (r:R (es.map (·.val)))
mutual
noncomputable def RelD (h:Heap) (N:Addr→Prop):D→Value→Prop
  | .none,v=>v=.none
  | .bool b,v=>v=.bool b
  | .int i,v=>∃t,v=.int i t
  | .str l,v=>∃t,v=.str ⟨l.toArray⟩ t
  | .bytes l,v=>∃t,v=.bytes l.toArray t
  | .cst c,v=>v=c
  | .ref a,v=>v=.ref a
  | .tup l,v=>SeqR "tuple" h N (fun items=>RelDs h N l items) v
  | .lst l,v=>SeqR "list" h N (fun items=>RelDs h N l items) v
  | .inst C ns l,v=>InstR h N C ns (fun vs=>RelDs h N l vs) v
noncomputable def RelDs (h:Heap) (N:Addr→Prop):List D→List Value→Prop
  | [],vs=>vs=[]
  | d::ds,vs=>∃v r,vs=v::r∧RelD h N d v∧RelDs h N ds r
end
theorem pc {h:Heap}{N:Addr→Prop}{P:List (D×Value)}{d:D}{a:Value}(r:RelD h N d a) (hp:∀p∈P,RelD h N p.1 p.2):∀p∈(d,a)::P,RelD h N p.1 p.2:=List.forall_mem_cons.mpr ⟨r,hp⟩
theorem pc0 {h:Heap}{N:Addr→Prop}:∀p∈([]:List (D×Value)),RelD h N p.1 p.2:=fun q_ h=>absurd h List.not_mem_nil
theorem pc1 {h:Heap}{N:Addr→Prop}{d:D}{a:Value}(r:RelD h N d a):∀p∈[(d,a)],RelD h N p.1 p.2:=pc r pc0
noncomputable def Kept (o o':Obj):Prop:=o'=o∨(o.cls=.type "frame" ∧ ∃sl,o'={o with slots:=sl })
theorem Kept.refl (o:Obj):Kept o o:=.inl rfl
theorem Kept.same {o o':Obj}(k:Kept o o') (h:o.cls≠.type "frame"):o'=o:=k.elim id fun x=>absurd x.1 h
theorem Kept.trans {a b c:Obj}(x:Kept a b) (y:Kept b c):Kept a c:=by
  rcases x with rfl | ⟨hx,sl,rfl⟩
  · exact y
  · rcases y with rfl | ⟨_,sl',rfl⟩
    · exact .inr ⟨hx,sl,rfl⟩
    · exact .inr ⟨hx,sl',rfl⟩
noncomputable def NF (o:Obj):Prop:=∀vs,o.data≠.fields vs
theorem Kept.cls {o o':Obj}(k:Kept o o'):o'.cls=o.cls:=by
  rcases k with rfl | ⟨_,sl,rfl⟩ <;> rfl
theorem Kept.data {o o':Obj}(k:Kept o o'):o'.data=o.data:=by
  rcases k with rfl | ⟨_,sl,rfl⟩ <;> rfl
theorem neL:Value.type "list" ≠ .type "frame" := by simp
theorem neD:Value.type "dict" ≠ .type "frame" := by simp
theorem neR {C:Addr}:Value.ref C≠.type "frame" := nofun
section
variable {h h':Heap}{N N':Addr→Prop}
theorem RelDs.length {l:List D}{vs:List Value}(e:RelDs h N l vs):vs.length=l.length:=by
  induction l generalizing vs with
  | nil=>cases (show vs=[] from e);rfl
  | cons d l ih =>
    obtain ⟨v,r,rfl,_,hr⟩:=e
    exact congrArg (·+1) (ih hr)
mutual
theorem RelD.mono (k:∀a o,¬ N a→h.get? a=some o→o.cls≠.type "frame" → h'.get? a=some o) (n:∀a o,¬ N a→h.get? a=some o→¬ N' a):∀(d:D) (v:Value),RelD h N d v→RelD h' N' d v
  | .none,_,e=>e
  | .bool _,_,e=>e
  | .int _,_,e=>e
  | .str _,_,e=>e
  | .bytes _,_,e=>e
  | .cst _,_,e=>e
  | .ref _,_,e=>e
  | .tup l,v,e=>by
    obtain ⟨a,m,items,e1,e2,e3,e4⟩:=e
    exact ⟨a,m,items,e1,n a _ e2 e3,k a _ e2 e3 (by simp),RelDs.mono k n l items e4⟩
  | .lst l,v,e=>by
    obtain ⟨a,m,items,e1,e2,e3,e4⟩:=e
    exact ⟨a,m,items,e1,n a _ e2 e3,k a _ e2 e3 (by simp),RelDs.mono k n l items e4⟩
  | .inst C ns l,v,e=>by
    obtain ⟨a,d,m,es,e1,e2,e3,e4,e5,e6,e7⟩:=e
    exact ⟨a,d,m,es,e1,n a _ e2 e3,k a _ e2 e3 (by simp),n d _ e4 e5,k d _ e4 e5 (by simp),e6,RelDs.mono k n l _ e7⟩
theorem RelDs.mono (k:∀a o,¬ N a→h.get? a=some o→o.cls≠.type "frame" → h'.get? a=some o) (n:∀a o,¬ N a→h.get? a=some o→¬ N' a):∀(l:List D) (vs:List Value),RelDs h N l vs→RelDs h' N' l vs
  | [],_,e=>e
  | d::l,vs,e=>by
    obtain ⟨v,r,e1,e2,e3⟩:=e
    exact ⟨v,r,e1,RelD.mono k n d v e2,RelDs.mono k n l r e3⟩
end
end
inductive O where
  | list (l:List D)
  | attrs (ns:List Str) (l:List D)
  | sd (l:List (Str×D))
  | idict (l:List (Int×D))
  | td (l:List (List Int×D))
  | inst (C d:Addr)
  | ns (fr:Bool) (names:List Str) (vals:List (Option D))
  | cell (v:Option D)
  | exc (C d:Addr) (tb:Option Addr)
  | tb (fl:Option Addr)
  | it (cls:String) (vs:Array Value)
  | exact (ob:Obj)
  | sat (p:Obj→Prop)
  | junk
noncomputable abbrev Own:=List (Addr×O)
inductive ListR (h:Heap) (N:Addr→Prop) (a:Addr) (l:List D):Prop
  | mk (items:List Value) (n:Nat) (e:h.get? a=some {cls:=.type "list", data:=.seq (List.toArray items) n }) (r:RelDs h N l items)
inductive AttrsR (h:Heap) (N:Addr→Prop) (a:Addr) (ns:List Str) (l:List D):Prop
  | mk (es:List DictEntry) (n:Nat) (e:h.get? a=some (dictOf es n)) (k:KeyNames es ns∧ns.Nodup) (r:RelDs h N l (es.map (·.val)))
inductive DictR {K:Type}[DecidableEq K] {prog:Program}{w:World}(kd:KeyKind prog w K) (h:Heap) (N:Addr→Prop) (a:Addr) (l:List (K×D)):Prop
  | mk (kvs:List (K×Value)) (e:h.DictOf kd a kvs) (k:kvs.map (·.1)=l.map (·.1)) (r:RelDs h N (l.map (·.2)) (kvs.map (·.2)))
noncomputable abbrev tkind (w:World):=tupleKind (intKind PG w)
inductive TdR (w:World) (h:Heap) (N:Addr→Prop) (a:Addr) (l:List (List Int×D)):Prop
  | mk (xs:List (List Int×Addr×Value)) (n:Nat) (e:h.get? a=some {cls:=.type "dict", data:=.dict (List.toArray (xs.map (entryOfKey (tkind w)))) n }) (nd:(xs.map (·.1)).Nodup) (k:xs.map (·.1)=l.map (·.1))
      (r:RelDs h N (l.map fun p=>.tup (p.1.map .int)) (xs.map fun x=>.ref x.2.1)) (r':RelDs h N (l.map (·.2)) (xs.map (·.2.2)))
inductive NsR (h:Heap) (N:Addr→Prop) (a:Addr) (fr:Bool) (names:List Str) (vals:List (Option D)):Prop
  | mk (nd:names.Nodup) (g:∃ob,h.get? a=some ob∧(fr=false→ob.cls≠.type "frame")) (m:Str→Option Value) (e:h.Ns a m) (r:∀(i:Nat) (x:Str) (v:D),names[i]?=some x→vals[i]?=some (some v)→∃u,m x=some u∧RelD h N v u)
inductive CellR (h:Heap) (N:Addr→Prop) (a:Addr) (v:Option D):Prop
  | mk (ob:Obj) (u:Option Value) (e:h.get? a=some ob) (dd:ob.data=.cell u) (r:∀d,v=some d→∃x,u=some x∧RelD h N d x)
inductive TbR (h:Heap) (a:Addr) (fl:Option Addr):Prop
  | mk (ob:Obj) (ts:Array Value) (e:h.get? a=some ob) (c:ob.cls≠.type "frame") (d:ob.data=.fields ts) (t:ts[3]?=some (match fl with | none=>.none | some L=>rawInt L))
noncomputable def RelO (w:World) (h:Heap) (N:Addr→Prop) (a:Addr):O→Prop
  | .list l=>ListR h N a l
  | .attrs ns l=>AttrsR h N a ns l
  | .sd l=>DictR (strKind PG w) h N a l
  | .idict l=>DictR (intKind PG w) h N a l
  | .td l=>TdR w h N a l
  | .inst C d=>h.get? a=some ⟨.ref C,some d,.plain,#[]⟩
  | .ns fr names vals=>NsR h N a fr names vals
  | .cell v=>CellR h N a v
  | .exc C d tb=>∃vs,h.get? a=some ⟨.ref C,some d,.fields vs,#[]⟩∧vs[1]?=some (match tb with | none=>.none | some T=>.ref T)
  | .tb fl=>TbR h a fl
  | .it cls vs=>∃o,h.get? a=some o∧o.cls=.type cls∧cls ≠ "frame" ∧ o.data=.fields vs
  | .exact ob=>h.get? a=some ob∧ob.cls≠.type "frame"
  | .sat p=>∃ob,h.get? a=some ob∧ob.cls≠.type "frame" ∧ p ob
  | .junk=>True
theorem ns_kept {h h':Heap}{a:Addr}{m:Str→Option Value}(k:∀ob,h.get? a=some ob→∃ob',h'.get? a=some ob'∧Kept ob ob') (hn:h.Ns a m):h'.Ns a m:=by
  obtain ⟨o,es,ep,ho,hd,r⟩:=hn
  obtain ⟨o',ho',hk⟩:=k o ho
  rcases hk with rfl | ⟨_,sl,rfl⟩
  · exact ⟨_,es,ep,ho',hd,r⟩
  · exact ⟨_,es,ep,ho',hd,r⟩
theorem exact_kept {h h':Heap}{a:Addr}{o:Obj}(k:∀ob,h.get? a=some ob→∃ob',h'.get? a=some ob'∧Kept ob ob') (ho:h.get? a=some o) (hc:o.cls≠.type "frame"):h'.get? a=some o:=by
  obtain ⟨o',ho',hk⟩:=k o ho
  rw [hk.same hc] at ho';exact ho'
theorem dict_kept {prog:Program}{w:World}{K:Type}[DecidableEq K] {knd:KeyKind prog w K}{h h':Heap}{a:Addr}{kvs:List (K×Value)}(k:∀ob,h.get? a=some ob→∃ob',h'.get? a=some ob'∧Kept ob ob') (hd:h.DictOf knd a kvs):h'.DictOf knd a kvs :=
  Exists.imp (fun q_=>Exists.imp fun q_=>Exists.imp fun q_ g=>⟨exact_kept k g.1 (by rw [g.2.1.1];exact neD),g.2⟩) hd
theorem RelO.mono {w:World}{h h':Heap}{N N':Addr→Prop}{a:Addr}(k:∀a o,¬ N a→h.get? a=some o→o.cls≠.type "frame" → h'.get? a=some o) (n:∀a o,¬ N a→h.get? a=some o→¬ N' a)
    (ka:∀ob,h.get? a=some ob→∃ob',h'.get? a=some ob'∧Kept ob ob'):∀o:O,RelO w h N a o→RelO w h' N' a o:=fun o r=>by
  cases o with
  | list =>
    obtain ⟨items,m,e,r⟩:=r
    exact ⟨items,m,exact_kept ka e neL,RelDs.mono k n _ _ r⟩
  | attrs =>
    obtain ⟨es,m,e,r1,r⟩:=r
    exact ⟨es,m,exact_kept ka e neD,r1,RelDs.mono k n _ _ r⟩
  | sd =>
    obtain ⟨kvs,e,r1,r⟩:=r
    exact ⟨kvs,dict_kept ka e,r1,RelDs.mono k n _ _ r⟩
  | idict =>
    obtain ⟨kvs,e,r1,r⟩:=r
    exact ⟨kvs,dict_kept ka e,r1,RelDs.mono k n _ _ r⟩
  | td =>
    obtain ⟨xs,m,e,r1,r2,r3,r4⟩:=r
    exact ⟨xs,m,exact_kept ka e neD,r1,r2,RelDs.mono k n _ _ r3,RelDs.mono k n _ _ r4⟩
  | inst=>exact exact_kept ka r neR
  | ns =>
    obtain ⟨r1,⟨ob,g1,g2⟩,m,e,r⟩:=r
    exact ⟨r1,(ka ob g1).imp fun q_ h=>⟨h.1,fun hf=>by rw [h.2.cls];exact g2 hf⟩,m,ns_kept ka e,fun i x v hx hv=>(r i x v hx hv).imp fun q_=>And.imp id (RelD.mono k n _ _)⟩
  | cell =>
    obtain ⟨ob,u,e,dd,q⟩:=r
    obtain ⟨ob',e',kk⟩:=ka ob e
    exact ⟨ob',u,e',kk.data.trans dd,fun d hd=>(q d hd).imp fun q_=>And.imp id (RelD.mono k n _ _)⟩
  | exc=>exact Exists.imp (fun q_=>And.imp (exact_kept ka · neR) id) r
  | tb =>
    obtain ⟨ob,ts,e,c,g,g'⟩:=r
    exact ⟨ob,ts,exact_kept ka e c,c,g,g'⟩
  | it=>exact Exists.imp (fun q_ g=>⟨exact_kept ka g.1 (by rw [g.2.1];exact fun e=>g.2.2.1 (Value.type.inj e)),g.2⟩) r
  | exact=>exact ⟨exact_kept ka r.1 r.2,r.2⟩
  | sat=>exact Exists.imp (fun q_ g=>⟨exact_kept ka g.1 g.2.1,g.2⟩) r
  | junk=>exact trivial
noncomputable def FramesOk (B h:Heap):List Env→Prop
  | []=>True
  | env::r=>env.scope.kind≠.module∧(∃L o,env.frame=some L∧B.get? L=none∧h.get? L=some o∧NF o∧o.cls=.type "frame")∧FramesOk B h r
theorem FramesOk.keeps {B h h':Heap}(k:∀b o,h.get? b=some o→NF o→o.cls=.type "frame" → ∃o',h'.get? b=some o'∧NF o'∧o'.cls=o.cls) {l:List Env}(f:FramesOk B h l):FramesOk B h' l:=by
  induction l with
  | nil=>exact trivial
  | cons env r ih =>
    obtain ⟨a,⟨L,o,b,c,d,e,f⟩,r⟩:=f
    exact ⟨a,⟨L,(k L o d e f).imp fun o' h=>⟨b,c,h.1,h.2.1,h.2.2.trans f⟩⟩,ih r⟩
noncomputable def frs (A:Around):List Env:=A.frames.getD []
structure Inv (w:World) (B:Heap) (A:Around) (s:Shared) (N:Addr→Prop) (own:Own):Prop where
  stays:∀b o,B.get? b=some o→s.heap.get? b=some o
  hi:∀b,N b→∀d o,B.get? d=some o→d<b
  lt:∀b,N b→b<s.heap.objs.size
  owned:∀p∈own,N p.1∧RelO w s.heap N p.1 p.2
  nd:(own.map (·.1)).Nodup
  frames:FramesOk B s.heap (frs A)
  gens:s.gens=#[]
structure Step (s:Shared) (N:Addr→Prop) (own:Own) (s':Shared) (N':Addr→Prop) (own':Own):Prop where
  same:∀b o,s.heap.get? b=some o→b∉own.map (·.1)→∃o',s'.heap.get? b=some o'∧Kept o o'
  nf:∀b o,s.heap.get? b=some o→NF o→o.cls=.type "frame" → ∃o',s'.heap.get? b=some o'∧NF o'∧o'.cls=o.cls
  grow:s.heap.objs.size≤s'.heap.objs.size
  n1:∀b,N b→b<s.heap.objs.size→b∉own.map (·.1)→N' b
  n2:∀b,N' b→N b∨s.heap.objs.size≤b
  own2:∀b∈own'.map (·.1),b∈own.map (·.1)∨s.heap.objs.size≤b
  os:s'.os=s.os
theorem Step.refl (s:Shared) (N:Addr→Prop) (own:Own):Step s N own s N own :=
  ⟨fun q_ o e q_=>⟨o,e,.refl o⟩,fun q_ o e n q_=>⟨o,e,n,rfl⟩,Nat.le_refl _,fun q_ h q_ q_=>h,fun q_ h=>.inl h,fun q_ h=>.inl h,rfl⟩
theorem Step.trans {s₁ s₂ s₃:Shared}{N₁ N₂ N₃:Addr→Prop}{o₁ o₂ o₃:Own}(x:Step s₁ N₁ o₁ s₂ N₂ o₂) (y:Step s₂ N₂ o₂ s₃ N₃ o₃):Step s₁ N₁ o₁ s₃ N₃ o₃ where
  same:=fun b o e hb=>by
    obtain ⟨o',e',k⟩:=x.same b o e hb
    obtain ⟨o'',e'',k'⟩:=y.same b o' e' fun hm=>(x.own2 b hm).elim hb fun hl=>absurd (Heap.lt_size e) (Nat.not_lt.mpr hl)
    exact ⟨o'',e'',k.trans k'⟩
  nf:=fun b o e n f=>by
    obtain ⟨o',e',n',c'⟩:=x.nf b o e n f
    obtain ⟨o'',e'',n'',c''⟩:=y.nf b o' e' n' (c'.trans f)
    exact ⟨o'',e'',n'',c''.trans c'⟩
  grow:=Nat.le_trans x.grow y.grow
  n1:=fun b hb hl hn=>y.n1 b (x.n1 b hb hl hn) (Nat.lt_of_lt_of_le hl x.grow) fun hm=>(x.own2 b hm).elim hn fun h=>absurd hl (Nat.not_lt.mpr h)
  n2:=fun b hb=>(y.n2 b hb).elim (fun h=>x.n2 b h) fun h=>.inr (Nat.le_trans x.grow h)
  own2:=fun b hb=>(y.own2 b hb).elim (fun h=>x.own2 b h) fun h=>.inr (Nat.le_trans x.grow h)
  os:=y.os.trans x.os
section
variable {w:World}{B:Heap}{A:Around}{s s':Shared}{N N':Addr→Prop}{own own':Own}
theorem Inv.off (I:Inv w B A s N own) {a:Addr}(h:¬ N a):a∉own.map (·.1):=fun hm=>by
  obtain ⟨p,hp,rfl⟩:=List.mem_map.mp hm
  exact h (I.owned p hp).1
theorem Inv.offB (I:Inv w B A s N own) (b:Addr) (h:N b):B.get? b=none:=by
  cases hq:B.get? b with
  | none=>rfl
  | some o=>exact absurd (I.hi b h b o hq) (Nat.lt_irrefl b)
theorem Inv.above (I:Inv w B A s N own) {a:Addr}(h:s.heap.objs.size≤a) (d:Addr) (o:Obj) (e:B.get? d=some o):d<a:=Nat.lt_of_lt_of_le (Heap.lt_size (I.stays d o e)) h
theorem Inv.fresh (I:Inv w B A s N own) {a:Addr}(h:s.heap.objs.size≤a):B.get? a=none:=by
  cases hq:B.get? a with
  | none=>rfl
  | some o=>exact absurd (Heap.lt_size (I.stays a o hq)) (Nat.not_lt.mpr h)
theorem Inv.freshN (I:Inv w B A s N own) {a:Addr}(h:s.heap.objs.size≤a):¬ N a:=fun q=>absurd (I.lt a q) (Nat.not_lt.mpr h)
theorem Step.kk (I:Inv w B A s N own) (S:Step s N own s' N' own'):∀a o,¬ N a→s.heap.get? a=some o→o.cls≠.type "frame" → s'.heap.get? a=some o:=fun a o hn e hc=>by
  obtain ⟨o',e',k⟩:=S.same a o e (I.off hn)
  rw [k.same hc] at e';exact e'
theorem Step.kn (S:Step s N own s' N' own'):∀a o,¬ N a→s.heap.get? a=some o→¬ N' a:=fun a o hn e h'=>(S.n2 a h').elim hn fun hl=>absurd (Heap.lt_size e) (Nat.not_lt.mpr hl)
theorem Step.relD (I:Inv w B A s N own) (S:Step s N own s' N' own') {d:D}{v:Value}(h:RelD s.heap N d v):RelD s'.heap N' d v:=h.mono (S.kk I) S.kn
theorem Step.relDs (I:Inv w B A s N own) (S:Step s N own s' N' own') {d:List D}{v:List Value}(h:RelDs s.heap N d v):RelDs s'.heap N' d v:=h.mono (S.kk I) S.kn
theorem Step.pins (I:Inv w B A s N own) (S:Step s N own s' N' own') {P:List (D×Value)}(h:∀p∈P,RelD s.heap N p.1 p.2):∀p∈P,RelD s'.heap N' p.1 p.2:=fun p hp=>S.relD I (h p hp)
end
noncomputable abbrev Rl (β α:Type):=Heap→(Addr→Prop)→β→α→Prop
inductive Fl where
  | next | brk | cont | ret (d:D)
noncomputable def RV:Rl D Value:=RelD
noncomputable def RVs:Rl (List D) (List Value):=RelDs
noncomputable def RE {α:Type}:Rl α α:=fun q_ q_ b a=>a=b
noncomputable def RF:Rl Fl Flow:=fun h N b a=>match b with
  | .next=>a=.next
  | .brk=>a=.brk
  | .cont=>a=.cont
  | .ret d=>∃v,a=.ret v∧RelD h N d v
section
variable {α β γ δ:Type}
inductive Post (w:World) (B:Heap) (A:Around) (R:Rl β α) (s:Shared) (N:Addr→Prop) (own:Own) (Q:β→Own→Prop) (a:α) (s':Shared):Prop
  | mk (N':Addr→Prop) (own':Own) (b:β) (step:Step s N own s' N' own') (inv:Inv w B A s' N' own') (rel:R s'.heap N' b a) (q:Q b own')
inductive PostX (w:World) (B:Heap) (A:Around) (s:Shared) (N:Addr→Prop) (own:Own) (X:Addr→Own→Prop) (e:Value) (s':Shared):Prop
  | mk (N':Addr→Prop) (own':Own) (x:Addr) (step:Step s N own s' N' own') (inv:Inv w B A s' N' own') (is:e=.ref x) (q:X x own')
noncomputable abbrev Pins:=List (D×Value)
noncomputable def Wp (w:World) (B:Heap) (A:Around) (R:Rl β α) (P:Pins) (own:Own) (t:Sem α) (Q:β→Own→Prop) (X:Addr→Own→Prop):Prop :=
  ∀s N,Inv w B A s N own→(∀p∈P,RelD s.heap N p.1 p.2)→wpAny (model PG w) A t (Post w B A R s N own Q) (PostX w B A s N own X) s
variable {w:World}{B:Heap}{A:Around}{R:Rl β α}{s s' s₁:Shared}{N N₁:Addr→Prop}{own own₁:Own}{P:Pins}{Q Q':β→Own→Prop}{X X':Addr→Own→Prop}
theorem Post.after (S:Step s N own s₁ N₁ own₁) {a:α}(h:Post w B A R s₁ N₁ own₁ Q a s'):Post w B A R s N own Q a s' :=
  let ⟨N',o',b,S',I',r,q⟩:=h;⟨N',o',b,S.trans S',I',r,q⟩
theorem PostX.after (S:Step s N own s₁ N₁ own₁) {e:Value}(h:PostX w B A s₁ N₁ own₁ X e s'):PostX w B A s N own X e s' :=
  let ⟨N',o',b,S',I',r,q⟩:=h;⟨N',o',b,S.trans S',I',r,q⟩
theorem Wp.use {t:Sem α}(h:Wp w B A R P own t Q X) (I:Inv w B A s₁ N₁ own) (hp:∀p∈P,RelD s₁.heap N₁ p.1 p.2) {own₀:Own}(S:Step s N own₀ s₁ N₁ own) :
    wpAny (model PG w) A t (Post w B A R s N own₀ Q) (PostX w B A s N own₀ X) s₁:=wpAny_mono (h s₁ N₁ I hp) (fun q_ q_=>Post.after S) fun q_ q_=>PostX.after S
theorem Wp.mono {t:Sem α}(h:Wp w B A R P own t Q X) (hq:∀b o,Q b o→Q' b o) (hx:∀x o,X x o→X' x o):Wp w B A R P own t Q' X':=fun s N I hp =>
  wpAny_mono (h s N I hp) (fun _ _ ⟨N',o',b,S,I',r,q⟩=>⟨N',o',b,S,I',r,hq _ _ q⟩) fun _ _ ⟨N',o',b,S,I',r,q⟩=>⟨N',o',b,S,I',r,hx _ _ q⟩
theorem Wp.bindG {R₁:Rl δ γ}{m:Sem γ}{f:γ→Sem α}{Q₁:δ→Own→Prop}(h:Wp w B A R₁ P own m Q₁ X)
    (k:∀b o₁ a s₁ N₁,Q₁ b o₁→Inv w B A s₁ N₁ o₁→(∀p∈P,RelD s₁.heap N₁ p.1 p.2)→R₁ s₁.heap N₁ b a→wpAny (model PG w) A (f a) (Post w B A R s₁ N₁ o₁ Q) (PostX w B A s₁ N₁ o₁ X) s₁):Wp w B A R P own (m >>= f) Q X :=
  fun s N I hp=>wpAny_bind (wpAny_mono (h s N I hp) (fun a s₁ ⟨N₁,o₁,b,S,I₁,r,q⟩=>wpAny_mono (k b o₁ a s₁ N₁ q I₁ (S.pins I hp) r) (fun q_ q_=>Post.after S) fun q_ q_=>PostX.after S) fun q_ q_ e=>e)
theorem Wp.bindV {m:Sem Value}{f:Value→Sem α}(h:Wp w B A RV P own m (fun b o=>∀a,Wp w B A R ((b,a)::P) o (f a) Q X) X):Wp w B A R P own (m >>= f) Q X :=
  h.bindG fun b q_ a s₁ N₁ q I hp r=>q a s₁ N₁ I (pc r hp)
theorem Wp.bindE {m:Sem γ}{f:γ→Sem α}(h:Wp w B A RE P own m (fun b o=>Wp w B A R P o (f b) Q X) X):Wp w B A R P own (m >>= f) Q X :=
  h.bindG fun b q_ a s₁ N₁ q I hp r=>by
    have e:a=b:=r
    subst e;exact q s₁ N₁ I hp
noncomputable def zipP:List D→List Value→Pins→Pins
  | d::ds,v::vs,P=>(d,v)::zipP ds vs P
  | _,_,P=>P
theorem zipP_ok {h:Heap}{N:Addr→Prop}{P:Pins}(hp:∀p∈P,RelD h N p.1 p.2) {ds:List D}{vs:List Value}(e:RelDs h N ds vs):∀p∈zipP ds vs P,RelD h N p.1 p.2:=by
  induction ds generalizing vs with
  | nil=>cases (show vs=[] from e);exact hp
  | cons d ds ih =>
    obtain ⟨v,r,rfl,h1,h2⟩:=e
    exact (pc h1 (ih h2))
@[elab_as_elim] theorem RF.elim {h:Heap}{N:Addr→Prop}{motive:Fl→Flow→Prop}{b:Fl}{a:Flow}(r:RF h N b a) (hn:motive .next .next) (hb:motive .brk .brk) (hc:motive .cont .cont) (hr:∀d v,RelD h N d v→motive (.ret d) (.ret v)):motive b a:=by
  cases b with
  | next=>cases (show a=.next from r);exact hn
  | brk=>cases (show a=.brk from r);exact hb
  | cont=>cases (show a=.cont from r);exact hc
  | ret d =>
    obtain ⟨v,e,rv⟩:=r
    exact e▸hr d v rv
theorem Wp.bindVs {m:Sem (List Value)}{f:List Value→Sem α}(h:Wp w B A RVs P own m (fun b o=>∀a,a.length=b.length→Wp w B A R (zipP b a P) o (f a) Q X) X):Wp w B A R P own (m >>= f) Q X :=
  h.bindG fun b q_ a s₁ N₁ q I hp r=>q a (RelDs.length r) s₁ N₁ I (zipP_ok hp r)
theorem Wp.val {a:α}{b:β}(hr:∀h N,(∀p∈P,RelD h N p.1 p.2)→R h N b a) (hq:Q b own):Wp w B A R P own (pure a) Q X :=
  fun s N I hp=>wpAny_pure ⟨N,own,b,.refl ..,I,hr _ _ hp,hq⟩
theorem Wp.skip {m:Sem Unit}{f:Unit→Sem α}(hm:∀(Q:Unit→Shared→Prop) E s,Q () s→wpAny (model PG w) A m Q E s) (h:Wp w B A R P own (f ()) Q X):Wp w B A R P own (m >>= f) Q X :=
  fun s N I hp=>wpAny_bind (hm _ _ _ (h s N I hp))
theorem Wp.holding {vs:List Value}{m:Sem α}(h:Wp w B A R P own m Q X):Wp w B A R P own (holding vs m) Q X:=fun s N I hp=>wpAny_holding (h s N I hp)
theorem Wp.pins {t:Sem α}{P':Pins}(h:Wp w B A R P own t Q X) (hs:∀p∈P,p∈P'):Wp w B A R P' own t Q X:=fun s N I hp=>h s N I fun p hm=>hp p (hs p hm)
section trans
variable (I:Inv w B A s N own) {a:α}{b:β}{k:Tok}{h':Heap}
include I
theorem Post.tok (hr:R s.heap N b a) (hq:Q b own):Post w B A R s N own Q a {s with toks:=k } :=
  ⟨N,own,b,⟨fun q_ o e q_=>⟨o,e,.refl o⟩,fun q_ o e n q_=>⟨o,e,n,rfl⟩,Nat.le_refl _,fun q_ h q_ q_=>h,fun q_ h=>.inl h,fun q_ h=>.inl h,rfl⟩,⟨I.stays,I.hi,I.lt,I.owned,I.nd,I.frames,I.gens⟩,hr,hq⟩
theorem Inv.grow (hk:∀b o,s.heap.get? b=some o→h'.get? b=some o) (hz:s.heap.objs.size≤h'.objs.size):Inv w B A {s with heap:=h',toks:=k } N own∧Step s N own {s with heap:=h',toks:=k } N own:=by
  have S:Step s N own {s with heap:=h',toks:=k } N own:=⟨fun b o e q_=>⟨o,hk b o e,.refl o⟩,fun b o e n q_=>⟨o,hk b o e,n,rfl⟩,hz,fun q_ h q_ q_=>h,fun q_ h=>.inl h,fun q_ h=>.inl h,rfl⟩
  exact ⟨⟨fun b o e=>hk b o (I.stays b o e),I.hi,fun b h=>Nat.lt_of_lt_of_le (I.lt b h) hz,fun p hp=>⟨(I.owned p hp).1,(I.owned p hp).2.mono (S.kk I) S.kn fun ob e=>⟨ob,hk _ _ e,.refl ob⟩⟩,I.nd,I.frames.keeps fun b o e n q_=>⟨o,hk b o e,n,rfl⟩,I.gens⟩,S⟩
theorem Post.grow (hk:∀b o,s.heap.get? b=some o→h'.get? b=some o) (hz:s.heap.objs.size≤h'.objs.size) (hr:R h' N b a) (hq:Q b own):Post w B A R s N own Q a {s with heap:=h',toks:=k } :=
  ⟨N,own,b,(I.grow hk hz).2,(I.grow hk hz).1,hr,hq⟩
theorem Inv.make {c:Addr}{o:O}(hk:∀b o,s.heap.get? b=some o→h'.get? b=some o) (hz:s.heap.objs.size≤h'.objs.size) (hc:s.heap.objs.size≤c) (hc':c<h'.objs.size)
    (ho:RelO w h' (fun x=>N x∨x=c) c o):Inv w B A {s with heap:=h',toks:=k } (fun x=>N x∨x=c) ((c,o)::own)∧Step s N own {s with heap:=h',toks:=k } (fun x=>N x∨x=c) ((c,o)::own):=by
  have S:Step s N own {s with heap:=h',toks:=k } (fun x=>N x∨x=c) ((c,o)::own):=⟨fun b o e q_=>⟨o,hk b o e,.refl o⟩,fun b o e n q_=>⟨o,hk b o e,n,rfl⟩,hz,fun q_ h q_ q_=>.inl h,
    fun b h=>h.elim .inl fun e=>.inr (e▸hc),fun b h=>by
      simp only [List.map_cons,List.mem_cons] at h
      exact h.elim (fun e=>.inr (e▸hc)) .inl,rfl⟩
  refine ⟨⟨fun b o e=>hk b o (I.stays b o e),fun b h=>h.elim (I.hi b) fun e=>e▸I.above hc,fun b h=>h.elim (fun h=>Nat.lt_of_lt_of_le (I.lt b h) hz) fun e=>e▸hc',fun p hp=>?_,?_,I.frames.keeps fun b o e n q_=>⟨o,hk b o e,n,rfl⟩,I.gens⟩,S⟩
  · rcases List.mem_cons.mp hp with rfl | hp
    · exact ⟨.inr rfl,ho⟩
    · exact ⟨.inl (I.owned p hp).1,(I.owned p hp).2.mono (S.kk I) S.kn fun ob e=>⟨ob,hk _ _ e,.refl ob⟩⟩
  · rw [List.map_cons,List.nodup_cons]
    exact ⟨I.off (I.freshN hc),I.nd⟩
theorem Post.make {c:Addr}{o:O}(hk:∀b o,s.heap.get? b=some o→h'.get? b=some o) (hz:s.heap.objs.size≤h'.objs.size) (hc:s.heap.objs.size≤c) (hc':c<h'.objs.size)
    (ho:RelO w h' (fun x=>N x∨x=c) c o) (hr:R h' (fun x=>N x∨x=c) b a) (hq:Q b ((c,o)::own)):Post w B A R s N own Q a {s with heap:=h',toks:=k } :=
  ⟨_,_,b,(I.make hk hz hc hc' ho).2,(I.make hk hz hc hc' ho).1,hr,hq⟩
end trans
end
inductive Put:Own→Addr→O→O→Own→Prop
  | here {a o o' l}:Put ((a,o)::l) a o o' ((a,o')::l)
  | there {p l a o o' l'}:Put l a o o' l'→Put (p::l) a o o' (p::l')
inductive Has:Own→Addr→O→Prop
  | here {a o l}:Has ((a,o)::l) a o
  | there {p l a o}:Has l a o→Has (p::l) a o
theorem Has.mem {l:Own}{a o} (h:Has l a o):(a,o)∈l:=by
  induction h with
  | here=>exact .head _
  | there _ ih=>exact .tail _ ih
theorem Put.split {l l':Own}{a o o'} (h:Put l a o o' l'):∃p q,l=p++(a,o)::q∧l'=p++(a,o')::q:=by
  induction h with
  | here=>exact ⟨[],_,rfl,rfl⟩
  | there _ ih=>exact ih.elim fun p h=>h.elim fun q h=>⟨_::p,q,congrArg (List.cons _) h.1,congrArg (List.cons _) h.2⟩
theorem Put.has {l l':Own}{a o o'} (h:Put l a o o' l'):(a,o)∈l:=by
  induction h with
  | here=>exact .head _
  | there _ ih=>exact .tail _ ih
theorem Put.keys {l l':Own}{a o o'} (h:Put l a o o' l'):l'.map (·.1)=l.map (·.1):=by
  induction h with
  | here=>rfl
  | there _ ih=>exact congrArg (List.cons _) ih
section
variable {α β:Type}{w:World}{B:Heap}{A:Around}{R:Rl β α}{s:Shared}{N:Addr→Prop}{own own':Own}{Q:β→Own→Prop}{a:α}{b:β}{k:Tok}{h':Heap}{c:Addr}{o o':O}
theorem Inv.upd (I:Inv w B A s N own) (U:Put own c o o' own') (hs:Heap.SameBut c s.heap h') (hn:∀x,s.heap.get? c=some x→x.cls=.type "frame" → ∃x',h'.get? c=some x'∧(NF x→NF x')∧x'.cls=x.cls) (ho:RelO w h' N c o') :
    Inv w B A {s with heap:=h',toks:=k } N own'∧Step s N own {s with heap:=h',toks:=k } N own':=by
  have hc:N c:=(I.owned _ U.has).1
  have other:∀b x,b≠c→s.heap.get? b=some x→h'.get? b=some x:=fun b x hb e=>(hs.2 b hb).trans e
  have nf:∀b x,s.heap.get? b=some x→NF x→x.cls=.type "frame" → ∃x',h'.get? b=some x'∧NF x'∧x'.cls=x.cls:=fun b x e n f=>by
    by_cases q:b=c
    · subst q;obtain ⟨x',e',n',c'⟩:=hn x e f;exact ⟨x',e',n' n,c'⟩
    · exact ⟨x,other b x q e,n,rfl⟩
  have S:Step s N own {s with heap:=h',toks:=k } N own':=⟨fun b x e hb=>⟨x,other b x (fun q=>hb (by rw [q];exact List.mem_map.mpr ⟨_,U.has,rfl⟩)) e,.refl x⟩,nf,Nat.le_of_eq hs.1.symm,fun q_ h q_ q_=>h,fun q_ h=>.inl h,
    fun b h=>.inl (by rw [U.keys] at h;exact h),rfl⟩
  refine ⟨⟨fun b x e=>other b x (fun q=>by rw [q,I.offB c hc] at e;cases e) (I.stays b x e),I.hi,fun b h=>by show b<h'.objs.size;rw [hs.1];exact I.lt b h,fun p hp=>?_,by rw [U.keys];exact I.nd,I.frames.keeps nf,I.gens⟩,S⟩
  obtain ⟨p₁,q₁,e,e'⟩:=U.split
  have nd:=I.nd
  rw [e,List.map_append,List.map_cons] at nd
  have hd:=List.nodup_append.mp nd
  have old:∀p∈own,p.1≠c→N p.1∧RelO w h' N p.1 p.2:=fun p hp hne=>⟨(I.owned p hp).1,(I.owned p hp).2.mono (S.kk I) S.kn fun ob e=>⟨ob,other _ _ hne e,.refl ob⟩⟩
  rw [e'] at hp
  rcases List.mem_append.mp hp with hp | hp
  · refine old p (by rw [e];exact List.mem_append_left _ hp) fun q=>?_
    exact hd.2.2 p.1 (List.mem_map.mpr ⟨p,hp,rfl⟩) c (.head _) q
  · rcases List.mem_cons.mp hp with rfl | hp
    · exact ⟨hc,ho⟩
    · refine old p (by rw [e];exact List.mem_append_right _ (.tail _ hp)) fun q=>?_
      exact (List.nodup_cons.mp hd.2.1).1 (List.mem_map.mpr ⟨p,hp,q⟩)
theorem Post.upd (I:Inv w B A s N own) (U:Put own c o o' own') (hs:Heap.SameBut c s.heap h') (hn:∀x,s.heap.get? c=some x→∃x',h'.get? c=some x'∧(NF x→NF x')∧x'.cls=x.cls) (ho:RelO w h' N c o')
    (hr:R h' N b a) (hq:Q b own'):Post w B A R s N own Q a {s with heap:=h',toks:=k }:=⟨_,_,b,(I.upd U hs (fun x e q_=>hn x e) ho).2,(I.upd U hs (fun x e q_=>hn x e) ho).1,hr,hq⟩
end
section
variable {α β γ δ:Type}{w:World}{B:Heap}{A:Around}{R:Rl β α}{s s' s₁:Shared}{N N₁:Addr→Prop}{own own' own₁:Own}{P:Pins}{Q Q':β→Own→Prop}{X X':Addr→Own→Prop}
theorem Wp.useC {t:Sem α}{T:α→Shared→Prop}{E:Value→Shared→Prop}(h:Wp w B A R P own t Q X) (I:Inv w B A s N own) (hp:∀p∈P,RelD s.heap N p.1 p.2)
    (hT:∀a s' N' o' b,Step s N own s' N' o'→Inv w B A s' N' o'→R s'.heap N' b a→Q b o'→T a s') (hE:∀x s' N' o',Step s N own s' N' o'→Inv w B A s' N' o'→X x o'→E (.ref x) s'):wpAny (model PG w) A t T E s :=
  wpAny_mono (h s N I hp) (fun a s' q=>by
    obtain ⟨N',o',b,S,I',r,q⟩:=q
    exact hT a s' N' o' b S I' r q) fun e s' q=>by
    obtain ⟨N',o',x,S,I',e,q⟩:=q
    exact e▸hE x s' N' o' S I' q
theorem Wp.frame {t:Sem α}{fp rest:Own}{Q₁:β→Own→Prop}{X₁:Addr→Own→Prop}(h:Wp w B A R P fp t Q₁ X₁) (hp:∀p,p∈own↔p∈fp∨p∈rest) (hd:((fp++rest).map (·.1)).Nodup→True) (hperm:own.Perm (fp++rest))
    (hq:∀b o₁,Q₁ b o₁→Q b (o₁++rest)) (hx:∀b o₁,X₁ b o₁→X b (o₁++rest)):Wp w B A R P own t Q X:=fun s N I hpn=>by
  have nd:((fp++rest).map (·.1)).Nodup:=(hperm.map _).nodup_iff.mp I.nd
  rw [List.map_append] at nd
  have ndA:=List.nodup_append.mp nd
  have If:Inv w B A s N fp:=⟨I.stays,I.hi,I.lt,fun p h=>I.owned p ((hp p).mpr (.inl h)),ndA.1,I.frames,I.gens⟩
  have sub:∀b,b∈fp.map (·.1)→b∈own.map (·.1):=fun b hm=>(hperm.map _).mem_iff.mpr (by rw [List.map_append];exact List.mem_append_left _ hm)
  have sub':∀b,b∈rest.map (·.1)→b∈own.map (·.1):=fun b hm=>(hperm.map _).mem_iff.mpr (by rw [List.map_append];exact List.mem_append_right _ hm)
  have rst:∀p∈rest,p.1∉fp.map (·.1):=fun p h1 h2=>ndA.2.2 p.1 h2 p.1 (List.mem_map.mpr ⟨p,h1,rfl⟩) rfl
  have key:∀{s' N' o₁},Step s N fp s' N' o₁→Inv w B A s' N' o₁→Step s N own s' N' (o₁++rest)∧Inv w B A s' N' (o₁++rest):=fun {s' N' o₁} S I'=>by
    refine ⟨⟨fun b o e hb=>S.same b o e fun hm=>hb (sub b hm),S.nf,S.grow,fun b h1 h2 h3=>S.n1 b h1 h2 fun hm=>h3 (sub b hm),S.n2,fun b hb=>?_,S.os⟩,⟨I'.stays,I'.hi,I'.lt,fun p h1=>?_,?_,I'.frames,I'.gens⟩⟩
    · rw [List.map_append] at hb
      exact (List.mem_append.mp hb).elim (fun hb=>(S.own2 b hb).imp (sub b) id) fun hb=>.inl (sub' b hb)
    · refine (List.mem_append.mp h1).elim (I'.owned p) fun h1=>?_
      have O:=I.owned p ((hp p).mpr (.inr h1))
      exact ⟨S.n1 _ O.1 (I.lt _ O.1) (rst p h1),O.2.mono (S.kk If) S.kn fun ob e=>S.same _ _ e (rst p h1)⟩
    · rw [List.map_append]
      refine List.nodup_append.mpr ⟨I'.nd,ndA.2.1,fun a ha b hb e=>?_⟩
      subst e
      obtain ⟨p,h1,rfl⟩:=List.mem_map.mp hb
      have O:=I.owned p ((hp p).mpr (.inr h1))
      exact (S.own2 _ ha).elim (rst p h1) fun hl=>absurd (I.lt _ O.1) (Nat.not_lt.mpr hl)
  exact h.useC If hpn (fun a s' N' o₁ b S I' r q=>⟨N',_,b,(key S I').1,(key S I').2,r,hq _ _ q⟩) fun x s' N' o₁ S I' q=>⟨N',_,x,(key S I').1,(key S I').2,rfl,hx _ _ q⟩
inductive Del:Own→Addr×O→Own→Prop
  | here {p l}:Del (p::l) p l
  | there {p q l l'}:Del l p l'→Del (q::l) p (q::l')
inductive Pick:Own→Own→Own→Prop
  | nil {l}:Pick l [] l
  | cons {p l l' fp r}:Del l p l'→Pick l' fp r→Pick l (p::fp) r
theorem Del.perm {l l':Own}{p} (h:Del l p l'):l.Perm (p::l'):=by
  induction h with
  | here=>exact .refl _
  | there _ ih=>exact (ih.cons _).trans (.swap ..)
theorem Pick.perm {l fp r:Own}(h:Pick l fp r):l.Perm (fp++r):=by
  induction h with
  | nil=>exact .refl _
  | cons d _ ih=>exact d.perm.trans (ih.cons _)
theorem Wp.pick {t:Sem α}{fp rest:Own}{Q₁:β→Own→Prop}{X₁:Addr→Own→Prop}(h:Wp w B A R P fp t Q₁ X₁) (hp:Pick own fp rest)
    (hq:∀b o₁,Q₁ b o₁→Q b (o₁++rest)) (hx:∀b o₁,X₁ b o₁→X b (o₁++rest)):Wp w B A R P own t Q X :=
  h.frame (rest:=rest) (fun p=>hp.perm.mem_iff.trans List.mem_append) (fun q_=>trivial) hp.perm hq hx
theorem Inv.sub (I:Inv w B A s N own) (hs:∀p∈own',p∈own) (nd:(own'.map (·.1)).Nodup):Inv w B A s N own':=⟨I.stays,I.hi,I.lt,fun p h=>I.owned p (hs p h),nd,I.frames,I.gens⟩
theorem Wp.rule {tag:String}{f:Unit→Sem α}(h:Wp w B A R P own (f ()) Q X):Wp w B A R P own (PySem.rule tag >>= f) Q X:=h.skip fun q_ q_ q_ h=>wpAny_rule h
theorem Wp.standAt {pos:Pos}{f:Unit→Sem α}(h:Wp w B A R P own (f ()) Q X):Wp w B A R P own (PySem.standAt pos >>= f) Q X:=h.skip fun q_ q_ q_ h=>wpAny_standAt h
theorem wpAny_operate {M:Model}{vs:List Value}{m:Sem Value}{Q:Value→Shared→Prop}{E:Value→Shared→Prop}(h:wpAny M A m Q E s):wpAny M A (operate vs m) Q E s:=fun Γ p hΓ=>by
  rw [Sem.wp_operate];exact h Γ p hΓ
theorem wpAny_release {M:Model}{vs keep:List Value}{Q:Unit→Shared→Prop}{E:Value→Shared→Prop}(h:Q () s):wpAny M A (release vs keep) Q E s:=fun Γ p hΓ=>by
  rw [Sem.wp_release];exact h
theorem Wp.operate {Rv:Rl β Value}{vs:List Value}{m:Sem Value}{Q:β→Own→Prop}(h:Wp w B A Rv P own m Q X):Wp w B A Rv P own (operate vs m) Q X:=fun s N I hp=>wpAny_operate (h s N I hp)
noncomputable def RB:Rl Bool Value:=fun q_ q_ b a=>a=.bool b
theorem Wp.ofB {m:Sem Value}{Q:D→Own→Prop}(h:Wp w B A RB P own m (fun b o=>Q (.bool b) o) X):Wp w B A RV P own m Q X:=fun s N I hp =>
  wpAny_mono (h s N I hp) (fun q_ q_ hq=>by obtain ⟨N',o',b,S,I',r,q⟩:=hq;exact ⟨N',o',.bool b,S,I',r,q⟩) fun q_ q_ e=>e
end
section
variable {w:World}{B:Heap}{A:Around}{own own':Own}{P:Pins}{X:Addr→Own→Prop}{env:Env}{Q:D→Own→Prop}{QF:Fl→Own→Prop}{QB:Bool→Own→Prop}
noncomputable abbrev thenF (k:Own→Prop) (Q:Fl→Own→Prop):Fl→Own→Prop:=fun f o=>match f with | .next=>k o | .brk=>Q .brk o | .cont=>Q .cont o | .ret d=>Q (.ret d) o
theorem Wp.nil (h:QF .next own):Wp w B A RF P own (execs [] env) QF X:=Wp.val (b:=.next) (fun q_ q_ q_=>rfl) h
theorem Wp.cons {st:Stmt}{rest:List Stmt}(h:Wp w B A RF P own (exec st env) (thenF (fun o=>Wp w B A RF P o (execs rest env) QF X) QF) X):Wp w B A RF P own (execs (st::rest) env) QF X:=by
  rw [execs_cons]
  refine h.bindG fun b o₁ a s₁ N₁ q I hp r=>?_
  revert q
  refine RF.elim r ?_ ?_ ?_ ?_
  · exact fun q=>q s₁ N₁ I hp
  · exact fun q=>wpAny_pure ⟨N₁,o₁,.brk,.refl ..,I,rfl,q⟩
  · exact fun q=>wpAny_pure ⟨N₁,o₁,.cont,.refl ..,I,rfl,q⟩
  · exact fun d v rv q=>wpAny_pure ⟨N₁,o₁,.ret d,.refl ..,I,⟨v,rfl,rv⟩,q⟩
theorem Wp.Return {e:Expr}{pos} (h:Wp w B A RV P own (eval e env) (fun d o=>QF (.ret d) o) X):Wp w B A RF P own (exec (.Return (some e) pos) env) QF X:=by
  rw [exec_Return_some]
  exact Wp.standAt (h.bindG fun b o₁ a s₁ N₁ q I hp r=>wpAny_pure ⟨N₁,o₁,.ret b,.refl ..,I,⟨a,rfl,r⟩,q⟩)
theorem Wp.Return0 {pos} (h:QF (.ret .none) own):Wp w B A RF P own (exec (.Return none pos) env) QF X:=by
  rw [exec_Return_none]
  exact Wp.standAt (Wp.val (b:=.ret .none) (fun q_ q_ q_=>⟨.none,rfl,rfl⟩) h)
theorem Wp.If {test:Expr}{body orelse:List Stmt}{pos}
    (h:Wp w B A RE P own (isTrue test env (eval test env)) (fun c o=>(c=true→Wp w B A RF P o (execs body env) QF X)∧(c=false→Wp w B A RF P o (execs orelse env) QF X)) X):Wp w B A RF P own (exec (.If test body orelse pos) env) QF X:=by
  rw [exec_If]
  refine Wp.standAt (Wp.bindE (h.mono (fun c o q=>?_) fun q_ q_ x=>x))
  cases c with
  | true=>exact q.1 rfl
  | false=>exact q.2 rfl
theorem Wp.IfExp {test body orelse:Expr}{pos}
    (h:Wp w B A RE P own (isTrue test env (eval test env)) (fun c o=>(c=true→Wp w B A RV P o (eval body env) Q X)∧(c=false→Wp w B A RV P o (eval orelse env) Q X)) X):Wp w B A RV P own (eval (.IfExp test body orelse pos) env) Q X:=by
  show Wp w B A RV P own (isTrue test env (eval test env) >>= fun b=>if b then eval body env else eval orelse env) Q X
  refine Wp.bindE (h.mono (fun c o q=>?_) fun q_ q_ x=>x)
  cases c with
  | true=>exact q.1 rfl
  | false=>exact q.2 rfl
theorem Wp.cNone {k pos} (h:Q .none own):Wp w B A RV P own (eval (.Constant .none k pos) env) Q X:=Wp.val (b:=.none) (fun q_ q_ q_=>rfl) h
theorem Wp.cBool {k pos} {c:Bool}(h:Q (.bool c) own):Wp w B A RV P own (eval (.Constant (.bool c) k pos) env) Q X:=Wp.val (b:=.bool c) (fun q_ q_ q_=>rfl) h
theorem Wp.cInt {k pos} {i:Int}(h:Q (.int i) own):Wp w B A RV P own (eval (.Constant (.int i) k pos) env) Q X:=fun s N I hp=>wpAny_Constant_int (Post.tok I (R:=RV) (b:=.int i) ⟨_,rfl⟩ h)
theorem Wp.cStr {k pos} {x:Str}{l:List Nat}(hx:x.cps.toList=l) (h:Q (.str l) own):Wp w B A RV P own (eval (.Constant (.str x) k pos) env) Q X:=fun s N I hp=>by
  subst hx
  exact Constant_str (Post.tok I (R:=RV) (b:=.str x.cps.toList) ⟨s.toks,by simp⟩ h)
theorem Wp.cBytes {k pos} {l:List UInt8}(h:Q (.bytes l) own):Wp w B A RV P own (eval (.Constant (.bytes l) k pos) env) Q X:=fun s N I hp=>by
  show wpAny _ _ (mkTextBytes l.toArray) _ _ s
  unfold mkTextBytes
  exact wpAny_bind (wpAny_fresh' (wpAny_pure (Post.tok I (R:=RV) (b:=.bytes l) ⟨_,rfl⟩ h)))
inductive LSlot:List Str→List (Option D)→Str→D→Prop
  | here {x ns d vs}:LSlot (x::ns) (some d::vs) x d
  | there {x y ns u d vs}:LSlot ns vs x d→LSlot (y::ns) (u::vs) x d
inductive LSet:List Str→List (Option D)→Str→D→List (Option D)→Prop
  | here {x ns u d vs}:LSet (x::ns) (u::vs) x d (some d::vs)
  | there {x y ns u d vs vs'}:LSet ns vs x d vs'→LSet (y::ns) (u::vs) x d (u::vs')
theorem LSlot.at {ns vs x d} (h:LSlot ns vs x d):∃i:Nat,ns[i]?=some x∧vs[i]?=some (some d):=by
  induction h with
  | here=>exact ⟨0,rfl,rfl⟩
  | there _ ih=>exact ih.elim fun i h=>⟨i+1,h.1,h.2⟩
theorem LSet.at {ns vs x d vs'} (h:LSet ns vs x d vs'):∃i:Nat,ns[i]?=some x∧vs'=vs.set i (some d):=by
  induction h with
  | here=>exact ⟨0,rfl,rfl⟩
  | there _ ih=>exact ih.elim fun i h=>⟨i+1,h.1,congrArg (List.cons _) h.2⟩
theorem Wp.local {fr x pos names vals} {d:D}(hk:env.scope.kind=.function) (hl:env.kindOf x=some .local) (ho:Has own env.locals (.ns fr names vals)) (hs:LSlot names vals x d) (h:Q d own) (hd:(x == ("__debug__" : Str))=false) :
    Wp w B A RV P own (eval (.Name x pos) env) Q X:=fun s N I hp=>by
  obtain ⟨_,_,_,m,hn,hv⟩:=I.owned _ ho.mem
  obtain ⟨i,h1,h2⟩:=hs.at
  obtain ⟨u,h3,h4⟩:=hv i x d h1 h2
  exact wpAny_Name (wpAny_loadName_local hk hl hn h3 ⟨N,own,d,.refl ..,I,h4,h⟩) hd
theorem Wp.cellName {x pos c} {d:D}(hk:env.scope.kind=.function) (hl:env.kindOf x=some .cell) (hc:env.cells.lookup x=some c) (ho:Has own c (.cell (some d))) (h:Q d own) (hd:(x == ("__debug__" : Str))=false) :
    Wp w B A RV P own (eval (.Name x pos) env) Q X:=fun s N I hp=>by
  obtain ⟨_,ob,u,h1,h2,h3⟩:=I.owned _ ho.mem
  obtain ⟨v,rfl,h4⟩:=h3 d rfl
  exact wpAny_Name (wpAny_loadName_cell hk hl hc ⟨ob,h1,h2⟩ ⟨N,own,d,.refl ..,I,h4,h⟩) hd
noncomputable def GN (B:Heap) (x:Str) (v:Value):Prop:=∃mg,B.Ns mainGlobals mg∧mg x=some v
noncomputable def BN (B:Heap) (x:Str) (v:Value):Prop:=∃mg mb,B.Ns mainGlobals mg∧mg x=none∧B.Ns builtinsNs mb∧mb x=some v
noncomputable def constD:Value→D
  | .int i _=>.int i
  | .bytes b _=>.bytes b.toList
  | v=>.cst v
theorem Wp.globalI {x pos} {i:Int}{t:Tok}(hk:env.scope.kind=.function) (hg:env.globals=mainGlobals) (hx:env.kindOf x=some .globalImplicit) (g:GN B x (.int i t)) (h:Q (.int i) own) (hd:(x == ("__debug__" : Str))=false) :
    Wp w B A RV P own (eval (.Name x pos) env) Q X:=fun s N I hp=>by
  obtain ⟨mg,h1,h2⟩:=g
  exact Name_function_global hk hx (loadGlobal_global (by rw [hg];exact h1.keeps I.stays) h2 ⟨N,own,.int i,.refl ..,I,⟨t,rfl⟩,h⟩) hd
theorem Wp.globalB {x pos} {b:Array UInt8}{l:List UInt8}{t:Tok}(hk:env.scope.kind=.function) (hg:env.globals=mainGlobals) (hx:env.kindOf x=some .globalImplicit) (g:GN B x (.bytes b t)) (hb:b=l.toArray) (h:Q (.bytes l) own) (hd:(x == ("__debug__" : Str))=false) :
    Wp w B A RV P own (eval (.Name x pos) env) Q X:=fun s N I hp=>by
  obtain ⟨mg,h1,h2⟩:=g
  exact Name_function_global hk hx (loadGlobal_global (by rw [hg];exact h1.keeps I.stays) h2 ⟨N,own,.bytes l,.refl ..,I,⟨t,by rw [hb]⟩,h⟩) hd
theorem Wp.globalC {x pos} {v:Value}(hk:env.scope.kind=.function) (hg:env.globals=mainGlobals) (hx:env.kindOf x=some .globalImplicit) (g:GN B x v) (h:Q (.cst v) own) (hd:(x == ("__debug__" : Str))=false) :
    Wp w B A RV P own (eval (.Name x pos) env) Q X:=fun s N I hp=>by
  obtain ⟨mg,h1,h2⟩:=g
  exact Name_function_global hk hx (loadGlobal_global (by rw [hg];exact h1.keeps I.stays) h2 ⟨N,own,.cst v,.refl ..,I,rfl,h⟩) hd
theorem Wp.builtinC {x pos} {v:Value}(hk:env.scope.kind=.function) (hg:env.globals=mainGlobals) (hb:env.builtins=builtinsNs) (hx:env.kindOf x=some .globalImplicit) (g:BN B x v) (h:Q (.cst v) own) (hd:(x == ("__debug__" : Str))=false) :
    Wp w B A RV P own (eval (.Name x pos) env) Q X:=fun s N I hp=>by
  obtain ⟨mg,mb,h1,h2,h3,h4⟩:=g
  exact Name_function_global hk hx (loadGlobal_builtin (by rw [hg];exact h1.keeps I.stays) h2 (by rw [hb];exact h3.keeps I.stays) h4 ⟨N,own,.cst v,.refl ..,I,rfl,h⟩) hd
theorem nsSet_iff {M:Model}{Γ:Ctx}{E:Value→Pos→Shared→Prop}{p:Pos}{s:Shared}{a:Addr}{m} (hn:s.heap.Ns a m) (name:Str) (v:Value) (Q:Unit→Pos→Shared→Prop) :
    Sem.wp M Γ (nsSet a name v) Q E p s↔Q () p {s with heap:=s.heap.update a (Obj.putName name (PyData.keyHash M.w.params name) (.str name s.toks) v),toks:=s.toks+1 }:=by
  obtain ⟨o,es,ep,ho,hd,hk,hm⟩:=hn
  simp only [nsSet,strHash,Sem.wp_bind',Sem.wp_cmd_ask,Sem.wp_pure',Sem.wp_cmd_mkText]
  rw [Sem.wp_loadPart_of M Γ E p {s with toks:=s.toks+1 } (o:=o) _ ho]
  have hany:es.any (·.refKey)=false:=by
    rw [Array.any_eq_false'];intro e he;obtain ⟨n,t,h⟩:=hk e he;simp [DictEntry.refKey,h]
  simp only [hd,aRefKeyMayBeTheName_eq,aRefKeyMayBeTheNameByArray,hany,Bool.and_false,Bool.false_eq_true,if_false,Sem.wp_cmd_updatePart]
  constructor
  · exact fun h=>h.2
  · exact fun h=>⟨by rw [ho];rfl,h⟩
theorem nsSet_run {M:Model}{E:Value→Shared→Prop}{s:Shared}{a:Addr}{m} {name:Str}{v:Value}{Q:Unit→Shared→Prop}(hn:s.heap.Ns a m)
    (h:∀h',h'.Ns a (fun x=>if x=name then some v else m x)→Heap.SameBut a s.heap h'→(∀o,s.heap.get? a=some o→∃o',h'.get? a=some o'∧(NF o→NF o')∧o'.cls=o.cls)→Q () {s with heap:=h',toks:=s.toks+1 }):wpAny M A (nsSet a name v) Q E s:=fun Γ p hΓ=>by
  rw [nsSet_iff hn]
  have key:=(nsSet_iff (M:=M) (Γ:=Γ) (E:=fun q_ q_ q_=>False) (p:=p) hn name v (fun q_ q_ s'=>s'.heap.Ns a (fun x=>if x=name then some v else m x))).mp (Sem.wp_nsSet M Γ _ p s hn name v _ fun h' hn' q_=>hn')
  refine h _ key (Heap.SameBut.update ..) fun o ho=>?_
  obtain ⟨o',es,ep,h1,h2,_⟩:=key
  refine ⟨o',h1,fun q_ vs q=>(by rw [h2] at q;cases q),?_⟩
  obtain ⟨o₂,es₂,ep₂,h1',h2',_⟩:=hn
  rw [ho] at h1'
  cases h1'
  obtain ⟨c,d,dt,sl⟩:=o
  simp only at h2'
  subst h2'
  have e:(s.heap.update a (Obj.putName name (PyData.keyHash M.w.params name) (.str name s.toks) v)).get? a=some (Obj.putName name (PyData.keyHash M.w.params name) (.str name s.toks) v ⟨c,d,.dict es₂ ep₂,sl⟩) :=
    Heap.get?_update_self _ ho (by rw [Obj.putName_eq];unfold Obj.putNameByArray;dsimp only;split <;> rfl)
  rw [e] at h1
  cases h1
  rw [Obj.putName_eq];unfold Obj.putNameByArray;dsimp only;split <;> rfl
theorem Wp.store {fr x names vals vals'} {d:D}{v:Value}{QU:Unit→Own→Prop}(hk:env.scope.kind=.function) (hl:env.kindOf x=some .local) (hU:Put own env.locals (.ns fr names vals) (.ns fr names vals') own') (hs:LSet names vals x d vals')
    (h:QU () own'):Wp w B A RE ((d,v)::P) own (storeName env x v) QU X:=fun s N I hp=>by
  obtain ⟨hN,nd,⟨ob,g1,g2⟩,m,hn,hv⟩:=I.owned _ hU.has
  obtain ⟨i,h1,h2⟩:=hs.at
  have hd:=hp _ (.head _)
  rw [storeName_local hl (by rw [hk];rfl)]
  refine nsSet_run hn fun h' hn' hs' hc=>?_
  have kk:∀a o,¬ N a→s.heap.get? a=some o→o.cls≠.type "frame" → h'.get? a=some o:=fun a o hn e q_=>(hs'.2 a fun q=>hn (q▸hN)).trans e
  refine Post.upd I hU hs' hc ⟨nd,(let ⟨ob',g3,_,g4⟩:=hc ob g1;⟨ob',g3,fun f=>by rw [g4];exact g2 f⟩),_,hn',fun j y u hy hu=>?_⟩ (R:=RE) (b:=()) rfl h
  by_cases hj:j=i
  · subst hj
    rw [h1] at hy
    cases hy
    rw [h2] at hu
    have:u=d:=by
      rw [List.getElem?_set] at hu
      split at hu
      · split at hu <;> simp_all
      · simp_all
    subst this
    exact ⟨v,by simp,hd.mono kk fun q_ q_ a q_=>a⟩
  · have hne:y≠x:=fun e=>by
      subst e
      have l1:=(List.getElem?_eq_some_iff.mp hy).1
      exact hj ((List.getElem?_inj l1 nd).mp (hy.trans h1.symm))
    rw [h2,List.getElem?_set_ne (fun e=>hj e.symm)] at hu
    obtain ⟨z,h3,h4⟩:=hv j y u hy hu
    exact ⟨z,by simp [hne,h3],h4.mono kk fun q_ q_ a q_=>a⟩
theorem Wp.storeCell {x c} {u:Option D}{d:D}{v:Value}{QU:Unit→Own→Prop}(hk:env.scope.kind=.function) (hl:env.kindOf x=some .cell) (hc:env.cells.lookup x=some c) (hU:Put own c (.cell u) (.cell (some d)) own')
    (h:QU () own'):Wp w B A RE ((d,v)::P) own (storeName env x v) QU X:=fun s N I hp=>by
  obtain ⟨hN,ob,u',h1,h3,_⟩:=I.owned _ hU.has
  have hd:=hp _ (.head _)
  have key:wpAny (model PG w) A (cellOf env x >>= fun a=>cellSet a (some v)) (Post w B A RE s N own QU) (PostX w B A s N own X) s:=by
    refine wpAny_bind (wpAny_cellOf hc ?_)
    unfold cellSet
    refine wpAny_bind (wpAny_load h1 ?_)
    rw [h3]
    refine wpAny_update h1 ?_
    have hf:({ob with data:=.cell (some v) }:Obj).isFreed=false:=rfl
    have kk:∀a o,¬ N a→s.heap.get? a=some o→o.cls≠.type "frame" → (s.heap.update c fun o=>{o with data:=.cell (some v) }).get? a=some o:=fun a o hn e q_=>((Heap.SameBut.update ..).2 a fun q=>hn (q▸hN)).trans e
    refine Post.upd (k:=s.toks) I hU (Heap.SameBut.update ..) (fun o ho=>?_) ⟨{ob with data:=.cell (some v) },some v,Heap.get?_update_self _ h1 hf,rfl,fun d' hd'=>?_⟩ (R:=RE) (b:=()) rfl h
    · rw [h1] at ho
      cases ho
      exact ⟨_,Heap.get?_update_self _ h1 hf,fun q_ vs q=>(by cases q),rfl⟩
    · cases hd'
      exact ⟨v,rfl,hd.mono kk fun q_ q_ a q_=>a⟩
  have e:storeName env x v=(cellOf env x >>= fun a=>cellSet a (some v)):=by
    simp only [storeName,hl,hk]
    rfl
  rw [e];exact key
inductive Bind (env:Env):Str→D→Own→Own→Prop
  | loc {fr x d o o' names vals vals'}:env.scope.kind=.function→env.kindOf x=some .local→Put o env.locals (.ns fr names vals) (.ns fr names vals') o'→LSet names vals x d vals'→Bind env x d o o'
  | cell {x d o o' c u}:env.scope.kind=.function→env.kindOf x=some .cell→env.cells.lookup x=some c→Put o c (.cell u) (.cell (some d)) o'→Bind env x d o o'
theorem Wp.bound {x} {d:D}{v:Value}{QU:Unit→Own→Prop}(hb:Bind env x d own own') (h:QU () own'):Wp w B A RE ((d,v)::P) own (bindName env x v) QU X:=by
  have key:Wp w B A RE ((d,v)::P) own (storeName env x v) QU X:=by
    cases hb with
    | loc a b c e=>exact Wp.store a b c e h
    | cell a b c e=>exact Wp.storeCell a b c e h
  exact fun s N I hp=>wpAny_bindName (key s N I hp)
theorem Wp.AssignName {x pos' pos} {value:Expr}(h:Wp w B A RV P own (eval value env) (fun d o=>∃o',Bind env x d o o'∧QF .next o') X) (hs:swapsWith value (some (.Name x pos')) pos.line env=pure false) :
    Wp w B A RF P own (exec (.Assign [.Name x pos'] value pos) env) QF X:=by
  rw [exec_Assign_Name env x pos' value pos hs]
  refine Wp.standAt (Wp.bindV (h.mono (fun d o ⟨o',hb,hq⟩ v=>Wp.standAt (Wp.bindE (Wp.bound hb ?_))) fun q_ q_ x=>x))
  exact Wp.val (b:=.next) (fun q_ q_ q_=>rfl) hq
theorem Wp.AugName {x pos' op pos} {value:Expr}
    (h:Wp w B A RV P own (loadName env x) (fun d o=>∀a,Wp w B A RV ((d,a)::P) o (eval value env) (fun d' o'=>∀b,Wp w B A RV ((d',b)::(d,a)::P) o' (inplaceOp op a b) (fun r o₃=>∃o₄,Bind env x r o₃ o₄∧QF .next o₄) X) X) X) :
    Wp w B A RF P own (exec (.AugAssign (.Name x pos') op value pos) env) QF X:=by
  rw [exec_AugAssign_Name]
  refine Wp.standAt (Wp.bindV (h.mono (fun d o q a=>Wp.bindV (Wp.holding ((q a).mono (fun d' o' q' b=>Wp.standAt (Wp.bindV (Wp.operate ((q' b).mono (fun r o₃ ⟨o₄,hb,hq⟩ v=>Wp.standAt (Wp.bindE (Wp.bound hb ?_))) fun q_ q_ x=>x)))) fun q_ q_ x=>x))) fun q_ q_ x=>x))
  exact Wp.val (b:=.next) (fun q_ q_ q_=>rfl) hq
theorem Wp.sExpr {e:Expr}{pos} (h:Wp w B A RV P own (eval e env) (fun d o=>(d=.none∨∃c,d=.bool c)∧QF .next o) X) (hi:interactive env=false) (hs:swapsWith e none pos.line env=pure false) :
    Wp w B A RF P own (exec (.Expr e pos) env) QF X:=by
  rw [exec_Expr env e pos hi hs]
  refine Wp.standAt (h.bindG fun d o v s₁ N₁ q I hp r=>?_)
  have hv:∀a,v≠.ref a:=fun a e=>by
    subst e
    rcases q.1 with rfl | ⟨c,rfl⟩ <;> cases r
  rw [dropValue_plain hv]
  exact wpAny_pure ⟨N₁,o,.next,.refl ..,I,rfl,q.2⟩
theorem Wp.BinOp {l r:Expr}{op pos}
    (h:Wp w B A RV P own (eval l env) (fun d o=>∀a,Wp w B A RV ((d,a)::P) o (eval r env) (fun d' o'=>∀b,Wp w B A RV ((d',b)::(d,a)::P) o' (binaryOp op a b) Q X) X) X):Wp w B A RV P own (eval (.BinOp l op r pos) env) Q X:=by
  rw [eval_BinOp]
  exact Wp.bindV (h.mono (fun d o q a=>Wp.bindV (Wp.holding ((q a).mono (fun d' o' q' b=>Wp.standAt (Wp.operate (q' b))) fun q_ q_ x=>x))) fun q_ q_ x=>x)
theorem Wp.UnaryOp {e:Expr}{op pos} (h:Wp w B A RV P own (eval e env) (fun d o=>∀a,Wp w B A RV ((d,a)::P) o (unaryOp op a) Q X) X):Wp w B A RV P own (eval (.UnaryOp op e pos) env) Q X:=by
  show Wp w B A RV P own (eval e env >>= fun v=>PySem.standAt pos >>= fun q_=>PySem.holding [v] (unaryOp op v)) Q X
  exact Wp.bindV (h.mono (fun d o q a=>Wp.standAt (Wp.holding (q a))) fun q_ q_ x=>x)
theorem Wp.Compare1 {l r:Expr}{op pos} (hm:behindInMarks op r=false)
    (h:Wp w B A RV P own (eval l env) (fun d o=>∀a,Wp w B A RV ((d,a)::P) o (eval r env) (fun d' o'=>∀b,Wp w B A RB ((d',b)::(d,a)::P) o' (compareOp op a b) (fun c o=>Q (.bool c) o) X) X) X) :
    Wp w B A RV P own (eval (.Compare l [op] [r] pos) env) Q X:=by
  rw [eval_Compare1,markedBehindIn_of_false hm]
  exact Wp.bindV (h.mono (fun d o q a=>Wp.bindV (Wp.holding ((q a).mono (fun d' o' q' b=>Wp.standAt (Wp.operate (Wp.ofB (q' b)))) fun q_ q_ x=>x))) fun q_ q_ x=>x)
theorem Wp.boolTruth {m:Sem Value}(h:Wp w B A RB P own m QB X):Wp w B A RE P own (m >>= fun c=>PySem.holding [c] (truthy c)) QB X :=
  h.bindG fun b o a s₁ N₁ q I hp r=>by
    have e:a=.bool b:=r
    subst e
    exact wpAny_holding (wpAny_truthy_bool ⟨N₁,o,b,.refl ..,I,rfl,q⟩)
theorem Wp.tCompare1 {l r:Expr}{op pos} {whole:Sem Value}(hm:behindInMarks op r=false)
    (h:Wp w B A RV P own (eval l env) (fun d o=>∀a,Wp w B A RV ((d,a)::P) o (eval r env) (fun d' o'=>∀b,Wp w B A RB ((d',b)::(d,a)::P) o' (compareOp op a b) QB X) X) X) :
    Wp w B A RE P own (isTrue (.Compare l [op] [r] pos) env whole) QB X:=by
  rw [isTrue_Compare1,markedBehindIn_of_false hm]
  exact Wp.bindV (h.mono (fun d o q a=>Wp.bindV (Wp.holding ((q a).mono (fun d' o' q' b=>Wp.standAt (Wp.boolTruth (Wp.operate (q' b)))) fun q_ q_ x=>x))) fun q_ q_ x=>x)
theorem Wp.tCompare2 {l r r':Expr}{op op' pos} {whole:Sem Value}(hm:behindInMarks op' r'=false)
    (h:Wp w B A RV P own (eval l env) (fun d o=>∀a,Wp w B A RV ((d,a)::P) o (eval r env) (fun d' o'=>∀b,Wp w B A RB ((d',b)::(d,a)::P) o' (compareOp op a b)
      (fun c o₃=>(c=false→QB false o₃)∧(c=true→Wp w B A RV ((d',b)::(d,a)::P) o₃ (eval r' env) (fun d₃ o₄=>∀b',Wp w B A RB ((d₃,b')::(d',b)::(d,a)::P) o₄ (compareOp op' b b') QB X) X)) X) X) X) :
    Wp w B A RE P own (isTrue (.Compare l [op,op'] [r,r'] pos) env whole) QB X:=by
  have e:isTrue (.Compare l [op,op'] [r,r'] pos) env whole=(eval l env >>= fun a=>PySem.holding [a] (eval r env) >>= fun b=>PySem.standAt pos >>= fun q_=>PySem.holding [a,b] (compareOp op a b) >>= fun c=>PySem.release [a,b] [c] >>= fun q_ =>
      PySem.holding [c,b] (truthy c) >>= fun t=>if t then (PySem.holding [b] (markedBehindIn op' r' (eval r' env)) >>= fun b'=>PySem.standAt pos >>= fun q_=>PySem.operate [b,b'] (compareOp op' b b') >>= fun c'=>PySem.holding [c'] (truthy c')) else pure false):=rfl
  rw [e,markedBehindIn_of_false hm]
  refine Wp.bindV (h.mono (fun d o q a=>Wp.bindV (Wp.holding ((q a).mono (fun d' o' q' b=>Wp.standAt ?_) fun q_ q_ x=>x))) fun q_ q_ x=>x)
  refine (Wp.holding (q' b)).bindG fun c o₃ v s₁ N₁ qq I hp r=>?_
  have ev:v=.bool c:=r
  subst ev
  refine wpAny_bind (wpAny_release (wpAny_bind (wpAny_holding (wpAny_truthy_bool ?_))))
  cases c with
  | false=>exact wpAny_pure ⟨N₁,o₃,false,.refl ..,I,rfl,qq.1 rfl⟩
  | true=>exact (Wp.bindV (Wp.holding ((qq.2 rfl).mono (fun d₃ o₄ q₃ b'=>Wp.standAt (Wp.boolTruth (Wp.operate (q₃ b')))) fun q_ q_ x=>x))) s₁ N₁ I hp
theorem Wp.tNot {e:Expr}{pos} {whole:Sem Value}(h:Wp w B A RE P own (isTrue e env (eval e env)) (fun c o=>QB (!c) o) X):Wp w B A RE P own (isTrue (.UnaryOp .Not e pos) env whole) QB X:=by
  show Wp w B A RE P own (isTrue e env (eval e env) >>= fun c=>pure (!c)) QB X
  exact Wp.bindE (h.mono (fun c o q=>Wp.val (b:=!c) (fun q_ q_ q_=>rfl) q) fun q_ q_ x=>x)
end
section
variable {w:World}{B:Heap}{A:Around}{own own':Own}{P:Pins}{X:Addr→Own→Prop}{env:Env}{Q:D→Own→Prop}{QB:Bool→Own→Prop}
theorem two {h:Heap}{N:Addr→Prop}{p q:D×Value}{P:Pins}(hp:∀x∈p::q::P,RelD h N x.1 x.2):RelD h N p.1 p.2∧RelD h N q.1 q.2:=⟨hp _ (.head _),hp _ (.tail _ (.head _))⟩
theorem one {h:Heap}{N:Addr→Prop}{p:D×Value}{P:Pins}(hp:∀x∈p::P,RelD h N x.1 x.2):RelD h N p.1 p.2:=hp _ (.head _)
theorem Wp.addI {i j:Int}{a b:Value}(h:Q (.int (i+j)) own):Wp w B A RV ((.int j,b)::(.int i,a)::P) own (binaryOp .Add a b) Q X:=fun s N I hp=>by
  obtain ⟨⟨t,rfl⟩,⟨u,rfl⟩⟩:=two hp
  exact PySem.P.add_int (Post.tok I (R:=RV) (b:=.int _) ⟨_,rfl⟩ h)
theorem Wp.subI {i j:Int}{a b:Value}(h:Q (.int (i-j)) own):Wp w B A RV ((.int j,b)::(.int i,a)::P) own (binaryOp .Sub a b) Q X:=fun s N I hp=>by
  obtain ⟨⟨t,rfl⟩,⟨u,rfl⟩⟩:=two hp
  exact PySem.P.sub_int (Post.tok I (R:=RV) (b:=.int _) ⟨_,rfl⟩ h)
theorem Wp.mulI {i j:Int}{a b:Value}(hm:IntMulOk i j) (h:Q (.int (i*j)) own):Wp w B A RV ((.int j,b)::(.int i,a)::P) own (binaryOp .Mult a b) Q X:=fun s N I hp=>by
  obtain ⟨⟨t,rfl⟩,⟨u,rfl⟩⟩:=two hp
  exact PySem.P.mul_int (Post.tok I (R:=RV) (b:=.int _) ⟨_,rfl⟩ h) hm
theorem Wp.modI {i j:Int}{a b:Value}(hj:j≠0) (h:Q (.int (i.fmod j)) own):Wp w B A RV ((.int j,b)::(.int i,a)::P) own (binaryOp .Mod a b) Q X:=fun s N I hp=>by
  obtain ⟨⟨t,rfl⟩,⟨u,rfl⟩⟩:=two hp
  exact PyProof.Rows.mod_int hj (Post.tok I (R:=RV) (b:=.int _) ⟨_,rfl⟩ h)
theorem Wp.divI {i j:Int}{a b:Value}(hj:j≠0) (hs:j.natAbs<1073741824) (h:Q (.int (i.fdiv j)) own):Wp w B A RV ((.int j,b)::(.int i,a)::P) own (binaryOp .FloorDiv a b) Q X:=fun s N I hp=>by
  obtain ⟨⟨t,rfl⟩,⟨u,rfl⟩⟩:=two hp
  exact PyProof.Rows.floordiv_int hj (Post.tok I (R:=RV) (b:=.int _) ⟨_,rfl⟩ h) (.inl (PyProof.noPylong_small hs))
theorem Wp.andI {i j:Int}{a b:Value}(h:Q (.int (Builtin.bitAnd i j)) own):Wp w B A RV ((.int j,b)::(.int i,a)::P) own (binaryOp .BitAnd a b) Q X:=fun s N I hp=>by
  obtain ⟨⟨t,rfl⟩,⟨u,rfl⟩⟩:=two hp
  exact PyProof.Rows.and_int (Post.tok I (R:=RV) (b:=.int _) ⟨_,rfl⟩ h)
theorem Wp.orI {i j:Int}{a b:Value}(h:Q (.int (Builtin.bitOr i j)) own):Wp w B A RV ((.int j,b)::(.int i,a)::P) own (binaryOp .BitOr a b) Q X:=fun s N I hp=>by
  obtain ⟨⟨t,rfl⟩,⟨u,rfl⟩⟩:=two hp
  exact PyProof.Rows.or_int (Post.tok I (R:=RV) (b:=.int _) ⟨_,rfl⟩ h)
theorem Wp.shrI {i j:Int}{a b:Value}(hj:0≤j) (h:Q (.int (i.fdiv (2 ^ j.toNat))) own):Wp w B A RV ((.int j,b)::(.int i,a)::P) own (binaryOp .RShift a b) Q X:=fun s N I hp=>by
  obtain ⟨⟨t,rfl⟩,⟨u,rfl⟩⟩:=two hp
  exact PyProof.Rows.rshift_int hj (Post.tok I (R:=RV) (b:=.int _) ⟨_,rfl⟩ h)
theorem Wp.eqI {i j:Int}{a b:Value}(h:QB (i == j) own):Wp w B A RB ((.int j,b)::(.int i,a)::P) own (compareOp .Eq a b) QB X:=fun s N I hp=>by
  obtain ⟨⟨t,rfl⟩,⟨u,rfl⟩⟩:=two hp
  exact PySem.P.eq_int ⟨N,own,_,.refl ..,I,rfl,h⟩
theorem Wp.neI {i j:Int}{a b:Value}(h:QB (i != j) own):Wp w B A RB ((.int j,b)::(.int i,a)::P) own (compareOp .NotEq a b) QB X:=fun s N I hp=>by
  obtain ⟨⟨t,rfl⟩,⟨u,rfl⟩⟩:=two hp
  exact PySem.P.ne_int ⟨N,own,_,.refl ..,I,rfl,h⟩
theorem Wp.ltI {i j:Int}{a b:Value}(h:QB (decide (i<j)) own):Wp w B A RB ((.int j,b)::(.int i,a)::P) own (compareOp .Lt a b) QB X:=fun s N I hp=>by
  obtain ⟨⟨t,rfl⟩,⟨u,rfl⟩⟩:=two hp
  exact PySem.P.lt_int ⟨N,own,_,.refl ..,I,rfl,h⟩
theorem Wp.leI {i j:Int}{a b:Value}(h:QB (decide (i≤j)) own):Wp w B A RB ((.int j,b)::(.int i,a)::P) own (compareOp .LtE a b) QB X:=fun s N I hp=>by
  obtain ⟨⟨t,rfl⟩,⟨u,rfl⟩⟩:=two hp
  exact PySem.P.le_int ⟨N,own,_,.refl ..,I,rfl,h⟩
theorem Wp.gtI {i j:Int}{a b:Value}(h:QB (decide (i > j)) own):Wp w B A RB ((.int j,b)::(.int i,a)::P) own (compareOp .Gt a b) QB X:=fun s N I hp=>by
  obtain ⟨⟨t,rfl⟩,⟨u,rfl⟩⟩:=two hp
  exact PySem.P.gt_int ⟨N,own,_,.refl ..,I,rfl,h⟩
theorem Wp.geI {i j:Int}{a b:Value}(h:QB (decide (i ≥ j)) own):Wp w B A RB ((.int j,b)::(.int i,a)::P) own (compareOp .GtE a b) QB X:=fun s N I hp=>by
  obtain ⟨⟨t,rfl⟩,⟨u,rfl⟩⟩:=two hp
  exact PySem.P.ge_int ⟨N,own,_,.refl ..,I,rfl,h⟩
noncomputable def isNoneD:D→Bool
  | .none=>true
  | _=>false
theorem relNone {h:Heap}{N:Addr→Prop}{d:D}{a:Value}(ha:RelD h N d a) (hc:∀v,d≠.cst v):(a == .none)=isNoneD d:=by
  cases d with
  | none=>cases (ha:a=.none);rfl
  | bool b=>cases (ha:a=.bool b);rfl
  | int i=>obtain ⟨_,rfl⟩:∃t,a=.int i t:=ha;rfl
  | str l=>obtain ⟨_,rfl⟩:∃t,a=.str ⟨l.toArray⟩ t:=ha;rfl
  | bytes l=>obtain ⟨_,rfl⟩:∃t,a=.bytes l.toArray t:=ha;rfl
  | cst c=>exact absurd rfl (hc c)
  | ref x=>cases (ha:a=.ref x);rfl
  | tup l=>obtain ⟨_,_,_,rfl,_⟩:=ha;rfl
  | lst l=>obtain ⟨_,_,_,rfl,_⟩:=ha;rfl
  | inst C ns l=>obtain ⟨_,_,_,_,rfl,_⟩:=ha;rfl
theorem Wp.isNone {d:D}{a b:Value}(h:QB (isNoneD d) own) (hc:∀v,d≠.cst v):Wp w B A RB ((.none,b)::(d,a)::P) own (compareOp .Is a b) QB X:=fun s N I hp=>by
  obtain ⟨hb,ha⟩:=two hp
  cases (hb:b=.none)
  exact is_none ⟨N,own,_,.refl ..,I,congrArg Value.bool (relNone ha hc),h⟩
theorem Wp.isNotNone {d:D}{a b:Value}(h:QB (!isNoneD d) own) (hc:∀v,d≠.cst v):Wp w B A RB ((.none,b)::(d,a)::P) own (compareOp .IsNot a b) QB X:=fun s N I hp=>by
  obtain ⟨hb,ha⟩:=two hp
  cases (hb:b=.none)
  exact isNot_none ⟨N,own,_,.refl ..,I,congrArg (fun c=>Value.bool (!c)) (relNone ha hc),h⟩
theorem Wp.eqS {x y:List Nat}{a b:Value}(h:QB (x == y) own):Wp w B A RB ((.str y,b)::(.str x,a)::P) own (compareOp .Eq a b) QB X:=fun s N I hp=>by
  obtain ⟨⟨t,rfl⟩,⟨u,rfl⟩⟩:=two hp
  exact PySem.P.eq_str ⟨N,own,_,.refl ..,I,rfl,h⟩
theorem Wp.neS {x y:List Nat}{a b:Value}(h:QB (x != y) own):Wp w B A RB ((.str y,b)::(.str x,a)::P) own (compareOp .NotEq a b) QB X:=fun s N I hp=>by
  obtain ⟨⟨t,rfl⟩,⟨u,rfl⟩⟩:=two hp
  exact PySem.P.ne_str ⟨N,own,_,.refl ..,I,rfl,h⟩
theorem Wp.eqBy {x y:List UInt8}{a b:Value}(h:QB (x == y) own):Wp w B A RB ((.bytes y,b)::(.bytes x,a)::P) own (compareOp .Eq a b) QB X:=fun s N I hp=>by
  obtain ⟨⟨t,rfl⟩,⟨u,rfl⟩⟩:=two hp
  exact PySem.W.eq_bytes ⟨N,own,_,.refl ..,I,rfl,h⟩
theorem Wp.neBy {x y:List UInt8}{a b:Value}(h:QB (x != y) own):Wp w B A RB ((.bytes y,b)::(.bytes x,a)::P) own (compareOp .NotEq a b) QB X:=fun s N I hp=>by
  obtain ⟨⟨t,rfl⟩,⟨u,rfl⟩⟩:=two hp
  exact PySem.W.ne_bytes ⟨N,own,_,.refl ..,I,rfl,h⟩
theorem Wp.addS {x y:List Nat}{a b:Value}(hz:x.length+y.length≤16777216) (h:Q (.str (x++y)) own):Wp w B A RV ((.str y,b)::(.str x,a)::P) own (binaryOp .Add a b) Q X:=fun s N I hp=>by
  obtain ⟨⟨t,rfl⟩,⟨u,rfl⟩⟩:=two hp
  refine PyProof.Rows.SBL.add (fun t' k q_=>Post.tok I (R:=RV) (b:=.str (x++y)) ⟨t',?_⟩ h) hz
  have e:(⟨x.toArray⟩++⟨y.toArray⟩:Str)=⟨(x++y).toArray⟩:=by
    show (⟨x.toArray++y.toArray⟩:Str)=_
    simp
  rw [e]
theorem Wp.addBy {x y:List UInt8}{a b:Value}(hz:x.length+y.length≤16777216) (h:Q (.bytes (x++y)) own):Wp w B A RV ((.bytes y,b)::(.bytes x,a)::P) own (binaryOp .Add a b) Q X:=fun s N I hp=>by
  obtain ⟨⟨t,rfl⟩,⟨u,rfl⟩⟩:=two hp
  refine KBy.add_bytes (by simpa using hz) fun t' k=>Post.tok I (R:=RV) (b:=.bytes (x++y)) ⟨t',?_⟩ h
  simp
theorem Wp.negI {i:Int}{a:Value}(h:Q (.int (-i)) own):Wp w B A RV ((.int i,a)::P) own (unaryOp .USub a) Q X:=fun s N I hp=>by
  obtain ⟨t,rfl⟩:=one hp
  exact PySem.P.neg_int (Post.tok I (R:=RV) (b:=.int _) ⟨_,rfl⟩ h)
theorem Wp.isubI {i j:Int}{a b:Value}(h:Q (.int (i-j)) own):Wp w B A RV ((.int j,b)::(.int i,a)::P) own (inplaceOp .Sub a b) Q X:=fun s N I hp=>by
  obtain ⟨⟨t,rfl⟩,⟨u,rfl⟩⟩:=two hp
  exact PySem.P.isub_int (Post.tok I (R:=RV) (b:=.int _) ⟨_,rfl⟩ h)
end
section
variable {w:World}{B:Heap}{A:Around}{own own':Own}{P:Pins}{X:Addr→Own→Prop}{env:Env}{Q:D→Own→Prop}{QB:Bool→Own→Prop}{QF:Fl→Own→Prop}{Qs:List D→Own→Prop}
theorem Wp.sNil {pos} (h:Qs [] own):Wp w B A RVs P own (spliced (backTo pos (starEach [] env))) Qs X:=Wp.val (b:=[]) (fun q_ q_ q_=>rfl) h
theorem Wp.sCons {pos} {e:Expr}{r:List Expr}(he:starEach (e::r) env=(false,eval e env)::starEach r env)
    (h:Wp w B A RV P own (eval e env) (fun d o=>∀a,Wp w B A RVs ((d,a)::P) o (spliced (backTo pos (starEach r env))) (fun ds o'=>Qs (d::ds) o') X) X):Wp w B A RVs P own (spliced (backTo pos (starEach (e::r) env))) Qs X:=by
  rw [he]
  show Wp w B A RVs P own (eval e env >>= fun v=>(pure [v] >>= fun here=>PySem.holding here (spliced (backTo pos (starEach r env))) >>= fun x=>pure (here++x))) Qs X
  refine h.bindG fun d o v s₁ N₁ q I hp r=>?_
  refine wpAny_bind (wpAny_pure ?_)
  refine wpAny_bind (wpAny_holding (wpAny_mono (q v s₁ N₁ I (pc r hp)) (fun vs s₂ hh=>?_) fun q_ q_ x=>x))
  obtain ⟨N₂,o₂,ds,S,I₂,r₂,q₂⟩:=hh
  exact wpAny_pure ⟨N₂,o₂,d::ds,S,I₂,⟨v,vs,rfl,S.relD I r,r₂⟩,q₂⟩
theorem RelDs.get {h:Heap}{N:Addr→Prop}{l:List D}{vs:List Value}{i:Nat}{d:D}(r:RelDs h N l vs) (e:l[i]?=some d):∃v,vs[i]?=some v∧RelD h N d v:=by
  induction l generalizing vs i with
  | nil=>cases e
  | cons x l ih =>
    obtain ⟨v,r,rfl,h1,h2⟩:=r
    cases i with
    | zero=>cases e;exact ⟨v,rfl,h1⟩
    | succ i=>exact ih (i:=i) h2 e
theorem RelDs.append {h:Heap}{N:Addr→Prop}{l:List D}{vs:List Value}{l':List D}{vs':List Value}(e:RelDs h N l vs) (r:RelDs h N l' vs'):RelDs h N (l++l') (vs++vs'):=by
  induction l generalizing vs with
  | nil=>cases (show vs=[] from e);exact r
  | cons d l ih =>
    obtain ⟨v,x,rfl,h1,h2⟩:=e
    exact ⟨v,x++_,rfl,h1,ih h2⟩
theorem RelDs.one {h:Heap}{N:Addr→Prop}{d:D}{v:Value}(r:RelD h N d v):RelDs h N [d] [v]:=⟨v,[],rfl,r,rfl⟩
section
variable {s:Shared}{N:Addr→Prop}(I:Inv w B A s N own)
include I
omit I in
theorem Inv.up1 (ob:Obj):∀a o,¬ N a→s.heap.get? a=some o→o.cls≠.type "frame" → (s.heap.push ob).get? a=some o:=fun q_ q_ q_ e q_=>Heap.get?_push_of_some _ e
omit I in
theorem Inv.up2:∀a o,¬ N a→s.heap.get? a=some o→¬ (fun x=>N x∨x=s.heap.objs.size) a:=fun a o hn e h=>h.elim hn fun q=>absurd (Heap.lt_size e) (by rw [q];exact Nat.lt_irrefl _)
theorem Post.new {k:Tok}{ob:Obj}(o:O) (ho:RelO w (s.heap.push ob) (fun x=>N x∨x=s.heap.objs.size) s.heap.objs.size o) (hq:Q (.ref s.heap.objs.size) ((s.heap.objs.size,o)::own)) :
    Post w B A RV s N own Q (.ref s.heap.objs.size) {s with heap:=s.heap.push ob,toks:=k } :=
  Post.make I (fun q_ q_ e=>Heap.get?_push_of_some _ e) (by rw [Heap.size_push];exact Nat.le_succ _) (Nat.le_refl _) (by rw [Heap.size_push];exact Nat.lt_succ_self _) ho (R:=RV) (b:=.ref s.heap.objs.size) rfl hq
theorem Post.newList {k:Tok}{ds:List D}{vs:List Value}(r:RelDs s.heap N ds vs) (hq:∀c,Q (.ref c) ((c,.list ds)::own)) :
    Post w B A RV s N own Q (.ref s.heap.objs.size) {s with heap:=s.heap.push {cls:=.type "list", data:=.seq vs.toArray },toks:=k } :=
  Post.new I (.list ds) ⟨vs,0,Heap.get?_push_size _ rfl,r.mono (Inv.up1 _) Inv.up2⟩ (hq _)
end
theorem Wp.eList {pos} {es:List Expr}(h:Wp w B A RVs P own (spliced (backTo pos (starEach es env))) (fun ds o=>ds.length≤sizeLine∧∀c,Q (.ref c) ((c,.list ds)::o)) X):Wp w B A RV P own (eval (.List es pos) env) Q X:=by
  show Wp w B A RV P own (PySem.standAt pos >>= fun q_=>spliced (backTo pos (starEach es env)) >>= newList) Q X
  refine Wp.standAt (h.bindG fun ds o vs s₁ N₁ q I hp r=>?_)
  exact wpAny_newList (Post.newList (k:=s₁.toks) I r q.2) (by rw [RelDs.length r];exact q.1)
theorem Post.tuple {s:Shared}{N:Addr→Prop}{ds:List D}{vs:List Value}(I:Inv w B A s N own) (r:RelDs s.heap N ds vs) (h:Q (.tup ds) own) :
    Post w B A RV s N own Q (.ref s.heap.objs.size) {s with heap:=s.heap.push {cls:=.type "tuple", data:=.seq vs.toArray } } :=
  Post.grow (k:=s.toks) I (fun q_ q_ e=>Heap.get?_push_of_some _ e) (by rw [Heap.size_push];exact Nat.le_succ _) (R:=RV) (b:=.tup ds)
    ⟨_,0,vs,rfl,I.freshN (Nat.le_refl _),Heap.get?_push_size _ rfl,r.mono (fun q_ q_ q_ e q_=>Heap.get?_push_of_some _ e) fun q_ q_ h q_=>h⟩ h
theorem Post.tupleK {s:Shared}{N:Addr→Prop}{ds:List D}{vs:List Value}{k:Tok}(I:Inv w B A s N own) (r:RelDs s.heap N ds vs) (h:Q (.tup ds) own) :
    Post w B A RV s N own Q (.ref s.heap.objs.size) {s with heap:=s.heap.push {cls:=.type "tuple", data:=.seq vs.toArray },toks:=k } :=
  Post.grow (k:=k) I (fun q_ q_ e=>Heap.get?_push_of_some _ e) (by rw [Heap.size_push];exact Nat.le_succ _) (R:=RV) (b:=.tup ds)
    ⟨_,0,vs,rfl,I.freshN (Nat.le_refl _),Heap.get?_push_size _ rfl,r.mono (fun q_ q_ q_ e q_=>Heap.get?_push_of_some _ e) fun q_ q_ h q_=>h⟩ h
theorem Wp.eTuple {pos k} {es:List Expr}(h:Wp w B A RVs P own (spliced (backTo pos (starEach es env))) (fun ds o=>ds.length≤sizeLine∧Q (.tup ds) o) X):Wp w B A RV P own (eval (.Tuple es k pos) env) Q X:=by
  show Wp w B A RV P own (PySem.standAt pos >>= fun q_=>spliced (backTo pos (starEach es env)) >>= newTuple) Q X
  refine Wp.standAt (h.bindG fun ds o vs s₁ N₁ q I hp r=>?_)
  exact wpAny_newTuple (Post.tuple I r q.2) (by rw [RelDs.length r];exact q.1)
theorem Wp.Sub {value slice:Expr}{pos}
    (h:Wp w B A RV P own (eval value env) (fun d o=>∀a,Wp w B A RV ((d,a)::P) o (eval slice env) (fun d' o'=>∀b,Wp w B A RV ((d',b)::(d,a)::P) o' (subscriptTail value slice a b) Q X) X) X) :
    Wp w B A RV P own (eval (.Subscript value slice pos) env) Q X:=fun s N I hp=>by
  refine Subscript_ (wpAny_mono (h s N I hp) (fun a s₁ hh=>?_) fun q_ q_ x=>x)
  obtain ⟨N₁,o₁,d,S₁,I₁,r₁,q₁⟩:=hh
  have p₁:∀p∈(d,a)::P,RelD s₁.heap N₁ p.1 p.2:=pc r₁ (S₁.pins I hp)
  refine wpAny_mono (q₁ a s₁ N₁ I₁ p₁) (fun b s₂ hh=>?_) fun q_ q_ x=>PostX.after S₁ x
  obtain ⟨N₂,o₂,d',S₂,I₂,r₂,q₂⟩:=hh
  exact (q₂ b).use I₂ (pc r₂ (S₂.pins I₁ p₁)) (S₁.trans S₂)
noncomputable abbrev PlainSub (slice:Expr):Prop:=∀o i,subscripted slice false o i=operate [o,i] (getItem o i)
theorem isList {s:Shared}{N:Addr→Prop}{c:Addr}{l:List D}(I:Inv w B A s N own) (ho:Has own c (.list l)):∃items,s.heap.IsList c (List.toArray items)∧RelDs s.heap N l items∧items.length=l.length :=
  let ⟨_,items,n,e,r⟩:=I.owned _ ho.mem;⟨items,⟨_,e,rfl,n,rfl⟩,r,r.length⟩
theorem Wp.listAt {value slice:Expr}{c:Addr}{l:List D}{i:Int}{d:D}{a b:Value}(ho:Has own c (.list l)) (h0:0≤i) (hi:i<2 ^ 63) (hd:l[i.toNat]?=some d) (hs:PlainSub slice) (h:Q d own) :
    Wp w B A RV ((.int i,b)::(.ref c,a)::P) own (subscriptTail value slice a b) Q X:=fun s N I hp=>by
  obtain ⟨⟨t,rfl⟩,e⟩:=two hp
  have e:a=.ref c:=e
  subst e
  obtain ⟨items,hl,r,_⟩:=isList I ho
  obtain ⟨v,hv,rv⟩:=r.get hd
  exact tail_any hl.typeIs slot_list_getitem.lookup (wpAny_getItem_list hl h0 hi (by simpa using hv) ⟨N,own,d,.refl ..,I,rv,h⟩) (hs _ _)
theorem Wp.listAtNeg {value slice:Expr}{c:Addr}{l:List D}{i:Int}{d:D}{a b:Value}(ho:Has own c (.list l)) (h0:i<0) (h1:-(l.length:Int)≤i) (hi:-(2 ^ 63)≤i) (hd:l[(i+l.length).toNat]?=some d) (hs:PlainSub slice) (h:Q d own) :
    Wp w B A RV ((.int i,b)::(.ref c,a)::P) own (subscriptTail value slice a b) Q X:=fun s N I hp=>by
  obtain ⟨⟨t,rfl⟩,e⟩:=two hp
  have e:a=.ref c:=e
  subst e
  obtain ⟨items,hl,r,hz⟩:=isList I ho
  obtain ⟨v,hv,rv⟩:=r.get hd
  exact tail_any hl.typeIs slot_list_getitem.lookup (wpAny_getItem_list_neg hl h0 (by simpa [hz] using h1) hi (by simpa [hz] using hv) ⟨N,own,d,.refl ..,I,rv,h⟩) (hs _ _)
theorem Wp.tupAt {value slice:Expr}{l:List D}{i:Int}{j:Nat}{d:D}{a b:Value}(h0:-(2 ^ 63)≤i) (hi:i<2 ^ 63) (hj:seqIndex? i l.length=some j) (hd:l[j]?=some d) (hs:PlainSub slice) (h:Q d own) :
    Wp w B A RV ((.int i,b)::(.tup l,a)::P) own (subscriptTail value slice a b) Q X:=fun s N I hp=>by
  obtain ⟨⟨t,rfl⟩,⟨c,n,items,rfl,_,e,r⟩⟩:=two hp
  obtain ⟨v,hv,rv⟩:=r.get hd
  exact item_tupleT (t:=c) (l:=items) ⟨_,e,rfl,n,rfl⟩ h0 hi (by simpa [r.length] using hj) (by simpa using hv) ⟨N,own,d,.refl ..,I,rv,h⟩ (hs _ _)
theorem seqIndex_at {i:Int}{n:Nat}(h0:0≤i) (h1:i.toNat<n):seqIndex? i n=some i.toNat:=by
  unfold seqIndex?
  rw [if_neg (Int.not_lt.mpr h0)]
  exact if_pos (Bool.and_eq_true_iff.mpr ⟨decide_eq_true h0,decide_eq_true ((Int.toNat_lt h0).mp h1)⟩)
theorem small_at {i:Int}{n:Nat}(h1:i.toNat<n) (hz:n≤1048576):i<2 ^ 63:=Int.lt_of_le_of_lt (Int.self_le_toNat i) (Int.lt_trans (Int.ofNat_lt.mpr (Nat.lt_of_lt_of_le h1 hz)) (by decide))
theorem Wp.strAt {value slice:Expr}{l:List Nat}{i:Int}{c:Nat}{a b:Value}(h0:0≤i) (hz:l.length≤1048576) (hd:l[i.toNat]?=some c) (hs:PlainSub slice) (h:Q (.str [c]) own) :
    Wp w B A RV ((.int i,b)::(.str l,a)::P) own (subscriptTail value slice a b) Q X:=fun s N I hp=>by
  obtain ⟨⟨t,rfl⟩,⟨u,rfl⟩⟩:=two hp
  obtain ⟨h1,h2⟩:=List.getElem?_eq_some_iff.mp hd
  have hq:=seqIndex_at h0 h1
  have hi:i<2 ^ 63:=small_at h1 hz
  refine tail_any (typeIs_str s _ _) F.slot_str_getitem.lookup (PySem.P.getItem_str (c:=c) ?_ ?_ ?_) (hs _ _)
  · rw [decide_eq_false (show ¬ i < -(2 ^ 63:Int) from Int.not_lt.mpr (Int.le_trans (by decide) h0)),decide_eq_false (Int.not_le.mpr hi)];rfl
  · show (seqIndex? i l.toArray.size).bind (l.toArray[·]?)=some c
    rw [List.size_toArray,hq]
    simpa using hd
  · exact Post.tok I (R:=RV) (b:=.str [c]) ⟨_,rfl⟩ h
theorem Wp.bytesAt {value slice:Expr}{l:List UInt8}{i:Int}{c:UInt8}{a b:Value}(h0:0≤i) (hz:l.length≤1048576) (hd:l[i.toNat]?=some c) (hs:PlainSub slice) (h:Q (.int c.toNat) own) :
    Wp w B A RV ((.int i,b)::(.bytes l,a)::P) own (subscriptTail value slice a b) Q X:=fun s N I hp=>by
  obtain ⟨⟨t,rfl⟩,⟨u,rfl⟩⟩:=two hp
  have lt:=(List.getElem?_eq_some_iff.mp hd)
  obtain ⟨h1,h2⟩:=lt
  have hg:l.getD i.toNat 0=c:=by simp [List.getD,hd]
  refine tail_any (typeIs_bytes s _ _) FB.slot_bytes_getitem.lookup (PySem.W.getItem_bytes (l:=l) (leN hz rfl) h0 ((Int.toNat_lt h0).mp h1) ?_) (hs _ _)
  rw [hg]
  exact Post.tok I (R:=RV) (b:=.int _) ⟨_,rfl⟩ h
theorem KeyNames.strKeys {es:List DictEntry}{ns:List Str}(h:KeyNames es ns):StrKeys es.toArray:=by
  intro e' he
  have he:e'∈es:=List.mem_toArray.mp he
  induction es generalizing ns with
  | nil=>cases he
  | cons e r ih =>
    obtain ⟨x,t,ns',rfl,h1,h2⟩:=h
    cases he with
    | head=>exact ⟨x,t,h1⟩
    | tail _ he=>exact ih h2 (List.mem_toArray.mpr he) he
inductive AGet:List Str→List D→Str→D→Prop
  | here {x ns d l}:AGet (x::ns) (d::l) x d
  | there {x y ns d u l}:AGet ns l x d→AGet (y::ns) (u::l) x d
theorem AGet.mem {ns:List Str}{l:List D}{x:Str}{d:D}(h:AGet ns l x d):x∈ns:=by
  induction h with
  | here=>exact .head _
  | there _ ih=>exact .tail _ ih
theorem getL_hit {x:Str}{t:Tok}{e:DictEntry}{es:List DictEntry}(h:e.key=.str x t):getL x (e::es)=some (some e.val):=by
  unfold getL
  rw [List.find?_cons_of_pos (by rw [h];show (_ == _)=true;simp)]
theorem getL_miss {x y:Str}{t:Tok}{e:DictEntry}{es:List DictEntry}{v:Value}(h:e.key=.str y t) (hne:y≠x) (g:getL x es=some (some v)):getL x (e::es)=some (some v):=by
  unfold getL at g ⊢
  rw [List.find?_cons_of_neg (by rw [h];show ¬ ((y == x)=true);simpa using hne)]
  revert g
  cases List.find? (fun x_1=>x_1.key.isStr x) es with
  | some e'=>exact id
  | none =>
    intro g
    exfalso
    revert g
    dsimp only
    split <;> simp
theorem AGet.at {h:Heap}{N:Addr→Prop}{ns:List Str}{l:List D}{x:Str}{d:D}{es:List DictEntry}(g:AGet ns l x d) (kn:KeyNames es ns) (nd:ns.Nodup) (r:RelDs h N l (es.map (·.val))):∃v,getL x es=some (some v)∧RelD h N d v:=by
  induction g generalizing es with
  | here =>
    cases es with
    | nil=>cases (show _=[] from kn)
    | cons e es =>
      obtain ⟨y,t,ns',e1,e2,e3⟩:=kn
      cases e1
      obtain ⟨v,r',e4,r1,_⟩:=r
      cases e4
      exact ⟨e.val,getL_hit e2,r1⟩
  | there g ih =>
    cases es with
    | nil=>cases (show _=[] from kn)
    | cons e es =>
      obtain ⟨y,t,ns',e1,e2,e3⟩:=kn
      cases e1
      obtain ⟨v,r',e4,r1,r2⟩:=r
      cases e4
      have nd':=List.nodup_cons.mp nd
      exact (ih e3 nd'.2 r2).imp fun v=>And.imp (getL_miss e2 fun q=>nd'.1 (q▸g.mem)) id
structure AttrOk (K:Frag) (C:Addr) (name:Str):Prop where
  g:plainGet K C name=true
  h:hasDictIn K C=true
  a:findIn K (.ref C) name=some none
  s:findIn K (.ref C) "__setattr__" = some (some (.builtin "object.__setattr__"))
  p:plainOver K C=true
noncomputable def Plain (d:D):Prop:=∀v,d≠.cst v
theorem handed_of {h:Heap}{N:Addr→Prop}{d:D}{v:Value}(hd:Plain d) (r:RelD h N d v):handedIn v=true:=by
  cases d <;> simp only [RelD] at r <;> (try (obtain ⟨_,rfl⟩:=r)) <;> (try (obtain ⟨_,_,_,rfl,_⟩:=r)) <;> (try (obtain ⟨_,_,_,_,rfl,_⟩:=r)) <;> (try subst r) <;> first | rfl | exact absurd rfl (hd _)
theorem noGet_none (K:Frag):noGet K none=true:=rfl
variable {K:Frag}
theorem Wp.attrOwn (hK:K.In B) {C d x:Addr}{name:Str}{ns:List Str}{l:List D}{v:D}{a:Value}{e:Bool}(ok:AttrOk K C name) (h1:Has own x (.inst C d)) (h2:Has own d (.attrs ns l)) (hg:AGet ns l name v) (hv:Plain v) (h:Q v own) :
    Wp w B A RV ((.ref x,a)::P) own (getAttr a name e) Q X:=fun s N I hp=>by
  have ea:a=.ref x:=one hp
  subst ea
  have hx:=(I.owned _ h1.mem).2
  obtain ⟨_,es,n,hd,⟨kn,nd⟩,r⟩:=I.owned _ h2.mem
  obtain ⟨u,g1,g2⟩:=hg.at kn nd r
  have IA:InstAt s.heap x ⟨.ref C,some d,.plain,#[]⟩ C (some (dictOf es n)):=⟨hx,rfl,rfl,hd⟩
  exact get_value (hK.keeps I.stays) IA (plainGet_of ok.g).1 (findObj_own ok.h ok.a (noGet_none K) g1) (handed_of hv g2) (Post.tok I (R:=RV) g2 h)
theorem Wp.attrInst (hK:K.In B) {C:Addr}{name:Str}{ns:List Str}{l:List D}{v:D}{a:Value}{e:Bool}(ok:AttrOk K C name) (hg:AGet ns l name v) (hv:Plain v) (h:Q v own) :
    Wp w B A RV ((.inst C ns l,a)::P) own (getAttr a name e) Q X:=fun s N I hp=>by
  obtain ⟨x,d,n,es,rfl,_,hx,_,hd,⟨kn,nd⟩,r⟩:=one hp
  obtain ⟨u,g1,g2⟩:=hg.at kn nd r
  have IA:InstAt s.heap x ⟨.ref C,some d,.plain,#[]⟩ C (some (dictOf es n)):=⟨hx,rfl,rfl,hd⟩
  exact get_value (hK.keeps I.stays) IA (plainGet_of ok.g).1 (findObj_own ok.h ok.a (noGet_none K) g1) (handed_of hv g2) (Post.tok I (R:=RV) g2 h)
theorem Wp.eAttr {value:Expr}{name pos} (hb:attributeBase value name env (eval value env)=eval value env)
    (h:Wp w B A RV P own (eval value env) (fun d o=>∀a,Wp w B A RV ((d,a)::P) o (getAttr a name true) Q X) X):Wp w B A RV P own (eval (.Attribute value name pos) env) Q X:=by
  have e:eval (.Attribute value name pos) env=(attributeBase value name env (eval value env) >>= fun o=>PySem.standAt pos.atName >>= fun q_=>PySem.holding [o] (getAttr o name true) >>= fun r=>letTemporaryGo value o r >>= fun q_=>pure r):=rfl
  rw [e,hb]
  refine Wp.bindV (h.mono (fun d o q a=>Wp.standAt ((Wp.holding (q a)).bindG fun b o₁ v s₁ N₁ q I hp r=>?_)) fun q_ q_ x=>x)
  exact wpAny_bind (wpAny_letTemporaryGo (wpAny_pure ⟨N₁,o₁,b,.refl ..,I,r,q⟩))
inductive ASet:List Str→List D→Str→D→List Str→List D→Prop
  | here {x ns u d l}:ASet (x::ns) (u::l) x d (x::ns) (d::l)
  | there {x y ns d u l ns' l'}:ASet ns l x d ns' l'→ASet (y::ns) (u::l) x d (y::ns') (u::l')
  | new {x d}:ASet [] [] x d [x] [d]
theorem ASet.mem {ns:List Str}{l:List D}{x:Str}{d:D}{ns':List Str}{l':List D}(h:ASet ns l x d ns' l'):x∈ns':=by
  induction h with
  | here=>exact .head _
  | there _ ih=>exact .tail _ ih
  | new=>exact .head _
theorem putL_hit {x:Str}{H:Int}{k:Value}{v:Value}{t:Tok}{e:DictEntry}{es:List DictEntry}(h:e.key=.str x t):putL x H k v (e::es)={e with val:=v }::es:=by
  unfold putL
  rw [if_pos (show e.key.isStr x=true by rw [h];show (_ == _)=true;simp)]
theorem putL_miss {x y:Str}{H:Int}{k:Value}{v:Value}{t:Tok}{e:DictEntry}{es:List DictEntry}(h:e.key=.str y t) (hne:y≠x):putL x H k v (e::es)=e::putL x H k v es:=by
  rw [putL,if_neg (show ¬ (e.key.isStr x=true) by rw [h];show ¬ ((y == x)=true);simpa using hne)]
theorem putL_set {h:Heap}{N:Addr→Prop}{H:Int}{t:Tok}{v:Value}{ns:List Str}{l:List D}{x:Str}{d:D}{ns' l'} {es:List DictEntry}(g:ASet ns l x d ns' l') (kn:KeyNames es ns) (nd:List.Nodup ns') (r:RelDs h N l (es.map (·.val))) (rv:RelD h N d v) :
    KeyNames (putL x H (.str x t) v es) ns'∧RelDs h N l' ((putL x H (.str x t) v es).map (·.val)):=by
  induction g generalizing es with
  | new =>
    cases es with
    | nil=>exact ⟨⟨_,t,[],rfl,rfl,rfl⟩,v,[],rfl,rv,rfl⟩
    | cons e es=>obtain ⟨_,_,_,h,_⟩:=kn;cases h
  | here =>
    cases es with
    | nil=>cases (show _=[] from kn)
    | cons e es =>
      obtain ⟨y,t',ns',e1,e2,e3⟩:=kn
      cases e1
      obtain ⟨_,r',e4,r1,r2⟩:=r
      cases e4
      rw [putL_hit e2]
      exact ⟨⟨_,t',_,rfl,e2,e3⟩,v,_,rfl,rv,r2⟩
  | there g ih =>
    cases es with
    | nil=>cases (show _=[] from kn)
    | cons e es =>
      obtain ⟨y,t',ns',e1,e2,e3⟩:=kn
      cases e1
      obtain ⟨_,r',e4,r1,r2⟩:=r
      cases e4
      have nd':=List.nodup_cons.mp nd
      obtain ⟨k1,k2⟩:=ih e3 nd'.2 r2 rv
      rw [putL_miss e2 fun q=>nd'.1 (q▸g.mem)]
      exact ⟨⟨_,t',_,rfl,e2,k1⟩,_,_,rfl,r1,k2⟩
theorem osa_put {s:Shared}{A:Around}{C d x:Addr}{name:Str}{tk:Tok}{v:Value}{es:List DictEntry}{n:Nat}{ns:List Str}{R:Result→Shared→Prop}(X:K.In s.heap) (ok:AttrOk K C name) (hx:s.heap.get? x=some ⟨.ref C,some d,.plain,#[]⟩)
    (hd:s.heap.get? d=some (dictOf es n)) (kn:KeyNames es ns) (hz:(putL name (PyData.keyHash w.params name) (.str name s.toks) v es).length≤1000)
    (h:R (.ok (.ret .none)) {s with heap:=s.heap.update d (Obj.putName name (PyData.keyHash w.params name) (.str name s.toks) v),toks:=s.toks+1 }):codeAny (model PG w) A (.call (.builtin "object.__setattr__") ⟨[.ref x,.str name tk,v],[]⟩) R s:=by
  have IA:InstAt s.heap x ⟨.ref C,some d,.plain,#[]⟩ C (some (dictOf es n)):=⟨hx,rfl,rfl,hd⟩
  have ht:takerIn K C name=some none:=by unfold takerIn;rw [ok.a];rfl
  refine osa_open X IA ok.p ht fun bb=>?_
  obtain ⟨cd,hc,hd'⟩:=any_some ok.h
  refine wpAny_bind (wpAny_pure (wpAny_bind (wpAny_bind (wpAny_loadPart hx (wpAny_bind ((looks_clsIn X hc).here ?_))))))
  rw [hd']
  refine wpAny_pure (a:=some d) (wpAny_bind (wpAny_pure (wpAny_bind ?_)))
  have hn:s.heap.Ns d (nsFind es.toArray):=⟨_,es.toArray,n,hd,rfl,kn.strKeys,fun q_=>rfl⟩
  have he:(s.heap.update d (Obj.putName name (PyData.keyHash w.params name) (.str name s.toks) v)).get? d=some (dictOf (putL name (PyData.keyHash w.params name) (.str name s.toks) v es) (putN name es n)):=by
    rw [← putName_dict];exact Heap.get?_update_self _ hd (by rw [putName_dict];rfl)
  refine fun Γ p hΓ=>(nsSet_iff hn name v _).mpr ?_
  exact wpAny_bind (wpAny_lookBehind he (pastItsLine_dict (by rw [List.size_toArray,sizeLine_eq];omega)) (wpAny_pure h))
theorem putL_length (name:Str) (H:Int) (k v:Value):∀es:List DictEntry,(putL name H k v es).length≤es.length+1
  | []=>Nat.le_refl _
  | e::r=>by unfold putL;split <;> simp;exact putL_length name H k v r
theorem KeyNames.length {es:List DictEntry}{ns:List Str}(h:KeyNames es ns):es.length=ns.length:=by
  induction es generalizing ns with
  | nil=>cases (h:ns=[]);rfl
  | cons e r ih =>
    obtain ⟨_,_,_,rfl,_,r⟩:=h
    exact congrArg (·+1) (ih r)
theorem Wp.setAttr (hK:K.In B) {C d x:Addr}{name:Str}{ns ns':List Str}{l l':List D}{v:D}{a b:Value}{QU:Unit→Own→Prop}(ok:AttrOk K C name) (h1:Has own x (.inst C d)) (h2:Put own d (.attrs ns l) (.attrs ns' l') own')
    (hg:ASet ns l name v ns' l') (nd':ns'.Nodup) (hz:ns.length≤100) (h:QU () own') :
    Wp w B A RE ((.ref x,a)::(v,b)::P) own (PySem.setAttr a name b) QU X:=fun s N I hp=>by
  have ea:a=.ref x:=one hp
  subst ea
  have rb:=(two hp).2
  have hx:=(I.owned _ h1.mem).2
  obtain ⟨hN,es,n,hd,⟨kn,nd⟩,r⟩:=I.owned _ h2.has
  have X:=hK.keeps I.stays
  have IA:InstAt s.heap x ⟨.ref C,some d,.plain,#[]⟩ C (some (dictOf es n)):=⟨hx,rfl,rfl,hd⟩
  refine set_plain X IA ok.s (osa_put (s:={s with toks:=s.toks+1 }) X ok hx hd kn ?_ ?_)
  · have:=putL_length name (PyData.keyHash w.params name) (.str name (s.toks+1)) b es
    have:=kn.length
    show (putL name (PyData.keyHash w.params name) (.str name (s.toks+1)) b es).length≤1000
    omega
  · have he:(s.heap.update d (Obj.putName name (PyData.keyHash w.params name) (.str name (s.toks+1)) b)).get? d=some (dictOf (putL name (PyData.keyHash w.params name) (.str name (s.toks+1)) b es) (putN name es n)):=by
      rw [← putName_dict];exact Heap.get?_update_self _ hd (by rw [putName_dict];rfl)
    have sb:=Heap.SameBut.update s.heap d (Obj.putName name (PyData.keyHash w.params name) (.str name (s.toks+1)) b)
    have kk:∀a o,¬ N a→s.heap.get? a=some o→o.cls≠.type "frame" → (s.heap.update d (Obj.putName name (PyData.keyHash w.params name) (.str name (s.toks+1)) b)).get? a=some o:=fun a o hn e q_=>(sb.2 a fun q=>hn (q▸hN)).trans e
    have k2:=putL_set (H:=PyData.keyHash w.params name) (t:=s.toks+1) hg kn nd' (r.mono kk fun q_ q_ a q_=>a) (rb.mono kk fun q_ q_ a q_=>a)
    exact Post.upd I h2 sb (fun o ho=>by rw [hd] at ho;cases ho;exact ⟨_,he,fun q_ vs q=>(by cases q),rfl⟩) ⟨_,_,he,⟨k2.1,nd'⟩,k2.2⟩ (R:=RE) (b:=()) rfl h
theorem Wp.AssignAttr {o:Expr}{name p' pos} {value:Expr}(hs:swapsWithSole [.Attribute o name p'] value pos.line env=pure false) (hs':swappedStores [.Attribute o name p'] value env=pure none)
    (h:Wp w B A RV P own (eval value env) (fun d o₁=>∀a,Wp w B A RV ((d,a)::P) o₁ (eval o env) (fun x o₂=>∀b,Wp w B A RE ((x,b)::(d,a)::P) o₂ (PySem.setAttr b name a) (fun q_ o₃=>QF .next o₃) X) X) X) :
    Wp w B A RF P own (exec (.Assign [.Attribute o name p'] value pos) env) QF X:=by
  have e:exec (.Assign [.Attribute o name p'] value pos) env=(PySem.standAt pos >>= fun q_=>swapsWithSole [.Attribute o name p'] value pos.line env >>= fun c=>if c then (evalThenUse value env (fun v=>assignAll v ((assignEach [.Attribute o name p'] env).map (·.2))) >>= fun q_=>pure .next)
      else (eval value env >>= fun v=>swappedStores [.Attribute o name p'] value env >>= fun sw=>assignStores env v sw ((assignEach [.Attribute o name p'] env).map (·.2)))):=rfl
  rw [e,hs,hs']
  refine Wp.standAt (Wp.bindE (Wp.val (b:=false) (fun q_ q_ q_=>rfl) ?_))
  refine Wp.bindV (h.mono (fun d o₁ q a=>?_) fun q_ q_ x=>x)
  show Wp w B A RF ((d,a)::P) o₁ (pure none >>= fun sw=>assignStores env a sw [assign (.Attribute o name p') env]) QF X
  refine Wp.bindE (Wp.val (b:=none) (fun q_ q_ q_=>rfl) ?_)
  show Wp w B A RF ((d,a)::P) o₁ ((PySem.holding [a] (eval o env) >>= fun ov=>PySem.standAt p'.atName >>= fun q_=>PySem.holding [a,ov] (PySem.setAttr ov name a) >>= fun q_=>PySem.release [a,ov] []) >>= fun q_=>pure .next) QF X
  have key:Wp w B A RE ((d,a)::P) o₁ (PySem.holding [a] (eval o env) >>= fun ov=>PySem.standAt p'.atName >>= fun q_=>PySem.holding [a,ov] (PySem.setAttr ov name a) >>= fun q_=>PySem.release [a,ov] []) (fun (_:Unit) o₃=>QF .next o₃) X:=by
    refine Wp.bindV ((Wp.holding (q a)).mono (fun x o₂ q' b=>Wp.standAt (Wp.bindE ((Wp.holding (q' b)).mono (fun q_ o₃ q₃=>?_) fun q_ q_ x=>x))) fun q_ q_ x=>x)
    exact fun s N I hp=>wpAny_release ⟨N,o₃,(),.refl ..,I,rfl,q₃⟩
  exact Wp.bindE (key.mono (fun q_ o₃ q₃=>Wp.val (b:=.next) (fun q_ q_ q_=>rfl) q₃) fun q_ q_ x=>x)
end
noncomputable def storeD {K:Type}[DecidableEq K] (l:List (K×D)) (k:K) (d:D):List (K×D):=if l.any (fun p=>p.1=k) then l.map (fun p=>if p.1=k then (p.1,d) else p) else l++[(k,d)]
inductive KGet {K:Type}:List (K×D)→K→D→Prop
  | here {k d l}:KGet ((k,d)::l) k d
  | there {p l k d}:KGet l k d→KGet (p::l) k d
inductive KSet {K:Type}:List (K×D)→K→D→List (K×D)→Prop
  | here {k u d l}:KSet ((k,u)::l) k d ((k,d)::l)
  | there {p l k d l'}:KSet l k d l'→KSet (p::l) k d (p::l')
section
variable {K:Type}[DecidableEq K]
theorem KGet.mem {l:List (K×D)}{k:K}{d:D}(h:KGet l k d):(k,d)∈l:=by
  induction h with
  | here=>exact .head _
  | there _ ih=>exact .tail _ ih
theorem KSet.key {l l':List (K×D)}{k:K}{d:D}(h:KSet l k d l'):k∈l.map (·.1):=by
  induction h with
  | here=>exact .head _
  | there _ ih=>exact .tail _ ih
theorem map_off {k:K}{d:D}:∀{l:List (K×D)},k∉l.map (·.1)→l.map (fun p=>if p.1=k then (p.1,d) else p)=l
  | [],_=>rfl
  | p::l,h=>by
    simp only [List.map_cons,List.mem_cons,not_or] at h
    rw [List.map_cons,map_off h.2,if_neg (fun e=>h.1 e.symm)]
theorem any_key {k:K}{l:List (K×D)}(h:k∈l.map (·.1)):l.any (fun p=>p.1=k)=true:=by
  obtain ⟨p,hp,e⟩:=List.mem_map.mp h
  exact List.any_eq_true.mpr ⟨p,hp,by simpa using e⟩
theorem KSet.map_eq {l l':List (K×D)}{k:K}{d:D}(h:KSet l k d l'):(l.map (·.1)).Nodup→l.map (fun p=>if p.1=k then (p.1,d) else p)=l':=by
  induction h with
  | here =>
    intro nd
    rw [List.map_cons,List.nodup_cons] at nd
    rw [List.map_cons,if_pos rfl,map_off nd.1]
  | there h ih =>
    intro nd
    rw [List.map_cons,List.nodup_cons] at nd
    rw [List.map_cons,ih nd.2,if_neg (fun e=>nd.1 (by rw [e];exact h.key))]
theorem KSet.eq {l l':List (K×D)}{k:K}{d:D}(h:KSet l k d l') (nd:(l.map (·.1)).Nodup):storeD l k d=l':=by
  unfold storeD
  rw [if_pos (any_key h.key),h.map_eq nd]
theorem relD_at {h:Heap}{N:Addr→Prop}{k:K}{d:D}{l:List (K×D)}{kvs:List (K×Value)}(hm:(k,d)∈l) (e:kvs.map (·.1)=l.map (·.1)) (r:RelDs h N (l.map (·.2)) (kvs.map (·.2))):∃v,(k,v)∈kvs∧RelD h N d v:=by
  induction l generalizing kvs with
  | nil=>cases hm
  | cons p l ih =>
    cases kvs with
    | nil=>cases e
    | cons q kvs =>
      obtain ⟨v,r',e1,r1,r2⟩:=r
      obtain ⟨rfl,rfl⟩:=List.cons.inj e1
      obtain ⟨e2,e3⟩:=List.cons.inj e
      cases hm with
      | head=>exact ⟨q.2,by rw [show (k,q.2)=q from Prod.ext e2.symm rfl];exact .head _,r1⟩
      | tail _ hm =>
        obtain ⟨v,h1,h2⟩:=ih hm e3 r2
        exact ⟨v,.tail _ h1,h2⟩
theorem valueAt_mem {kvs:List (K×Value)}{k:K}{v:Value}(nd:(kvs.map (·.1)).Nodup) (h:(k,v)∈kvs):valueAt kvs k=some v:=by
  obtain ⟨i,hi,e⟩:=List.mem_iff_getElem.mp h
  exact valueAt_of_get nd (by rw [List.getElem?_eq_getElem hi,e])
theorem stored_rel {h:Heap}{N:Addr→Prop}{k:K}{d:D}{v:Value}(rv:RelD h N d v) {l:List (K×D)}{kvs:List (K×Value)}(e:kvs.map (·.1)=l.map (·.1)) (r:RelDs h N (l.map (·.2)) (kvs.map (·.2))) :
    (stored kvs k v).map (·.1)=(storeD l k d).map (·.1)∧RelDs h N ((storeD l k d).map (·.2)) ((stored kvs k v).map (·.2)):=by
  have any:∀{l:List (K×D)}{kvs:List (K×Value)},kvs.map (·.1)=l.map (·.1)→(kvs.any fun p=>p.1=k)=l.any fun p=>p.1=k:=fun {l kvs} e=>by
    have h1:(kvs.any fun p=>p.1=k)=(kvs.map (·.1)).any fun x=>x=k:=by rw [List.any_map];rfl
    have h2:(l.any fun p=>p.1=k)=(l.map (·.1)).any fun x=>x=k:=by rw [List.any_map];rfl
    rw [h1,h2,e]
  have upd:∀{l:List (K×D)}{kvs:List (K×Value)},kvs.map (·.1)=l.map (·.1)→RelDs h N (l.map (·.2)) (kvs.map (·.2)) →
      (kvs.map fun p=>if p.1=k then (p.1,v) else p).map (·.1)=(l.map fun p=>if p.1=k then (p.1,d) else p).map (·.1) ∧
      RelDs h N ((l.map fun p=>if p.1=k then (p.1,d) else p).map (·.2)) ((kvs.map fun p=>if p.1=k then (p.1,v) else p).map (·.2)):=fun {l}=>by
    induction l with
    | nil=>intro kvs e r;cases kvs with
      | nil=>exact ⟨rfl,rfl⟩
      | cons=>cases e
    | cons p l ih =>
      intro kvs e r
      cases kvs with
      | nil=>cases e
      | cons q kvs =>
        simp only [List.map_cons,List.cons.injEq] at e
        obtain ⟨x,y,e1,r1,r2⟩:=r
        simp only [List.map_cons,List.cons.injEq] at e1
        obtain ⟨i1,i2⟩:=ih e.2 (by rw [e1.2];exact r2)
        by_cases hk:p.1=k
        · have hq:q.1=k:=e.1.trans hk
          simp only [List.map_cons,if_pos hk,if_pos hq]
          exact ⟨by rw [i1,e.1],v,_,rfl,rv,i2⟩
        · have hq:¬ q.1=k:=fun h=>hk (e.1.symm.trans h)
          simp only [List.map_cons,if_neg hk,if_neg hq]
          exact ⟨by rw [i1,e.1],q.2,_,rfl,by rw [e1.1];exact r1,i2⟩
  unfold stored storeD
  rw [any e]
  split
  · exact upd e r
  · simp only [List.map_append,List.map_cons,List.map_nil]
    exact ⟨by rw [e],r.append (RelDs.one rv)⟩
end
section
variable {w:World}{B:Heap}{A:Around}{own own':Own}{P:Pins}{X:Addr→Own→Prop}{env:Env}{Q:D→Own→Prop}{QB:Bool→Own→Prop}{QF:Fl→Own→Prop}{Qs:List D→Own→Prop}
theorem str_back (x:Str):(⟨x.cps.toList.toArray⟩:Str)=x:=by simp
theorem dictCls {s:Shared}{K:Type}[DecidableEq K] {knd:KeyKind PG w K}{a:Addr}{kvs kvs':List (K×Value)}{h':Heap}(h1:s.heap.DictOf knd a kvs) (h2:h'.DictOf knd a kvs'):∀x,s.heap.get? a=some x→∃x',h'.get? a=some x'∧(NF x→NF x')∧x'.cls=x.cls:=fun x e=>by
  obtain ⟨o,es,ep,e1,e2,_⟩:=h1
  obtain ⟨o',es',ep',e1',e2',e3',_⟩:=h2
  rw [e] at e1
  cases e1
  exact ⟨o',e1',fun q_ vs q=>(by rw [e3'] at q;cases q),e2'.1.trans e2.1.symm⟩
theorem Wp.sdAt {value slice:Expr}{c:Addr}{l:List (Str×D)}{x:Str}{d:D}{a b:Value}(ho:Has own c (.sd l)) (hd:KGet l x d) (hs:PlainSub slice) (h:Q d own) :
    Wp w B A RV ((.str x.cps.toList,b)::(.ref c,a)::P) own (subscriptTail value slice a b) Q X:=fun s N I hp=>by
  obtain ⟨⟨t,rfl⟩,e⟩:=two hp
  have e:a=.ref c:=e
  subst e
  obtain ⟨_,kvs,hm,hk,r⟩:=I.owned _ ho.mem
  obtain ⟨v,h1,h2⟩:=relD_at hd.mem hk r
  have nd:(kvs.map (·.1)).Nodup:=by obtain ⟨_,_,_,_,_,_,_,_,nd⟩:=hm;exact nd
  rw [str_back]
  exact tail_any hm.typeIs slot_dict_getitem.lookup (wpAny_getItem_of (strKind_is PG w x t) hm.mapOf (valueAt_mem nd h1) (Post.tok I (R:=RV) h2 h)) (hs _ _)
theorem Wp.sdSet {c:Addr}{l l':List (Str×D)}{x:Str}{d:D}{a b v:Value}{QU:Unit→Own→Prop}(ho:Put own c (.sd l) (.sd l') own') (hd:KSet l x d l') (hz:l.length≤1000) (h:QU () own') :
    Wp w B A RE ((.str x.cps.toList,b)::(.ref c,a)::(d,v)::P) own (setItem a b v) QU X:=fun s N I hp=>by
  obtain ⟨⟨t,rfl⟩,e⟩:=two hp
  have e:a=.ref c:=e
  subst e
  have rv:RelD s.heap N d v:=hp _ (.tail _ (.tail _ (.head _)))
  obtain ⟨hN,kvs,hm,hk,r⟩:=I.owned _ ho.has
  have nd:(kvs.map (·.1)).Nodup:=by obtain ⟨_,_,_,_,_,_,_,_,nd⟩:=hm;exact nd
  rw [str_back]
  refine wpAny_setItem_pairs (strKind_is PG w x t) hm (fun h' hm' hs'=>?_) (by
    have:kvs.length=l.length:=by simpa using congrArg List.length hk
    rw [sizeLine_eq];lia)
  have kk:∀a o,¬ N a→s.heap.get? a=some o→o.cls≠.type "frame" → h'.get? a=some o:=fun a o hn e q_=>(hs'.2 a fun q=>hn (q▸hN)).trans e
  have k2:=stored_rel (k:=x) (rv.mono kk fun q_ q_ a q_=>a) hk (r.mono kk fun q_ q_ a q_=>a)
  rw [hd.eq (by rw [← hk];exact nd)] at k2
  exact Post.upd I ho hs' (dictCls hm hm') ⟨_,hm',k2.1,k2.2⟩ (R:=RE) (b:=()) rfl h
theorem Wp.idAt {value slice:Expr}{c:Addr}{l:List (Int×D)}{x:Int}{d:D}{a b:Value}(ho:Has own c (.idict l)) (hd:(x,d)∈l) (hs:PlainSub slice) (h:Q d own) :
    Wp w B A RV ((.int x,b)::(.ref c,a)::P) own (subscriptTail value slice a b) Q X:=fun s N I hp=>by
  obtain ⟨⟨t,rfl⟩,e⟩:=two hp
  have e:a=.ref c:=e
  subst e
  obtain ⟨_,kvs,hm,hk,r⟩:=I.owned _ ho.mem
  obtain ⟨v,h1,h2⟩:=relD_at hd hk r
  have nd:(kvs.map (·.1)).Nodup:=by obtain ⟨_,_,_,_,_,_,_,_,nd⟩:=hm;exact nd
  exact tail_any hm.typeIs slot_dict_getitem.lookup (wpAny_getItem_of (intKind_is PG w x t) hm.mapOf (valueAt_mem nd h1) (Post.tok I (R:=RV) h2 h)) (hs _ _)
theorem Wp.idSet {c:Addr}{l:List (Int×D)}{x:Int}{d:D}{a b v:Value}{QU:Unit→Own→Prop}(ho:Put own c (.idict l) (.idict (storeD l x d)) own') (hz:l.length≤1000) (h:QU () own') :
    Wp w B A RE ((.int x,b)::(.ref c,a)::(d,v)::P) own (setItem a b v) QU X:=fun s N I hp=>by
  obtain ⟨⟨t,rfl⟩,e⟩:=two hp
  have e:a=.ref c:=e
  subst e
  have rv:RelD s.heap N d v:=hp _ (.tail _ (.tail _ (.head _)))
  obtain ⟨hN,kvs,hm,hk,r⟩:=I.owned _ ho.has
  refine wpAny_setItem_pairs (intKind_is PG w x t) hm (fun h' hm' hs'=>?_) (by
    have:kvs.length=l.length:=by simpa using congrArg List.length hk
    rw [sizeLine_eq];lia)
  have kk:∀a o,¬ N a→s.heap.get? a=some o→o.cls≠.type "frame" → h'.get? a=some o:=fun a o hn e q_=>(hs'.2 a fun q=>hn (q▸hN)).trans e
  have k2:=stored_rel (k:=x) (rv.mono kk fun q_ q_ a q_=>a) hk (r.mono kk fun q_ q_ a q_=>a)
  exact Post.upd I ho hs' (dictCls hm hm') ⟨_,hm',k2.1,k2.2⟩ (R:=RE) (b:=()) rfl h
theorem Wp.AssignSub {o i:Expr}{p' pos} {value:Expr}(hs:swapsWith value (some (.Subscript o i p')) pos.line env=pure false)
    (h:Wp w B A RV P own (eval value env) (fun d o₁=>∀v,Wp w B A RV ((d,v)::P) o₁ (eval o env) (fun x o₂=>∀a,Wp w B A RV ((x,a)::(d,v)::P) o₂ (eval i env) (fun y o₃=>∀b,Wp w B A RE ((y,b)::(x,a)::(d,v)::P) o₃ (setItem a b v) (fun q_ o₄=>QF .next o₄) X) X) X) X) :
    Wp w B A RF P own (exec (.Assign [.Subscript o i p'] value pos) env) QF X:=by
  rw [exec_Assign_Subscript o i p' value pos hs]
  refine Wp.standAt (Wp.bindV (h.mono (fun d o₁ q v=>?_) fun q_ q_ x=>x))
  rw [assign_Subscript]
  refine Wp.bindE (Wp.bindV ((Wp.holding (q v)).mono (fun x o₂ q' a=>Wp.bindV ((Wp.holding (q' a)).mono (fun y o₃ q₃ b=>Wp.standAt (Wp.bindE ((Wp.holding (q₃ b)).mono (fun q_ o₄ q₄=>?_) fun q_ q_ x=>x))) fun q_ q_ x=>x)) fun q_ q_ x=>x))
  exact fun s N I hp=>wpAny_release ⟨N,o₄,(),.refl ..,I,rfl,Wp.val (b:=.next) (fun q_ q_ q_=>rfl) q₄⟩
theorem itemsAre {h:Heap}{N:Addr→Prop}:∀{ks:List Int}{vs:List Value},RelDs h N (ks.map .int) vs→PySem.ItemsAre (intKind PG w) ks vs
  | [],_,e=>by simp only [List.map_nil,RelDs] at e;subst e;exact .nil
  | k::ks,_,e=>by
    obtain ⟨v,r,rfl,⟨t,rfl⟩,h2⟩:=e
    exact .cons (intKind_is PG w k t) (itemsAre h2)
theorem tkey {h:Heap}{N:Addr→Prop}{ks:List Int}{a:Addr}(r:RelD h N (.tup (ks.map .int)) (.ref a)):(tkind w).is h ks a:=by
  obtain ⟨a',n,items,e,_,g,r⟩:=r
  cases e
  exact ⟨_,_,n,g,rfl,rfl,itemsAre r⟩
theorem RelDs.mem {h:Heap}{N:Addr→Prop}{α:Type}{f:α→D}{g:α→Value}{l:List α}(r:RelDs h N (l.map f) (l.map g)):∀x∈l,RelD h N (f x) (g x):=by
  induction l with
  | nil=>exact fun x hx=>absurd hx List.not_mem_nil
  | cons a l ih =>
    obtain ⟨v,r',e1,r1,r2⟩:=r
    obtain ⟨rfl,rfl⟩:=List.cons.inj e1
    exact List.forall_mem_cons.mpr ⟨r1,ih r2⟩
theorem td_to {h:Heap}{N:Addr→Prop}{c:Addr}{l:List (List Int×D)}(x:RelO w h N c (.td l)) :
    ∃xs,h.DictOfH (tkind w) c xs∧xs.map (·.1)=l.map (·.1)∧RelDs h N (l.map fun p=>.tup (p.1.map .int)) (xs.map fun x=>.ref x.2.1)∧RelDs h N (l.map (·.2)) (xs.map (·.2.2)):=by
  obtain ⟨xs,n,e,nd,hk,r1,r2⟩:=x
  refine ⟨xs,⟨_,_,n,e,⟨rfl,rfl,rfl⟩,rfl,rfl,fun x hx=>?_,nd⟩,hk,r1,r2⟩
  have e1:(l.map fun p=>D.tup (p.1.map .int))=xs.map fun x=>D.tup (x.1.map .int):=by
    have:(l.map fun p=>D.tup (p.1.map .int))=(l.map (·.1)).map fun k=>D.tup (k.map .int):=by rw [List.map_map];rfl
    rw [this,← hk,List.map_map];rfl
  rw [e1] at r1
  exact tkey (RelDs.mem r1 x hx)
theorem td_of {h:Heap}{N:Addr→Prop}{c:Addr}{l:List (List Int×D)}{xs:List (List Int×Addr×Value)}(hm:h.DictOfH (tkind w) c xs) (hk:xs.map (·.1)=l.map (·.1)) (r1:RelDs h N (l.map fun p=>.tup (p.1.map .int)) (xs.map fun x=>.ref x.2.1))
    (r2:RelDs h N (l.map (·.2)) (xs.map (·.2.2))):RelO w h N c (.td l):=by
  obtain ⟨⟨oc,od,dd,sl⟩,⟨es⟩,ep,e,⟨c1,c2,c3⟩,e2,e3,_,nd⟩:=hm
  simp only at c1 c2 c3 e2 e3
  subst c1 c2 c3 e2 e3
  exact ⟨xs,ep,e,nd,hk,r1,r2⟩
theorem td_at {h:Heap}{N:Addr→Prop}{k:List Int}{d:D}{l:List (List Int×D)}{xs:List (List Int×Addr×Value)}(hm:(k,d)∈l) (e:xs.map (·.1)=l.map (·.1)) (r:RelDs h N (l.map (·.2)) (xs.map (·.2.2))):∃p,(k,p)∈xs∧RelD h N d p.2:=by
  induction l generalizing xs with
  | nil=>cases hm
  | cons p l ih =>
    cases xs with
    | nil=>cases e
    | cons q xs =>
      obtain ⟨v,r',e1,r1,r2⟩:=r
      obtain ⟨rfl,rfl⟩:=List.cons.inj e1
      obtain ⟨e2,e3⟩:=List.cons.inj e
      cases hm with
      | head=>exact ⟨q.2,by rw [show (k,q.2)=q from Prod.ext e2.symm rfl];exact .head _,r1⟩
      | tail _ hm =>
        obtain ⟨v,h1,h2⟩:=ih hm e3 r2
        exact ⟨v,.tail _ h1,h2⟩
theorem atKey_mem {xs:List (List Int×Addr×Value)}{k:List Int}{p:Addr×Value}(nd:(xs.map (·.1)).Nodup) (h:(k,p)∈xs):atKey xs k=some p:=by
  obtain ⟨i,hi,e⟩:=List.mem_iff_getElem.mp h
  exact atKey_of_get nd (by rw [List.getElem?_eq_getElem hi,e])
theorem Wp.tdAt {value slice:Expr}{c:Addr}{l:List (List Int×D)}{x:List Int}{d:D}{a b:Value}(hu:A.units+1<cLine) (ho:Has own c (.td l)) (hd:(x,d)∈l) (hs:PlainSub slice) (h:Q d own) :
    Wp w B A RV ((.tup (x.map .int),b)::(.ref c,a)::P) own (subscriptTail value slice a b) Q X:=fun s N I hp=>by
  obtain ⟨hb,e⟩:=two hp
  have e:a=.ref c:=e
  subst e
  obtain ⟨xs,hm,hk,r1,r2⟩:=td_to (I.owned _ ho.mem).2
  obtain ⟨p,h1,h2⟩:=td_at hd hk r2
  have nd:(xs.map (·.1)).Nodup:=by obtain ⟨_,_,_,_,_,_,_,_,nd⟩:=hm;exact nd
  obtain ⟨ka,_,_,rfl,_⟩:=id hb
  exact tail_any hm.typeIs slot_dict_getitem.lookup (wpAny_getItem_heap (knd:=tkind w) hu (tkey hb) hm (atKey_mem nd h1) (Post.tok I (R:=RV) h2 h)) (hs _ _)
theorem find_any {α:Type}(p:α→Bool):∀l:List α,(l.find? p).isSome=l.any p
  | []=>rfl
  | a::l=>by rw [List.find?_cons,List.any_cons];cases p a <;> simp [find_any p l]
theorem storedH_rel {h:Heap}{N:Addr→Prop}{k:List Int}{d:D}{ka:Addr}{v:Value}(rv:RelD h N d v) (rk:RelD h N (.tup (k.map .int)) (.ref ka)) {l:List (List Int×D)}{xs:List (List Int×Addr×Value)}(nd:(xs.map (·.1)).Nodup) (e:xs.map (·.1)=l.map (·.1))
    (r1:RelDs h N (l.map fun p=>.tup (p.1.map .int)) (xs.map fun x=>.ref x.2.1)) (r:RelDs h N (l.map (·.2)) (xs.map (·.2.2))) :
    (storedH xs k ka v).map (·.1)=(storeD l k d).map (·.1)∧RelDs h N ((storeD l k d).map fun p=>.tup (p.1.map .int)) ((storedH xs k ka v).map fun x=>.ref x.2.1)∧RelDs h N ((storeD l k d).map (·.2)) ((storedH xs k ka v).map (·.2.2)):=by
  have any:(atKey xs k).isSome=l.any fun p=>p.1=k:=by
    have h2:(l.any fun p=>decide (p.1=k))=(l.map (·.1)).any fun x=>decide (x=k):=by rw [List.any_map];rfl
    rw [h2,← e,List.any_map]
    unfold atKey
    rw [Option.isSome_map,find_any]
    rfl
  have upd:∀{l:List (List Int×D)}{xs:List (List Int×Addr×Value)},xs.map (·.1)=l.map (·.1)→RelDs h N (l.map fun p=>.tup (p.1.map .int)) (xs.map fun x=>.ref x.2.1)→RelDs h N (l.map (·.2)) (xs.map (·.2.2)) →
      (xs.map (putAt k v)).map (·.1)=(l.map fun p=>if p.1=k then (p.1,d) else p).map (·.1) ∧
      RelDs h N ((l.map fun p=>if p.1=k then (p.1,d) else p).map fun p=>.tup (p.1.map .int)) ((xs.map (putAt k v)).map fun x=>.ref x.2.1) ∧
      RelDs h N ((l.map fun p=>if p.1=k then (p.1,d) else p).map (·.2)) ((xs.map (putAt k v)).map (·.2.2)):=fun {l}=>by
    induction l with
    | nil=>intro xs e _ _;cases xs with
      | nil=>exact ⟨rfl,rfl,rfl⟩
      | cons=>cases e
    | cons p l ih =>
      intro xs e r0 r
      cases xs with
      | nil=>cases e
      | cons q xs =>
        simp only [List.map_cons,List.cons.injEq] at e
        obtain ⟨x,y,e1,r1,r2⟩:=r
        obtain ⟨x',y',e1',r1',r2'⟩:=r0
        simp only [List.map_cons,List.cons.injEq] at e1 e1'
        obtain ⟨i1,i2,i3⟩:=ih e.2 (by rw [e1'.2];exact r2') (by rw [e1.2];exact r2)
        by_cases hk:p.1=k
        · have hq:q.1=k:=e.1.trans hk
          simp only [List.map_cons,if_pos hk,putAt,if_pos hq]
          exact ⟨by rw [← i1,e.1],⟨_,_,rfl,by rw [e1'.1];exact r1',i2⟩,v,_,rfl,rv,i3⟩
        · have hq:¬ q.1=k:=fun h=>hk (e.1.symm.trans h)
          simp only [List.map_cons,if_neg hk,putAt,if_neg hq]
          exact ⟨by rw [← i1,e.1],⟨_,_,rfl,by rw [e1'.1];exact r1',i2⟩,q.2.2,_,rfl,by rw [e1.1];exact r1,i3⟩
  unfold storedH storeD
  rw [any]
  split
  · exact upd e r1 r
  · simp only [List.map_append,List.map_cons,List.map_nil]
    exact ⟨by rw [e],r1.append (RelDs.one rk),r.append (RelDs.one rv)⟩
theorem Wp.tdSet {c:Addr}{l:List (List Int×D)}{x:List Int}{d:D}{a b v:Value}{QU:Unit→Own→Prop}(hu:A.units+1<cLine) (ho:Put own c (.td l) (.td (storeD l x d)) own') (hz:l.length≤1000) (h:QU () own') :
    Wp w B A RE ((.tup (x.map .int),b)::(.ref c,a)::(d,v)::P) own (setItem a b v) QU X:=fun s N I hp=>by
  obtain ⟨hb,e⟩:=two hp
  have e:a=.ref c:=e
  subst e
  have rv:RelD s.heap N d v:=hp _ (.tail _ (.tail _ (.head _)))
  have hN:=(I.owned _ ho.has).1
  obtain ⟨xs,hm,hk,r1,r2⟩:=td_to (I.owned _ ho.has).2
  have nd:(xs.map (·.1)).Nodup:=by obtain ⟨_,_,_,_,_,_,_,_,nd⟩:=hm;exact nd
  obtain ⟨ka,kn,ki,rfl,kr⟩:=id hb
  refine wpAny_setItem_heap (knd:=tkind w) hu (tkey hb) hm (fun h' hm' hs'=>?_) (by
    have:xs.length=l.length:=by simpa using congrArg List.length hk
    rw [sizeLine_eq];lia)
  have kk:∀a o,¬ N a→s.heap.get? a=some o→o.cls≠.type "frame" → h'.get? a=some o:=fun a o hn e q_=>(hs'.2 a fun q=>hn (q▸hN)).trans e
  have nn:∀a o,¬ N a→s.heap.get? a=some o→¬ N a:=fun q_ q_ a q_=>a
  obtain ⟨k1,k2,k3⟩:=storedH_rel (rv.mono kk nn) (RelD.mono kk nn _ _ hb) nd hk (r1.mono kk nn) (r2.mono kk nn)
  refine Post.upd I ho hs' (fun x e=>?_) (td_of hm' k1 k2 k3) (R:=RE) (b:=()) rfl h
  obtain ⟨o,es,ep,e1,e2,_⟩:=hm
  obtain ⟨o',es',ep',e1',e2',e3',_⟩:=hm'
  rw [e] at e1
  cases e1
  exact ⟨o',e1',fun q_ vs q=>(by rw [e3'] at q;cases q),e2'.1.trans e2.1.symm⟩
end
section
variable {w:World}{B:Heap}{A:Around}{own own':Own}{P:Pins}{X:Addr→Own→Prop}{env:Env}{Q:D→Own→Prop}{QB:Bool→Own→Prop}{QF:Fl→Own→Prop}{Qs:List D→Own→Prop}{s:Shared}{N:Addr→Prop}
theorem Inv.makes (I:Inv w B A s N own) {h':Heap}{k:Tok}(nw:Own) (hk:∀b o,s.heap.get? b=some o→h'.get? b=some o) (hz:s.heap.objs.size≤h'.objs.size) (nd:(nw.map (·.1)).Nodup) (hc:∀p∈nw,s.heap.objs.size≤p.1∧p.1<h'.objs.size)
    (ho:∀p∈nw,RelO w h' (fun x=>N x∨x∈nw.map (·.1)) p.1 p.2) :
    Inv w B A {s with heap:=h',toks:=k } (fun x=>N x∨x∈nw.map (·.1)) (nw++own)∧Step s N own {s with heap:=h',toks:=k } (fun x=>N x∨x∈nw.map (·.1)) (nw++own):=by
  have fr:∀b,b∈nw.map (·.1)→s.heap.objs.size≤b∧b<h'.objs.size:=fun b hb=>by
    obtain ⟨p,hp,rfl⟩:=List.mem_map.mp hb
    exact hc p hp
  have S:Step s N own {s with heap:=h',toks:=k } (fun x=>N x∨x∈nw.map (·.1)) (nw++own):=⟨fun b o e q_=>⟨o,hk b o e,.refl o⟩,fun b o e n q_=>⟨o,hk b o e,n,rfl⟩,hz,fun q_ h q_ q_=>.inl h,
    fun b h=>h.imp id fun e=>(fr b e).1,fun b h=>by
      rw [List.map_append] at h
      exact (List.mem_append.mp h).elim (fun e=>.inr (fr b e).1) .inl,rfl⟩
  refine ⟨⟨fun b o e=>hk b o (I.stays b o e),fun b h=>h.elim (I.hi b) fun e=>I.above (fr b e).1,fun b h=>h.elim (fun h=>Nat.lt_of_lt_of_le (I.lt b h) hz) fun e=>(fr b e).2,fun p hp=>?_,?_,I.frames.keeps fun b o e n q_=>⟨o,hk b o e,n,rfl⟩,I.gens⟩,S⟩
  · rcases List.mem_append.mp hp with hp | hp
    · exact ⟨.inr (List.mem_map.mpr ⟨p,hp,rfl⟩),ho p hp⟩
    · exact ⟨.inl (I.owned p hp).1,(I.owned p hp).2.mono (S.kk I) S.kn fun ob e=>⟨ob,hk _ _ e,.refl ob⟩⟩
  · rw [List.map_append]
    refine List.nodup_append.mpr ⟨nd,I.nd,fun a ha b hb e=>?_⟩
    subst e
    exact I.off (I.freshN (fr a ha).1) hb
structure Cx (A:Around) (n:Nat):Prop where
  frames:∃l,A.frames=some l
  handled:A.handled=none
  depth:A.depth+n<900
  units:A.units+8*n<9000
theorem Cx.room {A:Around}{n:Nat}(c:Cx A n):A.depth<recursionLimit:=Nat.lt_trans (Nat.lt_of_le_of_lt (Nat.le_add_right ..) c.depth) (by decide)
theorem Cx.line1 {A:Around}{n:Nat}(c:Cx A n):A.units+1<cLine:=Nat.lt_of_le_of_lt (Nat.succ_le_of_lt (Nat.lt_of_le_of_lt (Nat.le_add_right ..) c.units)) (by decide)
theorem Cx.deeper {A:Around}{n:Nat}{env:Env}(c:Cx A (n+1)):Cx (A.deeper env) n:=by
  obtain ⟨⟨l,hl⟩,h,d,u⟩:=c
  exact ⟨⟨env::l,by simp [Around.deeper,hl]⟩,h,(Nat.succ_add_eq_add_succ A.depth n).symm▸d,Nat.lt_of_le_of_lt (by rw [Nat.mul_succ,Nat.add_comm (8*n),← Nat.add_assoc];exact Nat.add_le_add_right (Nat.add_le_add_left (by decide) _) _) u⟩
theorem frs_deeper {A:Around}{n:Nat}{env:Env}(c:Cx A n):frs (A.deeper env)=env::frs A:=by
  obtain ⟨⟨l,hl⟩,_⟩:=c
  simp [frs,Around.deeper,hl]
theorem Inv.back (hf:frs A'=env::frs A) (I:Inv w B A' s N own):Inv w B A s N own:=⟨I.stays,I.hi,I.lt,I.owned,I.nd,by have:=I.frames;rw [hf] at this;exact this.2.2,I.gens⟩
theorem Inv.same (hf:frs A'=frs A) (I:Inv w B A' s N own):Inv w B A s N own:=⟨I.stays,I.hi,I.lt,I.owned,I.nd,by have:=I.frames;rw [hf] at this;exact this,I.gens⟩
noncomputable def Call (w:World) (B:Heap) (A:Around) (f:Value) (ds:List D) (own:Own) (Q:D→Own→Prop) (X:Addr→Own→Prop):Prop :=
  ∀P vs,vs.length=ds.length→Wp w B A RV (zipP ds vs P) own (call f vs) Q X
theorem Call.pick {f:Value}{ds:List D}{fp rest:Own}{Q₁:D→Own→Prop}{X₁:Addr→Own→Prop}(h:Call w B A f ds fp Q₁ X₁) (hp:Pick own fp rest) (hq:∀b o₁,Q₁ b o₁→Q b (o₁++rest)) (hx:∀b o₁,X₁ b o₁→X b (o₁++rest)) :
    Call w B A f ds own Q X:=fun P vs hl=>(h P vs hl).pick hp hq hx
noncomputable def CallC (w:World) (B:Heap) (A:Around) (f:Value) (ds:List D) (own:Own) (Q:D→Own→Prop) (X:Addr→Own→Prop):Prop :=
  ∀P vs,vs.length=ds.length→∀s N,Inv w B A s N own→(∀p∈zipP ds vs P,RelD s.heap N p.1 p.2) →
    codeAny (model PG w) A (.call f ⟨vs,[]⟩) (fun r s'=>match r with | .ok (.ret v)=>Post w B A RV s N own Q v s' | .ok _=>False | .error e=>PostX w B A s N own X e s') s
theorem CallC.call {f:Value}{ds:List D}(h:CallC w B A f ds own Q X):Call w B A f ds own Q X:=fun P vs hl s N I hp=>wpAny_call (h P vs hl s N I hp)
inductive Yield:D→Own→D→Own→Prop
  | done {d o o'}:List.Sublist o' o→Yield d o d o'
  | list {a l o o₁ d' o'}:Del o (a,.list l) o₁→Yield (.lst l) o₁ d' o'→Yield (.ref a) o d' o'
  | inst {x C d ns l o o₁ o₂ d' o'}:Del o (x,.inst C d) o₁→Del o₁ (d,.attrs ns l) o₂→Yield (.inst C ns l) o₂ d' o'→Yield (.ref x) o d' o'
theorem Inv.freeze (I:Inv w B A s N own) {c:Addr}{o:O}(hd:Del own (c,o) own'):Inv w B A s (fun b=>N b∧b≠c) own'∧Step s N own s (fun b=>N b∧b≠c) own'∧RelO w s.heap (fun b=>N b∧b≠c) c o:=by
  have hp:=hd.perm
  have hm:∀p,p∈own↔p=(c,o)∨p∈own':=fun p=>by rw [hp.mem_iff,List.mem_cons]
  have nd:(((c,o)::own').map (·.1)).Nodup:=(hp.map _).nodup_iff.mp I.nd
  rw [List.map_cons,List.nodup_cons] at nd
  have kk:∀a x,¬ N a→s.heap.get? a=some x→x.cls≠.type "frame" → s.heap.get? a=some x:=fun q_ q_ q_ e q_=>e
  have nn:∀a x,¬ N a→s.heap.get? a=some x→¬ (fun b=>N b∧b≠c) a:=fun q_ q_ h q_ h'=>h h'.1
  refine ⟨⟨I.stays,fun b h=>I.hi b h.1,fun b h=>I.lt b h.1,fun p h=>?_,nd.2,I.frames,I.gens⟩,⟨fun b x e q_=>⟨x,e,.refl x⟩,fun b x e n q_=>⟨x,e,n,rfl⟩,Nat.le_refl _,fun b h q_ hb=>⟨h,fun e=>hb ?_⟩,fun b h=>.inl h.1,fun b h=>.inl ?_,rfl⟩,?_⟩
  · have O:=I.owned p ((hm p).mpr (.inr h))
    exact ⟨⟨O.1,fun e=>nd.1 (by rw [← e];exact List.mem_map.mpr ⟨p,h,rfl⟩)⟩,O.2.mono kk nn fun ob e=>⟨ob,e,.refl ob⟩⟩
  · exact List.mem_map.mpr ⟨(c,o),(hm _).mpr (.inl rfl),e.symm⟩
  · obtain ⟨p,h1,rfl⟩:=List.mem_map.mp h
    exact List.mem_map.mpr ⟨p,(hm p).mpr (.inr h1),rfl⟩
  · exact (I.owned _ ((hm _).mpr (.inl rfl))).2.mono kk nn fun ob e=>⟨ob,e,.refl ob⟩
theorem Yield.sound {d o d' o'} (y:Yield d o d' o') {s:Shared}{N:Addr→Prop}{v:Value}(I:Inv w B A s N o) (r:RelD s.heap N d v):∃N',Inv w B A s N' o'∧Step s N o s N' o'∧RelD s.heap N' d' v:=by
  induction y generalizing N with
  | done h=>exact ⟨N,I.sub (fun p hp=>h.subset hp) ((h.map _).nodup I.nd),⟨fun b x e q_=>⟨x,e,.refl x⟩,fun b x e n q_=>⟨x,e,n,rfl⟩,Nat.le_refl _,fun q_ h q_ q_=>h,fun q_ h=>.inl h,fun b hb=>.inl ((h.map _).subset hb),rfl⟩,r⟩
  | list hd y ih =>
    obtain ⟨I₁,S₁,items,n,e,rl⟩:=I.freeze hd
    exact (ih I₁ ⟨_,n,items,r,fun h=>h.2 rfl,e,rl⟩).imp fun q_ g=>⟨g.1,S₁.trans g.2.1,g.2.2⟩
  | inst hd hd' y ih =>
    obtain ⟨I₁,S₁,e₁⟩:=I.freeze hd
    obtain ⟨I₂,S₂,es,n,e₂,k₂,r₂⟩:=I₁.freeze hd'
    exact (ih I₂ ⟨_,_,n,es,r,fun h=>h.1.2 rfl,e₁,fun h=>h.2 rfl,e₂,k₂,r₂⟩).imp fun q_ g=>⟨g.1,(S₁.trans S₂).trans g.2.1,g.2.2⟩
theorem Post.yield {own₀:Own}{N₀:Addr→Prop}{s₀:Shared}{d d':D}{o':Own}{v:Value}(S:Step s₀ N₀ own₀ s N own) (I:Inv w B A s N own) (r:RelD s.heap N d v) (y:Yield d own d' o') (q:Q d' o'):Post w B A RV s₀ N₀ own₀ Q v s:=by
  obtain ⟨N',I',S',r'⟩:=y.sound I r
  exact ⟨N',o',d',S.trans S',I',r',q⟩
noncomputable abbrev Ends (Q:D→Own→Prop):Fl→Own→Prop:=fun f o=>match f with
  | .ret d=>∃d' o',Yield d o d' o'∧Q d' o'
  | _=>∃d' o',Yield .none o d' o'∧Q d' o'
inductive BindAll (env:Env):List Str→List D→Own→Own→Prop
  | nil {o}:BindAll env [] [] o o
  | cons {x d o o₁ o₂ xs ds}:Bind env x d o o₁→BindAll env xs ds o₁ o₂→BindAll env (x::xs) (d::ds) o o₂
noncomputable def cellsOwn (cs:List (Str×Addr)):Own:=cs.map fun p=>(p.2,.cell none)
theorem Wp.binds {f:Str×Value→PUnit→Sem (ForInStep PUnit)}(hf:∀x u,f x u=(storeName env x.1 x.2 >>= fun q_=>pure (.yield ⟨⟩))) {xs ds vs own own' P} (hb:BindAll env xs ds own own') (hl:vs.length=ds.length) :
    Wp w B A (α:=PUnit) (β:=PUnit) RE (zipP ds vs P) own (forIn (xs.zip vs) ⟨⟩ f) (fun q_ o=>o=own') X:=by
  induction hb generalizing vs P with
  | nil =>
    rw [List.zip_nil_left,List.forIn_nil]
    exact Wp.val (b:=⟨⟩) (fun q_ q_ q_=>rfl) rfl
  | @cons x d o o₁ o₂ xs ds b r ih =>
    cases vs with
    | nil=>cases hl
    | cons v vs =>
    rw [List.zip_cons_cons,List.forIn_cons,hf]
    have next:Wp w B A RE ((d,v)::zipP ds vs P) o₁ (forIn (xs.zip vs) ⟨⟩ f) (fun q_ o=>o=o₂) X:=(ih (Nat.succ.inj hl)).pins fun p hp=>.tail _ hp
    have st:Wp w B A RE ((d,v)::zipP ds vs P) o (storeName env x v) (fun (_:Unit) o₁=>Wp w B A RE ((d,v)::zipP ds vs P) o₁ (forIn (xs.zip vs) ⟨⟩ f) (fun q_ o=>o=o₂) X) X:=by
      cases b with
      | loc a b c e=>exact Wp.store a b c e next
      | cell a b c e=>exact Wp.storeCell a b c e next
    exact Wp.bindE (Wp.bindE (st.mono (fun q_ o₁ q=>Wp.val (b:=ForInStep.yield PUnit.unit) (fun q_ q_ q_=>rfl) q) fun q_ q_ x=>x))
theorem CallC.defX {n:Nat}(cx:Cx A (n+1)) {XB:Addr→Own→Prop}{f:Addr}{oo:Obj}{fd:FuncData}{body:List Stmt}{params:List Str}{ds dd:List D}{dv:List Value}(hlim:B.NoLimit) (ho:B.get? f=some oo) (hdata:oo.data=.func fd) (hcd:B.CodeRec fd.code fd.qualname) (hbody:fd.body=.stmts body) (hclo:fd.closure=[])
    (hbind:∀(s:Shared) (vs:List Value),(∀b o,B.get? b=some o→s.heap.get? b=some o)→vs.length=ds.length→BindsTo s fd ⟨vs,[]⟩ (params.zip (vs++dv))) (hdv:∀h N,RelDs h N dd dv) {lnames:List Str}(hln:lnames.Nodup)
    (h:∀L,∃own₁,BindAll (callEnvC fd L f) params (ds++dd) ((L,.ns true lnames (lnames.map fun q_=>none))::(cellsOwn (cellsFrom (L+1) fd.scope.names [])++own)) own₁ ∧
      Wp w B (A.deeper (callEnvC fd L f)) RF [] own₁ (execs body (callEnvC fd L f)) (Ends Q) XB)
    (hX:∀L s N o x,Inv w B (A.deeper (callEnvC fd L f)) s N o→XB x o→∀(E:Value→Shared→Prop) (R:Shared→Prop),(∀s' N' o',Step s N o s' N' o'→Inv w B (A.deeper (callEnvC fd L f)) s' N' o'→X x o'→R s') →
      wpAny (model PG w) (A.deeper (callEnvC fd L f)) (leaving (callEnvC fd L f) (.ref x)) (fun q_ s'=>R s') E s)
    (hco:fd.scope.isCoroutine=false) (hgen:fd.scope.isGenerator=false) (hk:fd.scope.kind=.function):CallC w B A (.ref f) ds own Q X:=fun P vs hl s N I hp=>by
  have rds:RelDs s.heap N ds vs:=by
    clear h hbind
    induction ds generalizing vs with
    | nil=>cases vs with
      | nil=>rfl
      | cons=>cases hl
    | cons d ds ih=>cases vs with
      | nil=>cases hl
      | cons v vs=>exact ⟨v,vs,rfl,hp (d,v) (.head _),ih vs (by simpa using hl) fun p hm=>hp p (.tail _ hm)⟩
  refine (codeAny_call_function (fd:=fd) (body:=body) cx.room (I.stays _ _ ho) hdata hco hgen hbody (hcd.keeps I.stays) (hbind s vs I.stays hl _ _ _ _ ?_))
  rw [hclo]
  obtain ⟨own₁,hb,hw⟩:=h s.heap.objs.size
  simp only [newFunctionEnv,Option.isSome_none,Bool.false_eq_true,if_false]
  refine wpAny_bind (wpAny_alloc ?_)
  refine wpAny_bind (wpAny_layCells _ (fun name kind cells=>by cases hkc:kind == NameKind.cell <;> simp [hkc]) _ _ _ _ ?_)
  have ok:=cellsFrom_ok fd.scope.names (s.heap.push {cls:=.type "frame", data:=.dict #[] }) (s.heap.objs.size+1) [] ⟨fun q_ q_ hm=>(nomatch hm),List.Pairwise.nil⟩ (by rw [Heap.size_push];exact Nat.le_refl _)
  rw [Heap.size_push] at ok
  rw [show ({s with heap:=s.heap.push {cls:=.type "frame", data:=.dict #[] } }:Shared).heap.objs.size=s.heap.objs.size+1 from Heap.size_push ..]
  have hk1:∀b o,s.heap.get? b=some o→(pushCells (s.heap.push {cls:=.type "frame", data:=.dict #[] }) fd.scope.names).get? b=some o:=fun b o e=>pushCells_keeps _ _ b o (Heap.get?_push_of_some _ e)
  have hL:(pushCells (s.heap.push {cls:=.type "frame", data:=.dict #[] }) fd.scope.names).get? s.heap.objs.size=some {cls:=.type "frame", data:=.dict #[] }:=pushCells_keeps _ _ _ _ (Heap.get?_push_size _ rfl)
  have cOwn:∀c,c∈(cellsOwn (cellsFrom (s.heap.objs.size+1) fd.scope.names [])).map (·.1)→∃n,(n,c)∈cellsFrom (s.heap.objs.size+1) fd.scope.names []:=fun c hc=>by
    obtain ⟨p,hp,rfl⟩:=List.mem_map.mp hc
    obtain ⟨q,hq,rfl⟩:=List.mem_map.mp hp
    exact ⟨q.1,hq⟩
  have nd:((((s.heap.objs.size,O.ns true lnames (lnames.map fun q_=>none))::cellsOwn (cellsFrom (s.heap.objs.size+1) fd.scope.names []):Own)).map (·.1)).Nodup:=by
    rw [List.map_cons,List.nodup_cons]
    refine ⟨fun hm=>?_,?_⟩
    · obtain ⟨n,hn⟩:=cOwn _ hm
      exact Nat.not_succ_le_self _ (ok.empty n _ hn).2
    · unfold cellsOwn
      rw [List.map_map]
      exact List.pairwise_map.mpr ok.apart
  have hc:∀p∈((s.heap.objs.size,O.ns true lnames (lnames.map fun q_=>none))::cellsOwn (cellsFrom (s.heap.objs.size+1) fd.scope.names []):Own),s.heap.objs.size≤p.1∧p.1<(pushCells (s.heap.push {cls:=.type "frame", data:=.dict #[] }) fd.scope.names).objs.size:=by
    intro p hp
    rcases List.mem_cons.mp hp with rfl | hp
    · exact ⟨Nat.le_refl _,Heap.lt_size hL⟩
    · obtain ⟨n,hn⟩:=cOwn p.1 (List.mem_map.mpr ⟨p,hp,rfl⟩)
      exact ⟨Nat.le_of_succ_le (ok.empty n _ hn).2,(ok.empty n _ hn).1.lt⟩
  have ho:∀p∈((s.heap.objs.size,O.ns true lnames (lnames.map fun q_=>none))::cellsOwn (cellsFrom (s.heap.objs.size+1) fd.scope.names []):Own),RelO w (pushCells (s.heap.push {cls:=.type "frame", data:=.dict #[] }) fd.scope.names) (fun x=>N x∨x∈(((s.heap.objs.size,O.ns true lnames (lnames.map fun q_=>none))::cellsOwn (cellsFrom (s.heap.objs.size+1) fd.scope.names []):Own)).map (·.1)) p.1 p.2:=by
    intro p hp
    rcases List.mem_cons.mp hp with rfl | hp
    · exact ⟨hln,⟨_,hL,(by simp)⟩,_,(Heap.Ns.new s.heap (.type "frame")).keeps (pushCells_keeps _ _),fun i x v q_ hv=>by rw [List.getElem?_map] at hv;cases hq:lnames[i]? <;> rw [hq] at hv <;> cases hv⟩
    · obtain ⟨q,hq,rfl⟩:=List.mem_map.mp hp
      obtain ⟨⟨o,e,dd⟩,_⟩:=ok.empty q.1 q.2 hq
      exact ⟨o,none,e,dd,fun d hd=>by cases hd⟩
  obtain ⟨I₁,S₁⟩:=I.makes (k:=s.toks) (h':=(pushCells (s.heap.push {cls:=.type "frame", data:=.dict #[] }) fd.scope.names)) ((s.heap.objs.size,O.ns true lnames (lnames.map fun q_=>none))::cellsOwn (cellsFrom (s.heap.objs.size+1) fd.scope.names []):Own) hk1 (Nat.le_of_lt (Heap.lt_size hL)) nd hc ho
  have I₂:Inv w B A.in1 _ _ _:=Inv.same (A':=A) (A:=A.in1) rfl I₁
  have rel2:RelDs s.heap N (ds++dd) (vs++dv):=rds.append (hdv _ _)
  have pins2:∀p∈zipP (ds++dd) (vs++dv) [],RelD (pushCells (s.heap.push {cls:=.type "frame", data:=.dict #[] }) fd.scope.names) _ p.1 p.2:=zipP_ok (fun p (h:p∈[])=>absurd h List.not_mem_nil) (S₁.relDs I rel2)
  have bb:=Wp.binds (w:=w) (B:=B) (A:=A.in1) (X:=fun q_ q_=>False) (P:=[]) (f:=fun x q_=>storeName (callEnvC fd s.heap.objs.size f) x.1 x.2 >>= fun q_=>pure (.yield ⟨⟩)) (fun q_ q_=>rfl) hb rel2.length
  refine wpAny_bind (wpAny_mono (bb _ _ I₂ pins2) (fun u s₂ hq=>?_) fun q_ q_ hq=>by obtain ⟨_,_,_,_,_,_,x⟩:=hq;exact x.elim)
  obtain ⟨N₂,o₂,_,S₂,I₂',_,q₂⟩:=hq
  refine wpAny_pure ⟨(hlim.keeps I₂'.stays),?_⟩
  subst q₂
  have I₃:Inv w B (A.deeper (callEnvC fd s.heap.objs.size f)) s₂ N₂ o₂:=by
    refine ⟨I₂'.stays,I₂'.hi,I₂'.lt,I₂'.owned,I₂'.nd,?_,I₂'.gens⟩
    rw [frs_deeper cx]
    obtain ⟨oL,e1,e2,e3⟩:=S₂.nf _ _ hL (fun vs q=>by cases q) rfl
    exact ⟨by show fd.scope.kind≠.module;rw [hk];decide,⟨_,oL,rfl,I.fresh (Nat.le_refl _),e1,e2,e3⟩,I₂'.frames⟩
  have S₃:=S₁.trans S₂
  refine codeAny_func (wpAny_mono (hw s₂ N₂ I₃ fun p (h:p∈[])=>absurd h List.not_mem_nil) (fun fl s' hq=>?_) fun e s' hq=>by
    obtain ⟨N',o',x,S',I',rfl,q⟩:=hq
    exact hX _ s' N' o' x I' q _ _ fun s₆ N₆ o₆ S₆ I₆ q₆=>⟨N₆,o₆,x,(S₃.trans S').trans S₆,I₆.back (frs_deeper cx),rfl,q₆⟩)
  obtain ⟨N',o',b,S',I',r,q⟩:=hq
  have I'':=I'.back (frs_deeper cx)
  have S'':=S₃.trans S'
  cases b with
  | ret d =>
    obtain ⟨v,e,rv⟩:=r
    subst e
    obtain ⟨d',o'',y,q⟩:=q
    exact Post.yield S'' I'' rv y q
  | next =>
    have e:fl=.next:=r
    subst e
    obtain ⟨d',o'',y,q⟩:=q
    exact Post.yield (d:=.none) S'' I'' rfl y q
  | brk =>
    have e:fl=.brk:=r
    subst e
    obtain ⟨d',o'',y,q⟩:=q
    exact Post.yield (d:=.none) S'' I'' rfl y q
  | cont =>
    have e:fl=.cont:=r
    subst e
    obtain ⟨d',o'',y,q⟩:=q
    exact Post.yield (d:=.none) S'' I'' rfl y q
end
section
variable {w:World}{B:Heap}{A:Around}{own own':Own}{P:Pins}{X:Addr→Own→Prop}{env:Env}{Q:D→Own→Prop}{QB:Bool→Own→Prop}{QF:Fl→Own→Prop}{Qs:List D→Own→Prop}{s:Shared}{N:Addr→Prop}
noncomputable def KeepOk (w:World) (B:Heap) (f:Value):Prop:=∀h:Heap,(∀b o,B.get? b=some o→h.get? b=some o)→∃k,(k=Keeper.frame∨k=Keeper.machine∨k=Keeper.boundFrame)∧Looks (model PG w) h (keeperOf f) k
theorem KeepOk.builtin (id:String):KeepOk w B (.builtin id):=fun h q_=>⟨.machine,.inr (.inl rfl),fun q_ q_ q_ q_ q_ q=>wpAny_pure q⟩
theorem KeepOk.type (id:String):KeepOk w B (.type id):=fun h q_=>⟨.machine,.inr (.inl rfl),fun q_ q_ q_ q_ q_ q=>wpAny_pure q⟩
theorem KeepOk.K {K:Frag}{f:Value}(hK:K.In B) (h:keepIn K f=true):KeepOk w B f:=fun g hg=>keeps_K h g (hK.keeps hg)
theorem Wp.callWith0 {f:Value}{first:List Value}{ds:List D}{pos:Pos}(hk:KeepOk w B f) (hl:first.length=ds.length) (h:Call w B A f ds own Q X) (hP:∀p∈zipP ds first [],p∈P) :
    Wp w B A RV P own (callWith pos f first (backTo pos (starEach [] env)) (backToKw pos (keywordEach [] env))) Q X:=fun s N I hp=>by
  refine callWith_of (P:=fun g=>∀b o,B.get? b=some o→g.get? b=some o) rfl hk (evalArgs_nil3 ⟨I.stays,?_⟩)
  rw [List.append_nil]
  exact h [] first hl s N I fun p hm=>hp p (hP p hm)
theorem zipP_append:∀{ds:List D}{vs:List Value}{ds':List D}{vs':List Value}{P:Pins},vs.length=ds.length→zipP (ds++ds') (vs++vs') P=zipP ds vs (zipP ds' vs' P)
  | [],[],_,_,_,_=>rfl
  | d::ds,v::vs,_,_,_,h=>by
    exact congrArg ((d,v)::·) (zipP_append (ds:=ds) (vs:=vs) (by simpa using h))
  | [],_::_,_,_,_,h=>by cases h
  | _::_,[],_,_,_,h=>by cases h
theorem zipP_two {ds:List D}{vs:List Value}{ds':List D}{vs':List Value}{P:Pins}{p:D×Value}:p∈zipP ds vs (zipP ds' vs' P)→p∈zipP ds vs []∨p∈zipP ds' vs' P:=by
  induction ds generalizing vs with
  | nil=>exact .inr
  | cons d ds ih=>cases vs with
    | nil=>exact .inr
    | cons v vs =>
      intro h
      rcases List.mem_cons.mp h with rfl | h
      · exact .inl (.head _)
      · exact (ih h).imp (.tail _) id
theorem Wp.callWith1 {f:Value}{first:List Value}{ds:List D}{e:Expr}{r:List Expr}{pos:Pos}(hk:KeepOk w B f) (hl:first.length=ds.length) (he:starEach (e::r) env=(false,eval e env)::starEach r env) (hpl:(backTo pos (starEach r env)).any (·.1)=false)
    (h:Wp w B A RVs P own (spliced (backTo pos (starEach (e::r) env))) (fun ds' o=>Call w B A f (ds++ds') o Q X) X) (hP:∀p∈zipP ds first [],p∈P) :
    Wp w B A RV P own (callWith pos f first (backTo pos (starEach (e::r) env)) (backToKw pos (keywordEach [] env))) Q X:=fun s N I hp=>by
  rw [he] at h ⊢
  refine callWith_of (P:=fun g=>∀b o,B.get? b=some o→g.get? b=some o) (by show ((false || (backTo pos (starEach r env)).any (·.1)) || false)=false;rw [hpl];rfl) hk (evalArgs_plain (wpAny_mono (h s N I hp) (fun vs s₁ ⟨N₁,o₁,ds',S,I₁,r₁,q⟩=>⟨I₁.stays,?_⟩) fun q_ q_ x=>x))
  have pins:=S.pins I hp
  refine wpAny_mono (q [] (first++vs) (by rw [List.length_append,List.length_append,hl,r₁.length]) s₁ N₁ I₁ fun p hm=>?_) (fun q_ q_=>Post.after S) fun q_ q_=>PostX.after S
  rw [zipP_append hl] at hm
  rcases zipP_two hm with hm | hm
  · exact pins p (hP p hm)
  · exact zipP_ok (fun p (h:p∈[])=>absurd h List.not_mem_nil) r₁ p hm
theorem Wp.eCall0 {f:Expr}{pos} (hf:eval (.Call f [] [] pos) env=(eval f env >>= fun v=>callWith pos v [] (backTo pos (starEach [] env)) (backToKw pos (keywordEach [] env))))
    (h:Wp w B A RV P own (eval f env) (fun df o=>∃fv,df=.cst fv∧KeepOk w B fv∧Call w B A fv [] o Q X) X):Wp w B A RV P own (eval (.Call f [] [] pos) env) Q X:=by
  rw [hf]
  refine Wp.bindV (h.mono (fun df o hh a s N I hp=>?_) fun q_ q_ x=>x)
  obtain ⟨fv,e,hk,q⟩:=hh
  subst e
  have ea:a=fv:=hp _ (.head _)
  subst ea
  exact Wp.callWith0 (ds:=[]) hk rfl q (fun p h=>absurd h List.not_mem_nil) s N I hp
theorem Wp.eCall {f e:Expr}{r:List Expr}{pos} (hf:eval (.Call f (e::r) [] pos) env=(eval f env >>= fun v=>callWith pos v [] (backTo pos (starEach (e::r) env)) (backToKw pos (keywordEach [] env))))
    (he:starEach (e::r) env=(false,eval e env)::starEach r env) (hpl:(backTo pos (starEach r env)).any (·.1)=false)
    (h:Wp w B A RV P own (eval f env) (fun df o=>∃fv,df=.cst fv∧KeepOk w B fv∧Wp w B A RVs P o (spliced (backTo pos (starEach (e::r) env))) (fun ds o'=>Call w B A fv ds o' Q X) X) X):Wp w B A RV P own (eval (.Call f (e::r) [] pos) env) Q X:=by
  rw [hf]
  refine Wp.bindV (h.mono (fun df o hh a s N I hp=>?_) fun q_ q_ x=>x)
  obtain ⟨fv,e',hk,q⟩:=hh
  subst e'
  have ea:a=fv:=hp _ (.head _)
  subst ea
  exact Wp.callWith1 (ds:=[]) hk rfl he hpl (q.pins fun p hm=>.tail _ hm) (fun p h=>absurd h List.not_mem_nil) s N I hp
noncomputable def Meth (w:World) (B:Heap) (A:Around) (d:D) (own:Own) (name:Str) (f:Value):Prop :=
  ∀s N v,Inv w B A s N own→RelD s.heap N d v→∀(pl:Sem Bool) (Q:Value×List Value→Shared→Prop) (E:Value→Shared→Prop),Q (f,[v]) s→wpAny (model PG w) A (getMethod v name pl) Q E s
theorem methodCall_eq {o:Expr}{name:Str}{apos pos:Pos}{v:Value}{n:Nat}{args:List (Bool×Sem Value)}(hform:methodCallForm n args []=true) (hline:(apos.endLine == pos.line)=true) :
    methodCall o name apos pos env v n args []=(PySem.holding [v] (getMethod v name (do return (← importBound o env).getD true)) >>= fun p=>pure pos >>= fun cp=>callWith cp p.1 p.2 args []):=by
  unfold methodCall
  rw [hform]
  unfold calleeOf methodCallPos
  simp only [hline,if_true,Bool.or_true,Bool.not_true,Bool.false_or]
theorem Wp.eMeth0 {o:Expr}{name:Str}{apos pos:Pos}(hb:attributeBase o name env (eval o env)=eval o env) (hline:(apos.endLine == pos.line)=true)
    (h:Wp w B A RV P own (eval o env) (fun d o₁=>∃f,Meth w B A d o₁ name f∧KeepOk w B f∧Call w B A f [d] o₁ Q X) X):Wp w B A RV P own (eval (.Call (.Attribute o name apos) [] [] pos) env) Q X:=by
  have e:eval (.Call (.Attribute o name apos) [] [] pos) env=(attributeBase o name env (eval o env) >>= fun ov=>PySem.standAt apos.atName >>= fun q_=>methodCall o name apos pos env ov 0 (backTo pos (starEach [] env)) (backToKw pos (keywordEach [] env))):=rfl
  rw [e,hb]
  refine Wp.bindV (h.mono (fun d o₁ hq a=>Wp.standAt ?_) fun q_ q_ x=>x)
  obtain ⟨f,hm,hk,q⟩:=hq
  show Wp w B A RV _ o₁ (methodCall o name apos pos env a 0 (backTo pos (starEach [] env)) []) Q X
  rw [methodCall_eq rfl hline]
  intro s N I hp
  refine wpAny_bind (wpAny_holding (hm s N a I (hp _ (.head _)) _ _ _ (wpAny_bind (wpAny_pure ?_))))
  exact Wp.callWith0 (first:=[a]) (ds:=[d]) (P:=(d,a)::P) hk rfl q (fun p h=>by
    rcases List.mem_cons.mp h with rfl | h
    · exact .head _
    · exact absurd h List.not_mem_nil) s N I hp
theorem Wp.eMeth {o e:Expr}{r:List Expr}{name:Str}{apos pos:Pos}(hb:attributeBase o name env (eval o env)=eval o env) (hline:(apos.endLine == pos.line)=true)
    (hform:methodCallForm (r.length+1) (backTo pos (starEach (e::r) env)) []=true)
    (he:starEach (e::r) env=(false,eval e env)::starEach r env) (hpl:(backTo pos (starEach r env)).any (·.1)=false)
    (h:Wp w B A RV P own (eval o env) (fun d o₁=>∃f,Meth w B A d o₁ name f∧KeepOk w B f∧∀a,Wp w B A RVs ((d,a)::P) o₁ (spliced (backTo pos (starEach (e::r) env))) (fun ds o₂=>Call w B A f (d::ds) o₂ Q X) X) X) :
    Wp w B A RV P own (eval (.Call (.Attribute o name apos) (e::r) [] pos) env) Q X:=by
  have e':eval (.Call (.Attribute o name apos) (e::r) [] pos) env=(attributeBase o name env (eval o env) >>= fun ov=>PySem.standAt apos.atName >>= fun q_=>methodCall o name apos pos env ov ((e::r).length+0) (backTo pos (starEach (e::r) env)) (backToKw pos (keywordEach [] env))):=rfl
  rw [e',hb]
  refine Wp.bindV (h.mono (fun d o₁ hq a=>Wp.standAt ?_) fun q_ q_ x=>x)
  obtain ⟨f,hm,hk,q⟩:=hq
  show Wp w B A RV _ o₁ (methodCall o name apos pos env a (r.length+1) (backTo pos (starEach (e::r) env)) []) Q X
  rw [methodCall_eq hform hline]
  intro s N I hp
  refine wpAny_bind (wpAny_holding (hm s N a I (hp _ (.head _)) _ _ _ (wpAny_bind (wpAny_pure ?_))))
  exact Wp.callWith1 (first:=[a]) (ds:=[d]) (P:=(d,a)::P) hk rfl he hpl (q a) (fun p h=>by
    rcases List.mem_cons.mp h with rfl | h
    · exact .head _
    · exact absurd h List.not_mem_nil) s N I hp
end
section
open Builtin in
theorem plainAttrs_bytes:PlainAttrs "bytes" :=
  ⟨⟨"bytes.__getattribute__", by rw [typeLookup_type,builtinLookup_eq_fast];kernel_rfl,by decide +kernel⟩,by rw [typeLookup_type,builtinLookup_eq_fast];kernel_rfl⟩
theorem slot_bytes_strip:Slot "bytes" "strip" "bytes.strip" :=
  .of (owner := "bytes") (n := "strip") (by rw [typeLookup_type,builtinLookup_eq_fast];kernel_rfl) (by decide +kernel) (by decide +kernel) (by decide +kernel)
    (by first | exact .inl (by decide +kernel) | exact .inr (by decide +kernel)) (by rw [isSubtype_type];kernel_rfl)
theorem entry_bytes_strip:entryFor table "bytes.strip" = some Builtin.«bytes.strip»:=entryFor_of_tree (by kernel_rfl)
theorem type_bytes_strip:typeOf (.builtin "bytes.strip")=pure (.type "method_descriptor"):=by show builtinType _=_;rw [builtinType_eq_fast];kernel_rfl
theorem args_bytes_strip (a b:Value):argsOk "bytes.strip" ⟨[a,b],[]⟩:=by
  unfold argsOk;rw [signature?_of (id := "bytes.strip") (n:=['p','i','r','t','s']) (o:=['s','e','t','y','b']) (by kernel_rfl) FB.owner_bytes];kernel_rfl
theorem slot_bytes_split:Slot "bytes" "split" "bytes.split" :=
  .of (owner := "bytes") (n := "split") (by rw [typeLookup_type,builtinLookup_eq_fast];kernel_rfl) (by decide +kernel) (by decide +kernel) (by decide +kernel)
    (by first | exact .inl (by decide +kernel) | exact .inr (by decide +kernel)) (by rw [isSubtype_type];kernel_rfl)
theorem entry_bytes_split:entryFor table "bytes.split" = some Builtin.«bytes.split»:=entryFor_of_tree (by kernel_rfl)
theorem type_bytes_split:typeOf (.builtin "bytes.split")=pure (.type "method_descriptor"):=by show builtinType _=_;rw [builtinType_eq_fast];kernel_rfl
theorem args_bytes_split (a b:Value):argsOk "bytes.split" ⟨[a,b],[]⟩:=by
  unfold argsOk;rw [signature?_of (id := "bytes.split") (n:=['t','i','l','p','s']) (o:=['s','e','t','y','b']) (by kernel_rfl) FB.owner_bytes];kernel_rfl
theorem slot_bytes_partition:Slot "bytes" "partition" "bytes.partition" :=
  .of (owner := "bytes") (n := "partition") (by rw [typeLookup_type,builtinLookup_eq_fast];kernel_rfl) (by decide +kernel) (by decide +kernel) (by decide +kernel)
    (by first | exact .inl (by decide +kernel) | exact .inr (by decide +kernel)) (by rw [isSubtype_type];kernel_rfl)
theorem entry_bytes_partition:entryFor table "bytes.partition" = some Builtin.«bytes.partition»:=entryFor_of_tree (by kernel_rfl)
theorem type_bytes_partition:typeOf (.builtin "bytes.partition")=pure (.type "method_descriptor"):=by show builtinType _=_;rw [builtinType_eq_fast];kernel_rfl
theorem args_bytes_partition (a b:Value):argsOk "bytes.partition" ⟨[a,b],[]⟩:=by
  unfold argsOk;rw [signature?_of (id := "bytes.partition") (n:=['n','o','i','t','i','t','r','a','p']) (o:=['s','e','t','y','b']) (by kernel_rfl) FB.owner_bytes];kernel_rfl
theorem slot_bytes_replace:Slot "bytes" "replace" "bytes.replace" :=
  .of (owner := "bytes") (n := "replace") (by rw [typeLookup_type,builtinLookup_eq_fast];kernel_rfl) (by decide +kernel) (by decide +kernel) (by decide +kernel)
    (by first | exact .inl (by decide +kernel) | exact .inr (by decide +kernel)) (by rw [isSubtype_type];kernel_rfl)
theorem entry_bytes_replace:entryFor table "bytes.replace" = some Builtin.«bytes.replace»:=entryFor_of_tree (by kernel_rfl)
theorem type_bytes_replace:typeOf (.builtin "bytes.replace")=pure (.type "method_descriptor"):=by show builtinType _=_;rw [builtinType_eq_fast];kernel_rfl
theorem args_bytes_replace (a b c:Value):argsOk "bytes.replace" ⟨[a,b,c],[]⟩:=by
  unfold argsOk;rw [signature?_of (id := "bytes.replace") (n:=['e','c','a','l','p','e','r']) (o:=['s','e','t','y','b']) (by kernel_rfl) FB.owner_bytes];kernel_rfl
theorem slot_bytes_find:Slot "bytes" "find" "bytes.find" :=
  .of (owner := "bytes") (n := "find") (by rw [typeLookup_type,builtinLookup_eq_fast];kernel_rfl) (by decide +kernel) (by decide +kernel) (by decide +kernel)
    (by first | exact .inl (by decide +kernel) | exact .inr (by decide +kernel)) (by rw [isSubtype_type];kernel_rfl)
theorem entry_bytes_find:entryFor table "bytes.find" = some Builtin.«bytes.find»:=entryFor_of_tree (by kernel_rfl)
theorem type_bytes_find:typeOf (.builtin "bytes.find")=pure (.type "method_descriptor"):=by show builtinType _=_;rw [builtinType_eq_fast];kernel_rfl
theorem args_bytes_find (a b:Value):argsOk "bytes.find" ⟨[a,b],[]⟩:=by
  unfold argsOk;rw [signature?_of (id := "bytes.find") (n:=['d','n','i','f']) (o:=['s','e','t','y','b']) (by kernel_rfl) FB.owner_bytes];kernel_rfl
theorem slot_bytes_join:Slot "bytes" "join" "bytes.join" :=
  .of (owner := "bytes") (n := "join") (by rw [typeLookup_type,builtinLookup_eq_fast];kernel_rfl) (by decide +kernel) (by decide +kernel) (by decide +kernel)
    (by first | exact .inl (by decide +kernel) | exact .inr (by decide +kernel)) (by rw [isSubtype_type];kernel_rfl)
theorem entry_bytes_join:entryFor table "bytes.join" = some Builtin.«bytes.join»:=entryFor_of_tree (by kernel_rfl)
theorem type_bytes_join:typeOf (.builtin "bytes.join")=pure (.type "method_descriptor"):=by show builtinType _=_;rw [builtinType_eq_fast];kernel_rfl
theorem args_bytes_join (a b:Value):argsOk "bytes.join" ⟨[a,b],[]⟩:=by
  unfold argsOk;rw [signature?_of (id := "bytes.join") (n:=['n','i','o','j']) (o:=['s','e','t','y','b']) (by kernel_rfl) FB.owner_bytes];kernel_rfl
end
section
open Builtin.Bytes (occurrences between joined)
noncomputable def splitB (c:UInt8):List UInt8→List (List UInt8)
  | []=>[[]]
  | x::r=>if x=c then []::splitB c r else match splitB c r with
    | []=>[[x]]
    | h::t=>(x::h)::t
theorem splitB_hit {c:UInt8}{r:List UInt8}:splitB c (c::r)=[]::splitB c r:=if_pos rfl
theorem splitB_miss {c x:UInt8}{r h:List UInt8}{t:List (List UInt8)}(hx:x≠c) (e:splitB c r=h::t):splitB c (x::r)=(x::h)::t :=
  (if_neg hx).trans (by rw [e])
theorem splitB_ind {c:UInt8}{M:List UInt8→List UInt8→List (List UInt8)→Prop}(h0:M [] [] []) (h1:∀r h t,M r h t→M (c::r) [] (h::t)) (h2:∀x r h t,x≠c→M r h t→M (x::r) (x::h) t) (l:List UInt8):∃h t,splitB c l=h::t∧M l h t:=by
  induction l with
  | nil=>exact ⟨_,_,rfl,h0⟩
  | cons x r ih =>
    obtain ⟨h,t,e,m⟩:=ih
    by_cases hx:x=c
    · subst hx;exact ⟨_,_,splitB_hit,e▸h1 r h t m⟩
    · exact ⟨_,_,splitB_miss hx e,h2 x r h t hx m⟩
noncomputable def posB (c:UInt8):Nat→List UInt8→List Nat
  | _,[]=>[]
  | k,x::r=>if x=c then k::posB c (k+1) r else posB c (k+1) r
theorem ext1 {l:List UInt8}{i:Nat}{c:UInt8}:(l.toArray.extract i (i+1) == #[c])=(l[i]? == some c):=by
  have e:l.toArray.extract i (i+1)=((l.drop i).take 1).toArray:=by rw [List.extract_toArray,List.extract_eq_take_drop,Nat.add_sub_cancel_left]
  have:(l.toArray.extract i (i+1) == #[c])=((l.drop i).take 1 == [c]):=by rw [e];exact List.beq_toArray ..
  rw [this,← List.head?_drop]
  cases l.drop i with
  | nil=>rfl
  | cons x r=>exact Bool.and_true _
noncomputable def stepB (b sub:Array UInt8) (acc:List Nat×Nat) (i:Nat):List Nat×Nat:=if i ≥ acc.2 && b.extract i (i+sub.size) == sub then (i::acc.1,i+sub.size) else acc
theorem occ_fold (l:List UInt8) (c:UInt8):∀(r:List UInt8) (k:Nat) (acc:List Nat×Nat),(∀j,r[j]?=l[k+j]?)→acc.2≤k→k+r.length=l.length →
    ((List.range' k r.length).foldl (stepB l.toArray #[c]) acc).1=(posB c k r).reverse++acc.1
  | [],k,acc,_,_,_=>rfl
  | x::r,k,acc,h,ha,hl=>by
    rw [List.length_cons,List.range'_succ,List.foldl_cons]
    have hx:l[k]?=some x:=by have:=h 0;simpa using this.symm
    have hs:stepB l.toArray #[c] acc k=if x=c then (k::acc.1,k+1) else acc:=by
      unfold stepB
      have e1:decide (k ≥ acc.2)=true:=decide_eq_true ha
      show (if (decide (k ≥ acc.2) && (l.toArray.extract k (k+1) == #[c]))=true then (k::acc.1,k+1) else acc)=_
      rw [e1,ext1,hx,Bool.true_and]
      by_cases hc:x=c <;> simp [hc]
    rw [hs]
    have h':∀j,r[j]?=l[k+1+j]?:=fun j=>by have:=h (j+1);rw [show k+(j+1)=k+1+j by lia] at this;simpa using this
    have hl':k+1+r.length=l.length:=by simp at hl;lia
    by_cases hc:x=c
    · rw [if_pos hc,occ_fold l c r (k+1) _ h' (Nat.le_refl _) hl']
      simp [posB,hc]
    · rw [if_neg hc,occ_fold l c r (k+1) _ h' (Nat.le_succ_of_le ha) hl']
      simp [posB,hc]
theorem occ_eq (l:List UInt8) (c:UInt8):occurrences l.toArray #[c] 0 l.length=posB c 0 l:=by
  unfold occurrences
  show ((((List.range (l.length+1-(0+1))).map (·+0)).foldl (stepB l.toArray #[c]) ([],0)).1).reverse=_
  have e:(List.range (l.length+1-(0+1))).map (·+0)=List.range' 0 l.length:=by
    simp [List.range_eq_range']
  rw [e,occ_fold l c l 0 ([],0) (fun j=>by simp) (Nat.le_refl _) (by simp)]
  simp
noncomputable def betweenL (l:List UInt8) (width:Nat):Nat→List Nat→List (List UInt8)
  | last,[]=>[(l.drop last)]
  | last,p::r=>(l.drop last).take (p-last)::betweenL l width (p+width) r
theorem between_fold (l:List UInt8) (width:Nat):∀(places:List Nat) (parts:Array (Array UInt8)) (last:Nat),
    (let x:=places.foldl (fun (x:Array (Array UInt8)×Nat) p=>(x.1.push (l.toArray.extract x.2 p),p+width)) (parts,last);(x.1.push (l.toArray.extract x.2 l.length)).toList)=parts.toList++(betweenL l width last places).map List.toArray
  | [],parts,last=>by
    simp only [List.foldl_nil,betweenL,List.map_cons,List.map_nil,Array.toList_push]
    congr 2
    apply Array.ext'
    simp [List.extract,List.take_of_length_le]
  | p::r,parts,last=>by
    simp only [List.foldl_cons]
    have:=between_fold l width r (parts.push (l.toArray.extract last p)) (p+width)
    simp only at this
    rw [this]
    simp only [betweenL,List.map_cons,Array.toList_push,List.append_assoc,List.singleton_append]
    congr 2
    apply Array.ext'
    simp [List.extract]
theorem between_eq (l:List UInt8) (width:Nat) (places:List Nat):between l.toArray width places=(betweenL l width 0 places).map List.toArray:=by
  have:=between_fold l width places #[] 0
  simpa [between] using this
theorem split_pos (c:UInt8) (l:List UInt8) (r:List UInt8):∀(k last:Nat),last≤k→l.drop k=r→∃h t,splitB c r=h::t∧betweenL l 1 last (posB c k r)=((l.drop last).take (k-last)++h)::t:=by
  induction r with
  | nil =>
    refine fun k last hk hr=>⟨_,_,rfl,?_⟩
    show [l.drop last]=_
    rw [List.append_nil,List.take_of_length_le]
    have:l.length≤k:=List.drop_eq_nil_iff.mp hr
    rw [List.length_drop]
    exact Nat.sub_le_sub_right this last
  | cons x r ih =>
    intro k last hk hr
    have hr':l.drop (k+1)=r:=by rw [← List.drop_drop,hr];rfl
    by_cases hc:x=c
    · subst hc
      obtain ⟨h,t,e,m⟩:=ih (k+1) (k+1) (Nat.le_refl _) hr'
      refine ⟨_,_,splitB_hit.trans (congrArg _ e),?_⟩
      rw [posB,if_pos rfl,List.append_nil]
      refine (congrArg (_::·) m).trans ?_
      rw [Nat.sub_self];rfl
    · obtain ⟨h,t,e,m⟩:=ih (k+1) last (Nat.le_succ_of_le hk) hr'
      refine ⟨_,_,splitB_miss hc e,?_⟩
      rw [posB,if_neg hc,m,Nat.succ_sub hk,List.take_add_one,List.getElem?_drop,Nat.add_sub_cancel' hk,← List.head?_drop,hr,List.append_assoc];rfl
theorem split_eq (c:UInt8) (l:List UInt8):between l.toArray 1 (posB c 0 l)=(splitB c l).map List.toArray:=by
  obtain ⟨h,t,e,m⟩:=split_pos c l l 0 0 (Nat.le_refl _) rfl
  rw [between_eq,m,e];rfl
theorem posB_nil {c:UInt8}{l:List UInt8}:∀{k:Nat},posB c k l=[]→splitB c l=[l]:=by
  induction l with
  | nil=>exact fun q_=>rfl
  | cons x r ih =>
    intro k h
    by_cases hc:x=c
    · rw [posB,if_pos hc] at h;cases h
    · rw [posB,if_neg hc] at h
      exact splitB_miss hc (ih h)
theorem find_range (l:List UInt8) (c:UInt8):∀(r:List UInt8) (k:Nat),l.drop k=r→(List.range' k r.length).find? (fun i=>l[i]? == some c)=(r.findIdx? (· == c)).map (·+k)
  | [],k,_=>rfl
  | x::r,k,hr=>by
    have hr':l.drop (k+1)=r:=by rw [← List.drop_drop,hr];rfl
    have hx:l[k]?=some x:=by
      have:=congrArg (fun z:List UInt8=>z[0]?) hr
      simpa [List.getElem?_drop] using this
    rw [List.length_cons,List.range'_succ,List.find?_cons,hx,List.findIdx?_cons]
    by_cases hc:x=c
    · simp [hc]
    · have h1:(some x == some c)=false:=by simp [hc]
      have h2:(x == c)=false:=by simp [hc]
      rw [h1,h2]
      simp only [Bool.false_eq_true,if_false]
      rw [find_range l c r (k+1) hr']
      cases r.findIdx? (· == c) with
      | none=>rfl
      | some i=>simp;lia
theorem find_eq (l:List UInt8) (c:UInt8):Builtin.Bytes.find? l.toArray #[c] 0 l.length=l.findIdx? (· == c):=by
  unfold Builtin.Bytes.find?
  have e:(List.range (l.length+1-(0+(#[c]:Array UInt8).size))).map (·+0)=List.range' 0 l.length:=by
    simp [List.range_eq_range']
  rw [e]
  have:=find_range l c l 0 rfl
  rw [Option.map_congr (g:=id) (fun a q_=>Nat.add_zero a),Option.map_id] at this
  refine Eq.trans ?_ this
  congr 1
  funext i
  exact ext1
noncomputable def findL (c:UInt8) (l:List UInt8):Int:=match l.findIdx? (· == c) with | some i=>i | none=>-1
noncomputable def partL (c:UInt8) (l:List UInt8):List UInt8×List UInt8×List UInt8:=match l.findIdx? (· == c) with | some i=>(l.take i,[c],l.drop (i+1)) | none=>(l,[],[])
noncomputable def joinL (sep:List UInt8):List (List UInt8)→List UInt8
  | []=>[]
  | [x]=>x
  | x::y::r=>x++sep++joinL sep (y::r)
theorem joined_fold (sep:List UInt8):∀(r:List (List UInt8)) (k:Nat) (out:Array UInt8),0<k→(((r.map List.toArray).zipIdx k).foldl (fun out (p:Array UInt8×Nat)=>(if p.2 > 0 then out++sep.toArray else out)++p.1) out)=out++(r.flatMap (sep++·)).toArray
  | [],k,out,_=>by simp
  | x::r,k,out,hk=>by
    simp only [List.map_cons,List.zipIdx_cons,List.foldl_cons]
    rw [if_pos hk,joined_fold sep r (k+1) _ (Nat.succ_pos _)]
    simp
theorem joinL_cons (sep x:List UInt8) (r:List (List UInt8)):joinL sep (x::r)=x++r.flatMap (sep++·):=by
  induction r generalizing x with
  | nil=>simp [joinL]
  | cons y r ih=>simp only [joinL,ih y,List.flatMap_cons,List.append_assoc]
theorem joined_eq (sep:List UInt8) (parts:List (List UInt8)):Builtin.Bytes.joined sep.toArray (parts.map List.toArray)=(joinL sep parts).toArray:=by
  unfold Builtin.Bytes.joined
  cases parts with
  | nil=>rfl
  | cons x r =>
    rw [List.map_cons,List.zipIdx_cons,List.foldl_cons]
    have e:(if 0 > 0 then (#[]:Array UInt8)++sep.toArray else #[])++x.toArray=x.toArray:=by simp
    show List.foldl (fun out (p:Array UInt8×Nat)=>(if p.2 > 0 then out++sep.toArray else out)++p.1) ((if 0 > 0 then (#[]:Array UInt8)++sep.toArray else #[])++x.toArray) _=_
    rw [e,joined_fold sep r 1 _ Nat.one_pos,joinL_cons]
    simp
end
section
variable {w:World}{B:Heap}{A:Around}{own own':Own}{P:Pins}{X:Addr→Own→Prop}{env:Env}{Q:D→Own→Prop}{s:Shared}{N:Addr→Prop}
theorem Meth.bytes {name:Str}{id:String}{l:List UInt8}(slot:Slot "bytes" name id) (ty:typeOf (.builtin id)=pure (.type "method_descriptor")):Meth w B A (.bytes l) own name (.builtin id):=fun s N v I r pl Q E h=>by
  obtain ⟨t,rfl⟩:=r
  exact getMethod_builtin (typeIs_bytes s _ t) plainAttrs_bytes slot ty (fun q_ e=>nomatch e) h
theorem Meth.list {name:Str}{id:String}{c:Addr}{l:List D}(ho:Has own c (.list l)) (slot:Slot "list" name id) (ty:typeOf (.builtin id)=pure (.type "method_descriptor")):Meth w B A (.ref c) own name (.builtin id):=fun s N v I r pl Q E h=>by
  have e:v=.ref c:=r
  subst e
  obtain ⟨_,items,n,e,_⟩:=I.owned _ ho.mem
  exact getMethod_builtin ⟨_,e,rfl⟩ F.plainAttrs_list slot ty (fun q_ e'=>by cases e';exact ⟨_,e,rfl⟩) h
theorem Meth.str {name:Str}{id:String}{l:List Nat}(slot:Slot "str" name id) (ty:typeOf (.builtin id)=pure (.type "method_descriptor")):Meth w B A (.str l) own name (.builtin id):=fun s N v I r pl Q E h=>by
  obtain ⟨t,rfl⟩:=r
  exact getMethod_builtin (typeIs_str s _ t) F.plainAttrs_str slot ty (fun q_ e=>nomatch e) h
theorem Meth.td {name:Str}{id:String}{c:Addr}{l:List (List Int×D)}(ho:Has own c (.td l)) (slot:Slot "dict" name id) (ty:typeOf (.builtin id)=pure (.type "method_descriptor")):Meth w B A (.ref c) own name (.builtin id):=fun s N v I r pl Q E h=>by
  have e:v=.ref c:=r
  subst e
  obtain ⟨_,xs,n,e,_⟩:=I.owned _ ho.mem
  exact getMethod_builtin ⟨_,e,rfl⟩ F.plainAttrs_dict slot ty (fun q_ e'=>by cases e';exact ⟨_,e,rfl⟩) h
theorem Meth.idict {name:Str}{id:String}{c:Addr}{l:List (Int×D)}(ho:Has own c (.idict l)) (slot:Slot "dict" name id) (ty:typeOf (.builtin id)=pure (.type "method_descriptor")):Meth w B A (.ref c) own name (.builtin id):=fun s N v I r pl Q E h=>by
  have e:v=.ref c:=r
  subst e
  obtain ⟨_,kvs,hm,_⟩:=I.owned _ ho.mem
  exact getMethod_builtin hm.typeIs F.plainAttrs_dict slot ty hm.mapOf.noDict h
theorem Call.of1 {f:Value}{d:D}(h:∀s N v,Inv w B A s N own→RelD s.heap N d v→wpAny (model PG w) A (call f [v]) (Post w B A RV s N own Q) (PostX w B A s N own X) s):Call w B A f [d] own Q X:=fun P vs hl=>by
  refine len1 (p:=fun vs=>Wp w B A RV (zipP [d] vs P) own (call f vs) Q X) hl fun v=>?_
  exact fun s N I hp=>h s N v I (hp _ (.head _))
theorem Call.of2 {f:Value}{d d':D}(h:∀s N v v',Inv w B A s N own→RelD s.heap N d v→RelD s.heap N d' v'→wpAny (model PG w) A (call f [v,v']) (Post w B A RV s N own Q) (PostX w B A s N own X) s):Call w B A f [d,d'] own Q X:=fun P vs hl=>by
  refine len2 (p:=fun vs=>Wp w B A RV (zipP [d,d'] vs P) own (call f vs) Q X) hl fun v v'=>?_
  exact fun s N I hp=>h s N v v' I (hp _ (.head _)) (hp _ (.tail _ (.head _)))
theorem Call.of3 {f:Value}{d d' d'':D}(h:∀s N v v' v'',Inv w B A s N own→RelD s.heap N d v→RelD s.heap N d' v'→RelD s.heap N d'' v''→wpAny (model PG w) A (call f [v,v',v'']) (Post w B A RV s N own Q) (PostX w B A s N own X) s):Call w B A f [d,d',d''] own Q X:=fun P vs hl=>by
  refine len3 (p:=fun vs=>Wp w B A RV (zipP [d,d',d''] vs P) own (call f vs) Q X) hl fun v v' v''=>?_
  exact fun s N I hp=>h s N v v' v'' I (hp _ (.head _)) (hp _ (.tail _ (.head _))) (hp _ (.tail _ (.tail _ (.head _))))
theorem bytesLike_eq {id:String}{b:Array UInt8}{t:Tok}:Builtin.Bytes.bytesLike id (.bytes b t)=pure b:=by
  unfold Builtin.Bytes.bytesLike;rw [KBy.buffer_eq];rfl
theorem bNew {M:Model}{A:Around}{E:Value→Shared→Prop}{s:Shared}{b:Array UInt8}{Q:Value→Shared→Prop}(hz:b.size≤16777216) (h:∀t,Q (.bytes b t) {s with toks:=s.toks+1 }):wpAny M A (Builtin.Bytes.Kind.bytes.new b) Q E s:=by
  show wpAny M A (mkBytes b) Q E s
  unfold mkBytes
  rw [if_neg (by rw [sizeLine_eq];lia)]
  exact wpAny_bind (wpAny_fresh' (wpAny_pure (h _)))
theorem bSame {M:Model}{A:Around}{E:Value→Shared→Prop}{s:Shared}{b:Array UInt8}{t:Tok}{Q:Value→Shared→Prop}(h:Q (.bytes b t) s):wpAny M A (Builtin.Bytes.Kind.bytes.same (.bytes b t)) Q E s:=wpAny_of_eq (a:=Value.bytes b t) rfl h
theorem Post.bytes {s:Shared}{N:Addr→Prop}{l:List UInt8}{b:Array UInt8}{t k:Tok}(I:Inv w B A s N own) (e:b=l.toArray) (h:Q (.bytes l) own):Post w B A RV s N own Q (.bytes b t) {s with toks:=k }:=Post.tok I (R:=RV) (b:=.bytes l) ⟨t,by rw [e]⟩ h
noncomputable def stripL (l c:List UInt8):List UInt8:=(((l.dropWhile c.contains).reverse).dropWhile c.contains).reverse
theorem stripL_le (l c:List UInt8):(stripL l c).length≤l.length:=by
  unfold stripL
  have h1:=(List.dropWhile_suffix (p:=c.contains) (l:=l)).length_le
  have h2:=(List.dropWhile_suffix (p:=c.contains) (l:=(l.dropWhile c.contains).reverse)).length_le
  simp only [List.length_reverse] at h2 ⊢
  lia
theorem stripL_same {l c:List UInt8}(h:(stripL l c).length=l.length):stripL l c=l:=by
  unfold stripL at h ⊢
  have s1:=List.dropWhile_suffix (p:=c.contains) (l:=l)
  have s2:=List.dropWhile_suffix (p:=c.contains) (l:=(l.dropWhile c.contains).reverse)
  have h1:=s1.length_le
  have h2:=s2.length_le
  simp only [List.length_reverse] at h2 h
  have e1:=s1.eq_of_length (by lia)
  rw [e1] at s2 h ⊢
  rw [s2.eq_of_length (by simp;lia),List.reverse_reverse]
theorem Call.bStrip {l c:List UInt8}(hz:l.length≤1048576) (h:Q (.bytes (stripL l c)) own):Call w B A (.builtin "bytes.strip") [.bytes l,.bytes c] own Q X:=Call.of2 fun s N v v' I ⟨t,e⟩ ⟨u,e'⟩=>by
  subst e e'
  refine wpAny_call_entry slot_bytes_strip (typeIs_bytes s _ t) entry_bytes_strip ?_ (args_bytes_strip _ _)
  unfold Builtin.«bytes.strip» Builtin.Bytes.stripM
  refine wpAny_bind (wpAny_of_eq (a:=(Value.bytes l.toArray t,[Value.bytes c.toArray u])) rfl ?_)
  dsimp only
  refine wpAny_bind ?_
  refine wpAny_of_eq bytesLike_eq ?_
  refine wpAny_bind (wpAny_pure ?_)
  refine wpAny_bind (wpAny_of_eq (a:=l.toArray) rfl ?_)
  simp only [if_true]
  have e:(List.dropWhile c.toArray.contains (List.dropWhile c.toArray.contains l.toArray.toList).reverse).reverse=stripL l c:=by
    unfold stripL
    have:(c.toArray.contains:UInt8→Bool)=c.contains:=by funext x;simp
    rw [this]
  rw [e]
  have hle:=stripL_le l c
  refine wpAny_ite ?_
  split
  · rename_i hq
    have hq:(stripL l c).length=l.length:=by simpa using hq
    rw [stripL_same hq] at h
    exact wpAny_bind (wpAny_rule (wpAny_bind (bSame (wpAny_pure ⟨_,rfl,Post.bytes I rfl h⟩))))
  · exact wpAny_bind (bNew (by simp;lia) fun t=>wpAny_pure ⟨_,rfl,Post.bytes I rfl h⟩)
theorem Call.bFind {l:List UInt8}{c:UInt8}(h:Q (.int (findL c l)) own):Call w B A (.builtin "bytes.find") [.bytes l,.bytes [c]] own Q X:=Call.of2 fun s N v v' I ⟨t,e⟩ ⟨u,e'⟩=>by
  subst e e'
  refine wpAny_call_entry slot_bytes_find (typeIs_bytes s _ t) entry_bytes_find ?_ (args_bytes_find _ _)
  unfold Builtin.«bytes.find» Builtin.Bytes.searchM
  refine wpAny_bind ?_
  unfold Builtin.Bytes.searchArgs
  refine wpAny_bind (wpAny_of_eq (a:=(Value.bytes l.toArray t,[Value.bytes [c].toArray u])) rfl ?_)
  dsimp only
  refine wpAny_bind (wpAny_of_eq (a:=none) rfl ?_)
  refine wpAny_bind (wpAny_of_eq (a:=none) rfl ?_)
  refine wpAny_bind ?_
  refine wpAny_of_eq KBy.buffer_eq ?_
  refine wpAny_bind (wpAny_pure ?_)
  refine wpAny_bind (wpAny_of_eq (a:=l.toArray) rfl ?_)
  refine wpAny_pure ?_
  have hw:Builtin.Bytes.window l.toArray.size none none=(0,(l.length:Int)):=by
    unfold Builtin.Bytes.window
    have:¬ ((l.length:Int)<0):=by lia
    simp [this]
  rw [hw]
  dsimp only
  by_cases hl:(l.length:Int)-0<((([c]:List UInt8).toArray.size:Nat):Int)
  · rw [if_pos hl]
    have hn:l=[]:=by
      have:l.length=0:=by simp at hl;lia
      exact List.eq_nil_of_length_eq_zero this
    subst hn
    exact wpAny_bind (wpAny_rule (wpAny_bind (wpAny_mkInt (wpAny_pure ⟨_,rfl,Post.tok I (R:=RV) (b:=.int _) ⟨_,rfl⟩ h⟩))))
  · rw [if_neg hl]
    have e:(some ((0:Int).toNat,(l.length:Int).toNat)).bind (fun (x:Nat×Nat)=>if false=true then Builtin.Bytes.rfind? l.toArray [c].toArray x.1 x.2 else Builtin.Bytes.find? l.toArray [c].toArray x.1 x.2)=l.findIdx? (· == c):=find_eq l c
    show wpAny _ _ (match (some ((0:Int).toNat,(l.length:Int).toNat)).bind (fun (x:Nat×Nat)=>if false=true then Builtin.Bytes.rfind? l.toArray [c].toArray x.1 x.2 else Builtin.Bytes.find? l.toArray [c].toArray x.1 x.2) with | some i=>retInt i | none=>_) _ _ _
    rw [e]
    unfold findL at h
    cases hi:l.findIdx? (· == c) with
    | some i =>
      rw [hi] at h
      exact wpAny_bind (wpAny_mkInt (wpAny_pure ⟨_,rfl,Post.tok I (R:=RV) (b:=.int _) ⟨_,rfl⟩ h⟩))
    | none =>
      rw [hi] at h
      exact wpAny_bind (wpAny_rule (wpAny_bind (wpAny_mkInt (wpAny_pure ⟨_,rfl,Post.tok I (R:=RV) (b:=.int _) ⟨_,rfl⟩ h⟩))))
theorem Call.bPart {l:List UInt8}{c:UInt8}(hz:l.length≤1048576) (h:Q (.tup [.bytes (partL c l).1,.bytes (partL c l).2.1,.bytes (partL c l).2.2]) own):Call w B A (.builtin "bytes.partition") [.bytes l,.bytes [c]] own Q X:=Call.of2 fun s N v v' I ⟨t,e⟩ ⟨u,e'⟩=>by
  subst e e'
  refine wpAny_call_entry slot_bytes_partition (typeIs_bytes s _ t) entry_bytes_partition ?_ (args_bytes_partition _ _)
  unfold Builtin.«bytes.partition» Builtin.Bytes.partitionM
  refine wpAny_bind (wpAny_of_eq (a:=(Value.bytes l.toArray t,Value.bytes [c].toArray u)) rfl ?_)
  dsimp only
  refine wpAny_bind ?_
  refine wpAny_of_eq KBy.buffer_eq ?_
  dsimp only
  have he:([c].toArray:Array UInt8).isEmpty=false:=rfl
  rw [he]
  refine wpAny_bind (wpAny_of_eq (a:=l.toArray) rfl ?_)
  simp only [Bool.false_eq_true,if_false]
  have hf:Builtin.Bytes.find? l.toArray [c].toArray 0 l.toArray.size=l.findIdx? (· == c):=by
    have:=find_eq l c
    simpa using this
  rw [hf]
  unfold partL at h
  have tup:∀{x y z:List UInt8}{s':Shared}{t1 t2 t3:Tok},s'={s with toks:=s'.toks }→Q (.tup [.bytes x,.bytes y,.bytes z]) own→wpAny (model PG w) A.in1 (newTuple [.bytes x.toArray t1,.bytes y.toArray t2,.bytes z.toArray t3] >>= ret) (fun fin s'=>∃v,fin=.done (.ret v)∧Post w B A RV s N own Q v s') (PostX w B A s N own X) s':=fun {x y z s' t1 t2 t3} hs q=>by
    refine wpAny_bind (wpAny_newTuple (wpAny_pure ⟨_,rfl,?_⟩) (by rw [sizeLine_eq];simp))
    obtain ⟨h',g',d',k',o'⟩:=s'
    cases hs
    exact Post.tupleK (ds:=[.bytes x,.bytes y,.bytes z]) (vs:=[.bytes x.toArray t1,.bytes y.toArray t2,.bytes z.toArray t3]) I ⟨_,_,rfl,⟨_,rfl⟩,_,_,rfl,⟨_,rfl⟩,_,_,rfl,⟨_,rfl⟩,rfl⟩ q
  cases hi:l.findIdx? (· == c) with
  | some i =>
    rw [hi] at h
    dsimp only
    refine wpAny_bind (wpAny_pure ?_)
    refine wpAny_bind (bNew (by simp;lia) fun t1=>?_)
    refine wpAny_bind (bNew (by simp;lia) fun t2=>?_)
    have e1:l.toArray.extract 0 i=(l.take i).toArray:=by simp [List.extract]
    have e2:l.toArray.extract (i+[c].toArray.size) l.toArray.size=(l.drop (i+1)).toArray:=by
      apply Array.ext'
      simp [List.extract,List.take_of_length_le]
    rw [e1,e2]
    exact tup (x:=l.take i) (y:=[c]) (z:=l.drop (i+1)) rfl h
  | none =>
    rw [hi] at h
    dsimp only
    refine wpAny_bind (wpAny_rule (wpAny_bind (wpAny_pure ?_)))
    refine wpAny_bind (bNew (by simp) fun t1=>?_)
    refine wpAny_bind (wpAny_pure ?_)
    exact tup (x:=l) (y:=[]) (z:=[]) rfl h
theorem mapNew {M:Model}{A:Around}{E:Value→Shared→Prop}{h₀:Heap}{N:Addr→Prop}:∀{ls:List (List UInt8)}{s:Shared}{Q:List Value→Shared→Prop},(∀l∈ls,l.length≤16777216)→(∀vs k,RelDs h₀ N (ls.map .bytes) vs→Q vs {s with toks:=k }) →
    wpAny M A ((ls.map List.toArray).mapM Builtin.Bytes.Kind.bytes.new) Q E s
  | [],s,Q,_,h=>by rw [List.map_nil,List.mapM_nil];exact wpAny_pure (h [] s.toks rfl)
  | l::ls,s,Q,hz,h=>by
    rw [List.map_cons,List.mapM_cons]
    refine wpAny_bind (bNew (by simpa using hz l (.head _)) fun t=>?_)
    refine wpAny_bind (mapNew (h₀:=h₀) (N:=N) (fun l h=>hz l (.tail _ h)) fun vs k r=>wpAny_pure ?_)
    exact h (.bytes l.toArray t::vs) k ⟨_,vs,rfl,⟨t,rfl⟩,r⟩
theorem splitB_len (c:UInt8) (l:List UInt8):∀p∈splitB c l,p.length≤l.length:=by
  obtain ⟨h,t,e,m⟩:=splitB_ind (c:=c) (M:=fun l h t=>∀p∈h::t,p.length≤l.length) (fun p hp=>by cases List.mem_singleton.mp hp;exact Nat.le_refl _)
    (fun r h t m p hp=>(List.mem_cons.mp hp).elim (fun e=>e▸Nat.zero_le _) fun hp=>Nat.le_succ_of_le (m p hp))
    (fun x r h t q_ m p hp=>(List.mem_cons.mp hp).elim (fun e=>e▸Nat.succ_le_succ (m h (.head _))) fun hp=>Nat.le_succ_of_le (m p (.tail _ hp))) l
  rw [e];exact m
theorem splitG {l sub:List UInt8}{ps:List (List UInt8)}(hz:l.length≤1048576) (hne:sub≠[]) (hlen:∀p∈ps,p.length≤l.length)
    (hp:(Builtin.Bytes.occurrences l.toArray sub.toArray 0 l.length=[]∧ps=[l])∨(Builtin.Bytes.occurrences l.toArray sub.toArray 0 l.length≠[]∧(Builtin.Bytes.occurrences l.toArray sub.toArray 0 l.length).length≤l.length∧Builtin.Bytes.between l.toArray sub.length (Builtin.Bytes.occurrences l.toArray sub.toArray 0 l.length)=ps.map List.toArray))
    (hn:ps.length≤16777216) (h:∀c,Q (.ref c) ((c,.list (ps.map .bytes))::own)):Call w B A (.builtin "bytes.split") [.bytes l,.bytes sub] own Q X:=Call.of2 fun s N v v' I ⟨t,e⟩ ⟨u,e'⟩=>by
  subst e e'
  refine wpAny_call_entry slot_bytes_split (typeIs_bytes s _ t) entry_bytes_split ?_ (args_bytes_split _ _)
  unfold Builtin.«bytes.split» Builtin.Bytes.splitM
  dsimp only
  refine wpAny_bind (wpAny_of_eq (a:=[some (Value.bytes sub.toArray u),none]) rfl ?_)
  dsimp only
  refine wpAny_bind (wpAny_pure ?_)
  refine wpAny_bind (wpAny_of_eq (a:=l.toArray) rfl ?_)
  refine wpAny_bind ?_
  refine wpAny_of_eq bytesLike_eq ?_
  have he:(sub.toArray:Array UInt8).isEmpty=false:=by cases sub with
    | nil=>exact absurd rfl hne
    | cons=>rfl
  rw [he]
  simp only [Bool.false_eq_true,if_false]
  have hlim:(if (-1:Int)<0 then l.toArray.size+1 else (-1:Int).toNat)=l.length+1:=by simp
  have hsz:l.toArray.size=l.length:=by simp
  rw [hlim,hsz]
  rcases hp with ⟨h1,h2⟩ | ⟨h1,h2,h3⟩
  · rw [h1]
    show wpAny _ _ (PySem.rule _ >>= _) _ _ _
    refine wpAny_bind (wpAny_rule ?_)
    refine wpAny_bind (bSame ?_)
    refine wpAny_bind (wpAny_newList ?_ (by rw [sizeLine_eq];simp))
    refine wpAny_pure ⟨_,rfl,?_⟩
    rw [h2] at h
    exact Post.newList (k:=s.toks) (ds:=[.bytes l]) (vs:=[.bytes l.toArray t]) I (RelDs.one ⟨t,rfl⟩) h
  · have ht:(Builtin.Bytes.occurrences l.toArray sub.toArray 0 l.length).take (l.length+1)=Builtin.Bytes.occurrences l.toArray sub.toArray 0 l.length:=List.take_of_length_le (by lia)
    rw [ht]
    have hnil:(Builtin.Bytes.occurrences l.toArray sub.toArray 0 l.length).isEmpty=false:=by simpa using h1
    rw [hnil]
    simp only [Bool.false_eq_true,if_false]
    have hs2:sub.toArray.size=sub.length:=by simp
    rw [hs2,h3]
    refine wpAny_bind (mapNew (h₀:=s.heap) (N:=N) (fun p hp=>by have:=hlen p hp;lia) fun vs k r=>?_)
    refine wpAny_bind (wpAny_newList ?_ (by rw [r.length,sizeLine_eq];simpa using hn))
    exact wpAny_pure ⟨_,rfl,Post.newList I r h⟩
theorem posB_le (c:UInt8) (l:List UInt8):∀(k:Nat),(posB c k l).length≤l.length:=by
  induction l with
  | nil=>exact fun q_=>Nat.le_refl _
  | cons x r ih =>
    intro k
    rw [posB]
    by_cases hc:x=c
    · rw [if_pos hc];exact Nat.succ_le_succ (ih _)
    · rw [if_neg hc];exact Nat.le_succ_of_le (ih _)
theorem splitB_count (c:UInt8) (l:List UInt8):(splitB c l).length≤l.length+1:=by
  obtain ⟨h,t,e,m⟩:=splitB_ind (c:=c) (M:=fun l q_ t=>t.length≤l.length) (Nat.le_refl _) (fun r h t m=>Nat.succ_le_succ m) (fun x r h t q_ m=>Nat.le_succ_of_le m) l
  rw [e];exact Nat.succ_le_succ m
theorem Call.bSplit {l:List UInt8}{c:UInt8}(hz:l.length≤1048576) (h:∀a,Q (.ref a) ((a,.list ((splitB c l).map .bytes))::own)):Call w B A (.builtin "bytes.split") [.bytes l,.bytes [c]] own Q X:=by
  refine splitG hz (by simp) (splitB_len c l) ?_ (by have:=splitB_count c l;lia) h
  have e:Builtin.Bytes.occurrences l.toArray [c].toArray 0 l.length=posB c 0 l:=occ_eq l c
  rw [e]
  by_cases hp:posB c 0 l=[]
  · exact .inl ⟨hp,posB_nil hp⟩
  · exact .inr ⟨hp,posB_le c l 0,split_eq c l⟩
end
theorem runs_size {M:Model}{Γ:Ctx}{p:Pos}{t:Sem Fin}{fs:List Frame}{s s':Shared}{e:End}(h:Runs M Γ p t fs s e s'):s.heap.objs.size≤s'.heap.objs.size:=by
  induction h <;> (try simp only [Shared.setGen,Heap.size_push,Heap.size_after_update] at *) <;> lia
theorem wakes_size {M:Model}{Γ:Ctx}{p:Pos}{g:Nat}{r:Resume}{s s':Shared}{res:GenResult}(h:Wakes M Γ p g r s res s'):s.heap.objs.size≤s'.heap.objs.size:=by
  unfold Wakes at h
  split at h
  · exact h.elim
  · split at h
    · obtain ⟨e₁,s₁,hr,_,_,rfl⟩:=h;exact (runs_size hr:(s.setGen g .running).heap.objs.size≤s₁.heap.objs.size)
    · rw [h.2];exact Nat.le_refl _
    · rw [h.2];exact Nat.le_refl _
  · obtain ⟨e₁,s₁,hr,_,_,rfl⟩:=h;exact (runs_size hr:(s.setGen g .running).heap.objs.size≤s₁.heap.objs.size)
  all_goals (rw [h.2];exact Nat.le_refl _)
theorem wp_size {α:Type}(M:Model) (Γ:Ctx) (n:Nat) (t:Sem α):∀(Q:α→Pos→Shared→Prop) (E:Value→Pos→Shared→Prop) (p:Pos) (s:Shared),n≤s.heap.objs.size→Sem.wp M Γ t Q E p s →
    Sem.wp M Γ t (fun a p' s'=>n≤s'.heap.objs.size∧Q a p' s') (fun e p' s'=>n≤s'.heap.objs.size∧E e p' s') p s:=by
  induction t with
  | pure a=>intro Q E p s hn h;exact ⟨hn,h⟩
  | raise e=>intro Q E p s hn h;exact ⟨hn,h⟩
  | unsupported _=>intro Q E p s _ h;exact h
  | finish _=>intro Q E p s _ h;exact h
  | rule _ k ih=>intro Q E p s hn h;exact ih () Q E p s hn h
  | «at» p' k ih=>intro Q E p s hn h;exact ih () Q E p' s hn h
  | load a _ k ih=>intro Q E p s hn h;obtain ⟨o,ho,h⟩:=h;exact ⟨o,ho,ih o Q E p s hn h⟩
  | update a _ f k ih=>intro Q E p s hn h;exact ⟨h.1,ih () Q E p _ (by simpa using hn) h.2⟩
  | loadIfAlive a k ih=>intro Q E p s hn h;exact ih _ Q E p s hn h
  | point _ k ih=>intro Q E p s hn h;exact ih () Q E p s hn h
  | register _ _=>intro Q E p s _ h;exact h
  | alloc o k ih=>intro Q E p s hn h;exact ih _ Q E p _ (by show n≤(s.heap.push o).objs.size;rw [Heap.size_push];lia) h
  | fresh k ih=>intro Q E p s hn h;exact ih _ Q E p _ hn h
  | ask k ih=>intro Q E p s hn h;exact ih _ Q E p s hn h
  | choose src m k ih=>intro Q E p s hn h;exact ⟨h.1,ih _ Q E p _ hn h.2⟩
  | os q _ k ih=>intro Q E p s hn h;exact ih _ Q E p _ hn h
  | call c hd _ _ k ih=>intro Q E p s hn h;obtain ⟨r,s',hr,h⟩:=h;exact ⟨r,s',hr,ih r Q E p s' (Nat.le_trans hn (runs_size hr)) h⟩
  | handled own k ih=>intro Q E p s hn h;exact ih _ Q E p s hn h
  | genState g k ih=>intro Q E p s hn h;obtain ⟨st,hs,h⟩:=h;exact ⟨st,hs,ih _ Q E p s hn h⟩
  | newGen c k ih=>intro Q E p s hn h;exact ih _ Q E p _ hn h
  | resume g r _ k ih=>intro Q E p s hn h;obtain ⟨res,s',hw,h⟩:=h;exact ⟨res,s',hw,ih res Q E p s' (Nat.le_trans hn (wakes_size hw)) h⟩
  | yield _ _ _ _=>intro Q E p s _ h;exact h
  | stack k ih=>intro Q E p s hn h;exact ih _ Q E p s hn h
  | fork _ _=>intro Q E p s _ h;exact h
  | thread k ih=>intro Q E p s hn h;exact ih _ Q E p s hn h
  | await _ _ _ _ _=>intro Q E p s _ h;exact h
theorem wpAny_grown {α:Type}{M:Model}{A:Around}{s:Shared}{t:Sem α}{Q:α→Shared→Prop}{E:Value→Shared→Prop}
    (h:wpAny M A t (fun a s'=>s.heap.objs.size≤s'.heap.objs.size→Q a s') E s):wpAny M A t Q E s:=fun Γ p hΓ =>
  Sem.wp_mono M Γ _ (fun q_ q_ q_ x=>x.2 x.1) (fun q_ q_ q_ x=>x.2) _ _ (wp_size M Γ _ t _ _ p s (Nat.le_refl _) (h Γ p hΓ))
theorem Has.put {l:Own}{a o} (o') (h:Has l a o):∃l',Put l a o o' l':=by
  induction h with
  | here=>exact ⟨_,.here⟩
  | there _ ih=>exact ih.elim fun q_ p=>⟨_,.there p⟩
theorem Put.self {l l':Own}{a o o'} (h:Put l a o o' l'):Has l' a o':=by
  induction h with
  | here=>exact .here
  | there _ ih=>exact .there ih
theorem Has.of_mem {l:Own}{a o} (h:(a,o)∈l):Has l a o:=by
  induction h with
  | head=>exact .here
  | tail _ _ ih=>exact .there ih
theorem Put.other {l l':Own}{a o o' b x} (p:Put l a o o' l') (h:Has l b x) (n:b≠a):Has l' b x:=by
  obtain ⟨r,q,rfl,rfl⟩:=p.split
  refine Has.of_mem ?_
  have h:=h.mem
  rw [List.mem_append,List.mem_cons] at h ⊢
  exact h.imp id (Or.imp (fun e=>absurd (congrArg Prod.fst e) n) id)
theorem Has.uniq {l:Own}{a o o'} (nd:(l.map (·.1)).Nodup) (h:Has l a o) (h':Has l a o'):o=o':=by
  replace h:=h.mem
  replace h':=h'.mem
  induction l with
  | nil=>cases h
  | cons p l ih =>
    rw [List.map_cons,List.nodup_cons] at nd
    rcases List.mem_cons.mp h with e1 | m1
    · rcases List.mem_cons.mp h' with e2 | m2
      · exact congrArg Prod.snd (e1.trans e2.symm)
      · exact (nd.1 (List.mem_map.mpr ⟨(a,o'),m2,(congrArg Prod.fst e1:a=_)⟩)).elim
    · rcases List.mem_cons.mp h' with e2 | m2
      · exact (nd.1 (List.mem_map.mpr ⟨(a,o),m1,(congrArg Prod.fst e2:a=_)⟩)).elim
      · exact ih nd.2 m1 m2
theorem Has.perm {l l':Own}{a o} (h:Has l a o) (p:∀x∈l,x∈l'):Has l' a o:=Has.of_mem (p _ h.mem)
section
variable {w:World}{B:Heap}{A:Around}{own own':Own}{P:Pins}{X:Addr→Own→Prop}{env:Env}{Q:D→Own→Prop}{QB:Bool→Own→Prop}{QF:Fl→Own→Prop}{Qs:List D→Own→Prop}{s:Shared}{N:Addr→Prop}
theorem funFrames {h:Heap}{l:List Env}(hf:FramesOk B h l):h.FunFrames B l:=by
  induction l with
  | nil=>trivial
  | cons e l ih =>
    obtain ⟨a,⟨L,o,b,c,d,e,f⟩,r⟩:=hf
    exact ⟨a,⟨L,o,b,c,d,e⟩,ih r⟩
theorem frameCls {h:Heap}{b:Addr}{l:List Env}(hf:FramesOk B h l) (hb:b∈l.filterMap (·.frame)):B.get? b=none∧∃o,h.get? b=some o∧o.cls=.type "frame" := by
  induction l with
  | nil=>exact absurd hb List.not_mem_nil
  | cons env l ih =>
    obtain ⟨a,⟨L,o,hL,c,d,e,f⟩,r⟩:=hf
    rw [List.filterMap_cons,hL] at hb
    cases hb with
    | head=>exact ⟨c,o,d,f⟩
    | tail _ hb=>exact ih r hb
theorem Inv.slots (I:Inv w B A s N own) {h':Heap}(hs:Heap.SlotsOnly ((frs A).filterMap (·.frame)) s.heap h'):Inv w B A {s with heap:=h' } N own∧Step s N own {s with heap:=h' } N own:=by
  have kk:∀b o,s.heap.get? b=some o→∃o',h'.get? b=some o'∧Kept o o':=fun b o e=>by
    obtain ⟨sl,e'⟩:=hs.2.2 b o e
    by_cases hb:b∈(frs A).filterMap (·.frame)
    · obtain ⟨_,o₁,e₁,c⟩:=frameCls I.frames hb
      rw [e] at e₁
      cases e₁
      exact ⟨_,e',.inr ⟨c,sl,rfl⟩⟩
    · exact ⟨o,(hs.2.1 b hb).trans e,.refl o⟩
  have S:Step s N own {s with heap:=h' } N own:=⟨fun b o e q_=>kk b o e,fun b o e n q_=>by
      obtain ⟨sl,e'⟩:=hs.2.2 b o e
      exact ⟨_,e',n,rfl⟩,Nat.le_of_eq hs.1.symm,fun q_ h q_ q_=>h,fun q_ h=>.inl h,fun q_ h=>.inl h,rfl⟩
  refine ⟨⟨fun b o e=>?_,I.hi,fun b h=>by show b<h'.objs.size;rw [hs.1];exact I.lt b h,fun p hp=>⟨(I.owned p hp).1,(I.owned p hp).2.mono (S.kk I) S.kn fun ob e=>kk _ _ e⟩,I.nd,I.frames.keeps S.nf,I.gens⟩,S⟩
  have hb:b∉(frs A).filterMap (·.frame):=fun hm=>by
    rw [(frameCls I.frames hm).1] at e;cases e
  exact (hs.2.1 b hb).trans (I.stays b o e)
theorem setF {c:Addr}{o o':O}{ob:Obj}{vs:Array Value}{i:Nat}{x:Value}{Q:Unit→Shared→Prop}{E:Value→Shared→Prop}(I:Inv w B A s N own) (U:Put own c o o' own') (hob:s.heap.get? c=some ob) (hd:ob.data=.fields vs) (hi:i<vs.size)
    (ho:∀h':Heap,h'.get? c=some (ob.mapFields (·.setIfInBounds i x))→RelO w h' N c o') (h:∀s',Inv w B A s' N own'→Step s N own s' N own'→Q () s'):wpAny (model PG w) A (setField (.ref c) i x) Q E s:=by
  refine wpAny_setField hob hd hi ?_
  have hd':=Obj.data_mapFields hd (·.setIfInBounds i x)
  have he:=Heap.get?_update_self (Obj.mapFields (·.setIfInBounds i x)) hob (Obj.isFreed_of_fields hd')
  have u:=I.upd (k:=s.toks) U (Heap.SameBut.update s.heap c (Obj.mapFields (·.setIfInBounds i x))) (fun y e q_=>by
    rw [hob] at e
    cases e
    exact ⟨_,he,fun n=>absurd hd (n vs),Obj.cls_mapFields _ _⟩) (ho _ he)
  exact h _ u.1 u.2
noncomputable def NotX:O→Prop
  | .exc _ _ _=>False
  | .tb _=>False
  | _=>True
inductive Thr (C:Addr) (d:D) (keep:Own) (noted:Bool) (x:Addr) (o:Own):Prop
  | mk (dd:Addr) (tb:Option Addr) (h1:Has o x (.exc C dd tb)) (h2:Has o dd (.attrs ["told"] [d])) (h3:∀T,tb=some T→∃fl,Has o T (.tb fl)) (h4:noted=true→tb≠none) (h5:∀p∈keep,Has o p.1 p.2∧NotX p.2)
theorem Thr.weak {C:Addr}{d:D}{keep:Own}{n:Bool}{x:Addr}{o:Own}(h:Thr C d keep n x o):Thr C d keep false x o:=let ⟨dd,tb,a,b,c,_,e⟩:=h;⟨dd,tb,a,b,c,(by simp),e⟩
theorem Thr.sub {C:Addr}{d:D}{keep:Own}{n:Bool}{x:Addr}{o o':Own}(h:Thr C d keep n x o) (hs:∀p∈o,p∈o'):Thr C d keep n x o' :=
  let ⟨dd,tb,a,b,c,e,f⟩:=h;⟨dd,tb,a.perm hs,b.perm hs,fun T hT=>let ⟨fl,g⟩:=c T hT;⟨fl,g.perm hs⟩,e,fun p hp=>⟨(f p hp).1.perm hs,(f p hp).2⟩⟩
theorem Thr.keep {C:Addr}{d:D}{keep keep':Own}{n:Bool}{x:Addr}{o:Own}(h:Thr C d keep n x o) (hs:∀p∈keep',p∈keep):Thr C d keep' n x o :=
  let ⟨dd,tb,a,b,c,e,f⟩:=h;⟨dd,tb,a,b,c,e,fun p hp=>f p (hs p hp)⟩
theorem note {C:Addr}{d:D}{keep:Own}{n:Bool}{x:Addr}{outer:List Env}{L:Addr}{Q:Unit→Shared→Prop}{E:Value→Shared→Prop}(I:Inv w B A s N own) (hx:Thr C d keep n x own) (hfr:A.frames=some (env::outer)) (hf:env.frame=some L)
    (h:∀s' N' own',Step s N own s' N' own'→Inv w B A s' N' own'→Thr C d keep true x own'→Q () s'):wpAny (model PG w) A (noteFrame (.ref x) env) Q E s:=by
  obtain ⟨dd,tb,hx1,hx2,hx3,hx4,hx5⟩:=hx
  have hfrs:frs A=env::outer:=by simp [frs,hfr]

  have entry:∀{s₁:Shared}{own₁:Own}{tb₁:Option Addr}{head:Value}{hadNext:Bool},Step s N own s₁ N own₁→Inv w B A s₁ N own₁→Has own₁ x (.exc C dd tb₁)→Has own₁ dd (.attrs ["told"] [d])→(∀p∈keep,Has own₁ p.1 p.2∧NotX p.2) →
      wpAny (model PG w) A (do let a ← frameOf env;let pl ← entryPlaceOf L hadNext;let b ← EntryCells.newEntry head a .none (rawInt L) .none pl;setField (.ref x) 1 b) Q E s₁:=by
    intro s₁ own₁ tb₁ head hadNext S₁ I₁ k1 k2 k3
    have ff:=funFrames I₁.frames
    rw [hfrs] at ff
    refine wpAny_bind (wpAny_frameOf_fun hfr ff hf fun h₁ hs₁=>?_)
    rw [← hfrs] at hs₁
    obtain ⟨I₂,S₂⟩:=I₁.slots hs₁
    refine wpAny_bind (wpAny_entryPlaceOf fun pl hpl=>?_)
    unfold EntryCells.newEntry newFields
    refine wpAny_bind (wpAny_newObj_type ?_ (hpl.sizeOk5 _ _ _ _ _))
    have h3:(([head,Value.ref L,Value.none,rawInt L,Value.none]++(if pl.isEmpty then List.replicate 6 Value.none else pl)).toArray:Array Value)[3]?=some (rawInt L):=by simp
    generalize hob:({cls:=.type "traceback", dict:=none,data:=.fields ([head,Value.ref L,Value.none,rawInt L,Value.none]++(if pl.isEmpty then List.replicate 6 Value.none else pl)).toArray }:Obj)=ob
    have hoc:ob.cls≠.type "frame" := by subst hob;simp
    have hof:ob.isFreed=false:=by subst hob;rfl
    have hod:∃ts,ob.data=.fields ts∧ts[3]?=some (rawInt L):=by subst hob;exact ⟨_,rfl,h3⟩
    obtain ⟨ts,hod,hts⟩:=hod
    have hg:=Heap.get?_push_size h₁ hof
    obtain ⟨I₃,S₃⟩:=I₂.make (k:=s₁.toks) (h':=h₁.push ob) (c:=h₁.objs.size) (o:=.tb (some L)) (fun q_ q_ e=>Heap.get?_push_of_some _ e) (by rw [Heap.size_push];exact Nat.le_succ _) (Nat.le_refl _) (by rw [Heap.size_push];exact Nat.lt_succ_self _)
      ⟨ob,ts,hg,hoc,hod,hts⟩
    have hx₃:Has ((h₁.objs.size,O.tb (some L))::own₁) x (.exc C dd tb₁):=.there k1
    obtain ⟨own₂,U⟩:=hx₃.put (.exc C dd (some h₁.objs.size))
    obtain ⟨vs,e1,e2⟩:=(I₃.owned _ hx₃.mem).2
    refine setF I₃ U e1 rfl (Array.getElem?_eq_some_iff.mp e2).1 (fun h' e'=>⟨_,e',by simp [(Array.getElem?_eq_some_iff.mp e2).1]⟩) fun s' I' S'=>?_
    have hne:∀b o,Has own₁ b o→NotX o→b≠x:=fun b o hb hn q=>by
      subst q
      have:=Has.uniq I₁.nd hb k1
      subst this
      exact hn
    refine h s' _ own₂ ((S₁.trans S₂).trans (S₃.trans S')) I' ⟨dd,some h₁.objs.size,U.self,U.other (.there k2) (hne _ _ k2 trivial),fun T hT=>⟨some L,?_⟩,(by simp),fun p hp=>⟨U.other (.there (k3 p hp).1) (hne _ _ (k3 p hp).1 (k3 p hp).2),(k3 p hp).2⟩⟩
    cases hT
    refine U.other .here fun q=>?_
    have:=I₂.freshN (a:=h₁.objs.size) (Nat.le_refl _)
    rw [q] at this
    exact this (I₂.owned _ k1.mem).1
  obtain ⟨vs,e1,e2⟩:=(I.owned _ hx1.mem).2
  unfold noteFrame
  simp only [hf]
  refine wpAny_bind (wpAny_field e1 rfl e2 ?_)
  cases tb with
  | none =>
    rw [if_neg (by decide)]
    exact entry (.refl ..) I hx1 hx2 hx5
  | some T =>
    rw [if_pos (show (Value.ref T != Value.none)=true from by simp)]
    obtain ⟨fl,hT⟩:=hx3 T rfl
    obtain ⟨ob,ts,g1,g2,g3,g4⟩:=(I.owned _ hT.mem).2
    obtain ⟨fv,g4⟩:∃fv,ts[3]?=some fv:=⟨_,g4⟩
    refine wpAny_bind (wpAny_field g1 g3 g4 ?_)
    dsimp only
    by_cases hv:(fv == rawInt L)=true
    · rw [if_pos hv]
      exact wpAny_pure (h s N own (.refl ..) I ⟨dd,some T,hx1,hx2,hx3,(by simp),hx5⟩)
    · rw [if_neg hv]
      obtain ⟨own₁,U⟩:=hT.put (.tb none)
      have hne:∀b o,Has own b o→(∀fl,o≠.tb fl)→b≠T:=fun b o hb hn q=>by
        subst q
        exact hn _ (Has.uniq I.nd hb hT)
      refine wpAny_bind (setF I U g1 g3 (Array.getElem?_eq_some_iff.mp g4).1 (fun h' e'=>⟨_,_,e',by rw [Obj.cls_mapFields];exact g2,Obj.data_mapFields g3 _,by simp [(Array.getElem?_eq_some_iff.mp g4).1]⟩) fun s₁ I₁ S₁=>?_)
      exact entry S₁ I₁ (U.other hx1 (hne _ _ hx1 (by simp))) (U.other hx2 (hne _ _ hx2 (by simp))) fun p hp=>⟨U.other (hx5 p hp).1 (hne _ _ (hx5 p hp).1 fun fl q=>by have:=(hx5 p hp).2;rw [q] at this;exact this),(hx5 p hp).2⟩
theorem flight {C:Addr}{d:D}{keep:Own}{n:Bool}{x:Addr}{f:Option Addr}{Q:Unit→Shared→Prop}{E:Value→Shared→Prop}(I:Inv w B A s N own) (hx:Thr C d keep n x own)
    (h:∀s' N' own',Step s N own s' N' own'→Inv w B A s' N' own'→Thr C d keep n x own'→Q () s'):wpAny (model PG w) A (setFlight (.ref x) f) Q E s:=by
  obtain ⟨dd,tb,hx1,hx2,hx3,hx4,hx5⟩:=id hx
  obtain ⟨vs,e1,e2⟩:=(I.owned _ hx1.mem).2
  unfold setFlight
  refine wpAny_bind (wpAny_field e1 rfl e2 ?_)
  cases tb with
  | none =>
    rw [if_neg (by decide)]
    exact wpAny_pure (h s N own (.refl ..) I hx)
  | some T =>
    rw [if_pos (show (Value.ref T != Value.none)=true from by simp)]
    obtain ⟨fl,hT⟩:=hx3 T rfl
    obtain ⟨ob,ts,g1,g2,g3,g4⟩:=(I.owned _ hT.mem).2
    obtain ⟨own₁,U⟩:=hT.put (.tb f)
    have hne:∀b o,Has own b o→(∀fl,o≠.tb fl)→b≠T:=fun b o hb hn q=>by
      subst q
      exact hn _ (Has.uniq I.nd hb hT)
    refine setF I U g1 g3 (Array.getElem?_eq_some_iff.mp g4).1 (fun h' e'=>⟨_,_,e',by rw [Obj.cls_mapFields];exact g2,Obj.data_mapFields g3 _,by cases f <;> simp [(Array.getElem?_eq_some_iff.mp g4).1]⟩) fun s₁ I₁ S₁=>?_
    exact h s₁ N own₁ S₁ I₁ ⟨dd,some T,U.other hx1 (hne _ _ hx1 (by simp)),U.other hx2 (hne _ _ hx2 (by simp)),fun T' e=>by cases e;exact ⟨f,U.self⟩,hx4,fun p hp=>⟨U.other (hx5 p hp).1 (hne _ _ (hx5 p hp).1 fun fl q=>by have:=(hx5 p hp).2;rw [q] at this;exact this),(hx5 p hp).2⟩⟩
theorem leave {C:Addr}{d:D}{keep:Own}{n:Bool}{x:Addr}{outer:List Env}{L:Addr}{Q:Unit→Shared→Prop}{E:Value→Shared→Prop}(I:Inv w B A s N own) (hx:Thr C d keep n x own) (hfr:A.frames=some (env::outer)) (hf:env.frame=some L)
    (h:∀s' N' own',Step s N own s' N' own'→Inv w B A s' N' own'→Thr C d keep true x own'→Q () s'):wpAny (model PG w) A (leaving env (.ref x)) Q E s:=by
  unfold leaving
  exact wpAny_bind (note I hx hfr hf fun s₁ N₁ own₁ S₁ I₁ t₁=>flight I₁ t₁ fun s₂ N₂ own₂ S₂ I₂ t₂=>h s₂ N₂ own₂ (S₁.trans S₂) I₂ t₂)
theorem cameBack {C:Addr}{d:D}{keep:Own}{x:Addr}{E:Value→Shared→Prop}(I:Inv w B A s N own) (hx:Thr C d keep true x own)
    (h:∀s' N' own',Step s N own s' N' own'→Inv w B A s' N' own'→Thr C d keep true x own'→E (.ref x) s'):cameBackBy (model PG w) A env E (.ref x) s:=by
  obtain ⟨dd,tb,hx1,hx2,hx3,hx4,hx5⟩:=id hx
  obtain ⟨vs,e1,e2⟩:=(I.owned _ hx1.mem).2
  unfold cameBackBy
  refine wpAny_bind (wpAny_field e1 rfl e2 ?_)
  cases tb with
  | none=>exact absurd rfl (hx4 rfl)
  | some T =>
    rw [if_neg (show ¬ ((Value.ref T == Value.none)=true) from Bool.false_ne_true)]
    first | exact flight I hx h | exact wpAny_bind (wpAny_pure (flight I hx h))
noncomputable def Notes (w:World) (B:Heap) (A:Around) (env:Env) (X X':Addr→Own→Prop):Prop:=∀s N own x,Inv w B A s N own→X x own→∀(E:Value→Shared→Prop) (R:Value→Shared→Prop),
  (∀s' N' own',Step s N own s' N' own'→Inv w B A s' N' own'→X' x own'→R (.ref x) s')→notedBy (model PG w) A env (fun e s'=>cameBackBy (model PG w) A env R e s') (.ref x) s
theorem Notes.no:Notes w B A env (fun q_ q_=>False) X:=fun q_ q_ q_ q_ q_ h=>h.elim
theorem Notes.thr {C:Addr}{d:D}{keep:Own}{n:Bool}{outer:List Env}{L:Addr}(hfr:A.frames=some (env::outer)) (hf:env.frame=some L):Notes w B A env (Thr C d keep n) (Thr C d keep true):=fun s N own x I h E R k =>
  note I h hfr hf fun s₁ N₁ own₁ S₁ I₁ t₁=>cameBack I₁ t₁ fun s₂ N₂ own₂ S₂ I₂ t₂=>k s₂ N₂ own₂ (S₁.trans S₂) I₂ t₂
end
section
variable {α β:Type}{w:World}{B:Heap}{A:Around}{own own':Own}{P:Pins}{X:Addr→Own→Prop}{env:Env}{Q:D→Own→Prop}{QB:Bool→Own→Prop}{QF:Fl→Own→Prop}{Qs:List D→Own→Prop}{s:Shared}{N:Addr→Prop}
theorem Inv.swap {hid o:Own}(I:Inv w B A s N (hid++o)):Inv w B A s N (o++hid):=I.sub (fun p hp=>List.perm_append_comm.mem_iff.mp hp) ((List.perm_append_comm.map _).nodup_iff.mp I.nd)
theorem Step.swap {s':Shared}{N':Addr→Prop}{hid o o₁:Own}(S:Step s N (o++hid) s' N' (o₁++hid)):Step s N (hid++o) s' N' (hid++o₁):=by
  have c:∀(l:Own) b,b∈(l++hid).map (·.1)↔b∈(hid++l).map (·.1):=fun l b=>(List.perm_append_comm.map _).mem_iff
  exact ⟨fun b x e hb=>S.same b x e fun hm=>hb ((c o b).mp hm),S.nf,S.grow,fun b h1 h2 h3=>S.n1 b h1 h2 fun hm=>h3 ((c o b).mp hm),S.n2,fun b hb=>(S.own2 b ((c o₁ b).mpr hb)).imp (fun x=>(c o b).mp x) id,S.os⟩
theorem Wp.useH {R:Rl β α}{t:Sem α}{hid o:Own}{Q:β→Own→Prop}{T:α→Shared→Prop}{E:Value→Shared→Prop}(h:Wp w B A R P o t Q X) (I:Inv w B A s N (hid++o)) (hp:∀p∈P,RelD s.heap N p.1 p.2)
    (hT:∀a s' N' o' b,Step s N (hid++o) s' N' (hid++o')→Inv w B A s' N' (hid++o')→R s'.heap N' b a→Q b o'→T a s') (hE:∀x s' N' o',Step s N (hid++o) s' N' (hid++o')→Inv w B A s' N' (hid++o')→X x o'→E (.ref x) s'):wpAny (model PG w) A t T E s :=
  (h.frame (own:=o++hid) (rest:=hid) (Q:=fun b o'=>∃o₁,o'=o₁++hid∧Q b o₁) (X:=fun b o'=>∃o₁,o'=o₁++hid∧X b o₁) (fun p=>List.mem_append) (fun q_=>trivial) (.refl _) (fun b o₁ q=>⟨o₁,rfl,q⟩) fun b o₁ q=>⟨o₁,rfl,q⟩).useC I.swap hp
    (fun a s' N' o' b S I r q=>by
      obtain ⟨o₁,rfl,q⟩:=q
      exact hT a s' N' o₁ b S.swap I.swap r q) fun x s' N' o' S I q=>by
      obtain ⟨o₁,rfl,q⟩:=q
      exact hE x s' N' o₁ S.swap I.swap q
theorem Inv.drop {hid o:Own}(I:Inv w B A s N (hid++o)):Inv w B A s N o:=I.sub (fun p hp=>List.mem_append_right _ hp) (by have:=I.nd;rw [List.map_append] at this;exact (List.nodup_append.mp this).2.1)
theorem Step.drop {s':Shared}{N':Addr→Prop}{hid o:Own}(S:Step s N own s' N' (hid++o)):Step s N own s' N' o:=⟨S.same,S.nf,S.grow,S.n1,S.n2,fun b hb=>S.own2 b (by rw [List.map_append];exact List.mem_append_right _ hb),S.os⟩
structure Walk (w:World) (B:Heap) (A:Around) (P:Pins) (target:Expr) (it:Addr) (ds:List D) (its:Nat→Own) (C:Own→Prop):Prop where
  item:∀k o d s N,ds[k]?=some d→C o→Inv w B A s N (its k++o)→(∀p∈P,RelD s.heap N p.1 p.2)→∀(E:Value→Shared→Prop) (R:Value→Shared→Prop) (T:Option Value→Shared→Prop),(∀v s₁,wpAny (model PG w) A (letOwnedTupleGo target (.ref it) v) (fun q_ s₂=>R v s₂) E s₁→T (some v) s₁) →
    (∀v s₂ N',Step s N (its k++o) s₂ N' (its (k+1)++o)→Inv w B A s₂ N' (its (k+1)++o)→RelD s₂.heap N' d v→R v s₂)→wpAny (model PG w) A (pyNext (.ref it)) T E s
  done:∀o s N,C o→Inv w B A s N (its ds.length++o)→(∀p∈P,RelD s.heap N p.1 p.2)→∀(E:Value→Shared→Prop) (T:Option Value→Shared→Prop),
    (∀s₂ N',Step s N (its ds.length++o) s₂ N' o→Inv w B A s₂ N' o→T none s₂)→wpAny (model PG w) A (pyNext (.ref it)) T E s
  self:∀o s N,C o→Inv w B A s N (its 0++o)→∀(E:Value→Shared→Prop) (R:Value→Shared→Prop),R (.ref it) s→wpAny (model PG w) A (pyIter (.ref it)) R E s
theorem Notes.at {hid o:Own}{XB:Addr→Own→Prop}{s₁:Shared}{N₁:Addr→Prop}{x:Addr}(hx:Notes w B A env XB X) (S:Step s N own s₁ N₁ (hid++o)) (I:Inv w B A s₁ N₁ (hid++o)) (q:XB x o):notedBy (model PG w) A env (fun e s'=>cameBackBy (model PG w) A env (PostX w B A s N own X) e s') (.ref x) s₁ :=
  hx s₁ N₁ o x I.drop q (fun q_ q_=>False) _ fun q_ N₆ o₇ S₆ I₆ q₆=>⟨N₆,o₇,x,S.drop.trans S₆,I₆,rfl,q₆⟩
noncomputable abbrev turnF (J:Own→Prop) (QF:Fl→Own→Prop):Fl→Own→Prop:=fun f o₂=>match f with | .next=>J o₂ | .cont=>J o₂ | .brk=>QF .next o₂ | .ret r=>QF (.ret r) o₂
noncomputable abbrev ForBody (w:World) (B:Heap) (A:Around) (P:Pins) (target:Expr) (body:List Stmt) (env:Env) (ds:List D) (J:Nat→Own→Prop) (QF:Fl→Own→Prop) (XB:Addr→Own→Prop):Prop :=
  ∀k d o,ds[k]?=some d→J k o→∀v,Wp w B A RE ((d,v)::P) o (assign target env v) (fun (_:Unit) o₁=>Wp w B A RF ((d,v)::P) o₁ (execs body env) (turnF (J (k+1)) QF) XB) XB
inductive ForAt (w:World) (B:Heap) (A:Around) (s:Shared) (N:Addr→Prop) (base:Own) (len:Nat) (its:Nat→Own) (J:Nat→Own→Prop):Nat→Shared→Prop
  | mk {s':Shared}(k:Nat) (o:Own) (N':Addr→Prop) (hk:k≤len) (hj:J k o) (S:Step s N base s' N' (its k++o)) (I:Inv w B A s' N' (its k++o)):ForAt w B A s N base len its J (len-k) s'
theorem forLoop {target:Expr}{it:Addr}{body:List Stmt}{ds:List D}{its:Nat→Own}{C:Own→Prop}{J:Nat→Own→Prop}{XB:Addr→Own→Prop}{o₀:Own}
    (W:Walk w B A P target it ds its C) (hJ:∀k o,J k o→C o) (h0:J 0 o₀) (hb:ForBody w B A P target body env ds J QF XB)
    (he:∀o,J ds.length o→QF .next o) (hx:Notes w B A env XB X) (I:Inv w B A s N (its 0++o₀)) (hp:∀p∈P,RelD s.heap N p.1 p.2) :
    codeAny (model PG w) A (.forLoop target (.ref it) body [] env) (fun r s'=>match r with | .ok f=>Post w B A RF s N (its 0++o₀) QF f s' | .error e=>cameBackBy (model PG w) A env (PostX w B A s N (its 0++o₀) X) e s') s:=by
  refine codeAny_forLoop_any (ForAt w B A s N (its 0++o₀) ds.length its J) (fun n s' h=>?_) ds.length ⟨0,o₀,N,Nat.zero_le _,h0,.refl ..,I⟩
  obtain ⟨k,o,N',hk,hj,S,I'⟩:=h
  have hp':=S.pins I hp
  by_cases hlt:k<ds.length
  · refine W.item k o ds[k] s' N' (List.getElem?_eq_getElem hlt) (hJ k o hj) I' hp' _ _ _ (fun v s₁ h=>h) (fun v s₂ N₂ S₂ I₂ r₂=>?_)
    have p₂:=pc r₂ (S₂.pins I' hp')
    refine (hb k _ o (List.getElem?_eq_getElem hlt) hj v).useH I₂ p₂ (fun u s₃ N₃ o₃ q_ S₃ I₃ q_ q₃=>?_) fun x s₃ N₃ o₃ S₃ I₃ q=>hx.at ((S.trans S₂).trans S₃) I₃ q
    refine q₃.useH I₃ (S₃.pins I₂ p₂) (fun f s₅ N₅ o₅ b S₅ I₅ r₅ q₅=>?_) fun x s₄ N₄ o₄ S₄ I₄ q=>hx.at (((S.trans S₂).trans S₃).trans S₄) I₄ q
    have S₆:=((S.trans S₂).trans S₃).trans S₅
    revert q₅
    refine RF.elim r₅ ?_ ?_ ?_ ?_
    · exact fun q=>⟨_,Nat.sub_lt_sub_left hlt (Nat.lt_succ_self _),k+1,o₅,N₅,hlt,q,S₆,I₅⟩
    · exact fun q=>⟨N₅,o₅,.next,S₆.drop,I₅.drop,rfl,q⟩
    · exact fun q=>⟨_,Nat.sub_lt_sub_left hlt (Nat.lt_succ_self _),k+1,o₅,N₅,hlt,q,S₆,I₅⟩
    · exact fun d v rv q=>⟨N₅,o₅,.ret d,S₆.drop,I₅.drop,⟨v,rfl,rv⟩,q⟩
  · cases Nat.le_antisymm hk (Nat.le_of_not_lt hlt)
    exact W.done o s' N' (hJ _ o hj) I' hp' _ _ fun s₂ N₂ S₂ I₂=>wpAny_execs_nil ⟨N₂,o,.next,S.trans S₂,I₂,rfl,he o hj⟩
inductive ForGo (w:World) (B:Heap) (A:Around) (P:Pins) (target:Expr) (body:List Stmt) (env:Env) (QF:Fl→Own→Prop) (X:Addr→Own→Prop):D→Own→Prop
  | mk {it:Addr}{ds:List D}{its:Nat→Own}{C:Own→Prop}{J:Nat→Own→Prop}{o₀:Own}{XB:Addr→Own→Prop}(W:Walk w B A P target it ds its C) (hJ:∀k o,J k o→C o) (h0:J 0 o₀) (hx:Notes w B A env XB X)
      (hb:ForBody w B A P target body env ds J QF XB) (he:∀o,J ds.length o→QF .next o):ForGo w B A P target body env QF X (.ref it) (its 0++o₀)
theorem Wp.For {target iter:Expr}{body:List Stmt}{pos:Pos}(hs:∀x,foldedSetIterable iter env x=pure x)
    (h:Wp w B A RV P own (eval iter env) (fun dx o=>∀a,Wp w B A RV ((dx,a)::P) o (pyIter a) (ForGo w B A ((dx,a)::P) target body env QF X) X) X):Wp w B A RF P own (exec (.For target iter body [] pos) env) QF X:=fun s N I hp=>by
  refine wpAny_For (h.useC I hp (fun a s₁ N₁ o₁ dx S₁ I₁ r₁ q₁=>?_) fun x s' N' o' S I q=>⟨N',o',x,S,I,rfl,q⟩) hs
  have p₁:=pc r₁ (S₁.pins I hp)
  refine (q₁ a).useC I₁ p₁ (fun i s₂ N₂ o₂ di S₂ I₂ r₂ g=>?_) fun x s' N' o' S I q=>⟨N',o',x,S₁.trans S,I,rfl,q⟩
  obtain ⟨W,hJ,h0,hx,hb,he⟩:=g
  cases (show i=.ref _ from r₂)
  refine codeAny_mono (forLoop W hJ h0 hb he hx I₂ (S₂.pins I₁ p₁)) fun r s' q=>?_
  cases r with
  | ok f=>exact Post.after (S₁.trans S₂) q
  | error e=>exact wpAny_mono q (fun q_ q_ x=>PostX.after (S₁.trans S₂) x) fun q_ q_ x=>PostX.after (S₁.trans S₂) x
inductive WhileAt (w:World) (B:Heap) (A:Around) (s:Shared) (N:Addr→Prop) (base:Own) (J:Nat→Own→Prop) (n:Nat) (s':Shared):Prop
  | mk (o:Own) (N':Addr→Prop) (hj:J n o) (S:Step s N base s' N' o) (I:Inv w B A s' N' o)
theorem Wp.While {test:Expr}{body:List Stmt}{pos:Pos}{J:Nat→Own→Prop}{XB:Addr→Own→Prop}{n:Nat}(h0:J n own) (hx:Notes w B A env XB X)
    (hb:∀n o,J n o→Wp w B A RE P o (isTrue test env (eval test env)) (fun c o₁=>(c=false→QF .next o₁)∧(c=true→Wp w B A RF P o₁ (execs body env) (turnF (fun o₂=>∃m,m<n∧J m o₂) QF) XB)) XB):Wp w B A RF P own (exec (.While test body [] pos) env) QF X:=fun s N I hp=>by
  refine wpAny_While (codeAny_whileLoop (WhileAt w B A s N own J) (fun n s' h=>?_) n ⟨own,N,h0,.refl ..,I⟩)
  obtain ⟨o,N',hj,S,I'⟩:=h
  have hp':=S.pins I hp
  refine (hb n o hj).useC I' hp' (fun c s₂ N₂ o₂ c' S₂ I₂ e q₂=>?_) fun x s₄ N₄ o₄ S₄ I₄ q=>hx.at (hid:=[]) (S.trans S₄) I₄ q
  cases (show c=c' from e)
  have S₃:=S.trans S₂
  cases c with
  | false=>exact wpAny_execs_nil ⟨N₂,o₂,.next,S₃,I₂,rfl,q₂.1 rfl⟩
  | true =>
    refine (q₂.2 rfl).useC I₂ (S₂.pins I' hp') (fun f s₅ N₅ o₅ b S₅ I₅ r₅ q₅=>?_) fun x s₄ N₄ o₄ S₄ I₄ q=>hx.at (hid:=[]) (S₃.trans S₄) I₄ q
    have S₆:=S₃.trans S₅
    revert q₅
    refine RF.elim r₅ ?_ ?_ ?_ ?_
    · exact fun q=>q.imp fun m q=>⟨q.1,o₅,N₅,q.2,S₆,I₅⟩
    · exact fun q=>⟨N₅,o₅,.next,S₆,I₅,rfl,q⟩
    · exact fun q=>q.imp fun m q=>⟨q.1,o₅,N₅,q.2,S₆,I₅⟩
    · exact fun d v rv q=>⟨N₅,o₅,.ret d,S₆,I₅,⟨v,rfl,rv⟩,q⟩
end
section
variable {α β:Type}{w:World}{B:Heap}{A:Around}{own own':Own}{P:Pins}{X:Addr→Own→Prop}{env:Env}{Q:D→Own→Prop}{QB:Bool→Own→Prop}{QF:Fl→Own→Prop}{Qs:List D→Own→Prop}{s:Shared}{N:Addr→Prop}
theorem Call.append {c:Addr}{l:List D}{d:D}(ho:Put own c (.list l) (.list (l++[d])) own') (hz:l.length≤16777216) (h:Q .none own'):Call w B A (.builtin "list.append") [.ref c,d] own Q X:=Call.of2 fun s N a v I e rv=>by
  have e:a=.ref c:=e
  subst e
  obtain ⟨hN,items,n,e,r⟩:=I.owned _ ho.has
  refine wpAny_list_append_plain (items:=items.toArray) ⟨n,e⟩ (fun h' hl' hs'=>?_) (by rw [sizeLine_eq];simp [r.length];omega)
  obtain ⟨n',e'⟩:=hl'
  have kk:∀a o,¬ N a→s.heap.get? a=some o→o.cls≠.type "frame" → h'.get? a=some o:=fun a o hn e q_=>(hs'.2 a fun q=>hn (q▸hN)).trans e
  have e'':h'.get? c=some {cls:=.type "list", data:=.seq (items++[v]).toArray n' }:=by rw [e'];simp
  exact Post.upd (k:=s.toks) I ho hs' (fun o q=>by rw [e] at q;cases q;exact ⟨_,e'',fun q_ vs q=>(by cases q),rfl⟩) ⟨_,n',e'',(r.mono kk fun q_ q_ a q_=>a).append (RelDs.one (rv.mono kk fun q_ q_ a q_=>a))⟩ (R:=RV) (b:=.none) rfl h
theorem Inv.forget {L:Addr}{fr:Bool}{ln:List Str}{vals:List (Option D)}{p o:Own}(I:Inv w B A s N (p++(L,.ns fr ln vals)::o)):Inv w B A s N (p++(L,.ns fr ln (ln.map fun q_=>none))::o):=by
  refine ⟨I.stays,I.hi,I.lt,fun q hq=>?_,by have:=I.nd;simpa using this,I.frames,I.gens⟩
  rcases List.mem_append.mp hq with h | h
  · exact I.owned q (List.mem_append_left _ h)
  · rcases List.mem_cons.mp h with rfl | h
    · obtain ⟨a,b,c,m,d,e⟩:=I.owned _ (List.mem_append_right p (.head o))
      exact ⟨a,b,c,m,d,fun i x v q_ hv=>by rw [List.getElem?_map] at hv;cases hq:ln[i]? <;> rw [hq] at hv <;> cases hv⟩
    · exact I.owned q (List.mem_append_right _ (.tail _ h))
theorem Inv.spoil {L:Addr}{ln:List Str}{vals:List (Option D)}{h':Heap}(I:Inv w B A s N own) (U:Put own L (.ns false ln vals) .junk own') (hs:Heap.SameBut L s.heap h'):Inv w B A {s with heap:=h' } N own'∧Step s N own {s with heap:=h' } N own' :=
  I.upd (k:=s.toks) U hs (fun x e f=>by
    obtain ⟨_,_,⟨ob,g1,g2⟩,_⟩:=I.owned _ U.has
    rw [g1] at e
    cases e
    exact absurd f (g2 rfl)) trivial
noncomputable def testsOf (ifs:List Expr) (cenv:Env):Sem Bool:=forIn ifs true fun c r=>if r=true then do let ok ← isTrue c cenv (eval c cenv);pure (ForInStep.yield ok) else pure (ForInStep.yield r)
theorem Wp.tests0 {cenv:Env}(h:QB true own):Wp w B A RE P own (testsOf [] cenv) QB X:=Wp.val (b:=true) (fun q_ q_ q_=>rfl) h
theorem Wp.tests1 {cenv:Env}{c:Expr}(h:Wp w B A RE P own (isTrue c cenv (eval c cenv)) QB X):Wp w B A RE P own (testsOf [c] cenv) QB X:=by
  have e:testsOf [c] cenv=(isTrue c cenv (eval c cenv) >>= fun ok=>pure ok):=by
    unfold testsOf
    rw [List.forIn_cons]
    simp only [if_true,bind_assoc,pure_bind,List.forIn_nil]
  rw [e,bind_pure]
  exact h
theorem Put.after {p l l':Own}{a:Addr}{o o':O}(h:Put l a o o' l'):Put (p++l) a o o' (p++l'):=by
  induction p with
  | nil=>exact h
  | cons q p ih=>exact .there ih
theorem Del.after {hid l l':Own}{p:Addr×O}(h:Del l p l'):Del (hid++l) p (hid++l'):=by
  induction hid with
  | nil=>exact h
  | cons q hid ih=>exact .there ih
theorem Yield.after {d d':D}{o o' hid:Own}(h:Yield d o d' o'):Yield d (hid++o) d' (hid++o'):=by
  induction h with
  | done h=>exact .done (List.Sublist.append_left h hid)
  | list a _ ih=>exact .list a.after ih
  | inst a b _ ih=>exact .inst a.after b.after ih
inductive CompEnd (L:Addr) (ln:List Str) (J:Own→Prop):Own→Prop
  | mk {vals:List (Option D)}{o:Own}(h:J o):CompEnd L ln J ((L,.ns false ln vals)::o)
inductive CompYield (L:Addr) (ln:List Str) (J:D→Own→Prop) (y:D) (o₃:Own):Prop
  | mk {y':D}{vals:List (Option D)}{o₄:Own}(hy:Yield y o₃ y' ((L,.ns false ln vals)::o₄)) (h:J y' o₄)
noncomputable abbrev CompBody (w:World) (B:Heap) (A:Around) (P:Pins) (elt target:Expr) (ifs:List Expr) (cenv:Env) (ln:List Str) (ds:List D) (J:Nat→List D→Own→Prop) (XB:Addr→Own→Prop):Prop :=
  ∀k d rs o,ds[k]?=some d→J k rs o→∀v,Wp w B A RE ((d,v)::P) ((cenv.locals,.ns false ln (ln.map fun q_=>none))::o) (assign target cenv v) (fun (_:Unit) o₁=>Wp w B A RE ((d,v)::P) o₁ (testsOf ifs cenv)
      (fun ok o₂=>(ok=false→CompEnd cenv.locals ln (J (k+1) rs) o₂)∧(ok=true→Wp w B A RV ((d,v)::P) o₂ (eval elt cenv) (CompYield cenv.locals ln fun y'=>J (k+1) (rs++[y'])) XB)) XB) XB
inductive CompAt (w:World) (B:Heap) (A:Around) (s:Shared) (N:Addr→Prop) (base:Own) (len:Nat) (its:Nat→Own) (acc L:Addr) (ln:List Str) (J:Nat→List D→Own→Prop):Nat→Shared→Prop
  | mk {s':Shared}(k:Nat) (rs:List D) (v:List (Option D)) (o:Own) (N':Addr→Prop) (hk:k≤len) (hj:J k rs o) (S:Step s N base s' N' (its k++(acc,.list rs)::(L,.ns false ln v)::o)) (I:Inv w B A s' N' (its k++(acc,.list rs)::(L,.ns false ln v)::o)) :
    CompAt w B A s N base len its acc L ln J (len-k) s'
theorem compLoop {elt target iter:Expr}{ifs:List Expr}{scope:Scope}{pos:Pos}{it acc:Addr}{cenv:Env}{ln:List Str}{ds:List D}{its:Nat→Own}{C:Own→Prop}{J:Nat→List D→Own→Prop}{XB:Addr→Own→Prop}{o₀ base:Own}{R:Result→Shared→Prop}
    (W:Walk w B A P target it ds its C) (hJ:∀k rs o v,J k rs o→C ((acc,.list rs)::(cenv.locals,.ns false ln v)::o)) (h0:J 0 [] o₀) (hz:ds.length≤16777216)
    (hb:CompBody w B A P elt target ifs cenv ln ds J XB) (hl:∀k rs o,J k rs o→rs.length≤k) (hbase:base=its 0++(acc,.list [])::(cenv.locals,.ns false ln (ln.map fun q_=>none))::o₀)
    (I:Inv w B A s N base) (hp:∀p∈P,RelD s.heap N p.1 p.2)
    (hR:∀s' N' rs v o,Step s N base s' N' ((acc,.list rs)::(cenv.locals,.ns false ln v)::o)→Inv w B A s' N' ((acc,.list rs)::(cenv.locals,.ns false ln v)::o)→J ds.length rs o→R (.ok .next) s')
    (hX:∀s' N' o x,Step s N base s' N' o→Inv w B A s' N' o→XB x o→notedBy (model PG w) A cenv (fun e s'=>R (.error e) s') (.ref x) s') :
    codeAny (model PG w) A (.compLoop (.ListComp elt [⟨target,iter,ifs,0⟩] scope pos) 0 (.ref it) (.ref acc) cenv) R s:=by
  refine codeAny_loop rfl (CompAt w B A s N base ds.length its acc cenv.locals ln J) (fun n s' h=>?_) ds.length ⟨0,[],_,o₀,N,Nat.zero_le _,h0,hbase▸.refl ..,hbase▸I⟩
  obtain ⟨k,rs,vls,o,N',hk,hj,S,I'⟩:=h
  show wpAny _ A ((compTurn (.ListComp elt [⟨target,iter,ifs,0⟩] scope pos) 0 (.ref it) (.ref acc) cenv).onRaise (fun x=>do noteFrame x cenv;theTreesLotGoes x)) _ _ s'
  refine wpAny_noted ?_
  rw [compTurn_list]
  refine wpAny_bind (wpAny_standAt (wpAny_bind ?_))
  have hp':=S.pins I hp
  by_cases hlt:k<ds.length
  · refine W.item k _ ds[k] s' N' (List.getElem?_eq_getElem hlt) (hJ k rs o vls hj) I' hp' _ _ _ (fun v s₁ h=>wpAny_bind h) (fun v s₂ N₂ S₂ I₂ r₂=>?_)
    have hp₂:=pc r₂ (S₂.pins I' hp')
    have eL:∀l:Own,its (k+1)++(acc,.list rs)::l=(its (k+1)++[(acc,.list rs)])++l:=fun l=>(List.append_cons ..)
    have I₂':Inv w B A s₂ N₂ ((its (k+1)++[(acc,.list rs)])++(cenv.locals,.ns false ln (ln.map fun q_=>none))::o):=by rw [eL] at I₂;exact I₂.forget
    have S₃:Step s N base s₂ N₂ ((its (k+1)++[(acc,.list rs)])++(cenv.locals,.ns false ln (ln.map fun q_=>none))::o):=by
      rw [eL] at S₂
      exact ⟨(S.trans S₂).same,(S.trans S₂).nf,(S.trans S₂).grow,(S.trans S₂).n1,(S.trans S₂).n2,fun b hb=>(S.trans S₂).own2 b (by rw [List.map_append,List.map_cons] at hb ⊢;exact hb),S₂.os.trans S.os⟩
    clear eL
    generalize hhid:its (k+1)++[(acc,.list rs)]=hid at I₂' S₃
    refine wpAny_bind ((hb k _ rs o (List.getElem?_eq_getElem hlt) hj v).useH I₂' hp₂ (fun u s₃ N₃ o₃ q_ S₄ I₃ q_ q₃=>?_) fun x s₄ N₄ o₄ S₄ I₄ q=>hX s₄ N₄ o₄ x (S₃.trans S₄).drop I₄.drop q)
    have hp₃:=S₄.pins I₂' hp₂
    refine wpAny_bind (q₃.useH I₃ hp₃ (fun ok s₅ N₅ o₅ b S₅ I₅ r₅ q₅=>?_) fun x s₄ N₄ o₄ S₅ I₄ q=>hX s₄ N₄ o₄ x ((S₃.trans S₄).trans S₅).drop I₄.drop q)
    cases (show ok=b from r₅)
    have S₆:=(S₃.trans S₄).trans S₅
    cases ok with
    | false =>
      cases q₅.1 rfl with | mk q =>
      subst hhid
      rw [List.append_assoc] at S₆ I₅
      exact wpAny_pure ⟨rfl,_,Nat.sub_lt_sub_left hlt (Nat.lt_succ_self _),k+1,rs,_,_,N₅,hlt,q,S₆,I₅⟩
    | true =>
      refine wpAny_bind (wpAny_bind ((q₅.2 rfl).useH I₅ (S₅.pins I₃ hp₃) (fun y s₇ N₇ o₇ yd S₇ I₇ r₇ g=>?_) fun x s₄ N₄ o₄ S₇ I₄ q=>hX s₄ N₄ o₄ x (S₆.trans S₇).drop I₄.drop q))
      obtain ⟨hy,hj'⟩:=g
      obtain ⟨N₈,I₈,S₈,r₈⟩:=(hy.after (hid:=hid)).sound I₇ r₇
      have S₉:=(S₆.trans S₇).trans S₈
      subst hhid
      rw [List.append_assoc] at I₈ S₉
      refine wpAny_bind ((Call.append (w:=w) (B:=B) (A:=A) (X:=fun q_ q_=>False) (Q:=fun q_ o=>o=_) (Put.after .here) (Nat.le_trans (hl k rs o hj) (Nat.le_trans hk hz)) rfl [] [.ref acc,y] rfl).useC I₈ (pc rfl (pc r₈ fun q_ h=>absurd h List.not_mem_nil)) (fun z s₁₀ N₁₀ o₁₀ q_ S₁₀ I₁₀ q_ e=>?_) fun q_ q_ q_ q_ q_ q_ x=>x.elim)
      subst e
      exact wpAny_pure (wpAny_pure ⟨rfl,_,Nat.sub_lt_sub_left hlt (Nat.lt_succ_self _),k+1,_,_,_,N₁₀,hlt,hj',S₉.trans S₁₀,I₁₀⟩)
  · cases Nat.le_antisymm hk (Nat.le_of_not_lt hlt)
    exact W.done _ s' N' (hJ _ rs o vls hj) I' hp' _ _ fun s₂ N₂ S₂ I₂=>wpAny_pure (hR s₂ N₂ rs vls o (S.trans S₂) I₂ hj)
end
section
variable {α β:Type}{w:World}{B:Heap}{A:Around}{own own':Own}{P:Pins}{X:Addr→Own→Prop}{env:Env}{Q:D→Own→Prop}{QB:Bool→Own→Prop}{QF:Fl→Own→Prop}{Qs:List D→Own→Prop}{s:Shared}{N:Addr→Prop}
theorem noteFrame_frame {env env':Env}(x:Value) (h:env'.frame=env.frame):noteFrame x env'=noteFrame x env:=by
  have e:PySem.frameOf env'=PySem.frameOf env:=by unfold PySem.frameOf;rw [h]
  unfold noteFrame
  rw [h,e]
theorem Inv.perm (I:Inv w B A s N own) (p:own.Perm own'):Inv w B A s N own':=I.sub (fun q h=>p.mem_iff.mpr h) ((p.map _).nodup_iff.mp I.nd)
theorem Step.perm {s':Shared}{N':Addr→Prop}{o₁ o₂:Own}(S:Step s N own s' N' o₁) (p:o₁.Perm o₂):Step s N own s' N' o₂:=⟨S.same,S.nf,S.grow,S.n1,S.n2,fun b hb=>S.own2 b ((p.map _).mem_iff.mpr hb),S.os⟩
theorem compThrown {Cc:Addr}{d:D}{L:Addr}{ln:List Str}{vals:List (Option D)}{outer:List Env}{Lf x:Addr}{cenv:Env}{use:Option (Value→Sem Unit)}{acc:Value}{QV:Value→Shared→Prop}{E:Value→Shared→Prop}(I:Inv w B A s N own) (h:Thr Cc d [(L,.ns false ln vals)] false x own)
    (hfr:A.frames=some (env::outer)) (hf:env.frame=some Lf) (hc:cenv.frame=env.frame)
    (k:∀s' N' own',Step s N own s' N' own'→Inv w B A s' N' own'→Thr Cc d [] true x own'→E (.ref x) s') :
    notedBy (model PG w) A cenv (fun e s'=>compPost (model PG w) A E use QV acc L (.error e) s') (.ref x) s:=by
  unfold notedBy
  rw [noteFrame_frame _ hc]
  refine note I h hfr hf fun s₁ N₁ own₁ S₁ I₁ t₁=>?_
  obtain ⟨dd,tb,x1,x2,x3,x4,x5⟩:=t₁
  have hL:=(x5 (L,.ns false ln vals) (.head _)).1
  have hn:∃m,s₁.heap.Ns L m:=let ⟨_,_,_,m,h,_⟩:=I₁.owned _ hL.mem;⟨m,h⟩
  obtain ⟨m,hn⟩:=hn
  obtain ⟨own₂,U⟩:=hL.put .junk
  have key:∀h',Heap.SameBut L s₁.heap h'→∀cenv:Env,cenv.locals=L→wpAny (model PG w) A (PySem.passOn "comprehension.variables-let-go" (.ref x) cenv:Sem Value) (fun q_ q_=>False) E {s₁ with heap:=h' }:=fun h' hs' cenv' q_=>by
    obtain ⟨I₂,S₂⟩:=I₁.spoil U hs'
    have ne:∀b o,Has own₁ b o→(∀v,o≠.ns false ln v)→b≠L:=fun b o hb hnn q=>by
      subst q
      exact hnn _ (Has.uniq I₁.nd hb hL)
    have t₂:Thr Cc d [] true x own₂:=⟨dd,tb,U.other x1 (ne _ _ x1 (by simp)),U.other x2 (ne _ _ x2 (by simp)),fun T hT=>let ⟨fl,g⟩:=x3 T hT;⟨fl,U.other g (ne _ _ g (by simp))⟩,x4,fun p hp=>absurd hp List.not_mem_nil⟩
    obtain ⟨vs,e1,e2⟩:=(I₂.owned _ (U.other x1 (ne _ _ x1 (by simp))).mem).2
    unfold PySem.passOn
    refine wpAny_bind (wpAny_field e1 rfl e2 ?_)
    cases tb with
    | none=>exact absurd rfl (x4 rfl)
    | some T =>
      rw [if_neg (show ¬ ((Value.ref T == Value.none)=true) from Bool.false_ne_true)]
      have fin:wpAny (model PG w) A (setFlight (.ref x) cenv'.frame >>= fun q_=>throw (.ref x):Sem Value) (fun q_ q_=>False) E {s₁ with heap:=h' }:=wpAny_bind (flight I₂ t₂ fun s₃ N₃ own₃ S₃ I₃ t₃=>wpAny_throw (k s₃ N₃ own₃ ((S₁.trans S₂).trans S₃) I₃ t₃))
      first | exact fin | exact wpAny_bind (wpAny_pure fin)
  cases use <;> exact ⟨m,hn,key⟩
theorem Inv.push {ob:Obj}{o:O}(I:Inv w B A s N own) (ho:RelO w (s.heap.push ob) (fun x=>N x∨x=s.heap.objs.size) s.heap.objs.size o):Inv w B A {s with heap:=s.heap.push ob } (fun x=>N x∨x=s.heap.objs.size) ((s.heap.objs.size,o)::own)∧Step s N own {s with heap:=s.heap.push ob } (fun x=>N x∨x=s.heap.objs.size) ((s.heap.objs.size,o)::own) :=
  I.make (k:=s.toks) (fun q_ q_ e=>Heap.get?_push_of_some _ e) (by rw [Heap.size_push];exact Nat.le_succ _) (Nat.le_refl _) (by rw [Heap.size_push];exact Nat.lt_succ_self _) ho
theorem noNames {h:Heap}{N:Addr→Prop}{m:Str→Option Value}{ln:List Str}(i:Nat) (x:Str) (v:D) (hx:ln[i]?=some x) (hv:(ln.map fun q_=>(none:Option D))[i]?=some (some v)):∃u,m x=some u∧RelD h N v u:=by
  rw [List.getElem?_map,hx] at hv;cases hv
theorem Inv.spoilt {L:Addr}{ln:List Str}{vals:List (Option D)}{h':Heap}{p o:Own}(I:Inv w B A s N (p++(L,.ns false ln vals)::o)) (hs:Heap.SameBut L s.heap h'):Inv w B A {s with heap:=h' } N (p++o)∧Step s N (p++(L,.ns false ln vals)::o) {s with heap:=h' } N (p++o):=by
  obtain ⟨I₆,S₆⟩:=I.spoil (own':=p++(L,.junk)::o) (Put.after .here) hs
  have pm:(p++(L,O.junk)::o).Perm ((L,O.junk)::(p++o)):=List.perm_middle
  exact ⟨(I₆.perm pm).drop (hid:=[(L,.junk)]),(S₆.perm pm).drop (hid:=[(L,.junk)])⟩
noncomputable abbrev CompUse (w:World) (B:Heap) (A:Around) (use:Option (Value→Sem Unit)) (Q:D→Own→Prop) (X:Addr→Own→Prop) (acc:Addr) (rs:List D) (o:Own):Prop :=
  match use with | none=>Q (.ref acc) ((acc,.list rs)::o) | some u=>Wp w B A RE [(.ref acc,.ref acc)] ((acc,.list rs)::o) (u (.ref acc)) (fun (_:Unit) o'=>Q .none o') X
noncomputable abbrev CompErr (A:Around) (env:Env) (ln:List Str) (X:Addr→Own→Prop) (XB:Addr→Addr→Own→Prop):Prop :=
  ∀L x o,XB L x o→∃outer Cc d vals,A.frames=some (env::outer)∧Thr Cc d [(L,.ns false ln vals)] false x o∧∀o',Thr Cc d [] true x o'→X x o'
inductive CompGo (w:World) (B:Heap) (A:Around) (P:Pins) (elt target:Expr) (ifs:List Expr) (scope:Scope) (cl:List (Str×Addr)) (env:Env) (ln:List Str) (use:Option (Value→Sem Unit)) (Q:D→Own→Prop) (X:Addr→Own→Prop):D→Own→Prop
  | mk {it:Addr}{ds:List D}{its:Nat→Own}{C:Own→Prop}{J:Nat→List D→Own→Prop}{o₀:Own}{XB:Addr→Addr→Own→Prop}(W:Walk w B A P target it ds its C) (hJ:∀k rs o v acc L,J k rs o→C ((acc,.list rs)::(L,.ns false ln v)::o)) (h0:J 0 [] o₀) (hz:ds.length≤16777216) (hl:∀k rs o,J k rs o→rs.length≤k)
      (hb:∀L,CompBody w B A P elt target ifs (compEnvC scope cl L env) ln ds J (XB L)) (hx:CompErr A env ln X XB) (he:∀acc rs o,J ds.length rs o→CompUse w B A use Q X acc rs o):CompGo w B A P elt target ifs scope cl env ln use Q X (.ref it) (its 0++o₀)
theorem compFin {acc L:Addr}{ln:List Str}{v:List (Option D)}{rs:List D}{o:Own}{use:Option (Value→Sem Unit)}{s':Shared}{N':Addr→Prop}(f:CompUse w B A use Q X acc rs o) (S:Step s N own s' N' ((acc,.list rs)::(L,.ns false ln v)::o)) (I:Inv w B A s' N' ((acc,.list rs)::(L,.ns false ln v)::o)) :
    compPost (model PG w) A (PostX w B A s N own X) use (Post w B A RV s N own Q) (.ref acc) L (.ok .next) s':=by
  cases use with
  | none =>
    obtain ⟨_,_,_,m,hm,_⟩:=I.owned (L,.ns false ln v) (.tail _ (.head _))
    refine ⟨m,hm,fun h' hs'=>?_⟩
    have k:=I.spoilt (p:=[(acc,.list rs)]) hs'
    exact ⟨N',(acc,.list rs)::o,.ref acc,S.trans k.2,k.1,rfl,f⟩
  | some u =>
    have sw:List.Perm ((acc,O.list rs)::(L,O.ns false ln v)::o) ([(L,O.ns false ln v)]++(acc,O.list rs)::o):=.swap ..
    refine Wp.useH f (I.perm sw) (pc rfl fun q_ h=>absurd h List.not_mem_nil) (fun q_ s'' N'' o'' q_ S'' I'' q_ q=>?_) fun x s'' N'' o'' S'' I'' q=>⟨N'',o'',x,((S.perm sw).trans S'').drop,I''.drop,rfl,q⟩
    obtain ⟨_,_,_,m',hm',_⟩:=I''.owned (L,.ns false ln v) (.head _)
    refine ⟨m',hm',fun h' hs'=>?_⟩
    have k:=I''.spoilt (p:=[]) hs'
    exact ⟨N'',o'',.none,((S.perm sw).trans S'').trans k.2,k.1,rfl,q⟩
theorem comp {elt target iter:Expr}{ifs:List Expr}{scope:Scope}{pos pos':Pos}{use:Option (Value→Sem Unit)}{cl:List (Str×Addr)}{ln:List Str}{Lf:Addr}
    (hs:∀x,foldedSetIterable iter env x=pure x) (hclos:closureFor scope env=pure cl) (hkind:scope.kind=.function) (hnames:∀x∈scope.names,x.2=.local→scope.names.lookup x.1=some .local) (hcell:∀x∈scope.names,x.2≠.cell) (hln:ln.Nodup)
    (hf:env.frame=some Lf)
    (h:Wp w B A RV P own (eval iter env) (fun dx o=>∀a,Wp w B A RV ((dx,a)::P) o (pyIter a) (CompGo w B A ((dx,a)::P) elt target ifs scope cl env ln use Q X) X) X) :
    Wp w B A RV P own (comprehension (.ListComp elt [⟨target,iter,ifs,0⟩] scope pos) scope env pos' (newList []) false (eval iter env) use) Q X:=fun s N I hp=>by
  refine wpAny_comprehension_free (g:=⟨target,iter,ifs,0⟩) (gs:=[]) rfl hs hclos hkind hnames (h.useC I hp (fun a s₁ N₁ o₁ dx S₁ I₁ r₁ q₁=>?_) fun x s' N' o' S I q=>⟨N',o',x,S,I,rfl,q⟩)
  have p₁:=pc r₁ (S₁.pins I hp)
  refine (q₁ a).useC I₁ p₁ (fun i s₂ N₂ o₂ di S₂ I₂ r₂ g=>?_) fun x s' N' o' S I q=>⟨N',o',x,S₁.trans S,I,rfl,q⟩
  obtain @⟨it,ds,its,C,J,o₀,XB,W,hJ,h0,hz,hl,hb,hx,fin⟩:=g
  cases (show i=.ref _ from r₂)
  have S:=S₁.trans S₂
  have p₂:=S₂.pins I₁ p₁
  refine wpAny_newList ?_ (by rw [sizeLine_eq];exact Nat.zero_le _)
  obtain ⟨I₃,S₃⟩:=I₂.push (o:=.list []) (ob:={cls:=.type "list", data:=.seq ([]:List Value).toArray }) ⟨[],0,Heap.get?_push_size _ rfl,rfl⟩
  have p₃:=S₃.pins I₂ p₂
  replace S:=S.trans S₃
  clear S₃ p₂ I₂ S₁ S₂ I₁ p₁ q₁ r₁
  generalize s₂.heap.objs.size=acc at I₃ S p₃ ⊢
  generalize ({s₂ with heap:=s₂.heap.push {cls:=.type "list", data:=.seq ([]:List Value).toArray } }:Shared)=s₃ at I₃ S p₃ ⊢
  unfold newFunctionEnv
  simp only [Option.isSome_some,if_true]
  refine wpAny_bind (wpAny_alloc ?_)
  rw [forIn_yield_id cl (fun x hx c=>if_neg (by simpa using hcell x hx))]
  refine wpAny_bind (wpAny_pure (wpAny_bind ?_))
  rw [List.forIn_nil]
  refine wpAny_pure (wpAny_pure ?_)
  obtain ⟨I₄,S₄⟩:=I₃.push (o:=.ns false ln (ln.map fun q_=>none)) (ob:={cls:=.type "dict", data:=.dict #[] }) ⟨hln,⟨_,Heap.get?_push_size _ rfl,fun q_=>neD⟩,_,Heap.Ns.new s₃.heap (.type "dict"),noNames⟩
  have p₄:=S₄.pins I₃ p₃
  replace S:=S.trans S₄
  clear S₄ p₃ I₃
  generalize ({s₃ with heap:=s₃.heap.push {cls:=.type "dict", data:=.dict #[] } }:Shared)=s₄ at I₄ S p₄ ⊢
  generalize s₃.heap.objs.size=L at I₄ S p₄ ⊢
  have pm:List.Perm ((L,O.ns false ln (ln.map fun q_=>none))::(acc,O.list [])::(its 0++o₀)) (its 0++(acc,O.list [])::(L,O.ns false ln (ln.map fun q_=>none))::o₀):=(List.Perm.swap ..).trans (List.perm_append_comm_assoc [(acc,O.list []),(L,O.ns false ln (ln.map fun q_=>none))] (its 0) o₀)
  replace I₄:=I₄.perm pm
  replace S:=S.perm pm
  have loop:=compLoop (scope:=scope) (pos:=pos) (elt:=elt) (iter:=iter) (cenv:=compEnvC scope cl L env) (R:=compPost (model PG w) A (PostX w B A s N own X) use (Post w B A RV s N own Q) (.ref acc) L) W (fun k rs o v q=>hJ k rs o v acc L q) h0 hz (hb L) hl rfl I₄ p₄ (fun s' N' rs v o S' I' hj=>compFin (fin acc rs o hj) (S.trans S') I') (fun s' N' o x S' I' q=>by
    obtain ⟨outer,Cc,d,vals,hfr,t,k⟩:=hx L x o q
    exact compThrown I' t hfr hf rfl fun s₆ N₆ o₆ S₆ I₆ t₆=>⟨N₆,o₆,x,(S.trans S').trans S₆,I₆,rfl,k o₆ t₆⟩)
  exact codeAny_compStart_list loop (W.self _ s₄ _ (hJ 0 [] _ _ acc L h0) I₄ _ _ loop)
end
section
variable {α β:Type}{w:World}{B:Heap}{A:Around}{own own':Own}{P:Pins}{X:Addr→Own→Prop}{env:Env}{Q:D→Own→Prop}{QB:Bool→Own→Prop}{QF:Fl→Own→Prop}{Qs:List D→Own→Prop}{s:Shared}{N:Addr→Prop}
noncomputable def ownedTuples:List String:=["enumerate", "zip", "dict_itemiterator", "dict_reverseitemiterator", "odict_iterator", "itertools.zip_longest", "itertools.pairwise"]
theorem go_it {target:Expr}{it:Addr}{ob:Obj}{cls:String}{v:Value}{Q:Unit→Shared→Prop}{E:Value→Shared→Prop}(hob:s.heap.get? it=some ob) (hc:ob.cls=.type cls) (hn:ownedTuples.contains cls=false) (h:Q () s) :
    wpAny (model PG w) A (letOwnedTupleGo target (.ref it) v) Q E s:=by
  have key:∀a,v=.ref a→wpAny (model PG w) A (do
      let o ← load it
      match o.cls,o.data with
      | .type n,.fields vs =>
        if ["enumerate", "zip", "dict_itemiterator", "dict_reverseitemiterator", "odict_iterator", "itertools.zip_longest", "itertools.pairwise"].contains n && vs[0]? == some (rawInt a) then
          rule "for.unpacks-the-owned-tuple"
          updateField it 0 .none
      | _,_=>pure ()) Q E s:=fun a q_=>by
    refine wpAny_bind (wpAny_load hob ?_)
    rw [hc]
    cases hd:ob.data with
    | fields vs =>
      dsimp only
      have hn':(["enumerate", "zip", "dict_itemiterator", "dict_reverseitemiterator", "odict_iterator", "itertools.zip_longest", "itertools.pairwise"]:List String).contains cls=false:=hn
      rw [hn']
      exact wpAny_pure h
    | _=>exact wpAny_pure h
  cases target <;> first
    | exact wpAny_pure h
    | (cases v <;> first | exact wpAny_pure h | exact key _ rfl)
theorem Inv.spent {it:Addr}{x:O}{h':Heap}{o:Own}(I:Inv w B A s N ((it,x)::o)) (hx:∀ob,s.heap.get? it=some ob→ob.cls≠.type "frame") (he:Heap.ExtBut it s.heap h') (hz:s.heap.objs.size≤h'.objs.size) :
    Inv w B A {s with heap:=h' } N o∧Step s N ((it,x)::o) {s with heap:=h' } N o:=by
  have nf:∀b o,s.heap.get? b=some o→NF o→o.cls=.type "frame" → ∃o',h'.get? b=some o'∧NF o'∧o'.cls=o.cls:=fun b o e n f=>by
    by_cases q:b=it
    · subst q;exact absurd f (hx o e)
    · exact ⟨o,he b o q e,n,rfl⟩
  have S:Step s N ((it,x)::o) {s with heap:=h' } N o:=⟨fun b y e hb=>⟨y,he b y (fun q=>hb (by simp [q])) e,.refl y⟩,nf,hz,fun q_ h q_ q_=>h,fun q_ h=>.inl h,fun b hb=>.inl (by simp only [List.map_cons,List.mem_cons];exact .inr hb),rfl⟩
  have hN:=(I.owned _ (.head _)).1
  have nd:=I.nd
  rw [List.map_cons,List.nodup_cons] at nd
  refine ⟨⟨fun b y e=>he b y (fun q=>by rw [q,I.offB _ hN] at e;cases e) (I.stays b y e),I.hi,fun b h=>Nat.lt_of_lt_of_le (I.lt b h) hz,fun p hp=>?_,nd.2,I.frames.keeps nf,I.gens⟩,S⟩
  have O:=I.owned p (.tail _ hp)
  exact ⟨O.1,O.2.mono (S.kk I) S.kn fun ob e=>⟨ob,he _ _ (fun q=>nd.1 (List.mem_map.mpr ⟨p,hp,q⟩)) e,.refl ob⟩⟩
structure Goes (w:World) (B:Heap) (A:Around) (P:Pins) (it:Addr) (ds:List D) (st:Nat→O) (cls:String) (C:Own→Prop):Prop where
  isA:∀k s N o,Inv w B A s N ((it,st k)::o)→∃ob,s.heap.get? it=some ob∧ob.cls=.type cls
  own:ownedTuples.contains cls=false∧cls ≠ "frame"
  item:∀k o d s N,ds[k]?=some d→C o→Inv w B A s N ((it,st k)::o)→(∀p∈P,RelD s.heap N p.1 p.2)→∀(E:Value→Shared→Prop) (T:Option Value→Shared→Prop),
    (∀v h' tk,Heap.SameBut it s.heap h'→RelO w h' N it (st (k+1))→RelD s.heap N d v→T (some v) {s with heap:=h',toks:=tk })→wpAny (model PG w) A (pyNext (.ref it)) T E s
  done:∀o s N,C o→Inv w B A s N ((it,st ds.length)::o)→(∀p∈P,RelD s.heap N p.1 p.2)→∀(E:Value→Shared→Prop) (T:Option Value→Shared→Prop),
    (∀h',Heap.ExtBut it s.heap h'→T none {s with heap:=h' })→wpAny (model PG w) A (pyNext (.ref it)) T E s
  self:∀o s N,C o→Inv w B A s N ((it,st 0)::o)→∀(E:Value→Shared→Prop) (R:Value→Shared→Prop),R (.ref it) s→wpAny (model PG w) A (pyIter (.ref it)) R E s
theorem Goes.walk {target:Expr}{it:Addr}{ds:List D}{st:Nat→O}{cls:String}{C:Own→Prop}(G:Goes w B A P it ds st cls C):Walk w B A P target it ds (fun k=>[(it,st k)]) C where
  item:=fun k o d s N hd hC I hp E R T hT hR=>by
    have I':Inv w B A s N ((it,st k)::o):=I
    obtain ⟨ob,g1,g2⟩:=G.isA k s N o I'
    refine G.item k o d s N hd hC I' hp E T fun v h' tk hs hO rv=>?_
    obtain ⟨I₁,S₁⟩:=I'.upd (k:=tk) (own':=(it,st (k+1))::o) .here hs (fun x e f=>by
      rw [g1] at e
      cases e
      rw [g2] at f
      have:cls = "frame" := by simpa using f
      exact absurd this G.own.2) hO
    obtain ⟨ob',g1',g2'⟩:=G.isA _ _ _ _ I₁
    refine hT v _ (go_it g1' g2' G.own.1 (hR v _ N S₁ I₁ (S₁.relD I' rv)))
  done:=fun o s N hC I hp E T hT=>by
    have I':Inv w B A s N ((it,st ds.length)::o):=I
    obtain ⟨ob,g1,g2⟩:=G.isA _ s N o I'
    refine wpAny_grown (G.done o s N hC I' hp _ _ fun h' he hz=>?_)
    obtain ⟨I₁,S₁⟩:=I'.spent (fun ob' e f=>by
      rw [g1] at e
      cases e
      rw [g2] at f
      have:cls = "frame" := by simpa using f
      exact absurd this G.own.2) he hz
    exact hT _ N S₁ I₁
  self:=fun o s N hC I E R h=>G.self o s N hC I E R h
noncomputable def Iterable (w:World) (B:Heap) (A:Around) (dx:D) (ds:List D) (C:Own→Prop):Prop :=
  ∀s N a o P,Inv w B A s N o→(∀p∈(dx,a)::P,RelD s.heap N p.1 p.2)→C o→∀(E:Value→Shared→Prop) (R:Value→Shared→Prop),
    (∀it st cls s' N',Step s N o s' N' ((it,st 0)::o)→Inv w B A s' N' ((it,st 0)::o)→Goes w B A ((dx,a)::P) it ds st cls C→R (.ref it) s')→wpAny (model PG w) A (pyIter a) R E s
theorem itAt {it:Addr}{cls:String}{vs:Array Value}{o:Own}(I:Inv w B A s N ((it,.it cls vs)::o)):∃ob,s.heap.get? it=some ob∧ob.cls=.type cls∧ob.data=.fields vs:=(I.owned _ (.head _)).2.imp fun q_ g=>⟨g.1,g.2.1,g.2.2.2⟩
theorem itTo {it:Addr}{cls:String}{vs:Array Value}{h:Heap}(hc:cls ≠ "frame") (q:∃ob,h.get? it=some ob∧ob.cls=.type cls∧ob.data=.fields vs):RelO w h N it (.it cls vs):=q.imp fun q_ g=>⟨g.1,g.2.1,hc,g.2.2⟩
theorem it_cls {it:Addr}{cls:String}{vs:Array Value}{o:Own}(I:Inv w B A s N ((it,.it cls vs)::o)):∃ob,s.heap.get? it=some ob∧ob.cls=.type cls:=(itAt I).imp fun q_ g=>⟨g.1,g.2.1⟩
theorem lstAt {l:List D}{v:Value}{h:Heap}(r:RelD h N (.lst l) v):∃ax items,v=.ref ax∧h.IsList ax (List.toArray items)∧RelDs h N l items:=by
  obtain ⟨ax,n,items,ea,_,e,r⟩:=r
  exact ⟨ax,items,ea,⟨_,e,rfl,n,rfl⟩,r⟩
theorem tupAt {l:List D}{v:Value}{h:Heap}(r:RelD h N (.tup l) v):∃ax items,v=.ref ax∧h.IsTuple ax (List.toArray items)∧RelDs h N l items:=by
  obtain ⟨ax,n,items,ea,_,e,r⟩:=r
  exact ⟨ax,items,ea,⟨_,e,rfl,n,rfl⟩,r⟩
theorem mapGet {α β:Type}{f:α→β}{l:List α}{k:Nat}{d:β}(hd:(l.map f)[k]?=some d):∃c,l[k]?=some c∧f c=d:=by
  rw [List.getElem?_map] at hd
  exact Option.map_eq_some_iff.mp hd
theorem nfL : "list_iterator" ≠ "frame" := by decide
theorem nfT : "tuple_iterator" ≠ "frame" := by decide
theorem nfB : "bytes_iterator" ≠ "frame" := by decide
theorem nfS : "str_ascii_iterator" ≠ "frame" := by decide
theorem otL:ownedTuples.contains "list_iterator" = false:=by decide
theorem otT:ownedTuples.contains "tuple_iterator" = false:=by decide
theorem otB:ownedTuples.contains "bytes_iterator" = false:=by decide
theorem otS:ownedTuples.contains "str_ascii_iterator" = false:=by decide
theorem newIt {cls:String}{vs:Array Value}{o:Own}(I:Inv w B A s N o) (hc:cls ≠ "frame"):Inv w B A {s with heap:=s.heap.push {cls:=.type cls,data:=.fields vs } } (fun x=>N x∨x=s.heap.objs.size) ((s.heap.objs.size,.it cls vs)::o) ∧
    Step s N o {s with heap:=s.heap.push {cls:=.type cls,data:=.fields vs } } (fun x=>N x∨x=s.heap.objs.size) ((s.heap.objs.size,.it cls vs)::o) :=
  I.make (k:=s.toks) (fun q_ q_ e=>Heap.get?_push_of_some _ e) (by rw [Heap.size_push];exact Nat.le_succ _) (Nat.le_refl _) (by rw [Heap.size_push];exact Nat.lt_succ_self _) ⟨_,Heap.get?_push_size _ rfl,rfl,hc,rfl⟩
theorem Iterable.list (hh:A.handled=none) {ax:Addr}{ds:List D}:Iterable w B A (.ref ax) ds (fun o=>Has o ax (.list ds)):=fun s N a o P I hp hC E R h=>by
  cases (show a=.ref ax from hp _ (.head _))
  obtain ⟨items,hl,_⟩:=isList I hC
  refine wpAny_pyIter_list hl (h s.heap.objs.size (fun k=>.it "list_iterator" #[.ref ax,.int k 0]) "list_iterator" _ _ (newIt I nfL).2 (newIt I nfL).1 ⟨fun k s N o I=>it_cls I,⟨otL,nfL⟩,fun k o d s N hd hC I hp E T hT=>?_,fun o s N hC I hp E T hT=>?_,fun o s N hC I E R h=>wpAny_pyIter_listiter (itAt I) h⟩)
  · obtain ⟨items,hl,r,_⟩:=isList I (.there hC)
    obtain ⟨v,hv,rv⟩:=r.get hd
    exact wpAny_pyNext_list_item (itAt I) hl (by simpa using hv) fun h' q hs'=>hT v h' s.toks hs' (itTo nfL q) rv
  · obtain ⟨items,hl,_,e⟩:=isList I (.there hC)
    exact wpAny_pyNext_list_end hh (itAt I) hl (by simp [e]) hT
theorem Iterable.lst (hh:A.handled=none) {ds:List D}:Iterable w B A (.lst ds) ds (fun q_=>True):=fun s N a o P I hp hC E R h=>by
  obtain ⟨ax,items,ea,hl,r⟩:=lstAt (hp _ (.head _))
  cases (show a=.ref ax from ea)
  refine wpAny_pyIter_list hl (h s.heap.objs.size (fun k=>.it "list_iterator" #[.ref ax,.int k 0]) "list_iterator" _ _ (newIt I nfL).2 (newIt I nfL).1 ⟨fun k s N o I=>it_cls I,⟨otL,nfL⟩,fun k o d s N hd hC I hp E T hT=>?_,fun o s N hC I hp E T hT=>?_,fun o s N hC I E R h=>wpAny_pyIter_listiter (itAt I) h⟩)
  · obtain ⟨ax',items,ea,hl,r⟩:=lstAt (hp _ (.head _))
    cases ea
    obtain ⟨v,hv,rv⟩:=RelDs.get r hd
    exact wpAny_pyNext_list_item (itAt I) hl (by simpa using hv) fun h' q hs'=>hT v h' s.toks hs' (itTo nfL q) rv
  · obtain ⟨ax',items,ea,hl,r⟩:=lstAt (hp _ (.head _))
    cases ea
    exact wpAny_pyNext_list_end hh (itAt I) hl (by simp [RelDs.length r]) hT
theorem Iterable.tup (hh:A.handled=none) {ds:List D}:Iterable w B A (.tup ds) ds (fun q_=>True):=fun s N a o P I hp hC E R h=>by
  obtain ⟨ax,items,ea,hl,r⟩:=tupAt (hp _ (.head _))
  cases (show a=.ref ax from ea)
  refine wpAny_pyIter_tuple hl (h s.heap.objs.size (fun k=>.it "tuple_iterator" #[.ref ax,.int k 0]) "tuple_iterator" _ _ (newIt I nfT).2 (newIt I nfT).1 ⟨fun k s N o I=>it_cls I,⟨otT,nfT⟩,fun k o d s N hd hC I hp E T hT=>?_,fun o s N hC I hp E T hT=>?_,fun o s N hC I E R h=>wpAny_pyIter_tupleiter (itAt I) h⟩)
  · obtain ⟨ax',items,ea,hl,r⟩:=tupAt (hp _ (.head _))
    cases ea
    obtain ⟨v,hv,rv⟩:=RelDs.get r hd
    exact wpAny_pyNext_tuple_item (itAt I) hl (by simpa using hv) fun h' q hs'=>hT v h' s.toks hs' (itTo nfT q) rv
  · obtain ⟨ax',items,ea,hl,r⟩:=tupAt (hp _ (.head _))
    cases ea
    exact wpAny_pyNext_tuple_end hh (itAt I) hl (by simp [RelDs.length r]) hT
theorem Iterable.bytes (hh:A.handled=none) {l:List UInt8}:Iterable w B A (.bytes l) (l.map fun c=>.int c.toNat) (fun q_=>True):=fun s N a o P I hp hC E R h=>by
  obtain ⟨t,ea⟩:=id (hp _ (.head _))
  cases (show a=.bytes l.toArray t from ea)
  refine KBw.pyIter_bytes (h s.heap.objs.size (fun k=>.it "bytes_iterator" #[.bytes l.toArray t,.int k 0]) "bytes_iterator" _ _ (newIt I nfB).2 (newIt I nfB).1 ⟨fun k s N o I=>it_cls I,⟨otB,nfB⟩,fun k o d s N hd hC I hp E T hT=>?_,fun o s N hC I hp E T hT=>KBw.next_end (b:=l.toArray) (t:=t) hh (itAt I) (by simp) hT,fun o s N hC I E R h=>KBw.pyIter_self (itAt I) h⟩)
  obtain ⟨c,hc,e⟩:=mapGet hd
  exact KBw.next_item (c:=c) (itAt I) (by simpa using hc) fun h' q hs'=>hT _ h' (s.toks+1) hs' (itTo nfB q) (e▸⟨_,rfl⟩)
theorem Iterable.str (hh:A.handled=none) {l:List Nat}(ha:∀c∈l,c<128):Iterable w B A (.str l) (l.map fun c=>.str [c]) (fun q_=>True):=fun s N a o P I hp hC E R h=>by
  obtain ⟨t,ea⟩:=id (hp _ (.head _))
  cases (show a=.str ⟨l.toArray⟩ t from ea)
  refine wpAny_pyIter_ascii (by simpa using ha) (h s.heap.objs.size (fun k=>.it "str_ascii_iterator" #[.str ⟨l.toArray⟩ t,.int k 0]) "str_ascii_iterator" _ _ (newIt I nfS).2 (newIt I nfS).1 ⟨fun k s N o I=>it_cls I,⟨otS,nfS⟩,fun k o d s N hd hC I hp E T hT=>?_,fun o s N hC I hp E T hT=>wpAny_pyNext_ascii_end (x:=⟨l.toArray⟩) (t:=t) hh (itAt I) (by simp) hT,fun o s N hC I E R h=>wpAny_pyIter_striter_ascii (itAt I) h⟩)
  obtain ⟨c,hc,e⟩:=mapGet hd
  exact wpAny_pyNext_ascii_item (c:=c) (itAt I) (by simpa using hc) fun h' q hs'=>hT _ h' (s.toks+1) hs' (itTo nfS q) (e▸⟨_,rfl⟩)
noncomputable def rangeObj (n:Int) (t u v:Tok):Obj:={cls:=.type "range", dict:=none,data:=.fields #[.int 0 t,.int n u,.int 1 v],slots:=#[] }
theorem Iterable.range (hh:A.handled=none) {r:Addr}{n:Nat}{t u v:Tok}(hn:n≤1000):Iterable w B A (.ref r) ((List.range n).map fun (i:Nat)=>.int i) (fun o=>Has o r (.exact (rangeObj n t u v))):=fun s N a o P I hp hC E R h=>by
  have e:a=.ref r:=hp _ (.head _)
  subst e
  obtain ⟨_,e,_⟩:=I.owned _ hC.mem
  have hz:Builtin.Range.rangeSize 0 (n:Int) 1=n:=by
    rw [rangeSize_one,Int.sub_zero]
    by_cases h:(0:Int)<n
    · rw [if_pos h]
    · rw [if_neg h];exact (congrArg (Nat.cast:Nat→Int) (Nat.eq_zero_of_le_zero (Int.ofNat_le.mp (Int.not_lt.mp h)))).symm
  have mk:=newIt (cls := "range_iterator") (vs:=#[rawInt 0,rawInt n,rawInt 1]) I (by decide)
  refine wpAny_pyIter_range (a:=0) (b:=n) (c:=1) e (small_one (by decide) (by decide) (Int.le_trans (by decide) (Int.natCast_nonneg n)) (Int.lt_of_le_of_lt (Int.ofNat_le.mpr hn) (by decide))) ?_
  rw [hz]
  obtain ⟨I₁,S₁⟩:=I.make (k:=s.toks) (o:=.exact {cls:=.type "range_iterator", dict:=none,data:=.fields #[rawInt 0,rawInt n,rawInt 1],slots:=#[] }) (c:=s.heap.objs.size) (h':=s.heap.push {cls:=.type "range_iterator", data:=.fields #[rawInt 0,rawInt n,rawInt 1] })
    (fun q_ q_ e=>Heap.get?_push_of_some _ e) (by rw [Heap.size_push];exact Nat.le_succ _) (Nat.le_refl _) (by rw [Heap.size_push];exact Nat.lt_succ_self _) ⟨Heap.get?_push_size _ rfl,by simp⟩
  refine h s.heap.objs.size (fun k=>.exact {cls:=.type "range_iterator", dict:=none,data:=.fields #[rawInt k,rawInt (n-k),rawInt 1],slots:=#[] }) "range_iterator" _ _ (by simpa using S₁) (by simpa using I₁) ?_
  exact ⟨fun k s N o I=>⟨_,(I.owned _ (.head _)).2.1,rfl⟩,⟨by decide,by decide⟩,fun k o d s N hd hC I hp E T hT=>by
      obtain ⟨_,g1,_⟩:=I.owned _ (.head _)
      obtain ⟨hk,rfl⟩:k<n∧d=.int k:=by
        rw [List.getElem?_map] at hd
        cases hq:(List.range n)[k]? with
        | none=>rw [hq] at hd;cases hd
        | some c =>
          rw [hq] at hd
          cases hd
          obtain ⟨h1,h2⟩:=List.getElem?_eq_some_iff.mp hq
          simp at h1 h2
          exact ⟨h1,by rw [h2]⟩
      refine wpAny_pyNext_range_item (x:=k) (left:=n-k) (step:=1) g1 (Int.sub_pos_of_lt (Int.ofNat_lt.mpr hk)) fun h' q hs'=>hT _ h' (s.toks+1) hs' ⟨?_,(by simp)⟩ ⟨_,rfl⟩
      have e1:((k:Int)+1)=((k+1:Nat):Int):=rfl
      have e2:((n:Int)-k-1)=(n:Int)-((k+1:Nat):Int):=Int.sub_sub ..
      rw [e1,e2] at q
      exact q,
    fun o s N hC I hp E T hT=>by
      obtain ⟨_,g1,_⟩:=I.owned _ (.head _)
      refine wpAny_pyNext_range_end (x:=n) (left:=n-n) (step:=1) hh (by simpa using g1) (by lia) hT,
    fun o s N hC I E R h=>by
      obtain ⟨_,g1,_⟩:=I.owned _ (.head _)
      exact wpAny_pyIter_rangeiter (x:=(0:Nat)) (left:=n-(0:Nat)) (step:=1) g1 h⟩
inductive ForIGo (w:World) (B:Heap) (A:Around) (P:Pins) (target:Expr) (body:List Stmt) (env:Env) (QF:Fl→Own→Prop) (X:Addr→Own→Prop) (dx:D) (o:Own):Prop
  | mk (ds:List D) (C:Own→Prop) (J:Nat→Own→Prop) (XB:Addr→Own→Prop) (hI:Iterable w B A dx ds C) (hJ:∀k o,J k o→C o) (h0:J 0 o) (hx:Notes w B A env XB X) (hb:∀a,ForBody w B A ((dx,a)::P) target body env ds J QF XB) (he:∀o,J ds.length o→QF .next o)
theorem Wp.ForI {target iter:Expr}{body:List Stmt}{pos:Pos}(hs:∀x,foldedSetIterable iter env x=pure x) (h:Wp w B A RV P own (eval iter env) (ForIGo w B A P target body env QF X) X):Wp w B A RF P own (exec (.For target iter body [] pos) env) QF X:=by
  refine Wp.For hs (h.mono (fun dx o g a s N I hp=>?_) fun q_ q_ x=>x)
  obtain ⟨ds,C,J,XB,hI,hJ,h0,hx,hb,he⟩:=g
  exact hI s N a o P I hp (hJ 0 o h0) _ _ fun it st cls s' N' S' I' G=>⟨N',(it,st 0)::o,.ref it,S',I',rfl,.mk (its:=fun k=>[(it,st k)]) G.walk hJ h0 hx (hb a) he⟩
inductive CompIGo (w:World) (B:Heap) (A:Around) (P:Pins) (elt target:Expr) (ifs:List Expr) (scope:Scope) (cl:List (Str×Addr)) (env:Env) (ln:List Str) (use:Option (Value→Sem Unit)) (Q:D→Own→Prop) (X:Addr→Own→Prop) (dx:D) (o:Own):Prop
  | mk (ds:List D) (C:Own→Prop) (J:Nat→List D→Own→Prop) (XB:Addr→Addr→Own→Prop) (hI:Iterable w B A dx ds C) (hC:C o) (hJ:∀k rs o v acc L,J k rs o→C ((acc,.list rs)::(L,.ns false ln v)::o)) (h0:J 0 [] o) (hz:ds.length≤16777216) (hl:∀k rs o,J k rs o→rs.length≤k)
      (hb:∀a L,CompBody w B A ((dx,a)::P) elt target ifs (compEnvC scope cl L env) ln ds J (XB L)) (hx:CompErr A env ln X XB) (he:∀acc rs o,J ds.length rs o→CompUse w B A use Q X acc rs o)
theorem compI {elt target iter:Expr}{ifs:List Expr}{scope:Scope}{pos pos':Pos}{use:Option (Value→Sem Unit)}{cl:List (Str×Addr)}{ln:List Str}{Lf:Addr}
    (hs:∀x,foldedSetIterable iter env x=pure x) (hclos:closureFor scope env=pure cl) (hkind:scope.kind=.function) (hnames:∀x∈scope.names,x.2=.local→scope.names.lookup x.1=some .local) (hcell:∀x∈scope.names,x.2≠.cell) (hln:ln.Nodup)
    (hf:env.frame=some Lf)
    (h:Wp w B A RV P own (eval iter env) (CompIGo w B A P elt target ifs scope cl env ln use Q X) X) :
    Wp w B A RV P own (comprehension (.ListComp elt [⟨target,iter,ifs,0⟩] scope pos) scope env pos' (newList []) false (eval iter env) use) Q X:=by
  refine comp hs hclos hkind hnames hcell hln hf (h.mono (fun dx o g a s N I hp=>?_) fun q_ q_ x=>x)
  obtain ⟨ds,C,J,XB,hI,hC,hJ,h0,hz,hl,hb,hx,he⟩:=g
  exact hI s N a o P I hp hC _ _ fun it st cls s' N' S' I' G=>⟨N',(it,st 0)::o,.ref it,S',I',rfl,.mk (its:=fun k=>[(it,st k)]) G.walk hJ h0 hz hl (hb a) hx he⟩
end
section
open Builtin Builtin.ObjectAttr
inductive ExcObj (K:Frag) (C:Addr):Prop
  | mk (nm q:Str) (N U:Addr) (bs:List Value) (sub:List Value) (ab:Bool) (col:Option Bool) (dd:Option Addr) (k0 k1 k2 k3 k5:Option Value) (h:K.lookup C=some (excClassObj nm q C N bs [.ref U,.type "Exception", .type "BaseException", .type "object"] true [] sub ab col dd k0 k1 k2 k3 k5 "Exception.__new__"))
structure ExcOk (K:Frag) (C fI:Addr):Prop where
  obj:ExcObj K C
  init:findIn K (.ref C) "__init__" = some (some (.ref fI))
  fn:typeIn K (.ref fI)=some (.type "function")
  ga:findIn K (.ref C) "__getattribute__" = some (some (.builtin "BaseException.__getattribute__"))
  hook:findIn K (.ref C) "__getattr__" = some none
  sa:findIn K (.ref C) "__setattr__" = some (some (.builtin "object.__setattr__"))
  told:findIn K (.ref C) "told" = some none
  taker:takerIn K C "told" = some none
  hd:hasDictIn K C=true
  keep:keepIn K (.ref C)=true
section
variable {w:World}{A:Around}{E:Value→Shared→Prop}{h:Heap}{g:Array GenState}{d:Drawn}{t:Nat}{os:OsState}
variable {nm q:Str}{C N U:Addr}{bs bmB:List Value}{hdct:Bool}{sn:List Str}{sub:List Value}{ab:Bool}{col:Option Bool}{dd:Option Addr}{k0 k1 k2 k3 k5:Option Value}{R:Result→Shared→Prop}
noncomputable abbrev xbm (U:Addr):List Value:=[.ref U,.type "Exception", .type "BaseException", .type "object"]
theorem xhas (U C:Addr) {n:String}{b:Bool}(h:([.type "Exception", .type "BaseException", .type "object"]:List Value).contains (.type n)=b):(Value.ref C::xbm U).contains (.type n)=b:=by
  rw [List.contains_cons,List.contains_cons,h];rfl
theorem xcheck {M:Model}{rest:List Value}{Q:Unit→Shared→Prop}(hC:h.get? C=some (excClassObj nm q C N bs (xbm U) hdct sn sub ab col dd k0 k1 k2 k3 k5 "Exception.__new__"))
    (hq:Q () ⟨h,g,d,t,os⟩):wpAny M A (checkBuiltinCall "Exception.__new__" ⟨.ref C::rest,[]⟩) Q E ⟨h,g,d,t,os⟩:=by
  have F:=PySem.F.excBase_Exception
  have hcont:=xhas U C (n := "Exception") (b:=true) (by decide +kernel)
  have hstar:=F.noStar
  simp only [checkBuiltinCall,F.newKind,F.newSplit,F.newRow]
  repeat (first | refine wpAny_loadPart_at hC ?_ | (refine wpAny_isSubtype_exc hC ?_;rw [hcont]) | refine wpAny_staticBase_exc hC ?_ | refine wpAny_madeBy_exc hC ?_ | simp only [bne_self_eq_false,Bool.false_eq_true,if_false] | wp_step)
  exact hq
theorem xnew {rest:List Value}(hC:h.get? C=some (excClassObj nm q C N bs (xbm U) hdct sn sub ab col dd k0 k1 k2 k3 k5 "Exception.__new__"))
    (hq:R (.ok (.ret (.ref (h.objs.size+1)))) ⟨(h.push {cls:=.type "tuple", data:=.seq rest.toArray }).push
      {cls:=.ref C,data:=.fields #[.ref h.objs.size,.none,.none,.none,.bool false,.none] },g,d,t,os⟩) (hrest:rest.length≤sizeLine) :
    codeAny (model PG w) A (.builtin "Exception.__new__" ⟨.ref C::rest,[]⟩) R ⟨h,g,d,t,os⟩:=by
  have F:=PySem.F.excBase_Exception
  have hends:=F.ends
  have hcB:=xhas U C (n := "Exception") (b:=true) (by decide +kernel)
  have hcA:=xhas U C (n := "AttributeError") (b:=false) (by decide +kernel)
  have hcN:=xhas U C (n := "NameError") (b:=false) (by decide +kernel)
  refine codeAny_builtinAt F.entry ?_
  unfold Builtin.«BaseException.__new__»
  refine PySem.wpAt_bind ?_
  show PySem.wpAt _ _ _ (stack >>= _) _ _ _
  refine PySem.wpAt_bind (PySem.wpAt_stack fun p below=>PySem.wpAt_of_wpAny ?_)
  wp_walk
  refine PySem.wpAt_of_wpAny ?_
  rw [F.owner]
  repeat (first | with_reducible refine wpAny_madeHere_exc F.canon hC ?_ | with_reducible refine wpAny_loadPart_at hC ?_ | (with_reducible refine wpAny_isSubtype_exc hC ?_;first | rw [hcB] | rw [hcA] | rw [hcN]) | wp_step)
  show R _ _
  rw [Heap.size_push]
  exact hq
noncomputable abbrev excObj (C t:Addr):Obj:={cls:=.ref C,data:=.fields #[.ref t,.none,.none,.none,.bool false,.none] }
theorem xtype {rest:List Value}{fI:Addr}{oI:Obj}{Q:Fin→Shared→Prop}(hC:h.get? C=some (excClassObj nm q C N bs (xbm U) hdct sn sub ab col dd k0 k1 k2 k3 k5 "Exception.__new__"))
    (hi:Looks (model PG w) h (typeLookup (.ref C) "__init__") (some (.ref fI))) (hb:∀self,Looks (model PG w) h (bindSpecial (.ref fI) self) (.ref fI,[self]))
    (hq:wpAny (model PG w) A (call (.ref fI) (.ref (h.objs.size+1)::rest)) (fun r s'=>r=.none∧Q (.done (.ret (.ref (h.objs.size+1)))) s') E ⟨(h.push {cls:=.type "tuple", data:=.seq rest.toArray }).push (excObj C h.objs.size),g,d,t,os⟩) (hrest:rest.length≤sizeLine) :
    wpAny (model PG w) A (Builtin.«type.__call__» ⟨.ref C::rest,[]⟩) Q E ⟨h,g,d,t,os⟩:=by
  have F:=PySem.F.excBase_Exception
  repeat (first | with_reducible refine wpAny_loadPart_at hC ?_ | with_reducible refine wpAny_madeBy_exc hC ?_ | wp_step)
  refine codeAny_call_builtin_code (Code.quiet_builtin _ F.quiet) (xcheck hC ?_)
  refine xnew hC ?_ hrest
  show wpAny _ _ _ _ _ _
  have k:∀b o,h.get? b=some o→((h.push {cls:=.type "tuple", data:=.seq rest.toArray }).push (excObj C h.objs.size)).get? b=some o:=fun b o e=>Heap.get?_push_of_some _ (Heap.get?_push_of_some _ e)
  have hC₁:=k _ _ hC
  have hget:((h.push {cls:=.type "tuple", data:=.seq rest.toArray }).push (excObj C h.objs.size)).get? (h.objs.size+1)=some (excObj C h.objs.size):=by heap_get
  have hcC:(Value.ref C::xbm U).contains (.ref C)=true:=by simp
  have hi₁:=hi.keeps k
  have hb₁:=(hb (.ref (h.objs.size+1))).keeps k
  unfold isInstance
  repeat (first | with_reducible refine wpAny_loadPart_at hget ?_ | (with_reducible refine wpAny_isSubtype_exc hC₁ ?_;rw [hcC]) | wp_step)
  refine hi₁.at ?_
  dsimp only
  refine wpAny_holding (wpAny_bind (hb₁.at ?_))
  refine wpAny_bind (wpAny_mono hq (fun r s' hr=>?_) fun q_ q_ x=>x)
  obtain ⟨rfl,hQ⟩:=hr
  wp_walk
  exact hQ
theorem xcall {rest:List Value}{fI:Addr}{Q:Value→Shared→Prop}(hC:h.get? C=some (excClassObj nm q C N bs (xbm U) hdct sn sub ab col dd k0 k1 k2 k3 k5 "Exception.__new__"))
    (hi:Looks (model PG w) h (typeLookup (.ref C) "__init__") (some (.ref fI))) (hb:∀self,Looks (model PG w) h (bindSpecial (.ref fI) self) (.ref fI,[self]))
    (hq:wpAny (model PG w) (A.under (.builtin "type.__call__" ⟨.ref C::rest,[]⟩)) (call (.ref fI) (.ref (h.objs.size+1)::rest)) (fun r s'=>r=.none∧Q (.ref (h.objs.size+1)) s') E ⟨(h.push {cls:=.type "tuple", data:=.seq rest.toArray }).push (excObj C h.objs.size),g,d,t,os⟩) (hrest:rest.length≤sizeLine) :
    wpAny (model PG w) A (call (.ref C) rest) Q E ⟨h,g,d,t,os⟩:=by
  have f1:=tc_lookup
  have f2:=tc_bind (.ref C)
  have hT:(⟨h,g,d,t,os⟩:Shared).TypeIs (.ref C) "type" := ⟨_,hC,rfl⟩
  refine wpAny_call (codeAny_of_tree ?_)
  show wpAny _ _ (callAny (.ref C) _) _ _ _
  repeat (any_goals (first | assumption | with_reducible refine wpAny_loadPart_at hC ?_ | wp_step))
  refine ⟨rfl,?_⟩
  refine codeAny_call_builtin_at (Code.quiet_builtin _ (by decide +kernel)) entry_typeCall (wpAny_check_type_call_sub hC (xtype (oI:=excObj 0 0) hC hi hb hq hrest))
end
end
section
open Builtin Builtin.ObjectAttr
section
variable {w:World}{B:Heap}{A:Around}{own own':Own}{P:Pins}{X:Addr→Own→Prop}{env:Env}{Q:D→Own→Prop}{QB:Bool→Own→Prop}{QF:Fl→Own→Prop}{Qs:List D→Own→Prop}{s:Shared}{N:Addr→Prop}{K:Frag}
theorem refuse_exc (self:Value) (C U:Addr):refuseLoop self "__setattr__" (.ref C::xbm U)=pure ():=by
  rw [refuseLoop_ref,refuseLoop_ref];exact PySem.F.store_Exception.passes self
theorem dictPut {A':Around}{c:Addr}{name:Str}{tk:Tok}{ns ns':List Str}{l l':List D}{v:D}{b:Value}{Q:PySem.Fin→Shared→Prop}{E:Value→Shared→Prop}(I:Inv w B A s N own) (h2:Put own c (.attrs ns l) (.attrs ns' l') own')
    (hg:ASet ns l name v ns' l') (nd':ns'.Nodup) (hz:ns.length≤100) (rb:RelD s.heap N v b) (h:∀s',Step s N own s' N own'→Inv w B A s' N own'→Q (.done (.ret .none)) s'):wpAny (model PG w) A' (storeInDict c (.str name tk) name b) Q E s:=by
  obtain ⟨hN,es,n,hd,⟨kn,nd⟩,r⟩:=I.owned _ h2.has
  unfold storeInDict newKeyGuard
  refine wpAny_bind (wpAny_pure (wpAny_bind ?_))
  have hn:s.heap.Ns c (nsFind es.toArray):=⟨_,es.toArray,n,hd,rfl,kn.strKeys,fun q_=>rfl⟩
  have he:(s.heap.update c (Obj.putName name (PyData.keyHash w.params name) (.str name s.toks) b)).get? c=some (dictOf (putL name (PyData.keyHash w.params name) (.str name s.toks) b es) (putN name es n)):=by
    rw [← putName_dict];exact Heap.get?_update_self _ hd (by rw [putName_dict];rfl)
  have hlen:(putL name (PyData.keyHash w.params name) (.str name s.toks) b es).length≤1000:=by
    have:=putL_length name (PyData.keyHash w.params name) (.str name s.toks) b es
    have:=kn.length
    lia
  refine fun Γ p hΓ=>(nsSet_iff hn name b _).mpr ?_
  have past:(dictOf (putL name (PyData.keyHash w.params name) (.str name s.toks) b es) (putN name es n)).data.pastItsLine=none:=pastItsLine_dict (by rw [List.size_toArray,sizeLine_eq];lia)
  refine wpAny_bind (wpAny_lookBehind he past (wpAny_pure ?_))
  have sb:=Heap.SameBut.update s.heap c (Obj.putName name (PyData.keyHash w.params name) (.str name s.toks) b)
  have kk:∀a o,¬ N a→s.heap.get? a=some o→o.cls≠.type "frame" → (s.heap.update c (Obj.putName name (PyData.keyHash w.params name) (.str name s.toks) b)).get? a=some o:=fun a o hn e q_=>(sb.2 a fun q=>hn (q▸hN)).trans e
  have k2:=putL_set (H:=PyData.keyHash w.params name) (t:=s.toks) hg kn nd' (r.mono kk fun q_ q_ a q_=>a) (rb.mono kk fun q_ q_ a q_=>a)
  have u:=I.upd (k:=s.toks+1) h2 sb (fun o ho q_=>by rw [hd] at ho;cases ho;exact ⟨_,he,fun q vs z=>(by cases z),rfl⟩) ⟨_,_,he,⟨k2.1,nd'⟩,k2.2⟩
  exact h _ u.2 u.1
theorem Wp.setAttrExc (hK:K.In B) {C fI x t:Addr}{v:D}{a b:Value}{QU:Unit→Own→Prop}(ok:ExcOk K C fI) (h1:∀dd,∃own',Put own x (.exact (excObj C t)) (.exc C dd none) own'∧QU () ((dd,.attrs ["told"] [v])::own')) :
    Wp w B A RE ((.ref x,a)::(v,b)::P) own (PySem.setAttr a "told" b) QU X:=fun s N I hp=>by
  have ea:a=.ref x:=one hp
  subst ea
  have rb:=(two hp).2
  obtain ⟨own',U,hq⟩:=h1 s.heap.objs.size
  obtain ⟨hN,hx,_⟩:=I.owned _ U.has
  have XK:=hK.keeps I.stays
  have IA:InstAt s.heap x (excObj C t) C none:=⟨hx,rfl,rfl,trivial⟩
  obtain ⟨nm,q,Nn,Uu,bs,sub,ab,col,dd,k0,k1,k2,k3,k5,hC⟩:=ok.obj
  obtain ⟨cd,hcls,hmro,hhd⟩:∃cd,clsIn K C=some cd∧cd.mro=.ref C::xbm Uu∧cd.hasDict=true:=⟨_,by unfold clsIn;rw [hC],rfl,rfl⟩
  refine set_plain XK IA ok.sa ?_
  have SF:=PySem.F.store_object
  have IA':InstAt ({s with toks:=s.toks+1 }:Shared).heap x (excObj C t) C none:=IA
  have hm:Looks (model PG w) s.heap (mroOf (.ref C)) (.ref C::xbm Uu):=by rw [← hmro];exact (looks_clsIn XK hcls).andThen .now
  have sub:Looks (model PG w) s.heap (isInstance (.ref x) (.type "object")) true:=IA.type.andThen (looks_mroIn XK (by unfold mroIn;rw [hcls,Option.bind_some,hmro,if_neg (by simp),xhas Uu C (n := "object") (b:=true) (by decide +kernel)]))
  refine codeAny_call_builtin SF.slot.plain SF.entry (@check_slot (model PG w) _ _ {s with toks:=s.toks+1 } "object.__setattr__" "object" "__setattr__" (.ref x) [.str "told" s.toks,b] [] _ SF.kind SF.split sub (SF.args (.ref x) (.str "told" s.toks) b) ?_)
  rw [osa_eq,refuse_eq]
  refine wpAny_bind (wpAny_bind (IA.type.at (wpAny_bind (hm.at ?_))))
  rw [refuse_exc]
  have L1:Looks (model PG w) s.heap (typeLookup (.ref C) "told") none:=looks_findIn XK ok.told
  refine wpAny_pure (wpAny_bind (IA.type.at (wpAny_bind (L1.at (wpAny_bind (wpAny_pure ?_))))))
  dsimp only

  have L2:Looks (model PG w) s.heap (classData C) cd:=looks_clsIn XK hcls
  show wpAny _ _ (storeInOwnDict (.ref x) (.ref C) (.str "told" s.toks) "told" b false) _ _ _
  unfold storeInOwnDict
  refine wpAny_bind (wpAny_pure ?_)
  refine wpAny_bind ?_
  · show wpAny _ _ (instanceDict x true) _ _ _
    unfold instanceDict
    refine wpAny_bind (wpAny_loadPart hx ?_)
    dsimp only
    refine wpAny_bind (L2.at ?_)
    rw [hhd]
    simp only [Bool.not_true,Bool.false_eq_true,if_false,Bool.false_or]
    rw [if_neg (show ¬ ((!typeHasDict (Value.ref C))=true) by simp [typeHasDict])]
    refine wpAny_bind (wpAny_alloc ?_)
    obtain ⟨I₁,S₁⟩:=I.make (k:=s.toks+1) (c:=s.heap.objs.size) (o:=.attrs [] []) (h':=s.heap.push {cls:=.type "dict", data:=.dict #[] }) (fun q_ q_ e=>Heap.get?_push_of_some _ e) (by rw [Heap.size_push];exact Nat.le_succ _) (Nat.le_refl _) (by rw [Heap.size_push];exact Nat.lt_succ_self _)
      ⟨[],0,Heap.get?_push_size _ rfl,⟨rfl,List.nodup_nil⟩,rfl⟩
    have hx₁:(s.heap.push {cls:=.type "dict", data:=.dict #[] }).get? x=some (excObj C t):=Heap.get?_push_of_some _ hx
    dsimp only
    generalize s.heap.objs.size=dx at *
    refine wpAny_bind (wpAny_update hx₁ ?_)
    have hu:=Heap.get?_update_self (fun o=>({cls:=o.cls,dict:=some dx,data:=o.data,slots:=o.slots }:Obj)) hx₁ rfl
    obtain ⟨I₂,S₂⟩:=I₁.upd (k:=s.toks+1) (own':=(dx,.attrs [] [])::own') (.there U) (Heap.SameBut.update _ x fun o=>{cls:=o.cls,dict:=some dx,data:=o.data,slots:=o.slots }) (fun y e f=>by
      rw [show (({s with heap:=s.heap.push {cls:=.type "dict", data:=.dict #[] },toks:=s.toks+1 }:Shared)).heap.get? x=some (excObj C t) from hx₁] at e
      cases e
      cases f) ⟨_,hu,rfl⟩
    refine wpAny_pure ?_
    show wpAny _ _ (storeInDict dx (.str "told" s.toks) "told" b) _ _ _
    refine dictPut I₂ .here .new (by simp) (by simp) ((S₁.trans S₂).relD I rb) fun s' S' I'=>?_
    exact ⟨_,_,(),(S₁.trans S₂).trans S',I',rfl,hq⟩
theorem Wp.attrExc (hK:K.In B) {C fI x dd:Addr}{tb:Option Addr}{v:D}{a:Value}(ok:ExcOk K C fI) (h1:Has own x (.exc C dd tb)) (h2:Has own dd (.attrs ["told"] [v])) (hv:Plain v) (h:Q v own) :
    Wp w B A RV ((.ref x,a)::P) own (getAttr a "told" true) Q X:=fun s N I hp=>by
  have ea:a=.ref x:=one hp
  subst ea
  obtain ⟨_,vs,hx,_⟩:=I.owned _ h1.mem
  obtain ⟨_,es,n,hd,⟨kn,nd⟩,r⟩:=I.owned _ h2.mem
  obtain ⟨u,g1,g2⟩:=(AGet.here (ns:=[]) (l:=[])).at kn nd r
  have XK:=hK.keeps I.stays
  have IA:InstAt s.heap x ⟨.ref C,some dd,.fields vs,#[]⟩ C (some (dictOf es n)):=⟨hx,rfl,rfl,hd⟩
  obtain ⟨nm,q,Nn,Uu,bs,sub,ab,col,dd',k0,k1,k2,k3,k5,hC⟩:=ok.obj
  obtain ⟨cd,hcls,hmro,hhd⟩:∃cd,clsIn K C=some cd∧cd.mro=.ref C::xbm Uu∧cd.hasDict=true:=⟨_,by unfold clsIn;rw [hC],rfl,rfl⟩
  have fin:Q v own:=h
  have L0:=IA.type (M:=model PG w)
  have L1:Looks (model PG w) s.heap (typeLookup (.ref C) "__getattribute__") (some (.builtin "BaseException.__getattribute__")):=looks_findIn XK ok.ga
  have L2:Looks (model PG w) s.heap (typeLookup (.ref C) "__getattr__") none:=looks_findIn XK ok.hook
  have L3:=looks_find (M:=model PG w) XK IA (findObj_own ok.hd ok.told (noGet_none K) g1)
  have sub:Looks (model PG w) s.heap (isInstance (.ref x) (.type "BaseException")) true:=IA.type.andThen (looks_mroIn XK (by unfold mroIn;rw [hcls,Option.bind_some,hmro,if_neg (by simp),xhas Uu C (n := "BaseException") (b:=true) (by decide +kernel)]))
  have FB:=PySem.F.attr_Exception
  have f3:=FB.ga.bind (.ref x)
  have hx2:(Value.builtin "BaseException.__getattribute__" == Value.builtin "object.__getattribute__")=false:=by decide +kernel
  have post:Post w B A RV s N own Q u {s with toks:=s.toks+1 }:=Post.tok I (R:=RV) g2 fin
  obtain ⟨hh,g,d,t,os⟩:=s
  unfold getAttr getAttrBy
  refine wpAny_bind (wpAny_mkText (wpAny_holding (wpAny_bind (L0.at (wpAny_bind (L1.at ?_))))))
  dsimp only
  rw [hx2,Bool.and_false,if_neg (by simp)]
  unfold getAttrByItsOwn hookBefore
  refine wpAny_bind ?_
  rw [show onTheHeap (Value.ref C)=true from rfl,if_pos rfl]
  refine L2.at ?_
  refine wpAny_bind (wpAny_attempt (wpAny_holding ?_))
  unfold callGetattribute
  rw [show (true && onTheHeap (Value.builtin "BaseException.__getattribute__"))=false from rfl,if_neg (by simp)]
  unfold boundAndCalled
  rw [f3]
  refine wpAny_bind (wpAny_pure ?_)
  refine wpAny_call (codeAny_call_builtin FB.ga.plain PySem.F.entry_bexc_ga (@check_slot (model PG w) _ _ _ "BaseException.__getattribute__" "BaseException" "__getattribute__" (.ref x) [.str "told" t] [] _ (by decide +kernel) (by decide +kernel) sub (PySem.F.args_bexc_ga _ _) ?_))
  refine wpAny_bind (wpAny_pure (wpAny_bind (wpAny_of_eq (a:=("told" : Str)) rfl (wpAny_bind (L0.at (wpAny_bind (L3.at ?_)))))))
  refine wpAny_pure ?_
  show wpAny _ _ (handedOut u) _ _ _
  rw [handedOut_of (handed_of hv g2)]
  exact wpAny_pure post
end
end
section
open Builtin Builtin.ObjectAttr
theorem Cx.under {A:Around}{n:Nat}{c:Code}(x:Cx A (n+2)) (hw:c.weight≤2) (hu:c.cUnits≤16) (he:c.envs=[]):Cx (A.under c) n:=by
  obtain ⟨⟨l,hl⟩,h,d,u⟩:=x
  refine ⟨⟨l,?_⟩,h,?_,?_⟩
  · simp [Around.under,he,pushEnvs,hl]
  · exact Nat.lt_of_le_of_lt (by show A.depth+c.weight+n≤A.depth+(n+2);rw [Nat.add_assoc,Nat.add_comm n];exact Nat.add_le_add_left (Nat.add_le_add_right hw n) _) d
  · exact Nat.lt_of_le_of_lt (by show A.units+c.cUnits+8*n≤A.units+8*(n+2);rw [Nat.mul_add,Nat.add_assoc,Nat.add_comm (8*n)];exact Nat.add_le_add_left (Nat.add_le_add_right hu _) _) u
theorem frs_under {A:Around}{c:Code}(he:c.envs=[]):frs (A.under c)=frs A:=by simp [frs,Around.under,he,pushEnvs]
section
variable {w:World}{B:Heap}{A:Around}{own own':Own}{P:Pins}{X:Addr→Own→Prop}{env:Env}{Q:D→Own→Prop}{QB:Bool→Own→Prop}{QF:Fl→Own→Prop}{Qs:List D→Own→Prop}{s:Shared}{N:Addr→Prop}{K:Frag}
theorem CallC.def {n:Nat}(cx:Cx A (n+1)) {f:Addr}{oo:Obj}{fd:FuncData}{body:List Stmt}{params:List Str}{ds dd:List D}{dv:List Value}(hlim:B.NoLimit) (ho:B.get? f=some oo) (hdata:oo.data=.func fd) (hcd:B.CodeRec fd.code fd.qualname) (hbody:fd.body=.stmts body) (hclo:fd.closure=[])
    (hbind:∀(s:Shared) (vs:List Value),(∀b o,B.get? b=some o→s.heap.get? b=some o)→vs.length=ds.length→BindsTo s fd ⟨vs,[]⟩ (params.zip (vs++dv))) (hdv:∀h N,RelDs h N dd dv) {lnames:List Str}(hln:lnames.Nodup)
    (h:∀L,∃own₁,BindAll (callEnvC fd L f) params (ds++dd) ((L,.ns true lnames (lnames.map fun q_=>none))::(cellsOwn (cellsFrom (L+1) fd.scope.names [])++own)) own₁ ∧
      Wp w B (A.deeper (callEnvC fd L f)) RF [] own₁ (execs body (callEnvC fd L f)) (Ends Q) (fun q_ q_=>False))
    (hco:fd.scope.isCoroutine=false) (hgen:fd.scope.isGenerator=false) (hk:fd.scope.kind=.function):CallC w B A (.ref f) ds own Q X :=
  CallC.defX cx hlim ho hdata hcd hbody hclo hbind hdv hln h (fun q_ q_ q_ q_ q_ q_ x=>x.elim) hco hgen hk
theorem CallC.defT {n:Nat}{C:Addr}{d:D}(hX:∀x o,Thr C d [] true x o→X x o) (cx:Cx A (n+1)) {f:Addr}{oo:Obj}{fd:FuncData}{body:List Stmt}{params:List Str}{ds dd:List D}{dv:List Value}(hlim:B.NoLimit) (ho:B.get? f=some oo) (hdata:oo.data=.func fd) (hcd:B.CodeRec fd.code fd.qualname) (hbody:fd.body=.stmts body) (hclo:fd.closure=[])
    (hbind:∀(s:Shared) (vs:List Value),(∀b o,B.get? b=some o→s.heap.get? b=some o)→vs.length=ds.length→BindsTo s fd ⟨vs,[]⟩ (params.zip (vs++dv))) (hdv:∀h N,RelDs h N dd dv) {lnames:List Str}(hln:lnames.Nodup)
    (h:∀L,∃own₁,BindAll (callEnvC fd L f) params (ds++dd) ((L,.ns true lnames (lnames.map fun q_=>none))::(cellsOwn (cellsFrom (L+1) fd.scope.names [])++own)) own₁ ∧
      Wp w B (A.deeper (callEnvC fd L f)) RF [] own₁ (execs body (callEnvC fd L f)) (Ends Q) (Thr C d [] false))
    (hco:fd.scope.isCoroutine=false) (hgen:fd.scope.isGenerator=false) (hk:fd.scope.kind=.function):CallC w B A (.ref f) ds own Q X:=by
  refine CallC.defX cx hlim ho hdata hcd hbody hclo hbind hdv hln h (fun L s N o x I t E R k=>?_) hco hgen hk
  obtain ⟨⟨l,hl⟩,_⟩:=cx
  exact leave I t (Around.frames_deeper hl) rfl fun s' N' o' S' I' t'=>k s' N' o' S' I' (hX _ _ t')
theorem Call.exc (hK:K.In B) {C fI:Addr}{d:D}(ok:ExcOk K C fI)
    (hinit:∀(A':Around) e t,frs A'=frs A→(∀n,Cx A (n+2)→Cx A' n)→Call w B A' (.ref fI) [.ref e,d] ((e,.exact (excObj C t))::own) (fun r o=>r=.none∧∃dd,o=(dd,.attrs ["told"] [d])::(e,.exc C dd none)::own) (fun q_ q_=>False))
    (h:∀e dd,Q (.ref e) ((dd,.attrs ["told"] [d])::(e,.exc C dd none)::own)):Call w B A (.ref C) [d] own Q X:=Call.of1 fun s N v I rv=>by
  obtain ⟨nm,q,Nn,Uu,bs,sub,ab,col,dd',k0,k1,k2,k3,k5,hC⟩:=ok.obj
  have XK:=hK.keeps I.stays
  have he:(Code.builtin "type.__call__" ⟨.ref C::[v],[]⟩).envs=[]:=by rfl
  have key:wpAny (model PG w) (A.under (.builtin "type.__call__" ⟨.ref C::[v],[]⟩)) (call (.ref fI) (.ref (s.heap.objs.size+1)::[v])) (fun r s'=>r=.none∧Post w B A RV s N own Q (.ref (s.heap.objs.size+1)) s') (PostX w B A s N own X)
      {s with heap:=(s.heap.push {cls:=.type "tuple", data:=.seq [v].toArray }).push (excObj C s.heap.objs.size) }:=by
    obtain ⟨I₁,S₁⟩:=I.make (k:=s.toks) (c:=s.heap.objs.size+1) (o:=.exact (excObj C s.heap.objs.size)) (h':=(s.heap.push {cls:=.type "tuple", data:=.seq [v].toArray }).push (excObj C s.heap.objs.size))
      (fun q_ q_ e=>Heap.get?_push_of_some _ (Heap.get?_push_of_some _ e)) (by rw [Heap.size_push,Heap.size_push];exact Nat.le_succ_of_le (Nat.le_succ _)) (Nat.le_succ _) (by rw [Heap.size_push,Heap.size_push];exact Nat.lt_succ_self _) ⟨by have:=Heap.get?_push_size (s.heap.push {cls:=.type "tuple", data:=.seq [v].toArray }) (o:=excObj C s.heap.objs.size) rfl;rw [Heap.size_push] at this;exact this,by simp⟩
    have hc:=hinit (A.under (.builtin "type.__call__" ⟨.ref C::[v],[]⟩)) (s.heap.objs.size+1) s.heap.objs.size (frs_under he) (fun n cx=>cx.under (Nat.le_of_ble_eq_true rfl) (Nat.le_of_ble_eq_true rfl) he)
    refine wpAny_mono (hc [] [.ref (s.heap.objs.size+1),v] rfl _ _ (I₁.same (A':=A) (frs_under he).symm) fun p hm=>?_) (fun r s' hq=>?_) fun q_ q_ hq=>by obtain ⟨_,_,_,_,_,_,x⟩:=hq;exact x.elim
    · rcases List.mem_cons.mp hm with rfl | hm
      · exact rfl
      · rcases List.mem_cons.mp hm with rfl | hm
        · exact S₁.relD I rv
        · exact absurd hm List.not_mem_nil
    · obtain ⟨N',o',b,S',I',rr,e,dd,eo⟩:=hq
      subst e eo
      exact ⟨rr,N',_,.ref (s.heap.objs.size+1),S₁.trans S',I'.same (A':=A.under (.builtin "type.__call__" ⟨.ref C::[v],[]⟩)) (frs_under he),rfl,h _ dd⟩
  obtain ⟨hh,g,dr,t,os⟩:=s
  exact xcall (XK _ _ hC) (looks_findIn XK ok.init) (fun self=>bind_fn XK self ok.fn) key (by rw [sizeLine_eq];simp)
end
end
section
open Builtin Builtin.ObjectAttr
section
variable {w:World}{B:Heap}{A:Around}{own own':Own}{P:Pins}{X:Addr→Own→Prop}{env:Env}{Q:D→Own→Prop}{QB:Bool→Own→Prop}{QF:Fl→Own→Prop}{Qs:List D→Own→Prop}{s:Shared}{N:Addr→Prop}{K:Frag}
theorem Wp.Raise (hK:K.In B) (hh:A.handled=none) {C fI:Addr}(ok:ExcOk K C fI) {x:Expr}{pos:Pos}(h:Wp w B A RV P own (eval x env) (fun d o=>∃e dd,d=.ref e∧Has o e (.exc C dd none)∧X e o) X):Wp w B A RF P own (exec (.Raise (some x) none pos) env) QF X:=fun s N I hp=>by
  have hx:=h s N I hp
  rw [arm_exec_Raise]
  show wpAny _ _ (PySem.standAt pos >>= fun q_=>raiseStmt env (some (eval x env >>= fun v=>PySem.standAt pos >>= fun q_=>pure v)) none) _ _ s
  refine wpAny_bind (wpAny_standAt ?_)

  obtain ⟨nm,q,Nn,Uu,bs,sub,ab,col,dd',k0,k1,k2,k3,k5,hC⟩:=ok.obj
  have hcB:=xhas Uu C (n := "BaseException") (b:=true) (by decide +kernel)
  have hcT:=xhas Uu C (n := "type") (b:=false) (by decide +kernel)
  unfold raiseStmt
  refine wpAny_bind (wpAny_bind (wpAny_mono hx (fun v s₁ hq=>wpAny_bind (wpAny_standAt (wpAny_pure ?_))) fun q_ q_ x=>x))
  obtain ⟨N₁,o₁,d,S₁,I₁,r₁,e,dd,ed,he,hX⟩:=hq
  subst ed
  have ev:v=.ref e:=r₁
  subst ev
  obtain ⟨_,vs,he,hf⟩:=I₁.owned _ he.mem
  have hC:=hK.keeps I₁.stays _ _ hC
  have hE:PostX w B A s N own X (.ref e) s₁:=⟨N₁,o₁,e,S₁,I₁,rfl,hX⟩
  clear I₁ S₁ r₁
  obtain ⟨hp,g,d,tk,os⟩:=s₁
  repeat (first | with_reducible refine wpAny_field he rfl hf ?_ | with_reducible refine wpAny_loadPart_at he ?_ | with_reducible refine wpAny_loadPart_at hC ?_ | (with_reducible refine wpAny_isSubtype_exc hC ?_;first | rw [hcB] | rw [hcT]) | wp_step)
  exact wpAny_raiseNew_none hh hE
theorem nsDel_iff {M:Model}{Γ:Ctx}{E:Value→Pos→Shared→Prop}{p:Pos}{s:Shared}{a:Addr}{m} (hn:s.heap.Ns a m) (name:Str) (hs:(m name).isSome=true) (Q:Bool→Pos→Shared→Prop) :
    Sem.wp M Γ (nsDel a name) Q E p s↔Q true p {s with heap:=s.heap.update a (Obj.dropName name) }:=by
  obtain ⟨o,es,ep,ho,hd,hk,hm⟩:=hn
  have hany:es.any (·.refKey)=false:=by
    rw [Array.any_eq_false'];intro e he;obtain ⟨n,t,h⟩:=hk e he;simp [DictEntry.refKey,h]
  have hsome:(m name).isSome=es.any (·.key.isStr name):=by
    rw [← hm name];simp only [nsFind,findBy,Option.isSome_map]
    rw [Bool.eq_iff_iff];simp only [Array.find?_isSome,Array.any_eq_true]
    constructor
    · rintro ⟨x,hx,hp⟩;obtain ⟨i,hi,rfl⟩:=Array.mem_iff_getElem.mp hx;exact ⟨i,hi,hp⟩
    · rintro ⟨i,hi,hp⟩;exact ⟨_,Array.getElem_mem hi,hp⟩
  have hhas:nsHas name o=pure true:=by
    rw [nsHas_eq];unfold nsHasByArray;rw [hd]
    show (if (es.any fun x=>x.key.isStr name)=true then _ else _)=_
    rw [← hsome,hs];simp
  simp only [nsDel,Sem.wp_bind']
  rw [Sem.wp_loadPart_of M Γ E p s (o:=o) _ ho,hhas]
  simp only [Sem.wp_pure',if_true,Sem.wp_bind',Sem.wp_cmd_updatePart]
  constructor
  · exact fun h=>h.2
  · exact fun h=>⟨by rw [ho];rfl,h⟩
inductive LDel:List Str→List (Option D)→Str→List (Option D)→Prop
  | here {x ns u vs}:LDel (x::ns) (u::vs) x (none::vs)
  | there {x y ns u vs vs'}:LDel ns vs x vs'→LDel (y::ns) (u::vs) x (u::vs')
theorem LDel.at {ns vs x vs'} (h:LDel ns vs x vs'):∃i:Nat,ns[i]?=some x∧vs'=vs.set i none:=by
  induction h with
  | here=>exact ⟨0,rfl,rfl⟩
  | there _ ih=>exact ih.elim fun i h=>⟨i+1,h.1,congrArg (List.cons _) h.2⟩
theorem Wp.unbind {x:Str}{fr names vals vals'} {d:D}{QU:Unit→Own→Prop}(hk:env.scope.kind=.function) (hl:env.kindOf x=some .local) (hU:Put own env.locals (.ns fr names vals) (.ns fr names vals') own') (hb:LSlot names vals x d) (hs:LDel names vals x vals')
    (h:QU () own'):Wp w B A RE P own (unbindName env x) QU X:=fun s N I hp=>by
  obtain ⟨hN,nd,⟨ob,g1,g2⟩,m,hn,hv⟩:=I.owned _ hU.has
  obtain ⟨i,h1,h2⟩:=hs.at
  obtain ⟨ib,b1,b2⟩:=hb.at
  obtain ⟨u,hm,_⟩:=hv ib x d b1 b2
  have hsm:(m x).isSome=true:=by rw [hm];rfl
  unfold unbindName
  refine wpAny_bind (wpAny_point (wpAny_bind ?_))
  unfold deleteName
  simp only [hl,hk]
  refine wpAny_bind (m:=nsDel env.locals x) ?_
  refine fun Γ p hΓ=>(nsDel_iff hn x hsm _).mpr ?_
  refine wpAny_pure (wpAny_point ?_)
  obtain ⟨v',hn'⟩:∃v',(s.heap.update env.locals (Obj.dropName x)).Ns env.locals (fun y=>if y=x then v' else m y):=(nsDel_iff (M:=model PG w) (Γ:=Γ) (E:=fun q_ q_ q_=>False) (p:=p) hn x hsm (fun q_ q_ s'=>∃v',s'.heap.Ns env.locals (fun y=>if y=x then v' else m y))).mp
    (wpAny_nsDel_keeps (M:=model PG w) (A:=A) (E:=fun q_ q_=>False) (Q:=fun q_ s'=>∃v',s'.heap.Ns env.locals (fun y=>if y=x then v' else m y)) hn (fun h' v hn' q_=>⟨v,hn'⟩) Γ p hΓ)
  have hc:∀o,s.heap.get? env.locals=some o→∃o',(s.heap.update env.locals (Obj.dropName x)).get? env.locals=some o'∧(NF o→NF o')∧o'.cls=o.cls:=fun o ho=>by
    obtain ⟨o',es,ep,e1,e2,_⟩:=hn'
    refine ⟨o',e1,fun q_ vs q=>(by rw [e2] at q;cases q),?_⟩
    obtain ⟨o₂,es₂,ep₂,f1,f2,_⟩:=hn
    rw [ho] at f1
    cases f1
    obtain ⟨c,d,dt,sl⟩:=o
    simp only at f2
    subst f2
    have e:(s.heap.update env.locals (Obj.dropName x)).get? env.locals=some (Obj.dropName x ⟨c,d,.dict es₂ ep₂,sl⟩):=Heap.get?_update_self _ ho (by rw [Obj.dropName_eq];unfold Obj.dropNameByArray;dsimp only;split <;> rfl)
    rw [e] at e1
    cases e1
    rw [Obj.dropName_eq];unfold Obj.dropNameByArray;dsimp only;split <;> rfl
  have sb:=Heap.SameBut.update s.heap env.locals (Obj.dropName x)
  have kk:∀a o,¬ N a→s.heap.get? a=some o→o.cls≠.type "frame" → (s.heap.update env.locals (Obj.dropName x)).get? a=some o:=fun a o hn e q_=>(sb.2 a fun q=>hn (q▸hN)).trans e
  refine Post.upd (k:=s.toks) I hU sb hc ⟨nd,(let ⟨ob',g3,_,g4⟩:=hc ob g1;⟨ob',g3,fun f=>by rw [g4];exact g2 f⟩),_,hn',fun j y u hy hu=>?_⟩ (R:=RE) (b:=()) rfl h
  by_cases hj:j=i
  · subst hj
    rw [h2,List.getElem?_set] at hu
    split at hu
    · split at hu <;> simp_all
    · simp_all
  · have hne:y≠x:=fun e=>by
      subst e
      have l1:=(List.getElem?_eq_some_iff.mp hy).1
      exact hj ((List.getElem?_inj l1 nd).mp (hy.trans h1.symm))
    rw [h2,List.getElem?_set_ne (fun e=>hj e.symm)] at hu
    obtain ⟨z,h3,h4⟩:=hv j y u hy hu
    exact ⟨z,by simp [hne,h3],h4.mono kk fun q_ q_ a q_=>a⟩
end
end
section
variable {w:World}{B:Heap}{A:Around}{own own':Own}{P:Pins}{X:Addr→Own→Prop}{env:Env}{Q:D→Own→Prop}{QB:Bool→Own→Prop}{QF:Fl→Own→Prop}{Qs:List D→Own→Prop}{s:Shared}{N:Addr→Prop}{K:Frag}
theorem caughtBy (hK:K.In B) {C fI e:Addr}{d:D}{keep:Own}{n:Bool}(ok:ExcOk K C fI) {x:Str}{np:Pos}(hk:env.scope.kind=.function) (hg:env.globals=mainGlobals) (hx:env.kindOf x=some .globalImplicit) (g:GN B x (.ref C)) (hd:(x == ("__debug__" : Str))=false)
    {A':Around}(hA:frs A'=frs A) (I:Inv w B A s N own) (t:Thr C d keep n e own) {R:Bool→Shared→Prop}{E:Value→Shared→Prop}(h:R true s) :
    wpAny (model PG w) A' (eval (.Name x np) env) (fun c s₁=>wpAny (model PG w) A' (excMatches (.ref e) c) R E s₁) E s:=by
  obtain ⟨nm,q,Nn,Uu,bs,sub,ab,col,dd',k0,k1,k2,k3,k5,hC⟩:=ok.obj
  have hC:=hK.keeps I.stays _ _ hC
  obtain ⟨dd,tb,h1,_⟩:=t
  obtain ⟨_,vs,he,hf⟩:=I.owned _ h1.mem
  obtain ⟨mg,g1,g2⟩:=g
  refine Name_function_global hk hx (loadGlobal_global (by rw [hg];exact g1.keeps I.stays) g2 ?_) hd
  clear I
  obtain ⟨hp,g,d,tk,os⟩:=s
  exact wpAny_excMatches_sub_self hC he rfl (by have:=xhas Uu Uu (n := "BaseException") (b:=true) (by decide +kernel);rw [List.contains_cons] at this ⊢;rw [List.contains_cons] at this;simpa using this) h
theorem not_byPass (e:Addr):(Value.ref e)≠byPass:=fun q=>by cases q
theorem Wp.Try (hK:K.In B) {C fI:Addr}{d:D}{keep:Own}(ok:ExcOk K C fI) {x:Str}{np hpos pos:Pos}{b₀:Stmt}{suite body:List Stmt}{outer:List Env}{L:Addr}(hfr:A.frames=some (env::outer)) (hf:env.frame=some L)
    (hk:env.scope.kind=.function) (hg:env.globals=mainGlobals) (hx:env.kindOf x=some .globalImplicit) (g:GN B x (.ref C)) (hd:(x == ("__debug__" : Str))=false)
    (hb:Wp w B A RF P own (execs body env) QF (Thr C d keep false))
    (hh:∀e o,Thr C d keep true e o→Wp w B (A.mark (some (.ref e))) RF P o (execs (b₀::suite) env) QF (fun q_ q_=>False)) :
    Wp w B A RF P own (exec (.Try body [.ExceptHandler (some (.Name x np)) none (b₀::suite) hpos] [] [] pos) env) QF X:=fun s N I hp=>by
  refine wpAny_Try_except (hb.useC I hp (fun f s₁ N₁ o₁ b S₁ I₁ r₁ q₁=>?_) fun a s₁ N₁ o₁ S₁ I₁ t₁=>?_)
  · have q:Post w B A RF s N own QF f s₁:=⟨N₁,o₁,b,S₁,I₁,r₁,q₁⟩
    cases f <;> first | exact q | exact wpAny_execs_nil q
  · refine note I₁ t₁ hfr hf fun s₂ N₂ o₂ S₂ I₂ t₂=>flight I₂ t₂ fun s₃ N₃ o₃ S₃ I₃ t₃=>?_
    refine wpAny_handleBy_cons (codeAny_handlers_test (caughtBy hK ok hk hg hx g hd (A:=A) (A':=A.mark (some (.ref a))) rfl I₃ t₃ (codeAny_handlers_suite ?_))) (not_byPass a)
    refine flight (A:=A.mark (some (.ref a))) (I₃.same (A':=A) rfl) t₃ fun s₄ N₄ o₄ S₄ I₄ t₄=>?_
    have S:=((S₁.trans S₂).trans S₃).trans S₄
    exact (hh a o₄ t₄).useC I₄ (S.pins I hp) (fun f s₅ N₅ o₅ b S₅ I₅ r₅ q₅=>⟨N₅,o₅,b,S.trans S₅,I₅.same (A':=A.mark (some (.ref a))) rfl,r₅,q₅⟩) fun q_ q_ q_ q_ q_ q_ x=>x.elim
theorem Bind.put {n:Str}{d:D}{v:Value}{o o':Own}{QU:Unit→Own→Prop}(hb:Bind env n d o o') (h:QU () o'):Wp w B A RE [(d,v)] o (storeName env n v) QU (fun q_ q_=>False):=by
  cases hb with
  | loc a b c e=>exact Wp.store a b c e h
  | cell a b c e=>exact Wp.storeCell a b c e h
inductive AsEnd (env:Env) (n:Str) (Q:Own→Prop) (o₂:Own):Prop
  | mk (o₃ o₄:Own) (fr:Bool) (names:List Str) (vals vals':List (Option D)) (b1:Bind env n .none o₂ o₃) (b2:Put o₃ env.locals (.ns fr names vals) (.ns fr names vals') o₄) (b3:LSlot names vals n .none) (b4:LDel names vals n vals') (q:Q o₄)
theorem RF.keep {s':Shared}{N':Addr→Prop}{b:Fl}{f:Flow}(I:Inv w B A s N own) (S:Step s N own s' N' own') (r:RF s.heap N b f):RF s'.heap N' b f:=by
  cases b with
  | ret dv=>exact r.imp fun v e=>⟨e.1,S.relD I e.2⟩
  | _=>exact r
theorem Wp.TryAs (hK:K.In B) {C fI:Addr}{d:D}{keep:Own}(ok:ExcOk K C fI) {x n:Str}{np hpos pos:Pos}{b₀:Stmt}{suite body:List Stmt}{outer:List Env}{L:Addr}(hfr:A.frames=some (env::outer)) (hf:env.frame=some L)
    (hk:env.scope.kind=.function) (hg:env.globals=mainGlobals) (hx:env.kindOf x=some .globalImplicit) (g:GN B x (.ref C)) (hd:(x == ("__debug__" : Str))=false) (hn:env.kindOf n=some .local)
    (hb:Wp w B A RF P own (execs body env) QF (Thr C d keep false))
    (hh:∀e o,Thr C d keep true e o→∃o',Bind env n (.ref e) o o'∧Wp w B (A.mark (some (.ref e))) RF P o' (execs (b₀::suite) env) (fun f=>AsEnd env n (QF f)) (fun q_ q_=>False)) :
    Wp w B A RF P own (exec (.Try body [.ExceptHandler (some (.Name x np)) (some n) (b₀::suite) hpos] [] [] pos) env) QF X:=fun s N I hp=>by
  refine wpAny_Try_except (hb.useC I hp (fun f s₁ N₁ o₁ b S₁ I₁ r₁ q₁=>?_) fun a s₁ N₁ o₁ S₁ I₁ t₁=>?_)
  · have q:Post w B A RF s N own QF f s₁:=⟨N₁,o₁,b,S₁,I₁,r₁,q₁⟩
    cases f <;> first | exact q | exact wpAny_execs_nil q
  · refine note I₁ t₁ hfr hf fun s₂ N₂ o₂ S₂ I₂ t₂=>flight I₂ t₂ fun s₃ N₃ o₃ S₃ I₃ t₃=>?_
    refine wpAny_handleBy_cons (codeAny_handlers_test (caughtBy hK ok hk hg hx g hd (A:=A) (A':=A.mark (some (.ref a))) rfl I₃ t₃ (codeAny_handlers_suite_as ?_))) (not_byPass a)
    refine flight (A:=A.mark (some (.ref a))) (I₃.same (A':=A) rfl) t₃ fun s₄ N₄ o₄ S₄ I₄ t₄=>?_
    have S:=((S₁.trans S₂).trans S₃).trans S₄
    obtain ⟨o',hbi,hw⟩:=hh a o₄ t₄
    refine (hbi.put (v:=.ref a) (QU:=fun q_ o=>o=o') rfl).useC I₄ (pc1 rfl) (fun q_ s₅ N₅ o₅ q_ S₅ I₅ q_ e5=>?_) fun q_ q_ q_ q_ q_ q_ x=>x.elim
    subst e5
    refine hw.useC I₅ ((S.trans S₅).pins I hp) (fun f s₆ N₆ o₆ b S₆ I₆ r₆ q₆=>?_) fun q_ q_ q_ q_ q_ q_ x=>x.elim
    obtain ⟨o₇,o₈,fr,names,vals,vals',b1,b2,b3,b4,q⟩:=q₆
    have I₆':Inv w B A s₆ N₆ o₆:=I₆.same (A':=A.mark (some (.ref a))) rfl
    refine wpAny_bind (wpAny_bindName ((b1.put (v:=.none) (QU:=fun q_ o=>o=o₇) rfl).useC I₆' (pc1 rfl) (fun q_ s₇ N₇ o₉ q_ S₇ I₇ q_ e7=>?_) fun q_ q_ q_ q_ q_ q_ x=>x.elim))
    subst e7
    refine wpAny_onRaise ((Wp.unbind (P:=[]) (QU:=fun q_ o=>o=o₈) (X:=fun q_ q_=>False) hk hn b2 b3 b4 rfl).useC I₇ pc0 (fun q_ s₈ N₈ o₁₀ q_ S₈ I₈ q_ e8=>?_) fun q_ q_ q_ q_ q_ q_ x=>x.elim)
    subst e8
    exact ⟨N₈,_,b,(((S.trans S₅).trans S₆).trans S₇).trans S₈,I₈,r₆.keep I₆' (S₇.trans S₈),q⟩
end
section
variable {w:World}{B:Heap}{A:Around}{own own':Own}{P:Pins}{X:Addr→Own→Prop}{env:Env}{Q:D→Own→Prop}{QB:Bool→Own→Prop}{QF:Fl→Own→Prop}{Qs:List D→Own→Prop}{s:Shared}{N:Addr→Prop}{K:Frag}
theorem Wp.tOr {values:List Expr}{pos} {whole:Sem Value}(h:Wp w B A RE P own (allTrue .Or values env) QB X):Wp w B A RE P own (isTrue (.BoolOp .Or values pos) env whole) QB X:=h
theorem Wp.tAnd {values:List Expr}{pos} {whole:Sem Value}(h:Wp w B A RE P own (allTrue .And values env) QB X):Wp w B A RE P own (isTrue (.BoolOp .And values pos) env whole) QB X:=h
theorem Wp.orNil (h:QB false own):Wp w B A RE P own (allTrue .Or [] env) QB X:=Wp.val (b:=false) (fun q_ q_ q_=>rfl) h
theorem Wp.andNil (h:QB true own):Wp w B A RE P own (allTrue .And [] env) QB X:=Wp.val (b:=true) (fun q_ q_ q_=>rfl) h
theorem Wp.orCons {x:Expr}{rest:List Expr}(h:Wp w B A RE P own (isTrue x env (eval x env)) (fun c o=>(c=true→QB true o)∧(c=false→Wp w B A RE P o (allTrue .Or rest env) QB X)) X):Wp w B A RE P own (allTrue .Or (x::rest) env) QB X:=by
  show Wp w B A RE P own (isTrue x env (eval x env) >>= fun c=>match BoolOp.Or,c with | .And,false=>pure false | .Or,true=>pure true | _,_=>allTrue .Or rest env) QB X
  refine Wp.bindE (h.mono (fun c o q=>?_) fun q_ q_ x=>x)
  cases c with
  | true=>exact Wp.val (b:=true) (fun q_ q_ q_=>rfl) (q.1 rfl)
  | false=>exact q.2 rfl
theorem Wp.andCons {x:Expr}{rest:List Expr}(h:Wp w B A RE P own (isTrue x env (eval x env)) (fun c o=>(c=false→QB false o)∧(c=true→Wp w B A RE P o (allTrue .And rest env) QB X)) X):Wp w B A RE P own (allTrue .And (x::rest) env) QB X:=by
  show Wp w B A RE P own (isTrue x env (eval x env) >>= fun c=>match BoolOp.And,c with | .And,false=>pure false | .Or,true=>pure true | _,_=>allTrue .And rest env) QB X
  refine Wp.bindE (h.mono (fun c o q=>?_) fun q_ q_ x=>x)
  cases c with
  | true=>exact q.2 rfl
  | false=>exact Wp.val (b:=false) (fun q_ q_ q_=>rfl) (q.1 rfl)
theorem Wp.tVal {e:Expr}(he:isTrue e env (eval e env)=(eval e env >>= fun v=>PySem.standAt e.pos >>= fun q_=>PySem.holding [v] (truthy v))) (h:Wp w B A RV P own (eval e env) (fun d o=>∃c,d=.bool c∧QB c o) X):Wp w B A RE P own (isTrue e env (eval e env)) QB X:=by
  rw [he]
  refine Wp.bindV (h.mono (fun d o hq a=>Wp.standAt fun s N I hp=>?_) fun q_ q_ x=>x)
  obtain ⟨c,e,q⟩:=hq
  subst e
  have ea:a=.bool c:=one hp
  subst ea
  exact wpAny_holding (wpAny_truthy_bool ⟨N,o,c,.refl ..,I,rfl,q⟩)
theorem Wp.vAnd {e₁ e₂:Expr}{pos} (h:Wp w B A RV P own (eval e₁ env) (fun d o=>∃c,d=.bool c∧(c=false→Q (.bool false) o)∧(c=true→Wp w B A RV P o (eval e₂ env) Q X)) X):Wp w B A RV P own (eval (.BoolOp .And [e₁,e₂] pos) env) Q X:=fun s N I hp=>by
  refine BoolOp_and (h.useC I hp (fun v s₁ N₁ o₁ d S I₁ r q=>?_) fun x s' N' o' S I q=>⟨N',o',x,S,I,rfl,q⟩)
  obtain ⟨c,rfl,q1,q2⟩:=q
  cases (show v=.bool c from r)
  refine wpAny_truthy_bool ?_
  cases c with
  | true=>exact BoolOp_one ((q2 rfl).use I₁ (S.pins I hp) S)
  | false=>exact ⟨N₁,o₁,.bool false,S,I₁,rfl,q1 rfl⟩
theorem Wp.vOr {e₁ e₂:Expr}{pos} (h:Wp w B A RV P own (eval e₁ env) (fun d o=>∃c,d=.bool c∧(c=true→Q (.bool true) o)∧(c=false→Wp w B A RV P o (eval e₂ env) Q X)) X):Wp w B A RV P own (eval (.BoolOp .Or [e₁,e₂] pos) env) Q X:=fun s N I hp=>by
  refine BoolOp_or (h.useC I hp (fun v s₁ N₁ o₁ d S I₁ r q=>?_) fun x s' N' o' S I q=>⟨N',o',x,S,I,rfl,q⟩)
  obtain ⟨c,rfl,q1,q2⟩:=q
  cases (show v=.bool c from r)
  refine wpAny_truthy_bool ?_
  cases c with
  | true=>exact ⟨N₁,o₁,.bool true,S,I₁,rfl,q1 rfl⟩
  | false=>exact BoolOp_one ((q2 rfl).use I₁ (S.pins I hp) S)
theorem Call.lenList {c:Addr}{l:List D}(ho:Has own c (.list l)) (hz:l.length≤16777216) (h:Q (.int l.length) own):Call w B A (.builtin "len") [.ref c] own Q X:=Call.of1 fun s N v I e=>by
  have e:v=.ref c:=e
  subst e
  obtain ⟨items,hl,r,hz'⟩:=isList I ho
  refine len_list hl (by simp [hz'];omega) ?_
  have e1:((items.toArray.size:Nat):Int)=l.length:=by simp [hz']
  rw [e1]
  exact Post.tok I (R:=RV) (b:=.int _) ⟨_,rfl⟩ h
theorem Call.lenBytes {l:List UInt8}(hz:l.length≤16777216) (h:Q (.int l.length) own):Call w B A (.builtin "len") [.bytes l] own Q X:=Call.of1 fun s N v I rv=>by
  obtain ⟨t,rfl⟩:=rv
  refine PySem.W.len_bytes (b:=l.toArray) (by simp;omega) ?_
  have e1:((l.toArray.size:Nat):Int)=l.length:=by simp
  rw [e1]
  exact Post.tok I (R:=RV) (b:=.int _) ⟨_,rfl⟩ h
theorem Call.lenStr {l:List Nat}(hz:l.length≤16777216) (h:Q (.int l.length) own):Call w B A (.builtin "len") [.str l] own Q X:=Call.of1 fun s N v I rv=>by
  obtain ⟨t,rfl⟩:=rv
  have e0:(⟨l.toArray⟩:Str).length=l.length:=by show l.toArray.size=_;simp
  refine PySem.P.len_str (by rw [e0];omega) ?_
  rw [e0]
  exact Post.tok I (R:=RV) (b:=.int _) ⟨_,rfl⟩ h
@[reducible] noncomputable def optD:Option Int→D
  | none=>.none
  | some i=>.int i
theorem isPart {h:Heap}{N:Addr→Prop}{o:Option Int}{v:Value}(r:RelD h N (optD o) v):IsPart v o:=by
  cases o with
  | none =>
    have e:v=.none:=r
    subst e;exact .none
  | some i =>
    obtain ⟨t,e⟩:=r
    subst e;exact .int i t
noncomputable def Sliced (w:World) (B:Heap) (A:Around) (value slice:Expr) (d:D) (lo hi st:Option Int) (own:Own) (Q:D→Own→Prop) (X:Addr→Own→Prop):Prop :=
  ∀s N a vl vu vs sl,Inv w B A s N own→RelD s.heap N d a→IsPart vl lo→IsPart vu hi→IsPart vs st→s.heap.IsSliceOf sl vl vu vs→wpAny (model PG w) A (subscriptTail value slice a (.ref sl)) (Post w B A RV s N own Q) (PostX w B A s N own X) s
theorem Wp.SubSlice {value:Expr}{lower upper step:Option Expr}{p pos:Pos}
    (h:Wp w B A RV P own (eval value env) (fun d o=>∀a,Wp w B A RV ((d,a)::P) o (evalPart lower env) (fun l o₁=>∃lo,l=optD lo∧∀vl,Wp w B A RV ((l,vl)::(d,a)::P) o₁ (evalPart upper env) (fun u o₂=>∃hi,u=optD hi ∧
      ∀vu,Wp w B A RV ((u,vu)::(l,vl)::(d,a)::P) o₂ (evalPart step env) (fun st o₃=>∃k,st=optD k∧Sliced w B A value (.Slice lower upper step p) d lo hi k o₃ Q X) X) X) X) X) :
    Wp w B A RV P own (eval (.Subscript value (.Slice lower upper step p) pos) env) Q X:=fun s N I hp=>by
  refine Subscript_ (h.useC I hp (fun a s₁ N₁ o₁ d S I₁ r q=>wpAny_Slice ?_) fun x s' N' o' S I q=>⟨N',o',x,S,I,rfl,q⟩)
  have p₁:=pc r (S.pins I hp)
  refine (q a).useC I₁ p₁ (fun vl s₂ N₂ o₂ l S₂ I₂ r q=>?_) fun x s' N' o' S' I q=>⟨N',o',x,S.trans S',I,rfl,q⟩
  obtain ⟨lo,rfl,q⟩:=q
  have p₂:=pc r (S₂.pins I₁ p₁)
  replace S:=S.trans S₂
  clear S₂ I₁ p₁
  refine (q vl).useC I₂ p₂ (fun vu s₃ N₃ o₃ u S₃ I₃ r q=>?_) fun x s' N' o' S' I q=>⟨N',o',x,S.trans S',I,rfl,q⟩
  obtain ⟨hi,rfl,q⟩:=q
  have p₃:=pc r (S₃.pins I₂ p₂)
  replace S:=S.trans S₃
  clear S₃ I₂ p₂
  refine (q vu).useC I₃ p₃ (fun vs s₄ N₄ o₄ st S₄ I₄ r₄ q=>?_) fun x s' N' o' S' I q=>⟨N',o',x,S.trans S',I,rfl,q⟩
  obtain ⟨k,rfl,q₄⟩:=q
  have p₄:=S₄.pins I₃ p₃
  obtain ⟨I₅,S₅⟩:=I₄.grow (k:=s₄.toks) (h':=s₄.heap.push {cls:=.type "slice", data:=.fields #[vl,vu,vs] }) (fun q_ q_ e=>Heap.get?_push_of_some _ e) (by rw [Heap.size_push];exact Nat.le_succ _)
  replace S:=(S.trans S₄).trans S₅
  exact wpAny_mono (q₄ _ N₄ a vl vu vs s₄.heap.objs.size I₅ (S₅.relD I₄ (p₄ (d,a) (.tail _ (.tail _ (.head _))))) (isPart (p₄ (optD lo,vl) (.tail _ (.head _)))) (isPart (p₄ (optD hi,vu) (.head _))) (isPart r₄) (Heap.IsSliceOf.new ..)) (fun q_ q_=>Post.after S) fun q_ q_=>PostX.after S
theorem RelDs.take {h:Heap}{N:Addr→Prop}{l:List D}{vs:List Value}(n:Nat) (e:RelDs h N l vs):RelDs h N (l.take n) (vs.take n):=by
  induction n generalizing l vs with
  | zero=>rw [List.take_zero,List.take_zero];rfl
  | succ n ih=>cases l with
    | nil=>cases (show vs=[] from e);rfl
    | cons d l =>
      obtain ⟨v,x,rfl,h1,h2⟩:=e
      exact ⟨v,x.take n,rfl,h1,ih h2⟩
theorem RelDs.drop {h:Heap}{N:Addr→Prop}{l:List D}{vs:List Value}(n:Nat) (e:RelDs h N l vs):RelDs h N (l.drop n) (vs.drop n):=by
  induction n generalizing l vs with
  | zero=>exact e
  | succ n ih=>cases l with
    | nil=>cases (show vs=[] from e);rfl
    | cons d l =>
      obtain ⟨v,x,rfl,h1,h2⟩:=e
      exact ih h2
theorem RelDs.reverse {h:Heap}{N:Addr→Prop}{l:List D}{vs:List Value}(e:RelDs h N l vs):RelDs h N l.reverse vs.reverse:=by
  induction l generalizing vs with
  | nil=>cases (show vs=[] from e);rfl
  | cons d l ih =>
    obtain ⟨v,x,rfl,h1,h2⟩:=e
    rw [List.reverse_cons,List.reverse_cons]
    exact (ih h2).append (RelDs.one h1)
noncomputable def sliceL {α:Type}(l:List α):Option Int→Option Int→Option Int→Option (List α)
  | none,some hi,none=>if 0≤hi then some (l.take hi.toNat) else none
  | some lo,none,none=>if 0≤lo then some (l.drop lo.toNat) else none
  | none,none,some k=>if k=-1 then some l.reverse else none
  | _,_,_=>none
theorem ifSome {α:Type}{p:Prop}[Decidable p] {a b:α}(e:(if p then some a else none)=some b):p∧a=b:=by
  by_cases h:p
  · rw [if_pos h] at e;exact ⟨h,Option.some.inj e⟩
  · rw [if_neg h] at e;cases e
theorem slicePick_L {l:List D}{items:List Value}{lo hi st:Option Int}{l':List D}{h:Heap}{N:Addr→Prop}(e:sliceL l lo hi st=some l') (r:RelDs h N l items):∃is,slicePick items.toArray lo hi st=is.toArray∧RelDs h N l' is:=by
  cases st with
  | none=>cases lo with
    | none=>cases hi with
      | none=>cases e
      | some hi =>
        obtain ⟨h0,rfl⟩:=ifSome (p:=0≤hi) e
        cases hi with
        | ofNat n=>exact ⟨_,slicePick_upto' items.toArray n,r.take n⟩
        | negSucc n=>cases h0
    | some lo=>cases hi with
      | none =>
        obtain ⟨h0,rfl⟩:=ifSome (p:=0≤lo) e
        cases lo with
        | ofNat n=>exact ⟨_,slicePick_from' items.toArray n,r.drop n⟩
        | negSucc n=>cases h0
      | some hi=>cases e
  | some k=>cases lo with
    | none=>cases hi with
      | none =>
        obtain ⟨rfl,rfl⟩:=ifSome (p:=k=-1) e
        exact ⟨_,krv_pick items.toArray,r.reverse⟩
      | some hi=>cases e
    | some lo=>cases hi <;> cases e
theorem Sliced.list {value slice:Expr}{c:Addr}{l l':List D}{lo hi st:Option Int}(ho:Has own c (.list l)) (e:sliceL l lo hi st=some l') (hz:l.length≤16777216) (h0:st≠some 0) {ops:Value→Value→List Value}(hs:∀o i,subscripted slice false o i=operate (ops o i) (getItem o i))
    (h:∀a,Q (.ref a) ((a,.list l')::own)):Sliced w B A value slice (.ref c) lo hi st own Q X:=fun s N a vl vu vs sl I ea pl pu ps hsl=>by
  have ea:a=.ref c:=ea
  subst ea
  obtain ⟨_,items,n,eo,r⟩:=I.owned _ ho.mem
  have hl:s.heap.IsList c items.toArray:=⟨_,eo,rfl,n,rfl⟩
  obtain ⟨is,e1,r1⟩:=slicePick_L e r
  refine tail_any hl.typeIs slot_list_getitem.lookup (wpAny_getItem_list_slice hl hsl pl pu ps h0 ?_ (by rw [sizeLine_eq];simp [r.length];omega)) (hs _ _)
  rw [e1]
  exact Post.newList (k:=s.toks) I r1 h
noncomputable def sliceB (l:List UInt8):Option Int→Option Int→List UInt8
  | lo,hi=>((hi.elim l fun h=>l.take h.toNat).drop (lo.elim 0 Int.toNat))
theorem dropMin {α:Type}{l:List α}{i n:Nat}(h:l.length≤n):l.drop (min i n)=l.drop i:=by
  rcases Nat.le_total i n with h' | h'
  · rw [Nat.min_eq_left h']
  · rw [Nat.min_eq_right h',List.drop_eq_nil_of_le h,List.drop_eq_nil_of_le (Nat.le_trans h h')]
theorem clipN {n:Nat}{i:Int}(h:0≤i):clipAt n i=min i.toNat n:=by
  obtain ⟨m,rfl⟩:=Int.eq_ofNat_of_zero_le h
  rw [clipAt_nat];rfl
theorem picked_B {l:List UInt8}{lo hi:Option Int}(h1:∀i,lo=some i→0≤i) (h2:∀i,hi=some i→0≤i):KBy.picked l.toArray lo hi=(sliceB l lo hi).toArray:=by
  rw [KBc.picked_eq,← List.drop_take]
  have eT:l.take (hi.elim l.length (clipAt l.length))=hi.elim l fun h=>l.take h.toNat:=by
    cases hi with
    | none=>exact List.take_length
    | some i=>exact (congrArg l.take (clipN (h2 i rfl))).trans (List.take_eq_take_min ..).symm
  have eD:∀x:List UInt8,x.length≤l.length→x.drop (lo.elim 0 (clipAt l.length))=x.drop (lo.elim 0 Int.toNat):=fun x hx=>by
    cases lo with
    | none=>rfl
    | some i=>exact (congrArg (fun n=>x.drop n) (clipN (h1 i rfl))).trans (dropMin hx)
  exact congrArg List.toArray (((congrArg (List.drop _) eT).trans (eD _ (by rw [← eT];exact List.length_take_le' ..))))
theorem Sliced.bytes {value slice:Expr}{l:List UInt8}{lo hi:Option Int}(h1:∀i,lo=some i→0≤i) (h2:∀i,hi=some i→0≤i) (hz:l.length≤1048576) {ops:Value→Value→List Value}(hs:∀o i,subscripted slice false o i=operate (ops o i) (getItem o i))
    (h:Q (.bytes (sliceB l lo hi)) own):Sliced w B A value slice (.bytes l) lo hi none own Q X:=fun s N a vl vu vs sl I ea pl pu ps hsl=>by
  obtain ⟨t,ea⟩:=ea
  subst ea
  cases ps
  refine tail_any (typeIs_bytes _ _ _) FB.slot_bytes_getitem.lookup (getItem_meets (typeIs_bytes _ _ _) (by decide) FB.slot_bytes_getitem FB.entry_bytes_getitem (FB.args_bytes_getitem_2 _ _) (KBc.meets_slice2 l.toArray t sl pl pu)
    ⟨hsl,Nat.le_trans (KBc.size_picked_le _ lo hi) (by rw [sizeLine_eq];simp;omega),fun t' k=>?_⟩) (hs _ _)
  rw [picked_B h1 h2]
  exact Post.tok I (R:=RV) (b:=.bytes _) ⟨_,rfl⟩ h
theorem isSlice {sl:Addr}{vl vu:Value}{lo hi:Option Int}(pl:IsPart vl lo) (pu:IsPart vu hi) (h:s.heap.IsSliceOf sl vl vu .none):∃l u:Option (Int×Tok),l.map (·.1)=lo∧u.map (·.1)=hi∧s.heap.IsSlice sl l u none:=by
  cases pl with
  | none=>cases pu with
    | none=>exact ⟨none,none,rfl,rfl,h⟩
    | int j u=>exact ⟨none,some (j,u),rfl,rfl,h⟩
  | int i t=>cases pu with
    | none=>exact ⟨some (i,t),none,rfl,rfl,h⟩
    | int j u=>exact ⟨some (i,t),some (j,u),rfl,rfl,h⟩
theorem Sliced.str {value slice:Expr}{l l':List Nat}{lo hi:Option Int}(e:Txt.slice ⟨l.toArray⟩ lo hi=⟨l'.toArray⟩) (hz:l.length≤1048576) {ops:Value→Value→List Value}(hs:∀o i,subscripted slice false o i=operate (ops o i) (getItem o i))
    (h:Q (.str l') own):Sliced w B A value slice (.str l) lo hi none own Q X:=fun s N a vl vu vs sl I ea pl pu ps hsl=>by
  obtain ⟨t,ea⟩:=ea
  subst ea
  cases ps
  obtain ⟨pl',pu',e1,e2,hS⟩:=isSlice pl pu hsl
  have hpost:(sliceMade ⟨l.toArray⟩ t pl' pu' none).post (Post w B A RV s N own Q) s:=by
    have e':Txt.slice ⟨l.toArray⟩ (pl'.map (·.1)) (pu'.map (·.1))=⟨l'.toArray⟩:=by rw [e1,e2];exact e
    have hle:=Txt.slice_le ⟨l.toArray⟩ (pl'.map (·.1)) (pu'.map (·.1))
    rw [e'] at hle
    unfold Txt.slice at e'
    unfold sliceMade slicePicked
    refine post_val_or_str ⟨?_,fun t' k=>?_⟩
    · refine Nat.le_trans (Nat.le_of_eq (congrArg Str.length ?_)) (Nat.le_trans hle (by show l.toArray.size≤_;rw [sizeLine_eq];simp;omega))
      exact e'
    · refine Post.tok I (R:=RV) (b:=.str l') ⟨t',?_⟩ h
      exact congrArg (fun y=>Value.str y t') e'
  exact tail_any (typeIs_str _ _ _) F.slot_str_getitem.lookup (wpAny_getItem_str_slice hS (by rfl) hpost) (hs _ _)
theorem sliceS_upto {l:List Nat}{n:Nat}(h:n≤l.length):Txt.slice ⟨l.toArray⟩ none (some n)=⟨(l.take n).toArray⟩:=by
  have:=beq_iff_eq.mp (slice_closes_to (x:=⟨l.toArray⟩) (j:=n) ⟨by omega,by simpa using h⟩)
  rw [this];simp
theorem sliceS_from {l:List Nat}{n:Nat}(h:n≤l.length):Txt.slice ⟨l.toArray⟩ (some n) none=⟨(l.drop n).toArray⟩:=by
  have:=beq_iff_eq.mp (slice_closes_from (x:=⟨l.toArray⟩) (i:=n) ⟨by omega,by simpa using h⟩)
  rw [this]
  congr 2
  simp
  rw [List.take_of_length_le (by simp)]
end
inductive NameList:List Expr→List Str→Prop
  | nil:NameList [] []
  | cons {x p es xs}:NameList es xs→NameList (.Name x p::es) (x::xs)
section
variable {w:World}{B:Heap}{A:Around}{own own':Own}{P:Pins}{X:Addr→Own→Prop}{env:Env}{Q:D→Own→Prop}{QB:Bool→Own→Prop}{QF:Fl→Own→Prop}{QU:Unit→Own→Prop}{Qs:List D→Own→Prop}{s:Shared}{N:Addr→Prop}{K:Frag}
theorem Wp.assignName {x pos} {d:D}{v:Value}(hb:Bind env x d own own') (h:QU () own'):Wp w B A RE ((d,v)::P) own (assign (.Name x pos) env v) QU X:=by
  show Wp w B A RE ((d,v)::P) own (PySem.standAt pos >>= fun q_=>bindName env x v) QU X
  exact Wp.standAt (Wp.bound hb h)
theorem NameList.each {es:List Expr}{xs:List Str}(h:NameList es xs):(assignEach es env).length=xs.length∧(assignEach es env).findIdx? (·.1)=none:=by
  induction h with
  | nil=>exact ⟨rfl,rfl⟩
  | @cons x p es xs h ih=>exact ⟨congrArg (·+1) ih.1,(List.findIdx?_cons (p:=(·.1)) (x:=(false,assign (.Name x p) env))).trans (by rw [ih.2];rfl)⟩
theorem inOrder {es:List Expr}{xs:List Str}{ds:List D}{vs:List Value}{o o':Own}{P:Pins}(hn:NameList es xs) (hb:BindAll env xs ds o o') (hl:vs.length=ds.length) (h:QU () o'):Wp w B A RE (zipP ds vs P) o (assignInOrder ((assignEach es env).map (·.2)) vs) QU X:=by
  induction hn generalizing ds vs o P with
  | nil =>
    cases hb
    cases vs with
    | nil=>exact Wp.val (b:=()) (fun q_ q_ q_=>rfl) h
    | cons=>cases hl
  | @cons x p es xs hn ih =>
    cases hb with
    | @cons _ d _ o₁ _ _ ds b r =>
    cases vs with
    | nil=>cases hl
    | cons v vs =>
      show Wp w B A RE ((d,v)::zipP ds vs P) _ (PySem.holding vs (assign (.Name x p) env v) >>= fun q_=>assignInOrder ((assignEach es env).map (·.2)) vs) QU X
      exact Wp.bindE (Wp.holding (Wp.assignName (QU:=fun (_:Unit) o=>Wp w B A RE ((d,v)::zipP ds vs P) o (assignInOrder ((assignEach es env).map (·.2)) vs) QU X) b ((ih r (Nat.succ.inj hl)).pins fun p hp=>.tail _ hp)))
theorem Wp.unpackTup {ds:List D}{v:Value}(hh:A.handled=none) (h:Qs ds own):Wp w B A RVs ((.tup ds,v)::P) own (unpackItems v ds.length none) Qs X:=fun s N I hp=>by
  obtain ⟨a,n,items,ev,_,e,r⟩:=id (hp _ (.head _))
  have ev:v=.ref a:=ev
  subst ev
  have hl:ds.length=items.toArray.size:=by simp [RelDs.length r]
  rw [hl]
  refine wpAny_grown (wpAny_unpackItems_tuple hh ⟨_,e,rfl,n,rfl⟩ fun h' he hz=>?_)
  obtain ⟨I',S'⟩:=I.grow (k:=s.toks) (h':=h') (fun b o e=>he b o (fun q=>by rw [q] at e;exact absurd (Heap.lt_size e) (Nat.lt_irrefl _)) e) hz
  exact ⟨N,own,ds,S',I',S'.relDs I r,h⟩
theorem Wp.assignTup {es:List Expr}{xs:List Str}{k pos} {ds:List D}{v:Value}(hh:A.handled=none) (hn:NameList es xs) (hb:BindAll env xs ds own own') (h:QU () own'):Wp w B A RE ((.tup ds,v)::P) own (assign (.Tuple es k pos) env v) QU X:=by
  have hl:xs.length=ds.length:=by
    clear h
    induction hb generalizing es with
    | nil=>rfl
    | cons _ _ ih=>cases hn with | cons hn=>simpa using ih hn
  rw [arm_assign_Tuple]
  refine Wp.standAt ?_
  unfold unpack
  rw [hn.each.1,hn.each.2,hl]
  refine Wp.bindVs ((Wp.holding (Wp.unpackTup (Qs:=fun b o=>b=ds∧o=own) hh ⟨rfl,rfl⟩)).mono (fun b o hh vs hvs=>?_) fun q_ q_ x=>x)
  obtain ⟨e1,e2⟩:=hh
  subst e1 e2
  exact inOrder hn hb hvs h
theorem Wp.AssignTup {es:List Expr}{xs:List Str}{k p' pos} {value:Expr}(hh:A.handled=none) (hn:NameList es xs) (hs:swapsWithSole [.Tuple es k p'] value pos.line env=pure false) (hsw:swappedStores [.Tuple es k p'] value env=pure none)
    (h:Wp w B A RV P own (eval value env) (fun d o=>∃ds o',d=.tup ds∧BindAll env xs ds o o'∧QF .next o') X):Wp w B A RF P own (exec (.Assign [.Tuple es k p'] value pos) env) QF X:=by
  have e:exec (.Assign [.Tuple es k p'] value pos) env=(PySem.standAt pos >>= fun q_=>swapsWithSole [.Tuple es k p'] value pos.line env >>= fun c=>if c then (evalThenUse value env (fun v=>assignAll v ((assignEach [.Tuple es k p'] env).map (·.2))) >>= fun q_=>pure .next)
      else (eval value env >>= fun v=>swappedStores [.Tuple es k p'] value env >>= fun sw=>assignStores env v sw ((assignEach [.Tuple es k p'] env).map (·.2)))):=rfl
  rw [e,hs,hsw]
  refine Wp.standAt (Wp.bindE (Wp.val (b:=false) (fun q_ q_ q_=>rfl) ?_))
  refine Wp.bindV (h.mono (fun d o₁ hh a=>?_) fun q_ q_ x=>x)
  obtain ⟨ds,o',ed,hb,hq⟩:=hh
  subst ed
  show Wp w B A RF _ o₁ (pure none >>= fun sw=>assignStores env a sw [assign (.Tuple es k p') env]) QF X
  refine Wp.bindE (Wp.val (b:=none) (fun q_ q_ q_=>rfl) ?_)
  show Wp w B A RF _ o₁ (assign (.Tuple es k p') env a >>= fun q_=>pure .next) QF X
  exact Wp.bindE (Wp.assignTup (QU:=fun q_ o=>Wp w B A RF _ o (pure .next) QF X) hh hn hb (Wp.val (b:=.next) (fun q_ q_ q_=>rfl) hq))
theorem bindRev {xs:List Str}{ds:List D}{vs:List Value}{o o':Own}{P:Pins}(hb:BindAll env xs ds o o') (hl:vs.length=ds.length) (h:QU () o'):Wp w B A RE (zipP ds vs P) o (assignInOrder (xs.map fun n=>bindName env n) vs) QU X:=by
  induction hb generalizing vs P with
  | nil =>
    cases vs with
    | nil=>exact Wp.val (b:=()) (fun q_ q_ q_=>rfl) h
    | cons=>cases hl
  | @cons x d o o₁ o₂ xs ds b r ih =>
    cases vs with
    | nil=>cases hl
    | cons v vs =>
      show Wp w B A RE ((d,v)::zipP ds vs P) _ (PySem.holding vs (bindName env x v) >>= fun q_=>assignInOrder (xs.map fun n=>bindName env n) vs) QU X
      exact Wp.bindE (Wp.holding (Wp.bound (QU:=fun (_:Unit) o=>Wp w B A RE ((d,v)::zipP ds vs P) o (assignInOrder (xs.map fun n=>bindName env n) vs) QU X) b ((ih (Nat.succ.inj hl) h).pins fun p hp=>.tail _ hp)))
theorem Wp.AssignSwap {es:List Expr}{xs:List Str}{k p' pos} {value:Expr}(hh:A.handled=none) (hs:swapsWithSole [.Tuple es k p'] value pos.line env=pure false) (hsw:swappedStores [.Tuple es k p'] value env=pure (some xs))
    (h:Wp w B A RV P own (eval value env) (fun d o=>∃ds o',d=.tup ds∧ds.length=xs.length∧BindAll env xs.reverse ds.reverse o o'∧QF .next o') X):Wp w B A RF P own (exec (.Assign [.Tuple es k p'] value pos) env) QF X:=by
  have e:exec (.Assign [.Tuple es k p'] value pos) env=(PySem.standAt pos >>= fun q_=>swapsWithSole [.Tuple es k p'] value pos.line env >>= fun c=>if c then (evalThenUse value env (fun v=>assignAll v ((assignEach [.Tuple es k p'] env).map (·.2))) >>= fun q_=>pure .next)
      else (eval value env >>= fun v=>swappedStores [.Tuple es k p'] value env >>= fun sw=>assignStores env v sw ((assignEach [.Tuple es k p'] env).map (·.2)))):=rfl
  rw [e,hs,hsw]
  refine Wp.standAt (Wp.bindE (Wp.val (b:=false) (fun q_ q_ q_=>rfl) ?_))
  refine Wp.bindV (h.mono (fun d o₁ hh a=>?_) fun q_ q_ x=>x)
  obtain ⟨ds,o',ed,hl,hb,hq⟩:=hh
  subst ed
  show Wp w B A RF _ o₁ (pure (some xs) >>= fun sw=>assignStores env a sw [assign (.Tuple es k p') env]) QF X
  refine Wp.bindE (Wp.val (b:=some xs) (fun q_ q_ q_=>rfl) ?_)
  show Wp w B A RF _ o₁ (PySem.rule "assign.swapped-stores" >>= fun q_=>unpackItems a xs.length none >>= fun items=>assignInOrder (xs.reverse.map fun n=>bindName env n) items.reverse >>= fun q_=>pure .next) QF X
  refine Wp.rule ?_
  rw [← hl]
  refine (Wp.unpackTup (Qs:=fun b o=>b=ds∧o=o₁) hh ⟨rfl,rfl⟩).bindG fun b o vs s₁ N₁ hh I hp r=>?_
  obtain ⟨e1,e2⟩:=hh
  subst e1 e2
  refine wpAny_bind (wpAny_mono (bindRev (P:=P) (vs:=vs.reverse) (QU:=fun (_:Unit) o=>o=o') (X:=X) hb (by rw [List.length_reverse,List.length_reverse,RelDs.length r]) rfl s₁ N₁ I (zipP_ok (fun p hm=>hp p (.tail _ hm)) (RelDs.reverse r))) (fun q_ s₂ hh=>?_) fun q_ q_ x=>x)
  obtain ⟨N₂,o₂,_,S₂,I₂,_,e⟩:=hh
  subst e
  exact wpAny_pure ⟨N₂,_,.next,S₂,I₂,rfl,hq⟩
end
section
variable {w:World}{B:Heap}{A:Around}{own own':Own}{P:Pins}{X:Addr→Own→Prop}{env:Env}{Q:D→Own→Prop}{QB:Bool→Own→Prop}{QF:Fl→Own→Prop}{QU:Unit→Own→Prop}{Qs:List D→Own→Prop}{s:Shared}{N:Addr→Prop}{K:Frag}
theorem Wp.addL {c e:Addr}{l l':List D}{a b:Value}(h1:Has own c (.list l)) (h2:Has own e (.list l')) (hz:l.length+l'.length≤16777216) (h:∀r,Q (.ref r) ((r,.list (l++l'))::own)) :
    Wp w B A RV ((.ref e,b)::(.ref c,a)::P) own (binaryOp .Add a b) Q X:=fun s N I hp=>by
  obtain ⟨eb,ea⟩:=two hp
  have ea:a=.ref c:=ea
  have eb:b=.ref e:=eb
  subst ea eb
  obtain ⟨_,is,n,e1,r1⟩:=I.owned _ h1.mem
  obtain ⟨_,js,m,e2,r2⟩:=I.owned _ h2.mem
  refine PySem.P.add_list (n:=n) (n2:=m) e1 e2 ?_ (by rw [sizeLine_eq];simp [RelDs.length r1,RelDs.length r2];omega)
  have e3:is.toArray++js.toArray=(is++js).toArray:=by simp
  rw [e3]
  exact Post.newList (k:=s.toks) I (r1.append r2) h
theorem Wp.addT {l l':List D}{a b:Value}(h1:l≠[]) (h2:l'≠[]) (hz:l.length+l'.length≤16777216) (h:Q (.tup (l++l')) own) :
    Wp w B A RV ((.tup l',b)::(.tup l,a)::P) own (binaryOp .Add a b) Q X:=fun s N I hp=>by
  obtain ⟨⟨e,m,js,rfl,_,e2,r2⟩,⟨c,n,is,rfl,_,e1,r1⟩⟩:=two hp
  have n1:is≠[]:=fun q=>h1 (List.eq_nil_of_length_eq_zero (by rw [← RelDs.length r1,q];rfl))
  have n2:js≠[]:=fun q=>h2 (List.eq_nil_of_length_eq_zero (by rw [← RelDs.length r2,q];rfl))
  refine PySem.P.add_tuple (n:=n) (n2:=m) e1 e2 (by simpa using n1) (by simpa using n2) ?_ (by rw [sizeLine_eq];simp [RelDs.length r1,RelDs.length r2];omega)
  have e3:is.toArray++js.toArray=(is++js).toArray:=by simp
  rw [e3]
  exact Post.tuple I (RelDs.append r1 r2) h
theorem RelDs.erase {h:Heap}{N:Addr→Prop}{l:List D}{vs:List Value}(k:Nat) (e:RelDs h N l vs):RelDs h N (l.eraseIdx k) (vs.eraseIdx k):=by
  induction l generalizing vs k with
  | nil=>cases (e:vs=[]);rfl
  | cons d l ih =>
    obtain ⟨v,x,rfl,h1,h2⟩:=e
    cases k with
    | zero=>exact h2
    | succ k=>exact ⟨v,_,rfl,h1,ih k h2⟩
theorem popPost {c:Addr}{l:List D}{k:Nat}{d:D}{items:List Value}{n:Nat}{y:Value}(I:Inv w B A s N own) (ho:Put own c (.list l) (.list (l.eraseIdx k)) own') (e:s.heap.get? c=some {cls:=.type "list", data:=.seq items.toArray n }) (r:RelDs s.heap N l items)
    (hk:k<l.length) (ry:RelD s.heap N d y) (h:Q d own'):Post w B A RV s N own Q y {s with heap:=s.heap.update c (Obj.mapSeq fun xs=>xs.eraseIdxIfInBounds k) }:=by
  have hN:=(I.owned _ ho.has).1
  have hlen:=r.length
  obtain ⟨n',he⟩:∃n',(s.heap.update c (Obj.mapSeq fun xs=>xs.eraseIdxIfInBounds k)).get? c=some {cls:=.type "list", data:=.seq (items.eraseIdx k).toArray n' }:=by
    rw [Heap.get?_update_self _ e rfl]
    exact ⟨_,by simp only [Obj.mapSeq,List.eraseIdxIfInBounds_toArray];rfl⟩
  have sb:=Heap.SameBut.update s.heap c (Obj.mapSeq fun xs=>xs.eraseIdxIfInBounds k)
  have kk:∀a o,¬ N a→s.heap.get? a=some o→o.cls≠.type "frame" → (s.heap.update c (Obj.mapSeq fun xs=>xs.eraseIdxIfInBounds k)).get? a=some o:=fun a o hn e q_=>(sb.2 a fun q=>hn (q▸hN)).trans e
  exact Post.upd (k:=s.toks) I ho sb (fun o q=>by rw [e] at q;cases q;exact ⟨_,he,fun q_ vs q=>(by cases q),rfl⟩) ⟨_,_,he,(r.erase k).mono kk fun q_ q_ a q_=>a⟩ (R:=RV) (b:=d) (ry.mono kk fun q_ q_ a q_=>a) h
theorem Call.pop {c:Addr}{l:List D}{d:D}(ho:Put own c (.list l) (.list (l.eraseIdx (l.length-1))) own') (hd:l[l.length-1]?=some d) (hz:l.length≤16777216) (h:Q d own'):Call w B A (.builtin "list.pop") [.ref c] own Q X:=Call.of1 fun s N a I e=>by
  have e:a=.ref c:=e
  subst e
  obtain ⟨hN,items,n,e,r⟩:=I.owned _ ho.has
  obtain ⟨y,hy,ry⟩:=r.get hd
  have hlen:=r.length
  refine call_meets F.slot_list_pop ⟨_,e,rfl⟩ F.entry_list_pop (F.args_list_pop_1 _) (MeetsSeq.list_pop_last c items.toArray n y (by simpa [hlen] using hy) (by rw [sizeLine_eq];simp [hlen];omega)) ⟨e,?_⟩
  have e4:items.toArray.size-1=l.length-1:=by simp [hlen]
  rw [e4]
  exact popPost I ho e r (by have:=(List.getElem?_eq_some_iff.mp hd).1;exact this) ry h
theorem Call.popAt {c:Addr}{l:List D}{d:D}{i:Int}(h0:0≤i) (ho:Put own c (.list l) (.list (l.eraseIdx i.toNat)) own') (hd:l[i.toNat]?=some d) (hz:l.length≤16777216) (h:Q d own'):Call w B A (.builtin "list.pop") [.ref c,.int i] own Q X:=Call.of2 fun s N a v I e ⟨t,ev⟩=>by
  have e:a=.ref c:=e
  subst e ev
  obtain ⟨hN,items,n,e,r⟩:=I.owned _ ho.has
  obtain ⟨y,hy,ry⟩:=r.get hd
  have hlen:=r.length
  have hlt:=(List.getElem?_eq_some_iff.mp hd).1
  have hk:seqIndex? i items.toArray.size=some i.toNat:=by
    exact seqIndex_at h0 (show i.toNat<items.length by rw [hlen];exact hlt)
  refine call_meets F.slot_list_pop ⟨_,e,rfl⟩ F.entry_list_pop (F.args_list_pop_2 _ _) (MeetsSeq.list_pop_at c items.toArray n i t i.toNat y (by unfold Builtin.List.listFitsIndex;simp;lia) hk (by simpa using hy) (by rw [sizeLine_eq];simp [hlen];lia)) ⟨e,?_⟩
  exact popPost I ho e r hlt ry h
mutual
noncomputable def pyD:D→Option PyData
  | .none=>some .none
  | .bool b=>some (.bool b)
  | .int i=>some (.int i)
  | .tup l=>(pyDs l).map .tuple
  | .lst l=>(pyDs l).map .list
  | _=>Option.none
noncomputable def pyDs:List D→Option (List PyData)
  | []=>some []
  | d::l=>(pyD d).bind fun a=>(pyDs l).map (a::·)
end
mutual
theorem readsD {h:Heap}{N:Addr→Prop}:∀(d:D) (v:Value) (p:PyData),RelD h N d v→pyD d=some p→∃as,Reads h v p as
  | .none,v,p,r,e=>by cases e;have r:v=.none:=r;subst r;exact ⟨_,.none⟩
  | .bool b,v,p,r,e=>by cases e;have r:v=.bool b:=r;subst r;exact ⟨_,.bool b⟩
  | .int i,v,p,r,e=>by cases e;obtain ⟨t,rfl⟩:=r;exact ⟨_,.int i t⟩
  | .tup l,v,p,r,e=>by
    obtain ⟨a,n,items,rfl,_,g,r⟩:=r
    obtain ⟨ps,e2,rfl⟩:=Option.map_eq_some_iff.mp (show (pyDs l).map .tuple=some p from e)
    obtain ⟨as,ra⟩:=readsDs l items ps r e2
    exact ⟨_,.tuple g rfl rfl ra⟩
  | .lst l,v,p,r,e=>by
    obtain ⟨a,n,items,rfl,_,g,r⟩:=r
    obtain ⟨ps,e2,rfl⟩:=Option.map_eq_some_iff.mp (show (pyDs l).map .list=some p from e)
    obtain ⟨as,ra⟩:=readsDs l items ps r e2
    exact ⟨_,.list g rfl rfl ra⟩
  | .str _,_,_,_,e=>by cases e
  | .bytes _,_,_,_,e=>by cases e
  | .cst _,_,_,_,e=>by cases e
  | .ref _,_,_,_,e=>by cases e
  | .inst _ _ _,_,_,_,e=>by cases e
theorem readsDs {h:Heap}{N:Addr→Prop}:∀(l:List D) (vs:List Value) (ps:List PyData),RelDs h N l vs→pyDs l=some ps→∃as,ReadsAll h vs ps as
  | [],vs,ps,r,e=>by cases (show vs=[] from r);cases (Option.some.inj (show some []=some ps from e));exact ⟨_,.nil⟩
  | d::l,vs,ps,r,e=>by
    obtain ⟨v,x,rfl,r1,r2⟩:=r
    obtain ⟨a,ha,e⟩:=Option.bind_eq_some_iff.mp (show (pyD d).bind (fun a=>(pyDs l).map (a::·))=some ps from e)
    obtain ⟨b,hb,rfl⟩:=Option.map_eq_some_iff.mp e
    obtain ⟨as,q1⟩:=readsD d v a r1 ha
    obtain ⟨bs,q2⟩:=readsDs l x b r2 hb
    exact ⟨_,.cons q1 q2⟩
end
noncomputable def Readable (own:Own) (d:D) (p:PyData):Prop:=pyD d=some p∨∃c l ps,d=.ref c∧Has own c (.list l)∧pyDs l=some ps∧p=.list ps
theorem Readable.reads {d:D}{p:PyData}{v:Value}(h:Readable own d p) (I:Inv w B A s N own) (r:RelD s.heap N d v):∃as,Reads s.heap v p as:=by
  rcases h with h | ⟨c,l,ps,rfl,ho,e,rfl⟩
  · exact readsD d v p r h
  · have ev:v=.ref c:=r
    subst ev
    obtain ⟨_,items,n,g,r⟩:=I.owned _ ho.mem
    obtain ⟨as,ra⟩:=readsDs l items ps r e
    exact ⟨_,.list g rfl rfl ra⟩
theorem Wp.eqP {d e:D}{p q:PyData}{a b:Value}(h1:Readable own d p) (h2:Readable own e q) (c1:p.canLay0=true) (c2:q.canLay0=true) (hu:A.units+min p.depth q.depth<cLine) (h:QB (PyData.eqv p q) own) :
    Wp w B A RB ((e,b)::(d,a)::P) own (compareOp .Eq a b) QB X:=fun s N I hp=>by
  obtain ⟨rb,ra⟩:=two hp
  obtain ⟨as,ra⟩:=h1.reads I ra
  obtain ⟨bs,rb⟩:=h2.reads I rb
  exact PySem.SeqAt.compareEq_reads ra rb c1 c2 hu ⟨N,own,_,.refl ..,I,rfl,h⟩
theorem Wp.neP {d e:D}{p q:PyData}{a b:Value}(h1:Readable own d p) (h2:Readable own e q) (c1:p.canLay0=true) (c2:q.canLay0=true) (hu:A.units+min p.depth q.depth<cLine) (h:QB (!PyData.eqv p q) own) :
    Wp w B A RB ((e,b)::(d,a)::P) own (compareOp .NotEq a b) QB X:=fun s N I hp=>by
  obtain ⟨rb,ra⟩:=two hp
  obtain ⟨as,ra⟩:=h1.reads I ra
  obtain ⟨bs,rb⟩:=h2.reads I rb
  exact PySem.SeqAt.compareNe_reads ra rb c1 c2 hu ⟨N,own,_,.refl ..,I,rfl,h⟩
theorem eqAtBytes {A:Around}{s:Shared}(x y:Array UInt8) (t u:Tok):SeqAt.EqAt A s (.bytes x t) (.bytes y u) (x.toList == y.toList):=fun prog w E Q h=>by
  unfold eqBool
  refine wpAny_holding ?_
  refine wpAny_ite_split (fun hab=>?_) (fun q_=>?_)
  · have e:x=y:=by have:=eq_of_beq hab;injection this
    subst e
    exact wpAny_bind (wpAny_rule (wpAny_pure (by simpa using h)))
  · exact wpAny_bind (PySem.W.eq_bytes (b:=x) (c:=y) (t:=t) (u:=u) (wpAny_truthy_bool h))
theorem anyB {h:Heap}{N:Addr→Prop}{e:List UInt8}{f:Value→Bool}(hf:∀(x:Array UInt8) t,f (.bytes x t)=(x.toList == e)):∀{ls:List (List UInt8)}{vs:List Value},RelDs h N (ls.map .bytes) vs→vs.any f=ls.any (· == e)
  | [],_,r=>by simp only [List.map_nil,RelDs] at r;subst r;rfl
  | l::ls,_,⟨v,x,e1,⟨t,e2⟩,r2⟩=>by
    subst e1 e2
    rw [List.any_cons,List.any_cons,anyB hf r2,hf]
theorem allB {h:Heap}{N:Addr→Prop}:∀{ls:List (List UInt8)}{vs:List Value},RelDs h N (ls.map .bytes) vs→∀y∈vs,∃x t,y=.bytes x t
  | [],_,r,y,hy=>by simp only [List.map_nil,RelDs] at r;subst r;cases hy
  | l::ls,_,⟨v,x,e1,⟨t,e2⟩,r2⟩,y,hy=>by
    subst e1 e2
    rcases List.mem_cons.mp hy with rfl | hy
    · exact ⟨_,_,rfl⟩
    · exact allB r2 y hy
noncomputable def isB (e:List UInt8):Value→Bool
  | .bytes x _=>x.toList == e
  | _=>false
theorem Wp.notInB {e:List UInt8}{ls:List (List UInt8)}{a b:Value}(h:QB (!ls.any (· == e)) own):Wp w B A RB ((.tup (ls.map .bytes),b)::(.bytes e,a)::P) own (compareOp .NotIn a b) QB X:=fun s N I hp=>by
  obtain ⟨⟨c,n,items,rfl,_,g,r⟩,⟨t,rfl⟩⟩:=two hp
  refine SeqAt.notIn_tupleAt (isB e) ⟨_,g,rfl,n,rfl⟩ (fun y hy=>?_) ⟨N,own,_,.refl ..,I,?_,h⟩
  · obtain ⟨x,u,rfl⟩:=allB r y (by simpa using hy)
    have:=eqAtBytes (A:=A.in1) (s:=s) x e.toArray u t
    simpa [isB] using this
  · have:=anyB (f:=isB e) (fun q_ q_=>rfl) r
    show Value.bool _=Value.bool _
    rw [List.any_toArray,this]
theorem Wp.notInP {e:D}{ps:List PyData}{l:List D}{q:PyData}{a b:Value}(h1:pyDs l=some ps) (h2:pyD e=some q) (c1:PyData.canLayAll0 ps=true) (c2:q.canLay0=true) (hu:A.units+1+min (PyData.depthAll ps) q.depth<cLine) (h:QB (!ps.any fun y=>PyData.eqv y q) own) :
    Wp w B A RB ((.tup l,b)::(e,a)::P) own (compareOp .NotIn a b) QB X:=fun s N I hp=>by
  obtain ⟨rt,re⟩:=two hp
  obtain ⟨as,ra⟩:=readsD (.tup l) b (.tuple ps) rt (by simp [pyD,h1])
  obtain ⟨bs,rb⟩:=readsD e a q re h2
  exact SeqAt.notIn_tuple_reads ra rb c1 c2 hu ⟨N,own,_,.refl ..,I,rfl,h⟩
theorem intsAre {h:Heap}{N:Addr→Prop}:∀{ns:List Int}{vs:List Value},RelDs h N (ns.map .int) vs→IntsAre vs ns
  | [],_,e=>by simp only [List.map_nil,RelDs] at e;subst e;exact .nil
  | k::ns,_,e=>by obtain ⟨v,x,rfl,⟨t,rfl⟩,h2⟩:=e;exact .cons _ _ (intsAre h2)
theorem Call.bytesOf {c:Addr}{ns:List Int}(hh:A.handled=none) (ho:Has own c (.list (ns.map .int))) (hr:∀n∈ns,0≤n∧n<256) (hz:ns.length≤1048576) (h:Q (.bytes (ns.map fun n=>n.toNat.toUInt8)) own):Call w B A (.type "bytes") [.ref c] own Q X:=Call.of1 fun s N a I e=>by
  have e:a=.ref c:=e
  subst e
  obtain ⟨_,items,n,g,r⟩:=I.owned _ ho.mem
  have hi:=intsAre r
  have hlen:=r.length
  simp only [List.length_map] at hlen
  refine wpAny_grown (call_bytes_ints (l:=c) (vs:=items) ⟨_,g,rfl,n,rfl⟩ hi hr (by rw [sizeLine_eq];lia) hh (fun h' t' k hk hz=>?_))
  exact Post.grow I hk hz (R:=RV) (b:=.bytes (ns.map fun n=>n.toNat.toUInt8)) ⟨t',rfl⟩ h
end
section
theorem collectG {prog:Program}{w:World}{A:Around}{E:Value→Shared→Prop}{s:Shared}{Q:List Value→Shared→Prop}(it:Addr) {T:String}{o:Obj}{items:Array Value}{n:Nat}(hT:T = "list" ∨ T = "tuple")
    (ho:s.heap.get? it=some o) (hc:o.cls=.type T) (hd:o.data=.seq items n)
    (hQ:∀h',(∀b o',s.heap.get? b=some o'→h'.get? b=some o')→s.heap.objs.size≤h'.objs.size→Q items.toList {s with heap:=h' }) (hsz:items.size≤sizeLine) :
    wpAny (model prog w) A (collect (.ref it)) Q E s:=wpAny_grown (wpAny_collect_seq it hT ho hc hd (fun h' hk hz=>hQ h' hk hz) hsz)
theorem tupleNewG (l:Addr) (o:Obj) (items:Array Value) (n:Nat) (hc:o.cls=.type "list") (hd:o.data=.seq items n) (hsz:items.size≤sizeLine) :
    Meets (Builtin.«tuple.__new__» ⟨[.type "tuple", .ref l],[]⟩)
      (fun q_ R s=>s.heap.get? l=some o∧∀h':Heap,(∀b o',s.heap.get? b=some o'→h'.get? b=some o')→s.heap.objs.size≤h'.objs.size→R (.ok (.ret (.ref h'.objs.size))) {s with heap:=h'.push {cls:=.type "tuple", data:=.seq items } }) :=
  .of_wp fun prog w A R s h=>by
    obtain ⟨hp,g,d,tk,os⟩:=s
    obtain ⟨ht,h⟩:=h
    have hsub:=sub_tuple_self
    have hinit:=init_tuple_lookup
    have hmh:=madeHere_tuple
    have hT:Shared.TypeIs ⟨hp,g,d,tk,os⟩ (.ref l) "list" := ⟨o,ht,hc⟩
    wp_walk using wpAny_loadPart' ht,wpAny_typeOf hT,collectG (hsz:=hsz) l (.inl rfl) ht hc hd
    intro h' hk hz
    show wpAny _ _ (Builtin.Tuple.tupleExact items.toList.toArray >>= fun v=>ret v) _ _ _
    unfold Builtin.Tuple.tupleExact
    refine wpAny_bind (wpAny_newObj_type ?_ (by show items.toList.toArray.size≤sizeLine;simpa using hsz))
    refine wpAny_pure ⟨_,rfl,?_⟩
    have e:items.toList.toArray=items:=by simp
    rw [e]
    exact h h' hk hz
end
section
variable {w:World}{B:Heap}{A:Around}{own own':Own}{P:Pins}{X:Addr→Own→Prop}{env:Env}{Q:D→Own→Prop}{QB:Bool→Own→Prop}{QF:Fl→Own→Prop}{QU:Unit→Own→Prop}{Qs:List D→Own→Prop}{s:Shared}{N:Addr→Prop}{K:Frag}
theorem Wp.still {t:Sem Value}(h:Wp w B A RV P own t (fun d o=>∃d' o',Yield d o d' o'∧Q d' o') X):Wp w B A RV P own t Q X:=fun s N I hp =>
  wpAny_mono (h s N I hp) (fun v s' hq=>by
    obtain ⟨N',o',d,S,I',r,d',o'',y,q⟩:=hq
    exact Post.yield S I' r y q) fun q_ q_ x=>x
theorem tupleOf {c:Addr}{l:List D}{items:List Value}{n:Nat}(I:Inv w B A s N own) (g:s.heap.get? c=some {cls:=.type "list", data:=.seq items.toArray n }) (r:RelDs s.heap N l items) (hz:l.length≤16777216) (h:Q (.tup l) own) :
    wpAny (model PG w) A (call (.type "tuple") [.ref c]) (Post w B A RV s N own Q) (PostX w B A s N own X) s:=by
  have hl:=r.length
  refine callType_new F.called_tuple (by decide) (F.typeCall_tuple_1 _) (F.newCall_tuple_1 _) (fun obj=>F.args_object_init_2 obj _) F.entry_tuple_new
    (tupleNewG c _ items.toArray n rfl rfl (by rw [sizeLine_eq];simp [hl];omega)) ⟨g,fun h' hk hz=>⟨⟨_,Heap.get?_push_size _ rfl,rfl⟩,?_⟩⟩
  obtain ⟨I',S'⟩:=I.grow (k:=s.toks) (h':=h') hk hz
  have p:=Post.tuple (Q:=Q) I' (S'.relDs I r) h
  exact Post.after S' p
theorem Call.tupleOfList {c:Addr}{l:List D}(ho:Has own c (.list l)) (hz:l.length≤16777216) (h:Q (.tup l) own):Call w B A (.type "tuple") [.ref c] own Q X:=Call.of1 fun s N a I e=>by
  have e:a=.ref c:=e
  subst e
  obtain ⟨_,items,n,g,r⟩:=I.owned _ ho.mem
  exact tupleOf I g r hz h
theorem Call.tupleOfLst {l:List D}(hz:l.length≤16777216) (h:Q (.tup l) own):Call w B A (.type "tuple") [.lst l] own Q X:=Call.of1 fun s N a I e=>by
  obtain ⟨c,n,items,rfl,_,g,r⟩:=e
  exact tupleOf I g r hz h
theorem Call.tupleSame {l:List D}(h:Q (.tup l) own):Call w B A (.type "tuple") [.tup l] own Q X:=Call.of1 fun s N a I e=>by
  obtain ⟨c,n,items,rfl,hn,g,r⟩:=id e
  exact call_tuple_same (items:=items.toArray) ⟨_,g,rfl,n,rfl⟩ ⟨N,own,.tup l,.refl ..,I,e,h⟩
theorem Call.listOfLst {l:List D}(hz:l.length≤16777216) (h:∀c,Q (.ref c) ((c,.list l)::own)):Call w B A (.type "list") [.lst l] own Q X:=Call.of1 fun s N a I e=>by
  obtain ⟨c,n,items,rfl,hn,g,r⟩:=id e
  have hl:=RelDs.length r
  refine wpAny_grown (call_list_seq c (.inl rfl) g rfl rfl (fun h' c' hk e' hz'=>?_) (by rw [sizeLine_eq];simp [hl];omega))
  refine Post.make (k:=s.toks) I hk hz' (Nat.le_refl _) (Heap.lt_size e') (o:=.list l) ⟨items,c',e',RelDs.mono (fun a o q_ e q_=>hk a o e) (fun a o hn e q=>q.elim hn fun q=>absurd (Heap.lt_size e) (by rw [q];exact Nat.lt_irrefl _)) _ _ r⟩ (R:=RV) (b:=.ref s.heap.objs.size) rfl (h _)
theorem Call.intOf {i:Int}(h:Q (.int i) own):Call w B A (.type "int") [.int i] own Q X:=Call.of1 fun s N a I e=>by
  obtain ⟨t,rfl⟩:=id e
  exact call_int_int ⟨N,own,.int i,.refl ..,I,e,h⟩
theorem Call.ordOf {c:Nat}(h:Q (.int c) own):Call w B A (.builtin "ord") [.str [c]] own Q X:=Call.of1 fun s N a I e=>by
  obtain ⟨t,rfl⟩:=id e
  exact PySem.P.ord_of_char (Post.tok I (R:=RV) (b:=.int _) ⟨_,rfl⟩ h)
theorem Call.min2 {i j:Int}(hh:A.handled=none) (h:Q (.int (min i j)) own):Call w B A (.builtin "min") [.int i,.int j] own Q X:=Call.of2 fun s N a b I e e'=>by
  obtain ⟨t,rfl⟩:=id e
  obtain ⟨u,rfl⟩:=id e'
  refine wpAny_grown (min_two_ints hh fun h' tk hk hz=>?_)
  have e:∃t',(if j<i then Value.int j u else Value.int i t)=.int (min i j) t':=by
    split
    · exact ⟨u,by congr 1;lia⟩
    · exact ⟨t,by congr 1;lia⟩
  exact Post.grow I hk hz (R:=RV) (b:=.int (min i j)) e h
theorem Call.minList {c:Addr}{ns:List Int}(hh:A.handled=none) (ho:Has own c (.list (ns.map .int))) (hne:0<ns.length) (h:∀M,M∈ns→(∀a∈ns,M≤a)→Q (.int M) own):Call w B A (.builtin "min") [.ref c] own Q X:=Call.of1 fun s N a I e=>by
  have e:a=.ref c:=e
  subst e
  obtain ⟨_,items,n,g,r⟩:=I.owned _ ho.mem
  have hi:=intsAre r
  obtain ⟨xs,e⟩:=hi.allInts.items
  have hns:ns=xs.toList.map (·.1):=by rw [← hi.numsOf,← nums_intItems,← e]
  have hsz:0<xs.size:=by
    have h3:=hne;rw [hns,List.length_map,Array.length_toList] at h3;exact h3
  have hl:s.heap.IsList c (intItems xs):=by rw [← e];exact ⟨_,g,rfl,n,rfl⟩
  refine wpAny_grown (min_intList hh hl hsz fun v h' tk hv hk hz=>?_)
  obtain ⟨t,rfl⟩:=intItems_at hv
  obtain ⟨h1,h2⟩:=argBest_lt (numAt xs) (xs.size-1)
  refine Post.grow I hk hz (R:=RV) (b:=.int _) ⟨t,rfl⟩ (h _ ?_ fun a ha=>?_)
  · rw [hns,numAt_eq];exact getD_mem (by rw [List.length_map,Array.length_toList];exact Nat.lt_of_le_of_lt h1 (Nat.sub_lt hsz Nat.one_pos))
  · rw [hns] at ha
    obtain ⟨j,hj,rfl⟩:=mem_getD ha
    rw [List.length_map,Array.length_toList] at hj
    rw [← numAt_eq];exact h2 j (Nat.le_sub_one_of_lt hj)
theorem Call.range {n:Int}(h:∀r t u v,Q (.ref r) ((r,.exact (rangeObj n t u v))::own)):Call w B A (.type "range") [.int n] own Q X:=Call.of1 fun s N a I e=>by
  obtain ⟨t,rfl⟩:=id e
  refine call_range_1 ?_
  exact Post.new I (.exact (rangeObj n s.toks t (s.toks+1))) ⟨Heap.get?_push_size _ rfl,by simp [rangeObj]⟩ (h _ _ _ _)
theorem Call.bReplace0 {l:List UInt8}{c c':UInt8}(hn:c∉l) (h:Q (.bytes l) own):Call w B A (.builtin "bytes.replace") [.bytes l,.bytes [c],.bytes [c']] own Q X:=Call.of3 fun s N v v' v'' I ⟨t,e⟩ ⟨u,e'⟩ ⟨u',e''⟩=>by
  subst e e' e''
  refine wpAny_call_entry slot_bytes_replace (typeIs_bytes s _ t) entry_bytes_replace ?_ (args_bytes_replace _ _ _)
  unfold Builtin.«bytes.replace» Builtin.Bytes.replaceM
  dsimp only
  refine wpAny_bind (wpAny_of_eq (a:=(Value.bytes l.toArray t,[Value.bytes [c].toArray u,Value.bytes [c'].toArray u'])) rfl ?_)
  dsimp only
  refine wpAny_bind (wpAny_of_eq bytesLike_eq ?_)
  refine wpAny_bind (wpAny_of_eq bytesLike_eq ?_)
  refine wpAny_bind (wpAny_pure ?_)
  refine wpAny_bind (wpAny_of_eq bytesLike_eq ?_)
  refine wpAny_bind (wpAny_of_eq bytesLike_eq ?_)
  refine wpAny_bind (wpAny_of_eq (a:=l.toArray) rfl ?_)
  have hs:l.toArray.size=l.length:=by simp
  have ho:Builtin.Bytes.occurrences l.toArray [c].toArray 0 l.length=posB c 0 l:=occ_eq l c
  have hp:∀(l:List UInt8) k,c∉l→posB c k l=[]:=fun l=>by
    induction l with
    | nil=>intro k _;rfl
    | cons x l ih =>
      intro k hn
      simp only [List.mem_cons,not_or] at hn
      unfold posB
      rw [if_neg (by simpa using fun e=>hn.1 e.symm)]
      exact ih _ hn.2
  have he:([c].toArray:Array UInt8).isEmpty=false:=rfl
  simp only [he,hs,ho,hp l 0 hn,Bool.false_eq_true,if_false,List.isEmpty_nil,Bool.true_or,if_true,show ((-1:Int)<0) from by decide]
  refine wpAny_bind (wpAny_rule ?_)
  exact wpAny_bind (bSame (wpAny_pure ⟨_,rfl,⟨N,own,.bytes l,.refl ..,I,⟨t,rfl⟩,h⟩⟩))
end
noncomputable def joinG {α:Type}(sep:List α):List (List α)→List α
  | []=>[]
  | [x]=>x
  | x::y::r=>x++sep++joinG sep (y::r)
theorem joinL_G (sep:List UInt8):∀l:List (List UInt8),joinL sep l=joinG sep l
  | []=>rfl
  | [x]=>by rw [joinL_cons];simp [joinG]
  | x::y::r=>by
    have ih:=joinL_G sep (y::r)
    rw [joinL_cons] at ih ⊢
    rw [joinG,← ih]
    simp [List.append_assoc]
theorem joinS (sep:List Nat):∀l:List (List Nat),Str.join ⟨sep.toArray⟩ (l.map fun x=>⟨x.toArray⟩)=⟨(joinG sep l).toArray⟩
  | []=>rfl
  | [x]=>rfl
  | x::y::r=>by
    have ih:=joinS sep (y::r)
    have e:Str.join ⟨sep.toArray⟩ ((⟨y.toArray⟩:Str)::r.map fun x=>⟨x.toArray⟩)=⟨(joinG sep (y::r)).toArray⟩:=ih
    rw [List.map_cons,List.map_cons,join_cons_cons,e]
    show (⟨x.toArray++sep.toArray++(joinG sep (y::r)).toArray⟩:Str)=_
    simp [joinG]
section
variable {w:World}{B:Heap}{A:Around}{own own':Own}{P:Pins}{X:Addr→Own→Prop}{env:Env}{Q:D→Own→Prop}{QB:Bool→Own→Prop}{QF:Fl→Own→Prop}{QU:Unit→Own→Prop}{Qs:List D→Own→Prop}{s:Shared}{N:Addr→Prop}{K:Frag}
theorem strsAre {h:Heap}{N:Addr→Prop}{ls:List (List Nat)}{vs:List Value}(r:RelDs h N (ls.map .str) vs):StrsAre vs (ls.map fun x=>⟨x.toArray⟩):=by
  induction ls generalizing vs with
  | nil=>cases (show vs=[] from r);exact .nil
  | cons k ns ih =>
    obtain ⟨v,x,rfl,⟨t,rfl⟩,h2⟩:=r
    exact .cons _ _ (ih h2)
theorem Call.sJoin {c:Addr}{sep:List Nat}{ls:List (List Nat)}(ho:Has own c (.list (ls.map .str))) (hs:sep.length≤16) (hw:(ls.map List.length).sum+ls.length≤1048576) (h:Q (.str (joinG sep ls)) own):Call w B A (.builtin "str.join") [.str sep,.ref c] own Q X:=Call.of2 fun s N a b I e e'=>by
  obtain ⟨t,rfl⟩:=id e
  have e':b=.ref c:=e'
  subst e'
  obtain ⟨_,items,n,g,r⟩:=I.owned _ ho.mem
  have e1:((ls.map fun x=>(⟨x.toArray⟩:Str)).map (·.length)).sum=(ls.map List.length).sum:=by
    rw [List.map_map];exact congrArg List.sum (List.map_congr_left fun x q_=>by show x.toArray.size=_;simp)
  refine join_listW (x:=⟨sep.toArray⟩) (items:=items.toArray) ⟨_,g,rfl,n,rfl⟩ (by simpa using strsAre r) (by show sep.toArray.size≤16;simpa using hs) (by rw [e1];simpa using hw) fun t' k=>?_
  refine Post.tok I (R:=RV) (b:=.str (joinG sep ls)) ⟨t',?_⟩ h
  unfold Txt.join
  rw [StrLaws.glued_eq_join,joinS]
theorem take_eq {id:String}{b:Array UInt8}{t:Tok}:Builtin.Bytes.takeBufferQuiet? id (.bytes b t) 0=pure (some (b,none)):=by
  unfold Builtin.Bytes.takeBufferQuiet? Builtin.Bytes.takeBuffer?
  have e0:((0:Int) == Builtin.Bytes.fullReadOnly)=false:=by decide
  rw [KBy.special_eq KBy.look_buffer,KBy.own_buffer,e0,KBy.buffer_eq]
  rfl
theorem letGo_ok {M:Model}{A:Around}{E:Value→Shared→Prop}{s:Shared}{Q:Unit→Shared→Prop}(h:Q () s):∀(vs keep:List Value),wpAny M A (PySem.letGo vs keep) Q E s
  | [],_=>by unfold PySem.letGo;exact wpAny_pure h
  | _::r,keep=>by
    unfold PySem.letGo
    exact wpAny_bind (wpAny_holding (wpAny_point (letGo_ok h r keep)))
theorem joinLetGo_ok {M:Model}{A:Around}{E:Value→Shared→Prop}{s:Shared}{Q:Unit→Shared→Prop}(h:Q () s) (taken:List (Value×Option Value)) (keep:List Value) (hn:∀p∈taken,p.2=none):wpAny M A (Builtin.Bytes.joinLetGo taken keep) Q E s:=by
  induction taken with
  | nil=>unfold Builtin.Bytes.joinLetGo;exact wpAny_pure h
  | cons p r ih =>
    obtain ⟨x,y⟩:=p
    cases (show y=none from hn _ (.head _))
    unfold Builtin.Bytes.joinLetGo
    exact wpAny_bind (letGo_ok (ih fun p hp=>hn p (.tail _ hp)) _ _)
noncomputable abbrev JT:=Array (Array UInt8)×List (Value×Option Value)
noncomputable def JFree (l:List (Value×Option Value)):Prop:=∀p∈l,p.2=none∧p.1.onHeap=false
theorem JFree.not {l:List (Value×Option Value)}(h:JFree l):¬ ((Builtin.Bytes.Kind.bytes == Builtin.Bytes.Kind.bytearray || l.any fun x=>x.1.onHeap)=true):=fun q=>by
  obtain ⟨p,hp,hq⟩:=List.any_eq_true.mp (show (l.any fun x=>x.1.onHeap)=true from q)
  rw [(h p hp).2] at hq;cases hq
noncomputable def JAt (ls:List (List UInt8)) (items:List Value):Prop:=∀(i:Nat) l,ls[i]?=some l→∃u,items[i]?=some (.bytes l.toArray u)
inductive JInv (ls:List (List UInt8)) (s:Shared) (rest:List Nat) (b:JT) (s':Shared):Prop
  | mk (k:Nat) (hs:s'=s) (hk:k≤ls.length) (hr:rest=List.range' k (ls.length-k)) (hp:b.1=((ls.take k).map List.toArray).toArray) (ht:JFree b.2)
theorem JInv.more {ls:List (List UInt8)}{s s':Shared}{i:Nat}{rest:List Nat}{b:JT}(h:JInv ls s (i::rest) b s'):s'=s∧JFree b.2∧∃l,ls[i]?=some l∧∀u:Tok,JInv ls s rest (b.1.push l.toArray,b.2++[(.bytes l.toArray u,none)]) s:=by
  obtain ⟨k,hs,hk,hr,hp,ht⟩:=h
  have hlt:k<ls.length:=Nat.lt_of_le_of_ne hk fun e=>by rw [e,Nat.sub_self] at hr;cases hr
  rw [← Nat.sub_one_add_one (Nat.sub_ne_zero_of_lt hlt),List.range'_succ,List.cons.injEq] at hr
  have hl:ls[i]?=some ls[k]:=by rw [hr.1];exact List.getElem?_eq_getElem hlt
  refine ⟨hs,ht,_,hl,fun u=>⟨k+1,rfl,hlt,hr.2,?_,fun p hp=>?_⟩⟩
  · rw [hp,List.take_add_one,List.getElem?_eq_getElem hlt,List.map_append]
    simp only [List.push_toArray]
    rfl
  · rcases List.mem_append.mp hp with h | h
    · exact ht p h
    · cases List.mem_singleton.mp h;exact ⟨rfl,rfl⟩
theorem JInv.all {ls:List (List UInt8)}{s s':Shared}{b:JT}(h:JInv ls s [] b s'):s'=s∧JFree b.2∧b=((ls.map List.toArray).toArray,b.2):=by
  obtain ⟨k,hs,hk,hr,hp,ht⟩:=h
  have hk:k=ls.length:=Nat.le_antisymm hk (Nat.le_of_not_lt fun h=>by rw [← Nat.sub_one_add_one (Nat.sub_ne_zero_of_lt h),List.range'_succ] at hr;cases hr)
  rw [hk,List.take_length] at hp
  exact ⟨hs,ht,by rw [← hp]⟩
theorem joinLoop {M:Model}{A:Around}{s:Shared}{ls:List (List UInt8)}{items:List Value}{f:Nat→JT→Sem (ForInStep JT)}{E:Value→Shared→Prop}{K:JT→Sem PySem.Fin}{QF:PySem.Fin→Shared→Prop}(hlen:items.length=ls.length) (at_:JAt ls items)
    (hf:∀(i:Nat) (l:List UInt8) (b:JT) (u:Tok),items[i]?=some (.bytes l.toArray u)→JFree b.2→wpAny M A (f i b) (fun r s'=>s'=s∧r=.yield (b.1.push l.toArray,b.2++[(.bytes l.toArray u,none)])) E s)
    (hK:∀taken,JFree taken→wpAny M A (K ((ls.map List.toArray).toArray,taken)) QF E s):wpAny M A (forIn [:items.toArray.size] (#[],[]) f >>= K) QF E s:=by
  rw [Std.Legacy.Range.forIn_eq_forIn_range']
  refine wpAny_bind (wpAny_forIn_list _ (JInv ls s) _ (fun i rest b s' h=>?_) (fun b s' h=>?_) _ _ ?_)
  · obtain ⟨rfl,ht,l,hl,next⟩:=h.more
    exact (at_ i l hl).elim fun u hu=>wpAny_mono (hf i l b u hu ht) (fun r s'' e=>by rw [e.2,e.1];exact next u) fun q_ q_ x=>x
  · obtain ⟨rfl,ht,e⟩:=h.all
    rw [e]
    exact hK _ ht
  · exact ⟨0,rfl,Nat.zero_le _,by simp [Std.Legacy.Range.size,hlen],rfl,fun p hp=>by cases hp⟩
theorem joinFold (ps:List (List UInt8)) (k:Nat):(ps.map List.toArray).toArray.foldl (·+·.size) k=k+(ps.map List.length).sum:=by
  rw [List.foldl_toArray']
  · induction ps generalizing k with
    | nil=>rfl
    | cons p ps ih=>rw [List.map_cons,List.foldl_cons,ih,List.map_cons,List.sum_cons,List.size_toArray,Nat.add_assoc]
  · rfl
theorem joinLen (sep:List UInt8) (ps:List (List UInt8)):sep.length*(ps.length-1)+(ps.map List.length).sum=(joinG sep ps).length:=by
  induction ps with
  | nil=>rfl
  | cons p ps ih=>cases ps with
    | nil=>show sep.length*0+(p.length+0)=p.length;rw [Nat.mul_zero,Nat.zero_add,Nat.add_zero]
    | cons q ps =>
      have ih:sep.length*ps.length+((q::ps).map List.length).sum=(joinG sep (q::ps)).length:=ih
      show sep.length*(ps.length+1)+(p.length+((q::ps).map List.length).sum)=(p++sep++joinG sep (q::ps)).length
      rw [List.length_append,List.length_append,← ih,Nat.mul_succ,Nat.add_comm (sep.length*ps.length),Nat.add_add_add_comm,Nat.add_comm sep.length]
theorem joinTail {M:Model}{A:Around}{s:Shared}{sep:List UInt8}{ls:List (List UInt8)}{t:Tok}{E:Value→Shared→Prop}{QF:PySem.Fin→Shared→Prop}(size:(joinG sep ls).length≤16777216) (hQ:∀t',QF (.done (.ret (.bytes (joinG sep ls).toArray t'))) {s with toks:=s.toks+1 })
    {taken:List (Value×Option Value)}(ht:JFree taken):wpAny M A (do
      let sep ← Builtin.Bytes.payload (.bytes sep.toArray t)
      if Builtin.Bytes.tooLong ((ls.map List.toArray).toArray.foldl (·+·.size) (sep.size*((ls.map List.toArray).toArray.size-1))) then unsupported s!"{s!"{Builtin.Bytes.Kind.bytes.name}.join"}:memory"
      let result ← Builtin.Bytes.Kind.bytes.new (Builtin.Bytes.joined sep (ls.map List.toArray).toArray.toList)
      holding (result::taken.flatMap fun (y,u)=>y::u.toList) point
      Builtin.Bytes.joinLetGo taken [result]
      ret result) QF E s:=by
  refine wpAny_bind (wpAny_of_eq (a:=sep.toArray) rfl ?_)
  have e1:(sep.toArray.size*((ls.map List.toArray).toArray.size-1)+(ls.map List.length).sum)=(joinG sep ls).length:=by rw [← joinLen];simp
  rw [joinFold,e1,KBy.tooLong_not size,show Builtin.Bytes.joined sep.toArray (ls.map List.toArray).toArray.toList=(joinG sep ls).toArray by rw [← joinL_G];exact joined_eq sep ls]
  exact wpAny_bind (bNew (by simpa using size) fun t'=>wpAny_bind (wpAny_holding (wpAny_point (wpAny_bind (joinLetGo_ok (wpAny_pure (hQ t')) _ _ fun p hp=>(ht p hp).1)))))
theorem joinM_ok {M:Model}{A:Around}{s:Shared}{sep:List UInt8}{ls:List (List UInt8)}{items:List Value}{c:Addr}{n:Nat}{t:Tok}{E:Value→Shared→Prop}{QF:PySem.Fin→Shared→Prop}(g:s.heap.get? c=some {cls:=.type "list", data:=.seq (List.toArray items) n }) (hlen:items.length=ls.length) (at_:JAt ls items) (size:(joinG sep ls).length≤16777216)
    (h1:∀x u,ls=[x]→QF (.done (.ret (.bytes x.toArray u))) s) (hQ:∀t',QF (.done (.ret (.bytes (joinG sep ls).toArray t'))) {s with toks:=s.toks+1 }):wpAny M A (Builtin.Bytes.joinM .bytes ⟨[.bytes sep.toArray t,.ref c],[]⟩) QF E s:=by
  rcases items with _ | ⟨v,_ | ⟨v₂,r⟩⟩
  · unfold Builtin.Bytes.joinM
    refine wpAny_bind (wpAny_of_eq (a:=(Value.bytes sep.toArray t,Value.ref c)) rfl (wpAny_bind (wpAny_bind (wpAny_typeOf ⟨_,g,rfl⟩ (wpAny_pure (wpAny_bind (wpAny_seqItems g rfl ?_)))))))
    exact joinLoop hlen at_ (fun i l b u hi hb=>by cases hi) fun taken ht=>joinTail size hQ ht
  · have hl:∃x u,ls=[x]∧v=.bytes x.toArray u:=by
      rcases ls with _ | ⟨x,_ | ⟨y,r⟩⟩
      · cases hlen
      · exact (at_ 0 x rfl).elim fun u hu=>⟨x,u,rfl,Option.some.inj hu⟩
      · cases hlen
    obtain ⟨x,u,hx,rfl⟩:=hl
    unfold Builtin.Bytes.joinM
    refine wpAny_bind (wpAny_of_eq (a:=(Value.bytes sep.toArray t,Value.ref c)) rfl (wpAny_bind (wpAny_bind (wpAny_typeOf ⟨_,g,rfl⟩ (wpAny_pure (wpAny_bind (wpAny_seqItems g rfl ?_)))))))
    exact wpAny_bind (wpAny_typeOf (typeIs_bytes s _ u) (wpAny_bind (wpAny_rule (wpAny_pure (h1 x u hx)))))
  · unfold Builtin.Bytes.joinM
    refine wpAny_bind (wpAny_of_eq (a:=(Value.bytes sep.toArray t,Value.ref c)) rfl (wpAny_bind (wpAny_bind (wpAny_typeOf ⟨_,g,rfl⟩ (wpAny_pure (wpAny_bind (wpAny_seqItems g rfl ?_)))))))
    refine joinLoop hlen at_ (fun i l b u hi hb=>?_) fun taken ht=>joinTail size hQ ht
    refine wpAny_bind (wpAny_seqItems g rfl ?_)
    dsimp only
    rw [if_neg hb.not,show (v::v₂::r).toArray.getD i Value.none=.bytes l.toArray u by rw [Array.getD_eq_getD_getElem?,List.getElem?_toArray,hi];rfl]
    refine wpAny_bind (wpAny_holding (wpAny_of_eq take_eq ?_))
    refine wpAny_bind (wpAny_seqItems g rfl ?_)
    dsimp only
    rw [if_neg (by simp)]
    exact wpAny_pure ⟨rfl,rfl⟩
theorem Call.bJoin {c:Addr}{sep:List UInt8}{ls:List (List UInt8)}(ho:Has own c (.list (ls.map .bytes))) (hw:(joinG sep ls).length≤1048576) (h:Q (.bytes (joinG sep ls)) own):Call w B A (.builtin "bytes.join") [.bytes sep,.ref c] own Q X:=Call.of2 fun s N a b I e e'=>by
  obtain ⟨t,rfl⟩:=id e
  cases (show b=.ref c from e')
  obtain ⟨_,items,n,g,r⟩:=I.owned _ ho.mem
  refine wpAny_call_entry slot_bytes_join (typeIs_bytes s _ t) entry_bytes_join ?_ (args_bytes_join _ _)
  refine joinM_ok g (r.length.trans (List.length_map ..)) (fun i l hi=>?_) (Nat.le_trans hw (by decide)) (fun x u e=>?_) fun t'=>⟨_,rfl,Post.bytes I rfl h⟩
  · obtain ⟨v,hv,⟨u,rfl⟩⟩:=r.get (i:=i) (d:=.bytes l) (by rw [List.getElem?_map,hi];rfl)
    exact ⟨u,hv⟩
  · subst e
    exact ⟨_,rfl,⟨N,own,.bytes x,.refl ..,I,⟨u,rfl⟩,h⟩⟩
end
section
variable {w:World}{B:Heap}{A:Around}{own own':Own}{P:Pins}{X:Addr→Own→Prop}{env:Env}{Q:D→Own→Prop}{QB:Bool→Own→Prop}{QF:Fl→Own→Prop}{QU:Unit→Own→Prop}{Qs:List D→Own→Prop}{s:Shared}{N:Addr→Prop}{K:Frag}
structure MethOk (K:Frag) (C:Addr) (name:Str) (f:Addr):Prop where
  g:plainGet K C name=true
  fn:findIn K (.ref C) name=some (some (.ref f))
  t:isFn K (.ref f)=true
theorem getL_none {name:Str}{es:List DictEntry}{ns:List Str}(h:KeyNames es ns) (hn:name∉ns):getL name es=some none:=by
  induction es generalizing ns with
  | nil=>rfl
  | cons e es ih =>
    obtain ⟨y,t,ns',rfl,e2,e3⟩:=h
    have ih:=ih e3 fun h=>hn (.tail _ h)
    unfold getL at ih ⊢
    rw [List.find?_cons_of_neg (by rw [e2];exact fun h=>hn (by rw [← eq_of_beq (show (y == name)=true from h)];exact .head _))]
    revert ih
    cases hf:List.find? (fun x=>x.key.isStr name) es with
    | some e'=>exact id
    | none =>
      intro ih
      have:e.refKey=false:=by rw [DictEntry.refKey,e2]
      show (if (e.refKey || es.any DictEntry.refKey)=true then _ else _)=_
      rw [this,Bool.false_or]
      exact ih
theorem Meth.inst (hK:K.In B) {C d x f:Addr}{name:Str}{ns:List Str}{l:List D}(ok:MethOk K C name f) (h1:Has own x (.inst C d)) (h2:Has own d (.attrs ns l)) (hn:name∉ns):Meth w B A (.ref x) own name (.ref f):=fun s N v I e pl Q E h=>by
  have e:v=.ref x:=e
  subst e
  have hx:=(I.owned _ h1.mem).2
  obtain ⟨_,es,n,hd,⟨kn,nd⟩,r⟩:=I.owned _ h2.mem
  have IA:InstAt s.heap x ⟨.ref C,some d,.plain,#[]⟩ C (some (dictOf es n)):=⟨hx,rfl,rfl,hd⟩
  exact method_fn (hK.keeps I.stays) IA (plainGet_of ok.g).1 (plainGet_of ok.g).2 ok.fn (beq_iff_eq.mp ok.t) (by show (lookIn name (dictOf es n)).map _=_;rw [lookIn_dict,getL_none kn hn];rfl) h
theorem Meth.frozen (hK:K.In B) {C f:Addr}{name:Str}{ns:List Str}{l:List D}(ok:MethOk K C name f) (hn:name∉ns):Meth w B A (.inst C ns l) own name (.ref f):=fun s N v I e pl Q E h=>by
  obtain ⟨x,d,n,es,rfl,_,hx,_,hd,⟨kn,nd⟩,r⟩:=e
  have IA:InstAt s.heap x ⟨.ref C,some d,.plain,#[]⟩ C (some (dictOf es n)):=⟨hx,rfl,rfl,hd⟩
  exact method_fn (hK.keeps I.stays) IA (plainGet_of ok.g).1 (plainGet_of ok.g).2 ok.fn (beq_iff_eq.mp ok.t) (by show (lookIn name (dictOf es n)).map _=_;rw [lookIn_dict,getL_none kn hn];rfl) h
structure ClsOk (K:Frag) (C fI:Addr):Prop where
  m:makesIn K C=true
  init:findIn K (.ref C) "__init__" = some (some (.ref fI))
  fn:typeIn K (.ref fI)=some (.type "function")
theorem Call.make (hK:K.In B) {C fI:Addr}{ds:List D}{X₁:Addr→Own→Prop}(ok:ClsOk K C fI)
    (hinit:∀(A':Around) x d,frs A'=frs A→(∀n,Cx A (n+2)→Cx A' n)→CallC w B A' (.ref fI) (.ref x::ds) ((x,.inst C d)::(d,.attrs [] [])::own) (fun r o=>r=.none∧Q (.ref x) o) X):Call w B A (.ref C) ds own Q X:=fun P vs hl=>fun s N I hp=>by
  have XK:=hK.keeps I.stays
  have he:(Code.builtin "type.__call__" ⟨.ref C::vs,[]⟩).envs=[]:=by rfl
  refine wpAny_call ?_
  have hS:(s.heap.push emptyDict).objs.size=s.heap.objs.size+1:=Heap.size_push ..
  obtain ⟨I₁,S₁⟩:=I.make (k:=s.toks) (c:=s.heap.objs.size) (o:=.attrs [] []) (h':=s.heap.push emptyDict) (fun q_ q_ e=>Heap.get?_push_of_some _ e) (by rw [Heap.size_push];exact Nat.le_succ _) (Nat.le_refl _) (by rw [Heap.size_push];exact Nat.lt_succ_self _)
    ⟨[],0,Heap.get?_push_size _ rfl,⟨rfl,List.nodup_nil⟩,rfl⟩
  obtain ⟨I₂,S₂⟩:=I₁.make (k:=s.toks) (c:=s.heap.objs.size+1) (o:=.inst C s.heap.objs.size) (h':=(s.heap.push emptyDict).push (instObj C s.heap.objs.size)) (fun q_ q_ e=>Heap.get?_push_of_some _ e) (by show (s.heap.push emptyDict).objs.size≤_;rw [Heap.size_push (s.heap.push emptyDict)];exact Nat.le_succ _)
    (by show (s.heap.push emptyDict).objs.size≤_;rw [hS];exact Nat.le_refl _) (by rw [Heap.size_push,hS];exact Nat.lt_succ_self _) (by have:=Heap.get?_push_size (s.heap.push emptyDict) (o:=instObj C s.heap.objs.size) rfl;rw [hS] at this;exact this)
  have S:=S₁.trans S₂
  have hc:=hinit (A.under (.builtin "type.__call__" ⟨.ref C::vs,[]⟩)) (s.heap.objs.size+1) s.heap.objs.size (frs_under he) (fun n cx=>cx.under (Nat.le_of_ble_eq_true rfl) (Nat.le_of_ble_eq_true rfl) he) P (.ref (s.heap.objs.size+1)::vs) (by simp [hl]) _ _ (I₂.same (A':=A) (frs_under he).symm) (fun p hm=>by
    rcases List.mem_cons.mp hm with rfl | hm
    · exact rfl
    · exact S.pins I hp p hm)
  have key:=codeAny_mono hc (R':=InitBack (s.heap.objs.size+1) (fun r s'=>match r with | .ok (.ret v)=>Post w B A RV s N own Q v s' | .ok _=>False | .error e=>PostX w B A s N own X e s')) fun r s' q=>by
    rcases r with e | (v | _ | _ | _) <;> first | exact q.elim | skip
    · obtain ⟨N',o',x,S',I',ex,q⟩:=q
      exact ⟨N',o',x,S.trans S',I'.same (A':=A.under (.builtin "type.__call__" ⟨.ref C::vs,[]⟩)) (frs_under he),ex,q⟩
    · obtain ⟨N',o',b,S',I',r,e,q⟩:=q
      subst e
      exact ⟨r,N',o',.ref (s.heap.objs.size+1),S.trans S',I'.same (A':=A.under (.builtin "type.__call__" ⟨.ref C::vs,[]⟩)) (frs_under he),rfl,q⟩
  obtain ⟨hh,g,dr,t,os⟩:=s
  exact make_core (makes_of XK ok.m) (looks_findIn XK ok.init) (fun self=>bind_fn XK self ok.fn) (.inl rfl) key
theorem notSys {c:Addr}{o:O}(hsys:B.NoLimit) (I:Inv w B A s N own) (ho:Has own c o):(c == sysModules)=false:=by
  obtain ⟨_,⟨_,_,_,hb,_⟩,_⟩:=hsys
  exact beq_eq_false_iff_ne.mpr (Nat.ne_of_gt (Nat.lt_trans (by decide) (I.hi _ (I.owned _ ho.mem).1 _ _ hb)))
theorem Call.tdGet {c:Addr}{l:List (List Int×D)}{k:List Int}{r:D}(hu:A.units+1<cLine) (hsys:B.NoLimit) (ho:Has own c (.td l)) (hr:(k,r)∈l∨(k∉l.map (·.1)∧r=.none)) (h:Q r own) :
    Call w B A (.builtin "dict.get") [.ref c,.tup (k.map .int)] own Q X:=Call.of2 fun s N a b I e e'=>by
  have e:a=.ref c:=e
  subst e
  have hN:=(I.owned _ ho.mem).1
  obtain ⟨xs,hm,hk,r1,r2⟩:=td_to (I.owned _ ho.mem).2
  have nd:(xs.map (·.1)).Nodup:=by obtain ⟨_,_,_,_,_,_,_,_,nd⟩:=hm;exact nd
  obtain ⟨ka,_,_,rfl,_⟩:=id e'
  have hd:(c == sysModules)=false:=notSys hsys I ho
  refine call_meetsIn F.slot_dict_get hm.typeIs F.entry_dict_get (F.args_dict_get_2 _ _) (meetsH_dict_get (tkind w) c ka hd) ⟨hu,k,xs,tkey e',hm,?_⟩
  rcases hr with hr | ⟨hr,rfl⟩
  · obtain ⟨p,h1,h2⟩:=td_at hr hk r2
    rw [atKey_mem nd h1]
    exact Post.tok I (R:=RV) (b:=r) h2 h
  · have hn:atKey xs k=none:=atKey_none_of_get fun j p q=>hr (by
      rw [← hk]
      exact List.mem_map.mpr ⟨_,List.mem_of_getElem? q,rfl⟩)
    rw [hn]
    exact Post.tok I (R:=RV) (b:=.none) rfl h
theorem Call.idGet2 {c:Addr}{l:List (Int×D)}{k:Int}{df r:D}(hsys:B.NoLimit) (ho:Has own c (.idict l)) (hr:(k,r)∈l∨(k∉l.map (·.1)∧r=df)) (h:Q r own) :
    Call w B A (.builtin "dict.get") [.ref c,.int k,df] own Q X:=Call.of3 fun s N a b v I e ⟨t,e'⟩ rv=>by
  have e:a=.ref c:=e
  subst e e'
  obtain ⟨_,kvs,hm,hk,r2⟩:=I.owned _ ho.mem
  have nd:(kvs.map (·.1)).Nodup:=by obtain ⟨_,_,_,_,_,_,_,_,nd⟩:=hm;exact nd
  refine call_meetsIn F.slot_dict_get hm.typeIs F.entry_dict_get (F.args_dict_get_3 _ _ _) (meets_dict_get_default (intKind PG w) c (intKind_is PG w k t) (notSys hsys I ho) v) ⟨_,hm.mapOf,?_⟩
  rcases hr with hr | ⟨hr,rfl⟩
  · obtain ⟨u,h1,h2⟩:=relD_at hr hk r2
    rw [valueAt_mem nd h1]
    exact Post.tok I (R:=RV) (b:=r) h2 h
  · have hn:valueAt kvs k=none:=by
      unfold valueAt
      rw [Option.map_eq_none_iff,List.find?_eq_none]
      intro p hp q
      exact hr (by rw [← hk];exact List.mem_map.mpr ⟨p,hp,by simpa using q⟩)
    rw [hn]
    exact Post.tok I (R:=RV) (b:=r) rv h
theorem Wp.eDictTd {pos} (h:∀c,Q (.ref c) ((c,.td [])::own)):Wp w B A RV P own (eval (.Dict [] [] pos) env) Q X:=fun s N I hp=>by
  refine wpAny_Dict_empty ?_
  exact Post.new (k:=s.toks) I (.td []) ⟨[],0,Heap.get?_push_size _ rfl,List.nodup_nil,rfl,rfl,rfl⟩ (h _)
theorem Wp.eDictId {pos} (h:∀c,Q (.ref c) ((c,.idict [])::own)):Wp w B A RV P own (eval (.Dict [] [] pos) env) Q X:=fun s N I hp=>by
  refine wpAny_Dict_empty ?_
  exact Post.new (k:=s.toks) I (.idict []) ⟨[],Heap.DictOf.new ..,rfl,rfl⟩ (h _)
noncomputable def RPairs:Rl (List (Str×D)) (List (Value×Value)):=fun h N l vs=>∃kvs:List (Str×Value),vs.length=l.length∧(∀w:World,Carries (strKind PG w) vs kvs)∧kvs.map (·.1)=l.map (·.1)∧RelDs h N (l.map (·.2)) (kvs.map (·.2))
theorem Wp.pairsNil {Ql:List (Str×D)→Own→Prop}(h:Ql [] own):Wp w B A RPairs P own (evalPairs []) Ql X:=fun s N I hp=>evalPairs_nil ⟨N,own,[],.refl ..,I,⟨[],rfl,fun q_=>trivial,rfl,rfl⟩,h⟩
theorem Wp.pairsCons {Ql:List (Str×D)→Own→Prop}{k:Sem Value}{e:Expr}{pos:Pos}{rest:List (Sem Value×Sem Value)}
    (h:Wp w B A RV P own k (fun d o=>∃x:Str,d=.str x.cps.toList∧∀a,Wp w B A RV ((d,a)::P) o (eval e env) (fun dv o'=>∀b,Wp w B A RPairs ((dv,b)::(d,a)::P) o' (evalPairs rest) (fun l o''=>Ql ((x,dv)::l) o'') X) X) X) :
    Wp w B A RPairs P own (evalPairs ((k,(do let x ← eval e env;PySem.standAt pos;pure x))::rest)) Ql X:=fun s N I hp=>by
  refine evalPairs_cons (wpAny_mono (h s N I hp) (fun a s₁ hh=>?_) fun q_ q_ x=>x)
  obtain ⟨N₁,o₁,d,S₁,I₁,r₁,x,ed,q₁⟩:=hh
  subst ed
  have p₁:∀p∈(D.str x.cps.toList,a)::P,RelD s₁.heap N₁ p.1 p.2:=pc r₁ (S₁.pins I hp)
  refine wpAny_bind (wpAny_mono (q₁ a s₁ N₁ I₁ p₁) (fun b s₂ hh=>wpAny_bind (wpAny_standAt (wpAny_pure ?_))) fun q_ q_ x=>PostX.after S₁ x)
  obtain ⟨N₂,o₂,dv,S₂,I₂,r₂,q₂⟩:=hh
  have p₂:∀p∈(dv,b)::(D.str x.cps.toList,a)::P,RelD s₂.heap N₂ p.1 p.2:=pc r₂ (S₂.pins I₁ p₁)
  refine wpAny_mono (q₂ b s₂ N₂ I₂ p₂) (fun vs s₃ hh=>?_) fun q_ q_ x=>PostX.after (S₁.trans S₂) x
  obtain ⟨N₃,o₃,l,S₃,I₃,⟨kvs,hl,hc,hk,r₃⟩,q₃⟩:=hh
  refine ⟨N₃,o₃,(x,dv)::l,(S₁.trans S₂).trans S₃,I₃,⟨(x,b)::kvs,by simp [hl],fun w=>?_,by simp [hk],b,_,rfl,S₃.relD I₂ r₂,r₃⟩,q₃⟩
  obtain ⟨t,ea⟩:∃t,a=.str ⟨x.cps.toList.toArray⟩ t:=r₁
  rw [str_back] at ea
  subst ea
  exact ⟨strKind_is PG w x t,rfl,hc w⟩
theorem foldStore:∀(l acc:List (Str×D)),((acc++l).map (·.1)).Nodup→l.foldl (fun a p=>storeD a p.1 p.2) acc=acc++l
  | [],acc,_=>by simp
  | p::l,acc,nd=>by
    have hn:¬ (acc.any (fun q=>q.1=p.1)=true):=fun q=>by
      obtain ⟨x,hx,e⟩:=List.any_eq_true.mp q
      rw [List.map_append,List.nodup_append] at nd
      exact nd.2.2 x.1 (List.mem_map.mpr ⟨x,hx,rfl⟩) p.1 (by simp) (by simpa using e)
    rw [List.foldl_cons]
    unfold storeD
    rw [if_neg hn]
    have:=foldStore l (acc++[(p.1,p.2)]) (by simpa using nd)
    rw [List.append_assoc] at this
    exact this
theorem mergedRel {h:Heap}{N:Addr→Prop}(l:List (Str×D)) (kvs:List (Str×Value)) (acc:List (Str×D)) (kacc:List (Str×Value)) (e:kvs.map (·.1)=l.map (·.1)) (r:RelDs h N (l.map (·.2)) (kvs.map (·.2))) (e':kacc.map (·.1)=acc.map (·.1)) (r':RelDs h N (acc.map (·.2)) (kacc.map (·.2))) :
    (merged kacc kvs).map (·.1)=(l.foldl (fun a p=>storeD a p.1 p.2) acc).map (·.1)∧RelDs h N ((l.foldl (fun a p=>storeD a p.1 p.2) acc).map (·.2)) ((merged kacc kvs).map (·.2)):=by
  induction l generalizing kvs acc kacc with
  | nil =>
    cases kvs with
    | nil=>exact ⟨e',r'⟩
    | cons=>cases e
  | cons p l ih =>
    cases kvs with
    | nil=>cases e
    | cons q kvs =>
      obtain ⟨v,x,e1,r1,r2⟩:=r
      obtain ⟨rfl,rfl⟩:=List.cons.inj e1
      obtain ⟨e2,e3⟩:=List.cons.inj e
      have st:=stored_rel (k:=p.1) (d:=p.2) (v:=q.2) r1 e' r'
      show (merged (stored kacc q.1 q.2) kvs).map (·.1)=_∧RelDs h N _ ((merged (stored kacc q.1 q.2) kvs).map (·.2))
      rw [show q.1=p.1 from e2]
      exact ih kvs (storeD acc p.1 p.2) (stored kacc p.1 q.2) e3 r2 st.1 st.2
theorem Wp.eDict {keys:List (Option Expr)}{values:List Expr}{pos:Pos}{pairs:List (Sem Value×Sem Value)}(hshape:(evalEachOpt keys env).zip ((evalEach values env).map fun v=>do let x ← v;PySem.standAt pos;pure x)=pairs.map fun p=>(some p.1,p.2)) (h0:pairs≠[]) (hlen:pairs.length≤15)
    (h:∀c,Wp w B A RPairs P ((c,.sd [])::own) (evalPairs pairs) (fun l o=>∃o',Put o c (.sd []) (.sd l) o'∧(l.map (·.1)).Nodup∧Q (.ref c) o') X):Wp w B A RV P own (eval (.Dict keys values pos) env) Q X:=fun s N I hp=>by
  have mk:=I.make (k:=s.toks) (c:=s.heap.objs.size) (o:=.sd []) (h':=s.heap.push {cls:=.type "dict", data:=.dict #[] }) (fun q_ q_ e=>Heap.get?_push_of_some _ e) (by rw [Heap.size_push];exact Nat.le_succ _) (Nat.le_refl _) (by rw [Heap.size_push];exact Nat.lt_succ_self _)
    ⟨[],Heap.DictOf.new ..,rfl,rfl⟩
  obtain ⟨I₁,S₁⟩:=mk
  refine wpAny_Dict_pairs (knd:=strKind PG w) hshape h0 hlen (wpAny_mono (h s.heap.objs.size _ _ I₁ (S₁.pins I hp)) (fun vs s₁ hh=>?_) fun q_ q_ x=>PostX.after S₁ x)
  obtain ⟨N₁,o₁,l,S₂,I₂,⟨kvs,hl,hc,hk,r⟩,o',U,nd,hq⟩:=hh
  obtain ⟨hN,kvs0,hm,e0,r0⟩:=I₂.owned _ U.has
  have:kvs0=[]:=by simpa using e0
  subst this
  refine ⟨kvs,hc w,hm,fun h' hm' hs'=>?_⟩
  have kk:∀a o,¬ N₁ a→s₁.heap.get? a=some o→o.cls≠.type "frame" → h'.get? a=some o:=fun a o hn e q_=>(hs'.2 a fun q=>hn (q▸hN)).trans e
  have k2:=mergedRel l kvs [] [] hk (r.mono kk fun q_ q_ a q_=>a) rfl rfl
  rw [foldStore l [] (by simpa using nd),List.nil_append] at k2
  obtain ⟨I₃,S₃⟩:=I₂.upd (k:=s₁.toks+vs.length) U hs' (fun x e f=>dictCls hm hm' x e) ⟨_,hm',k2.1,k2.2⟩
  exact ⟨N₁,o',.ref s.heap.objs.size,(S₁.trans S₂).trans S₃,I₃,rfl,hq⟩
end
section
variable {w:World}{B:Heap}{A:Around}{own own':Own}{P:Pins}{X:Addr→Own→Prop}{env:Env}{Q:D→Own→Prop}{QB:Bool→Own→Prop}{QF:Fl→Own→Prop}{QU:Unit→Own→Prop}{Qs:List D→Own→Prop}{s:Shared}{N:Addr→Prop}{K:Frag}
theorem Wp.eComp {elt target iter:Expr}{ifs:List Expr}{scope:Scope}{pos:Pos}{cl:List (Str×Addr)}{ln:List Str}{Lf:Addr}
    (hs:∀x,foldedSetIterable iter env x=pure x) (hclos:closureFor scope env=pure cl) (hkind:scope.kind=.function) (hnames:∀x∈scope.names,x.2=.local→scope.names.lookup x.1=some .local) (hcell:∀x∈scope.names,x.2≠.cell) (hln:ln.Nodup)
    (hf:env.frame=some Lf) (h:Wp w B A RV P own (eval iter env) (CompIGo w B A P elt target ifs scope cl env ln none Q X) X) :
    Wp w B A RV P own (eval (.ListComp elt [⟨target,iter,ifs,0⟩] scope pos) env) Q X:=by
  rw [eval_ListComp]
  exact compI hs hclos hkind hnames hcell hln hf h
theorem Wp.AssignComp {x:Str}{p':Pos}{elt target iter:Expr}{ifs:List Expr}{scope:Scope}{pos pos₁:Pos}{cl:List (Str×Addr)}{ln:List Str}{Lf:Addr}(hsw:swapsWith (.ListComp elt [⟨target,iter,ifs,0⟩] scope pos) (some (.Name x p')) pos₁.line env=pure true)
    (hs:∀x,foldedSetIterable iter env x=pure x) (hclos:closureFor scope env=pure cl) (hkind:scope.kind=.function) (hnames:∀x∈scope.names,x.2=.local→scope.names.lookup x.1=some .local) (hcell:∀x∈scope.names,x.2≠.cell) (hln:ln.Nodup)
    (hf:env.frame=some Lf) (h:Wp w B A RV P own (eval iter env) (CompIGo w B A P elt target ifs scope cl env ln (some (assign (.Name x p') env)) (fun q_ o=>QF .next o) X) X) :
    Wp w B A RF P own (exec (.Assign [.Name x p'] (.ListComp elt [⟨target,iter,ifs,0⟩] scope pos) pos₁) env) QF X:=by
  rw [exec_Assign_Name_used x p' _ pos₁ hsw]
  refine Wp.standAt ?_
  show Wp w B A RF P own ((comprehension (.ListComp elt [⟨target,iter,ifs,0⟩] scope pos) scope env (firstIterPos [⟨target,iter,ifs,0⟩] pos) (newList []) false (eval iter env) (some (assign (.Name x p') env)) >>= fun q_=>pure ()) >>= fun q_=>pure .next) QF X
  refine Wp.bindE (Wp.bindG (compI (pos':=firstIterPos [⟨target,iter,ifs,0⟩] pos) (pos:=pos) hs hclos hkind hnames hcell hln hf h) fun b o₁ a s₁ N₁ q I₁ q_ q_=>?_)
  exact wpAny_pure ⟨N₁,o₁,(),.refl ..,I₁,rfl,Wp.val (b:=Fl.next) (fun q_ q_ q_=>by exact rfl) q⟩
end
structure Gr (K:Frag) (B:Heap):Prop where
  K:K.In B
  lim:B.NoLimit
  ns:∃mg mb,B.Ns mainGlobals mg∧B.Ns builtinsNs mb∧∀x:Str,x ≠ "__name__" → mb x=bootBuiltins x
section
variable {w:World}{B:Heap}{A:Around}{own own':Own}{P:Pins}{X:Addr→Own→Prop}{env:Env}{Q:D→Own→Prop}{QB:Bool→Own→Prop}{QF:Fl→Own→Prop}{QU:Unit→Own→Prop}{Qs:List D→Own→Prop}{s:Shared}{N:Addr→Prop}{K:Frag}
theorem Gr.gn (g:Gr K B) {x:Str}{v:Value}(e:nsIn K mainGlobals x=some (some v)):GN B x v:=by
  obtain ⟨mg,mb,h1,h2,h3⟩:=g.ns
  exact ⟨mg,h1,mg_of g.K h1 e⟩
theorem Gr.bn (g:Gr K B) {x:Str}{v:Value}(e:nsIn K mainGlobals x=some none) (hn:x ≠ "__name__") (hv:bootBuiltins x=some v):BN B x v:=by
  obtain ⟨mg,mb,h1,h2,h3⟩:=g.ns
  exact ⟨mg,mb,h1,mg_none_of g.K h1 e,h2,(h3 x hn).trans hv⟩
end
structure EV (env:Env) (names:List (Str×NameKind)) (L:Addr) (cells:List (Str×Addr)) (F:Addr):Prop where
  k:env.scope.kind=.function
  n:env.scope.names=names
  l:env.locals=L
  c:env.cells=cells
  g:env.globals=mainGlobals
  b:env.builtins=builtinsNs
  f:env.frame=some F
structure Din (A:Around) (env:Env) (n:Nat):Prop where
  cx:Cx A n
  fr:∃outer,A.frames=some (env::outer)
section
variable {w:World}{B:Heap}{A:Around}{own own':Own}{P:Pins}{X:Addr→Own→Prop}{env:Env}{Q:D→Own→Prop}{QB:Bool→Own→Prop}{QF:Fl→Own→Prop}{QU:Unit→Own→Prop}{Qs:List D→Own→Prop}{s:Shared}{N:Addr→Prop}{K:Frag}{names:List (Str×NameKind)}{L F:Addr}{cells:List (Str×Addr)}
theorem EV.kindOf (E:EV env names L cells F) (x:Str):env.kindOf x=names.lookup x:=by
  unfold Env.kindOf;rw [E.n]
theorem EV.block (E:EV env names L cells F):env.blockKind=.function:=by
  unfold Env.blockKind;rw [E.k];rfl
theorem EV.still (E:EV env names L cells F):interactive env=false:=by
  unfold interactive;rw [E.k];rfl
theorem EV.of_call {fd:FuncData}{more} {L f:Addr}(h:fd.scope=⟨.function,names,false,false,more⟩) (hg:fd.globals=mainGlobals) (hb:fd.builtins=builtinsNs):EV (callEnvC fd L f) names L (cellsFrom (L+1) names []) L:=by
  refine ⟨?_,?_,rfl,?_,hg,hb,rfl⟩
  · show fd.scope.kind=_;rw [h]
  · show fd.scope.names=_;rw [h]
  · show cellsFrom (L+1) fd.scope.names []=_;rw [h]
noncomputable def relNames (ns:List (Str×NameKind)) (outer:List (Str×NameKind)):List (Str×NameKind):=ns.map fun p=>if p.2 == .free && outer.lookup p.1 == some .cell then (p.1,.cell) else p
theorem EV.comp (E:EV env names L cells F) {scope:Scope}(hk:scope.kind=.function) {cl:List (Str×Addr)}{C:Addr}:EV (compEnvC scope cl C env) (relNames scope.names names) C cl F:=by
  refine ⟨hk,?_,rfl,rfl,E.g,E.b,E.f⟩
  show (scope.names.map _)=_
  unfold relNames
  refine List.map_congr_left fun p q_=>?_
  obtain ⟨x,k⟩:=p
  simp only [E.k,E.kindOf x]
  cases h:(k == NameKind.free) <;> simp [h]
noncomputable def closeL (cells:List (Str×Addr)):List (Str×NameKind)→List (Str×Addr)→Option (List (Str×Addr))
  | [],cs=>some cs
  | (x,k)::r,cs=>if k == .free then (match cells.lookup x with
    | some a=>closeL cells r ((x,a)::cs)
    | none=>none) else closeL cells r cs
theorem EV.clos (E:EV env names L cells F) {scope:Scope}{cl:List (Str×Addr)}(h:closeL cells scope.names []=some cl):closureFor scope env=pure cl:=by
  unfold closureFor
  have key:∀(ns:List (Str×NameKind)) (cs:List (Str×Addr)),closeL cells ns cs=some cl→(forIn ns cs fun p (cs:List (Str×Addr))=>(match p with
      | (name,kind)=>if (kind == .free)=true then (do let a ← cellOf env name;pure (ForInStep.yield ((name,a)::cs))) else pure (ForInStep.yield cs):Sem (ForInStep (List (Str×Addr)))))=(pure cl:Sem (List (Str×Addr))):=by
    intro ns
    induction ns with
    | nil=>intro cs h;cases h;rfl
    | cons p r ih =>
      intro cs h
      obtain ⟨x,k⟩:=p
      rw [List.forIn_cons]
      unfold closeL at h
      cases hk:(k == NameKind.free) with
      | true =>
        rw [hk] at h
        simp only [if_true] at h
        split at h
        · rename_i a ha
          have:cellOf env x=pure a:=by unfold cellOf;rw [E.c,ha]
          simp only [hk,if_true,this]
          exact ih _ h
        · cases h
      | false =>
        rw [hk] at h
        simp only [Bool.false_eq_true,if_false] at h
        simp only [hk,Bool.false_eq_true,if_false]
        exact ih _ h
  have:=key scope.names [] h
  exact (congrArg (fun m:Sem (List (Str×Addr))=>m >>= fun cs=>pure cs) this).trans rfl
theorem EV.swaps (E:EV env names L cells F) {e:Expr}{gs:List Comprehension}{scope:Scope}{pos p':Pos}{x:Str}{n:Nat}(hx:names.lookup x=some .local) (hp:(p'.line == pos.line)=true) (hs:(scope.names.any fun q=>q.1 == x && (q.2 == .local || q.2 == .cell))=false) :
    swapsWith (.ListComp e gs scope pos) (some (.Name x p')) n env=pure true:=by
  show (pure (env.blockKind == .function && env.kindOf x == some .local && p'.line == (Expr.ListComp e gs scope pos).pos.line && !(scope.names.any fun q=>q.1 == x && (q.2 == .local || q.2 == .cell))):Sem Bool)=_
  rw [E.block,E.kindOf x,hx,hs]
  have:(p'.line == (Expr.ListComp e gs scope pos).pos.line)=true:=hp
  rw [this]
  rfl
theorem Wp.nLoc {fr x pos nm vals} {d:D}(E:EV env names L cells F) (hl:names.lookup x=some .local) (hd:(x == ("__debug__" : Str))=false) (ho:Has own L (.ns fr nm vals)) (hs:LSlot nm vals x d) (h:Q d own):Wp w B A RV P own (eval (.Name x pos) env) Q X :=
  Wp.local E.k ((E.kindOf x).trans hl) (by rw [E.l];exact ho) hs h hd
theorem Wp.nCell {x pos c} {d:D}(E:EV env names L cells F) (hl:names.lookup x=some .cell) (hd:(x == ("__debug__" : Str))=false) (hc:cells.lookup x=some c) (ho:Has own c (.cell (some d))) (h:Q d own):Wp w B A RV P own (eval (.Name x pos) env) Q X :=
  Wp.cellName E.k ((E.kindOf x).trans hl) (by rw [E.c];exact hc) ho h hd
theorem Wp.nInt {x pos} {i:Int}{t:Tok}(E:EV env names L cells F) (G:Gr K B) (hl:names.lookup x=some .globalImplicit) (hd:(x == ("__debug__" : Str))=false) (g:nsIn K mainGlobals x=some (some (.int i t))) (h:Q (.int i) own):Wp w B A RV P own (eval (.Name x pos) env) Q X :=
  Wp.globalI E.k E.g ((E.kindOf x).trans hl) (G.gn g) h hd
theorem Wp.nBytes {x pos} {b:Array UInt8}{l:List UInt8}{t:Tok}(E:EV env names L cells F) (G:Gr K B) (hl:names.lookup x=some .globalImplicit) (hd:(x == ("__debug__" : Str))=false) (g:nsIn K mainGlobals x=some (some (.bytes b t))) (hb:b=l.toArray) (h:Q (.bytes l) own):Wp w B A RV P own (eval (.Name x pos) env) Q X :=
  Wp.globalB E.k E.g ((E.kindOf x).trans hl) (G.gn g) hb h hd
theorem Wp.nGlob {x pos} {v:Value}(E:EV env names L cells F) (G:Gr K B) (hl:names.lookup x=some .globalImplicit) (hd:(x == ("__debug__" : Str))=false) (g:nsIn K mainGlobals x=some (some v)) (h:Q (.cst v) own):Wp w B A RV P own (eval (.Name x pos) env) Q X :=
  Wp.globalC E.k E.g ((E.kindOf x).trans hl) (G.gn g) h hd
theorem Wp.nBuilt {x pos} {v:Value}(E:EV env names L cells F) (G:Gr K B) (hl:names.lookup x=some .globalImplicit) (hd:(x == ("__debug__" : Str))=false) (g:nsIn K mainGlobals x=some none) (hn:x ≠ "__name__") (hv:bootBuiltins x=some v) (h:Q (.cst v) own):Wp w B A RV P own (eval (.Name x pos) env) Q X :=
  Wp.builtinC E.k E.g E.b ((E.kindOf x).trans hl) (G.bn g hn hv) h hd
theorem EV.bLoc {fr x d o o' nm vals vals'} (E:EV env names L cells F) (hl:names.lookup x=some .local) (hh:Has o L (.ns fr nm vals)) (hs:LSet nm vals x d vals') (hp:Put o L (.ns fr nm vals) (.ns fr nm vals') o'):Bind env x d o o' :=
  .loc E.k ((E.kindOf x).trans hl) (by rw [E.l];exact hp) hs
theorem EV.bCell {x d o o' c u} (E:EV env names L cells F) (hl:names.lookup x=some .cell) (hc:cells.lookup x=some c) (hp:Put o c (.cell u) (.cell (some d)) o'):Bind env x d o o' :=
  .cell E.k ((E.kindOf x).trans hl) (by rw [E.c];exact hc) hp
end
section
variable {w:World}{B:Heap}{A:Around}{own own':Own}{P:Pins}{X:Addr→Own→Prop}{env:Env}{Q:D→Own→Prop}{QB:Bool→Own→Prop}{QF:Fl→Own→Prop}{QU:Unit→Own→Prop}{Qs:List D→Own→Prop}{s:Shared}{N:Addr→Prop}{K:Frag}{names:List (Str×NameKind)}{L F:Addr}{cells:List (Str×Addr)}
theorem mulFmod {x y m:Int}(h:0<m) (h':m≤2147483648):IntMulOk (x.fmod m) y:=by
  have h1:=Int.fmod_nonneg_of_pos x h
  have h2:=Int.fmod_lt_of_pos x h
  exact IntMulOk.of_left (intBits_le_64 (by omega) (by omega))
theorem pyInts:∀xs:List Int,pyDs (xs.map .int)=some (xs.map .int)∧PyData.canLayAll0 (xs.map .int)=true
  | []=>⟨rfl,rfl⟩
  | x::xs=>by
    have ih:=pyInts xs
    refine ⟨?_,?_⟩
    · show (pyDs (xs.map .int)).map (PyData.int x::·)=_
      rw [ih.1];rfl
    · show (PyData.canLay0 (.int x) && PyData.canLayAll0 (xs.map .int))=true
      rw [ih.2];rfl
theorem Wp.neNil {n:Nat}{c e:Addr}{xs:List Int}{a b:Value}(cx:Cx A n) (h1:Has own c (.list (xs.map .int))) (h2:Has own e (.list [])) (h:QB (!xs.isEmpty) own):Wp w B A RB ((.ref e,b)::(.ref c,a)::P) own (compareOp .NotEq a b) QB X:=by
  refine Wp.neP (p:=.list (xs.map .int)) (q:=.list []) (.inr ⟨c,_,_,rfl,h1,(pyInts xs).1,rfl⟩) (.inr ⟨e,_,_,rfl,h2,rfl,rfl⟩) (pyInts xs).2 rfl ?_ ?_
  · have:=cx.line1
    exact Nat.lt_of_le_of_lt (Nat.add_le_add_left (Nat.min_le_right _ _) _) this
  · have:PyData.eqv (.list (xs.map .int)) (.list [])=xs.isEmpty:=by cases xs <;> rfl
    rw [this];exact h
theorem Call.popInts {c:Addr}{ys:List Int}{y:Int}(ho:Put own c (.list ((ys++[y]).map .int)) (.list (ys.map .int)) own') (hz:ys.length<16777216) (h:Q (.int y) own'):Call w B A (.builtin "list.pop") [.ref c] own Q X:=by
  have e:((ys++[y]).map D.int).eraseIdx (((ys++[y]).map D.int).length-1)=ys.map .int:=by
    simp [List.eraseIdx_append_of_length_le]
  refine Call.pop (d:=.int y) (by rw [e];exact ho) (by simp) (by simp;lia) h
theorem Call.appendInts {c:Addr}{ys:List Int}{y:Int}(ho:Put own c (.list (ys.map .int)) (.list ((ys++[y]).map .int)) own') (hz:ys.length≤16777216) (h:Q .none own'):Call w B A (.builtin "list.append") [.ref c,.int y] own Q X :=
  Call.append (by rw [List.map_append] at ho;exact ho) (by simpa using hz) h
theorem ends_with {α:Type}{l:List α}(h:(!l.isEmpty)=true):∃ys y,l=ys++[y]:=by
  rcases List.eq_nil_or_concat l with rfl | ⟨ys,y,rfl⟩
  · cases h
  · exact ⟨ys,y,by simp⟩
end
noncomputable def globIn (K:Frag) (x:Str):Option D:=match nsIn K mainGlobals x with
  | some (some v)=>some (constD v)
  | some none=>if x = "__name__" then none else (bootBuiltins x).map .cst
  | none=>none
section
variable {w:World}{B:Heap}{A:Around}{own own':Own}{P:Pins}{X:Addr→Own→Prop}{env:Env}{Q:D→Own→Prop}{K:Frag}{names:List (Str×NameKind)}{L F:Addr}{cells:List (Str×Addr)}
theorem Wp.nAny {x pos} {d:D}(E:EV env names L cells F) (G:Gr K B) (hl:names.lookup x=some .globalImplicit) (hd:(x == ("__debug__" : Str))=false) (g:globIn K x=some d) (h:Q d own):Wp w B A RV P own (eval (.Name x pos) env) Q X:=by
  unfold globIn at g
  cases e:nsIn K mainGlobals x with
  | none=>rw [e] at g;cases g
  | some o =>
    rw [e] at g
    cases o with
    | some v =>
      cases g
      cases v with
      | int i t=>exact Wp.nInt E G hl hd e h
      | bytes b t=>exact Wp.nBytes E G hl hd e rfl h
      | _=>exact Wp.nGlob E G hl hd e h
    | none =>
      replace g:(if x = "__name__" then none else (bootBuiltins x).map D.cst)=some d:=g
      by_cases hn:x = "__name__"
      · rw [if_pos hn] at g;cases g
      · rw [if_neg hn] at g
        obtain ⟨v,hb,rfl⟩:=Option.map_eq_some_iff.mp g
        exact Wp.nBuilt E G hl hd e hn hb h
end
section
variable {w:World}{B:Heap}{A:Around}{own own':Own}{P:Pins}{X:Addr→Own→Prop}{env:Env}{Q:D→Own→Prop}{K:Frag}{names:List (Str×NameKind)}{L F:Addr}{cells:List (Str×Addr)}
end
section
variable {w:World}{B:Heap}{A:Around}{own own':Own}{P:Pins}{X:Addr→Own→Prop}{env:Env}{Q:D→Own→Prop}{K:Frag}{names:List (Str×NameKind)}{L F:Addr}{cells:List (Str×Addr)}
theorem Wp.partNone (h:Q .none own):Wp w B A RV P own (evalPart none env) Q X:=Wp.val (b:=.none) (fun q_ q_ q_=>by exact rfl) h
theorem Wp.partSome {e:Expr}(h:Wp w B A RV P own (eval e env) Q X):Wp w B A RV P own (evalPart (some e) env) Q X:=h
end
noncomputable def KS {α:Type}(lt:Nat→Nat→Bool) (n:Nat):KasT α→(α→Prop)→Prop
  | .ret a,Q=>Q a
  | .ask i j k,Q=>i<n∧j<n∧KS lt n (k (lt i j)) Q
section
variable {lt:Nat→Nat→Bool}{n:Nat}
theorem KS.bind {α β:Type}{f:α→KasT β}{Q:β→Prop}{G:α→Prop}(t:KasT α) (h:KS lt n t G) (hq:∀a,G a→KS lt n (f a) Q):KS lt n (t.bind f) Q:=by
  induction t with
  | ret a=>exact hq a h
  | ask i j k ih=>exact ⟨h.1,h.2.1,ih _ h.2.2⟩
structure KOrd (lt:Nat→Nat→Bool) (n:Nat):Prop where
  tr:∀i j k,i<n→j<n→k<n→lt i j=true→lt j k=true→lt i k=true
  tot:∀i j,i<n→j<n→i≠j→lt i j=false→lt j i=true
noncomputable def PM (p:Array Nat) (n:Nat):Prop:=p.Perm (List.toArray (List.range n))
theorem PM.size {p:Array Nat}(h:PM p n):p.size=n:=(Array.Perm.size_eq h).trans List.length_range
theorem PM.at {p:Array Nat}(h:PM p n) {i:Nat}(hi:i<n):∃hs:i<p.size,p.getD i 0=p[i]:=⟨h.size.symm▸hi,dif_pos (h.size.symm▸hi)⟩
theorem PM.lo {p:Array Nat}(h:PM p n) {i:Nat}(hi:i<n):p.getD i 0<n:=by
  obtain ⟨hs,e⟩:=h.at hi
  exact List.mem_range.mp (List.mem_toArray.mp ((Array.Perm.mem_iff h).mp (e▸Array.getElem_mem hs)))
theorem PM.ne {p:Array Nat}(h:PM p n) {i j:Nat}(hi:i<n) (hj:j<n) (hij:i≠j):p.getD i 0≠p.getD j 0:=by
  obtain ⟨h1,e1⟩:=h.at hi
  obtain ⟨h2,e2⟩:=h.at hj
  have nd:p.toList.Nodup:=(Array.perm_iff_toList_perm.mp h).nodup_iff.mpr List.nodup_range
  rw [e1,e2]
  exact fun e=>hij ((List.getElem_inj nd).mp e)
noncomputable def Nxt (R:Nat→Nat→Prop) (p:Array Nat) (m:Nat):Prop:=∀i,i+1<m→R (p.getD i 0) (p.getD (i+1) 0)
noncomputable abbrev Srt (lt:Nat→Nat→Bool):Array Nat→Nat→Prop:=Nxt fun a b=>lt a b=true
noncomputable abbrev Dsc (lt:Nat→Nat→Bool):Array Nat→Nat→Prop:=Nxt fun a b=>lt b a=true
theorem Nxt.snoc {R:Nat→Nat→Prop}{p:Array Nat}{k:Nat}(h:Nxt R p (k+1)) (hr:R (p.getD k 0) (p.getD (k+1) 0)):Nxt R p (k+2):=fun i hi =>
  (Nat.lt_or_eq_of_le (Nat.le_of_lt_succ hi)).elim (h i) fun e=>by cases e;exact hr
theorem Srt.lt' (O:KOrd lt n) {p:Array Nat}(hp:PM p n) {m:Nat}(hm:m≤n) (h:Srt lt p m) {i j:Nat}(hij:i<j) (hj:j<m):lt (p.getD i 0) (p.getD j 0)=true:=by
  obtain ⟨d,rfl⟩:=Nat.exists_eq_add_of_lt hij
  have hi:=hp.lo (Nat.lt_trans hij (Nat.lt_of_lt_of_le hj hm))
  clear hij
  induction d with
  | zero=>exact h i hj
  | succ d ih =>
    have hn:=Nat.lt_of_lt_of_le hj hm
    exact O.tr _ _ _ hi (hp.lo (Nat.lt_of_succ_lt hn)) (hp.lo hn) (ih (Nat.lt_of_succ_lt hj)) (h (i+d+1) hj)
theorem more {k f N:Nat}(h:k+1+(f+1)=N):k+1<N:=h▸Nat.lt_add_of_pos_right (Nat.succ_pos f)
theorem asc_ok (O:KOrd lt n) {p:Array Nat}(hp:PM p n) (f:Nat):∀k,k+1+f=n→Srt lt p (k+1)→KS lt n (kas_asc p f (k+1)) (fun m=>∃j,m=j+1∧j<n∧Srt lt p (j+1)∧(j+1=n∨lt (p.getD (j+1) 0) (p.getD j 0)=true)):=by
  induction f with
  | zero=>exact fun k h s=>⟨k,rfl,Nat.le_of_eq h,s,.inl h⟩
  | succ f ih =>
    intro k h s
    have h1:=more h
    refine ⟨hp.lo h1,hp.lo (Nat.lt_of_succ_lt h1),?_⟩
    cases hc:lt (p.getD (k+1) 0) (p.getD (k+1-1) 0) with
    | true=>exact ⟨k,rfl,Nat.lt_of_succ_lt h1,s,.inr hc⟩
    | false=>exact ih (k+1) ((Nat.succ_add_eq_add_succ ..).trans h) (s.snoc (O.tot _ _ (hp.lo h1) (hp.lo (Nat.lt_of_succ_lt h1)) (hp.ne h1 (Nat.lt_of_succ_lt h1) (Nat.succ_ne_self k)) hc))
theorem desc_ok (O:KOrd lt n) {p:Array Nat}(hp:PM p n) (f:Nat):∀k,k+1+f=n→Dsc lt p (k+1)→KS lt n (kas_desc f p (k+1) 0) (fun r=>∃j,r=(p,j+1,0)∧j<n∧Dsc lt p (j+1)):=by
  induction f with
  | zero=>exact fun k h s=>⟨k,rfl,Nat.le_of_eq h,s⟩
  | succ f ih =>
    intro k h s
    have h1:=more h
    have h0:=Nat.lt_of_succ_lt h1
    refine ⟨hp.lo h1,hp.lo h0,?_⟩
    cases hc:lt (p.getD (k+1) 0) (p.getD (k+1-1) 0) with
    | true=>exact ih (k+1) ((Nat.succ_add_eq_add_succ ..).trans h) (s.snoc hc)
    | false =>
      refine ⟨hp.lo h0,hp.lo h1,?_⟩
      have ht:=O.tot _ _ (hp.lo h1) (hp.lo h0) (hp.ne h1 h0 (Nat.succ_ne_self k)) hc
      cases hd:lt (p.getD (k+1-1) 0) (p.getD (k+1) 0) with
      | true=>exact ⟨k,rfl,h0,s⟩
      | false=>exact Bool.noConfusion (ht.symm.trans hd)
theorem rev_perm {p:Array Nat}(hp:PM p n) (i j:Nat):PM (kas_rev p i j) n:=Array.Perm.trans (mirror_perm _ _ _ _) hp
theorem rev_get {p:Array Nat}(hp:PM p n) {m k:Nat}(hm:m<n) (hk:k≤m):(kas_rev p 0 (m+1)).getD k 0=p.getD (m-k) 0:=by
  have:=getElem?_mirror_all (xs:=p) (i:=0) (j:=m+1) (hp.size.symm▸hm) k
  rw [if_pos ⟨Nat.zero_le _,Nat.lt_succ_of_le hk⟩,Nat.zero_add] at this
  unfold kas_rev
  rw [Array.getD_eq_getD_getElem?,this,Array.getD_eq_getD_getElem?];rfl
noncomputable def CntR (lt:Nat→Nat→Bool) (n:Nat) (r:Nat×Array Nat):Prop:=PM r.2 n∧∃j,r.1=j+1∧j<n∧Srt lt r.2 (j+1)
theorem tail3_ok (O:KOrd lt n) {p:Array Nat}(hp:PM p n) {m:Nat}(hm:m<n) (h:Dsc lt p (m+1)):KS lt n (kas_tail3 (m+1) n p) (CntR lt n):=by
  refine KS.bind _ (asc_ok O (rev_perm hp 0 (m+1)) (n-(m+1)) m (Nat.add_sub_cancel' hm) fun i hi=>?_) fun m' hq=>?_
  · have hi:=Nat.lt_of_succ_lt_succ hi
    have e:m-(i+1)+1=m-i:=Nat.succ_pred_eq_of_pos (Nat.sub_pos_of_lt hi)
    have:=h (m-(i+1)) (by rw [e];exact Nat.lt_succ_of_le (Nat.sub_le m i))
    rw [e] at this
    rw [rev_get hp hm (Nat.le_of_lt hi),rev_get hp hm hi]
    exact this
  · obtain ⟨j,a1,a2,a3,_⟩:=hq
    exact ⟨rev_perm hp 0 (m+1),j,a1,a2,a3⟩
theorem count_ok (O:KOrd lt n) {p:Array Nat}(hp:PM p n) (hn:1≤n):KS lt n (kas_count n p) (CntR lt n):=by
  refine KS.bind _ (asc_ok O hp (n-1) 0 ((Nat.add_comm 1 _).trans (Nat.sub_add_cancel hn)) fun i hi=>absurd (Nat.lt_of_succ_lt_succ hi) (Nat.not_lt_zero i)) fun m hh=>?_
  obtain ⟨j,rfl,a2,a3,a4⟩:=hh
  by_cases e:(j+1 == n)=true
  · rw [if_pos e]
    exact ⟨hp,j,rfl,a2,a3⟩
  · rw [if_neg e]
    cases j with
    | succ j =>
      rw [if_pos (Nat.succ_lt_succ (Nat.succ_pos j))]
      refine ⟨hp.lo hn,hp.lo a2,?_⟩
      have ht:=a3.lt' O hp a2 (i:=0) (j:=j+1) (Nat.succ_pos j) (Nat.lt_succ_self _)
      cases hd:lt (p.getD 0 0) (p.getD (j+1+1-1) 0) with
      | true=>exact ⟨hp,j+1,rfl,a2,a3⟩
      | false=>exact Bool.noConfusion (ht.symm.trans hd)
    | zero =>
      have ne:¬ (0+1=n):=fun q=>e (by rw [q];exact beq_self_eq_true n)
      refine KS.bind (f:=fun r=>if r.2.2 > 0 then kas_tail3 r.2.1 n (kas_rev r.1 (r.2.1-(r.2.2+1)) r.2.1) else kas_tail3 r.2.1 n r.1) _ (desc_ok O hp (n-2) 1 (Nat.add_sub_cancel' (Nat.lt_of_le_of_ne hn ne)) fun i hi=>?_) fun r hr=>?_
      · cases i with
        | zero=>exact a4.resolve_left ne
        | succ i=>exact absurd (Nat.lt_of_succ_lt_succ (Nat.lt_of_succ_lt_succ hi)) (Nat.not_lt_zero _)
      · obtain ⟨m',rfl,b2,b3⟩:=hr
        exact tail3_ok O hp b2 b3
theorem mid {l r:Nat}(h:l<r):l≤(l+r) / 2∧(l+r) / 2<r :=
  ⟨(Nat.le_div_iff_mul_le (Nat.succ_pos 1)).mpr (by rw [Nat.mul_two];exact Nat.add_le_add_left (Nat.le_of_lt h) l),(Nat.div_lt_iff_lt_mul (Nat.succ_pos 1)).mpr (by rw [Nat.mul_two];exact Nat.add_lt_add_right h r)⟩
noncomputable def PlR (lt:Nat→Nat→Bool) (p:Array Nat) (k l r:Nat):Prop:=(∀i,i<l→lt (p.getD i 0) (p.getD k 0)=true)∧∀i,r≤i→i<k→lt (p.getD k 0) (p.getD i 0)=true
theorem place_ok (O:KOrd lt n) {p:Array Nat}(hp:PM p n) {k:Nat}(hk:k<n) (hs:Srt lt p k) (f:Nat):∀(l r:Nat),l≤r→r≤k→r≤l+f→PlR lt p k l r→KS lt n (kas_place p k f l r) (fun l'=>l'≤k∧PlR lt p k l' l'):=by
  have done:∀{l r},l≤r→r≤l→r≤k→PlR lt p k l r→l≤k∧PlR lt p k l l:=fun a b c q=>⟨Nat.le_trans a c,q.1,fun i i1=>q.2 i (Nat.le_trans b i1)⟩
  induction f with
  | zero=>exact fun l r h1 h2 h3 q=>done h1 h3 h2 q
  | succ f ih =>
    intro l r h1 h2 h3 q
    unfold kas_place
    by_cases h:l ≥ r
    · rw [if_pos h];exact done h1 h h2 q
    · obtain ⟨m1,m2⟩:=mid (Nat.lt_of_not_le h)
      rw [if_neg h]
      generalize (l+r) / 2=m at m1 m2 ⊢
      have mk:=Nat.lt_of_lt_of_le m2 h2
      have mn:=hp.lo (Nat.lt_trans mk hk)
      refine ⟨hp.lo hk,mn,?_⟩
      cases hc:lt (p.getD k 0) (p.getD m 0) with
      | true =>
        refine ih l m m1 (Nat.le_of_lt mk) (Nat.le_of_lt_succ (Nat.lt_of_lt_of_le m2 h3)) ⟨q.1,fun i i1 i2=>?_⟩
        rcases Nat.eq_or_lt_of_le i1 with e | i1
        · exact e▸hc
        · exact O.tr _ _ _ (hp.lo hk) mn (hp.lo (Nat.lt_trans i2 hk)) hc (hs.lt' O hp (Nat.le_of_lt hk) i1 i2)
      | false =>
        have hc':=O.tot _ _ (hp.lo hk) mn (hp.ne hk (Nat.lt_trans mk hk) (Nat.ne_of_gt mk)) hc
        refine ih (m+1) r m2 h2 (Nat.le_trans h3 ((Nat.succ_add_eq_add_succ m f).symm▸Nat.add_le_add_right m1 (f+1))) ⟨fun i i1=>?_,q.2⟩
        rcases Nat.eq_or_lt_of_le (Nat.le_of_lt_succ i1) with e | i1
        · exact e▸hc'
        · exact O.tr _ _ _ (hp.lo (Nat.lt_trans i1 (Nat.lt_trans mk hk))) mn (hp.lo hk) (hs.lt' O hp (Nat.le_of_lt hk) i1 mk) hc'
section
variable {p:Array Nat}(hp:PM p n) {k l:Nat}(hk:k<n) (hl:l≤k)
include hp hk hl
theorem bub (i:Nat):(bubble p k (k-l)).getD i 0=(if i=l then p[k]? else if l<i∧i≤k then p[i-1]? else p[i]?).getD 0:=by
  rw [Array.getD_eq_getD_getElem?,getElem?_bubble (xs:=p) (src:=k) (hp.size.symm▸hk) (k-l) (Nat.sub_le k l) i,Nat.sub_sub_self hl]
theorem bub_lt {i:Nat}(h:i<l):(bubble p k (k-l)).getD i 0=p.getD i 0:=by
  rw [bub hp hk hl,if_neg (Nat.ne_of_lt h),if_neg fun q=>Nat.lt_asymm h q.1,Array.getD_eq_getD_getElem?]
theorem bub_eq:(bubble p k (k-l)).getD l 0=p.getD k 0:=by
  rw [bub hp hk hl,if_pos rfl,Array.getD_eq_getD_getElem?]
theorem bub_gt {i:Nat}(h:l≤i) (hi:i<k):(bubble p k (k-l)).getD (i+1) 0=p.getD i 0:=by
  rw [bub hp hk hl,if_neg (Nat.ne_of_gt (Nat.lt_succ_of_le h)),if_pos ⟨Nat.lt_succ_of_le h,hi⟩,Array.getD_eq_getD_getElem?];rfl
end
theorem bin_ok (O:KOrd lt n) (f:Nat):∀(p:Array Nat) (k:Nat),PM p n→k+f=n→Srt lt p k→KS lt n (kas_bin f p k) (fun r=>PM r n∧Srt lt r n):=by
  induction f with
  | zero=>exact fun p k hp hk hs=>⟨hp,hk▸hs⟩
  | succ f ih =>
    intro p k hp hk hs
    have hn:k<n:=hk▸Nat.lt_add_of_pos_right (Nat.succ_pos f)
    refine KS.bind _ (place_ok O hp hn hs k 0 k (Nat.zero_le k) (Nat.le_refl k) (Nat.le_add_left k 0) ⟨fun i h=>absurd h (Nat.not_lt_zero i),fun i i1 i2=>absurd i2 (Nat.not_lt_of_le i1)⟩) fun l hh=>?_
    obtain ⟨a1,a2,a3⟩:=hh
    refine ih _ (k+1) (Array.Perm.trans (bubble_perm _ _ _) hp) ((Nat.succ_add_eq_add_succ ..).trans hk) fun i hi=>?_
    have hi:=Nat.lt_of_succ_lt_succ hi
    rcases Nat.lt_trichotomy (i+1) l with h | h | h
    · rw [bub_lt hp hn a1 (Nat.lt_of_succ_lt h),bub_lt hp hn a1 h]
      exact hs i (Nat.lt_of_lt_of_le h a1)
    · subst h
      rw [bub_lt hp hn a1 (Nat.lt_succ_self i),bub_eq hp hn a1]
      exact a2 i (Nat.lt_succ_self i)
    · have h:=Nat.le_of_lt_succ h
      rw [bub_gt hp hn a1 h hi]
      rcases Nat.eq_or_lt_of_le h with e | h'
      · subst e
        rw [bub_eq hp hn a1]
        exact a3 l h hi
      · cases i with
        | zero=>exact absurd h' (Nat.not_lt_zero l)
        | succ i =>
          rw [bub_gt hp hn a1 (Nat.le_of_lt_succ h') (Nat.lt_of_succ_lt hi)]
          exact hs i hi
theorem sort_ok (O:KOrd lt n) (hn:1≤n):KS lt n (kas_sort n) (fun p=>PM p n∧Srt lt p n):=by
  refine KS.bind _ (count_ok O (.refl _) hn) fun r hh=>?_
  obtain ⟨m,p⟩:=r
  obtain ⟨a1,j,a2,a3,a4⟩:=hh
  cases (show m=j+1 from a2)
  by_cases h:j+1<n
  · rw [if_pos h,Nat.max_eq_left (Nat.succ_pos j)]
    exact bin_ok O _ _ _ a1 (Nat.add_sub_cancel' (Nat.le_of_lt h)) a4
  · rw [if_neg h]
    exact ⟨a1,(Nat.le_antisymm a3 (Nat.le_of_not_lt h))▸a4⟩
theorem KS.wp {α:Type}{cmp:Nat→Nat→(Bool→Shared→Prop)→Shared→Prop}{G:Shared→Prop}{H:α→Prop}{Q:α→Shared→Prop}(hc:∀i j C s,i<n→j<n→G s→(∀s',G s'→C (lt i j) s')→cmp i j C s) (t:KasT α) (h:KS lt n t H) (hq:∀a s,H a→G s→Q a s):∀s,G s→t.kasWp cmp Q s:=by
  induction t with
  | ret a=>exact fun s g=>hq a s h g
  | ask i j k ih=>exact fun s g=>hc i j _ s h.1 h.2.1 g fun s' g'=>ih _ h.2.2 s' g'
end
section
variable {prog:Program}{w:World}{A:Around}{E:Value→Shared→Prop}{s:Shared}{d it:Addr}
inductive RawD (h:Heap) (d:Addr) (es:Array DictEntry) (ep:Nat):Prop
  | mk (o:Obj) (ho:h.get? d=some o) (hx:o.ExactDict) (hd:o.data=.dict es ep)
theorem RawD.typeIs {es:Array DictEntry}{ep:Nat}(h:RawD s.heap d es ep):s.TypeIs (.ref d) "dict" := let ⟨o,ho,hc,_⟩:=h;⟨o,ho,hc.1⟩
theorem RawD.keep {h h':Heap}{es:Array DictEntry}{ep:Nat}(x:RawD h d es ep) (k:∀o,h.get? d=some o→h'.get? d=some o):RawD h' d es ep:=let ⟨o,ho,r,r'⟩:=x;⟨o,k o ho,r,r'⟩
theorem RawD.lt {h:Heap}{es:Array DictEntry}{ep:Nat}(x:RawD h d es ep):d<h.objs.size:=let ⟨_,ho,_,_⟩:=x;Heap.lt_size ho
theorem raw_iter {es:Array DictEntry}{ep:Nat}{Q:Value→Shared→Prop}(lo:(d == sysModules)=false) (hm:RawD s.heap d es ep)
    (hQ:Q (.ref s.heap.objs.size) {s with heap:=s.heap.push {cls:=.type "dict_keyiterator", data:=.fields #[.ref d,.int 0 0,.int es.size 0,.int ep 0] } }):wpAny (model prog w) A (pyIter (.ref d)) Q E s:=by
  obtain ⟨o,ho,hc,hdat⟩:=id hm
  refine wpAny_pyIter_slot hm.typeIs F.slot_dict_iter (wpAny_call_entry F.slot_dict_iter hm.typeIs F.entry_dict_iter ?_ (F.args_dict_iter_1 _))
  unfold Builtin.«dict.__iter__» Builtin.Dict.dictSlotNone
  refine wpAny_bind (wpAny_bind (wpAny_notOrdered_dict hm.typeIs (wpAny_pure ?_)))
  show wpAny _ _ (Builtin.Dict.showsAll d >>= _) _ _ s
  unfold Builtin.Dict.showsAll
  rw [if_neg (by rw [lo];exact Bool.false_ne_true)]
  refine wpAny_bind (wpAny_pure (wpAny_bind (wpAny_dictEntries ho hdat (wpAny_bind (wpAny_dictEpoch ho hdat ?_)))))
  refine wpAny_bind (wpAny_newObj_type (wpAny_pure ⟨_,rfl, "dict_keyiterator", _,⟨_,Heap.get?_push_size _ rfl,rfl⟩,F.slot_dict_keyiterator_next.lookup,?_⟩))
  simpa [rawInt] using hQ
theorem raw_item {es:Array DictEntry}{i ep:Nat}{e:DictEntry}{Q:Option Value→Shared→Prop}(hit:s.heap.IsKeyIter it d i es.size ep) (hm:RawD s.heap d es ep) (he:es[i]?=some e)
    (hQ:∀h',h'.IsKeyIter it d (i+1) es.size ep→Heap.SameBut it s.heap h'→Q (some e.key) {s with heap:=h' }):wpAny (model prog w) A (pyNext (.ref it)) Q E s:=by
  obtain ⟨o,ho,hc,hd⟩:=id hit
  obtain ⟨od,hod,hcd,hdd⟩:=id hm
  unfold pyNext
  refine wpAny_bind (wpAny_attempt (wpAny_callSpecial?_slot (name:=Str.ofString "__next__") hit.typeIs F.slot_dict_keyiterator_next
    (wpAny_call_entry F.slot_dict_keyiterator_next hit.typeIs F.entry_dict_keyiterator_next ?_ (F.args_dict_keyiterator_next_1 _))))
  refine wpAny_bind (wpAny_pure (wpAny_bind (wpAny_bind ?_)))
  refine wpAny_bind (wpAny_typeNameOfWhole_keyiter hit.typeIs (wpAny_pure (wpAny_bind (wpAny_fieldsOf ho hd ?_))))
  rw [if_neg (show ¬ Builtin.Dict_items.ownsTuple "dict_keyiterator" = true by decide)]
  show wpAny _ _ (if (Value.ref d == Value.none)=true then _ else _) _ _ s
  rw [if_neg (show ¬ ((Value.ref d == Value.none)=true) from Bool.false_ne_true)]
  refine wpAny_bind (wpAny_pure (wpAny_bind (wpAny_dictEntries hod hdd ?_)))
  rw [if_neg (by simp)]
  refine wpAny_bind (wpAny_pure (wpAny_bind (wpAny_dictEpoch hod hdd ?_)))
  rw [if_neg (by simp)]
  refine wpAny_pure ?_
  have hx:(if (i:Int)<0 then none else es[((i:Nat):Int).toNat]?)=some e:=(if_neg (Int.not_lt.mpr (Int.natCast_nonneg i))).trans he
  dsimp only
  rw [hx]
  refine wpAny_bind (wpAny_bind (wpAny_typeNameOfWhole_keyiter hit.typeIs (wpAny_pure (wpAny_bind (wpAny_isOneOf_keyiter hit.typeIs ?_)))))
  show wpAny _ _ (setField (.ref it) 1 (rawInt ((i:Int)+1)) >>= _) _ _ s
  refine wpAny_bind (wpAny_setField ho hd (by simp) ?_)
  have hit':(s.heap.update it (Obj.mapFields (·.setIfInBounds 1 (rawInt ((i:Int)+1))))).IsKeyIter it d (i+1) es.size ep :=
    ⟨_,Heap.get?_update_self _ ho (Obj.isFreed_of_fields (Obj.data_mapFields hd _)),(Obj.cls_mapFields ..).trans hc,by rw [Obj.data_mapFields hd];simp [rawInt]⟩
  refine wpAny_bind (wpAny_holding (wpAny_bind (wpAny_isOneOf_keyiter (s:={s with heap:=s.heap.update it (Obj.mapFields (·.setIfInBounds 1 (rawInt ((i:Int)+1)))) }) hit'.typeIs ?_)))
  show wpAny _ _ (pure e.key) _ _ _
  exact wpAny_pure (wpAny_pure ⟨_,rfl,wpAny_pure (hQ _ hit' (Heap.SameBut.update ..))⟩)
theorem raw_end {es:Array DictEntry}{i ep:Nat}{Q:Option Value→Shared→Prop}(hh:A.handled=none) (hit:s.heap.IsKeyIter it d i es.size ep) (hm:RawD s.heap d es ep) (hi:es.size≤i)
    (hQ:∀h',Heap.ExtBut it s.heap h'→Q none {s with heap:=h' }):wpAny (model prog w) A (pyNext (.ref it)) Q E s:=by
  obtain ⟨o,ho,hc,hd⟩:=id hit
  obtain ⟨od,hod,hcd,hdd⟩:=id hm
  unfold pyNext
  refine wpAny_bind (wpAny_attempt (wpAny_callSpecial?_slot (name:=Str.ofString "__next__") hit.typeIs F.slot_dict_keyiterator_next
    (wpAny_call_entry F.slot_dict_keyiterator_next hit.typeIs F.entry_dict_keyiterator_next ?_ (F.args_dict_keyiterator_next_1 _))))
  refine wpAny_bind (wpAny_pure (wpAny_bind (wpAny_bind ?_)))
  refine wpAny_bind (wpAny_typeNameOfWhole_keyiter hit.typeIs (wpAny_pure (wpAny_bind (wpAny_fieldsOf ho hd ?_))))
  rw [if_neg (show ¬ Builtin.Dict_items.ownsTuple "dict_keyiterator" = true by decide)]
  show wpAny _ _ (if (Value.ref d == Value.none)=true then _ else _) _ _ s
  rw [if_neg (show ¬ ((Value.ref d == Value.none)=true) from Bool.false_ne_true)]
  refine wpAny_bind (wpAny_pure (wpAny_bind (wpAny_dictEntries hod hdd ?_)))
  rw [if_neg (by simp)]
  refine wpAny_bind (wpAny_pure (wpAny_bind (wpAny_dictEpoch hod hdd ?_)))
  rw [if_neg (by simp)]
  refine wpAny_pure ?_
  have hx:(if (i:Int)<0 then none else es[((i:Nat):Int).toNat]?)=none:=(if_neg (Int.not_lt.mpr (Int.natCast_nonneg i))).trans (Array.getElem?_eq_none hi)
  dsimp only
  rw [hx]
  refine wpAny_bind (wpAny_bind (wpAny_typeNameOfWhole_keyiter hit.typeIs (wpAny_pure ?_)))
  show wpAny _ _ (setField (.ref it) 0 .none >>= _) _ _ s
  refine wpAny_bind (wpAny_setField ho hd (by simp) ?_)
  show wpAny _ _ (newExc (.type "StopIteration") [] >>= _) _ _ _
  refine wpAny_bind ?_
  simp only [newExc,newTuple]
  refine wpAny_bind (wpAny_newObj_type ?_ (by size_fits))
  refine wpAny_bind (m:=firstArgMember _ _) (wpAny_of_eq (a:=Value.none) (by first | rfl | (simp only [firstArgMember];rfl)) ?_)
  refine wpAny_newObj_type ?_ (by size_fits)
  simp only [raiseNew]
  refine wpAny_bind (wpAny_handled ?_)
  rw [show A.in1.handled=none from hh]
  refine wpAny_bind (wpAny_pure (wpAny_throw ?_))
  refine wpAny_bind (wpAny_isInstance (T := "StopIteration") (b:=true) ⟨_,Heap.get?_push_size _ rfl,rfl⟩ isSubtype_stop ?_)
  exact wpAny_pure (hQ _ (((Heap.SameBut.update ..).extBut.push _).push _))
theorem keyIter_keep {h h':Heap}{i n ep:Nat}(x:h.IsKeyIter it d i n ep) (k:∀o,h.get? it=some o→h'.get? it=some o):h'.IsKeyIter it d i n ep:=let ⟨o,ho,r⟩:=x;⟨o,k o ho,r⟩
theorem rawWalks (hh:A.handled=none) (hne:d≠it) (es:Array DictEntry) (ep:Nat):Walks prog w A it [it,d] [it] es.size (fun i v=>∃e,es[i]?=some e∧v=e.key) (fun i h=>h.IsKeyIter it d i es.size ep∧RawD h d es ep) where
  sub:=fun b hb=>by simp at hb;simp [hb]
  frame:=fun q_ q_ q_ st hk=>⟨keyIter_keep st.1 fun o e=>hk it (by simp) o e,st.2.keep fun o e=>hk d (by simp) o e⟩
  item:=fun i s Q E hi st hQ=>by
    have he:es[i]?=some es[i]:=Array.getElem?_eq_getElem hi
    exact raw_item st.1 st.2 he fun h' hit' hs=>hQ _ h' s.toks ⟨_,he,rfl⟩ ⟨hit',st.2.keep fun o e=>hs.extBut d o hne e⟩ fun b o hb e=>hs.extBut b o (fun h=>hb (by simp [h])) e
  done:=fun s Q E st hQ=>raw_end hh st.1 st.2 (Nat.le_refl _) fun h' he=>hQ h' s.toks fun b o hb e=>he b o (fun h=>hb (by simp [h])) e
  self:=fun q_ q_ q_ q_ st hQ=>wpAny_pyIter_keyiter st.1 hQ
theorem rawSrc (lo:(d == sysModules)=false) (es:Array DictEntry) (ep:Nat):KdlSrc prog w "dict" d d es.size (fun i v=>∃e,es[i]?=some e∧v=e.key) (fun h=>RawD h d es ep) where
  type:=fun q_ hm=>hm.typeIs
  there:=fun q_ hm=>⟨hm.lt,hm.lt⟩
  keep:=fun q_ q_ hm hk=>hm.keep fun o e=>hk d (.inl rfl) o e
  notList:=by decide
  notTuple:=by decide
  hint:=fun q_ q_ q_ q_ hm hq=>kdl_hint_dict hm.typeIs hq
  iter:=fun A s hh hm=>⟨_,_,(fun q_ q_ hq=>raw_iter lo hm hq),rawWalks hh (Nat.ne_of_lt hm.lt) es ep,⟨⟨_,Heap.get?_push_size _ rfl,rfl,rfl⟩,hm.keep fun o e=>Heap.get?_push_of_some _ e⟩⟩
end
noncomputable def ltL:List Int→List Int→Bool
  | _,[]=>false
  | [],_::_=>true
  | x::xs,y::ys=>if x=y then ltL xs ys else decide (x<y)
theorem ltL_irr (l:List Int):ltL l l=false:=by
  induction l with
  | nil=>rfl
  | cons x xs ih=>unfold ltL;rw [if_pos rfl];exact ih
theorem ltL_cons {x y:Int}{xs ys:List Int}:ltL (x::xs) (y::ys)=true↔x<y∨(x=y∧ltL xs ys=true):=by
  show (if x=y then ltL xs ys else decide (x<y))=true↔_
  by_cases e:x=y
  · subst e;rw [if_pos rfl];exact ⟨fun h=>.inr ⟨rfl,h⟩,fun h=>h.elim (fun h=>absurd h (Int.lt_irrefl _)) (·.2)⟩
  · rw [if_neg e,decide_eq_true_eq];exact ⟨.inl,fun h=>h.elim id fun h=>absurd h.1 e⟩
theorem ltL_tr (a b c:List Int) (h1:ltL a b=true) (h2:ltL b c=true):ltL a c=true:=by
  induction a generalizing b c with
  | nil=>cases c with
    | nil=>cases b <;> cases h2
    | cons=>rfl
  | cons x xs ih=>cases b with
    | nil=>cases h1
    | cons y ys=>cases c with
      | nil=>cases h2
      | cons z zs =>
        rw [ltL_cons] at h1 h2 ⊢
        rcases h1 with h1 | ⟨rfl,h1⟩
        · exact .inl (h2.elim (Int.lt_trans h1) fun h=>h.1▸h1)
        · exact h2.imp id fun h=>⟨h.1,ih _ _ h1 h.2⟩
theorem ltL_tot (a b:List Int) (h:a≠b) (h1:ltL a b=false):ltL b a=true:=by
  induction a generalizing b with
  | nil=>cases b with
    | nil=>exact absurd rfl h
    | cons=>cases h1
  | cons x xs ih=>cases b with
    | nil=>rfl
    | cons y ys =>
      rw [ltL_cons]
      have h1:¬ (x<y∨(x=y∧ltL xs ys=true)):=fun q=>by rw [ltL_cons.mpr q] at h1;cases h1
      rcases Int.lt_trichotomy x y with e | rfl | e
      · exact absurd (.inl e) h1
      · exact .inr ⟨rfl,ih ys (fun e=>h (by rw [e])) (by cases hq:ltL xs ys;rfl;exact absurd (.inr ⟨rfl,hq⟩) h1)⟩
      · exact .inl e
section
variable {prog:Program}{w:World}{A:Around}{E:Value→Shared→Prop}{s:Shared}
theorem lexInts {b:Bool}{Q:Bool→Shared→Prop}{xs ys:List Int}{vs us:List Value}(i:Nat) (hv:IntsAre vs xs) (hu:IntsAre us ys) (h:Q (ltL xs ys) s):KatLex prog w A b (decide (vs.length<us.length)) Q (vs.zip us) i s:=by
  induction hv generalizing us ys i with
  | nil=>cases hu with
    | nil=>exact h
    | cons=>rw [List.zip_nil_left];exact kat_nil (by simpa [ltL] using h)
  | @cons x t vs xs hv ih=>cases hu with
    | nil=>rw [List.zip_nil_right];exact kat_nil (by simpa [ltL] using h)
    | @cons y t' us ys hu =>
      rw [List.zip_cons_cons]
      refine kat_cons (wpAny_eqBool_int ?_)
      replace h:Q (if x=y then ltL xs ys else decide (x<y)) s:=h
      by_cases e:x=y
      · rw [if_pos e] at h
        rw [show (x == y)=true by simpa using e,show decide ((Value.int x t::vs).length<(Value.int y t'::us).length)=decide (vs.length<us.length) by simp]
        exact kat_yes (ih (i+1) hu h)
      · rw [if_neg e] at h
        rw [show (x == y)=false by simpa using e]
        refine kat_no ?_
        cases b && i == 0 with
        | true=>exact oneLt_int h
        | false=>exact kat_one _ _ (PySem.P.lt_int (show W.BoolBack Q _ _ from h))
noncomputable def TupInts (h:Heap) (ks:List (List Int)) (vs:List Value):Prop:=ks.length=vs.length∧∀(i:Nat) k,ks[i]?=some k→∃a items n,vs[i]?=some (.ref a)∧h.get? a=some {cls:=.type "tuple", data:=.seq (List.toArray items) n }∧IntsAre items k
theorem ordL {ks:List (List Int)}(nd:ks.Nodup):KOrd (fun i j=>ltL (ks.getD i []) (ks.getD j [])) ks.length where
  tr:=fun i j k q_ q_ q_ h1 h2=>ltL_tr _ _ _ h1 h2
  tot:=fun i j hi hj hn h=>ltL_tot _ _ (fun e=>by
    rw [List.getD_eq_getElem?_getD,List.getD_eq_getElem?_getD,List.getElem?_eq_getElem hi,List.getElem?_eq_getElem hj] at e
    exact hn ((List.getElem_inj nd).mp e)) h
theorem askInts {ks:List (List Int)}{vs:List Value}{b:Bool}(T:TupInts s.heap ks vs) (i j:Nat) (C:Bool→Shared→Prop) (hi:i<ks.length) (hj:j<ks.length) (h:C (ltL (ks.getD i []) (ks.getD j [])) s):kas_ask prog w A (tuples' b) vs i j C s:=by
  obtain ⟨a,items,n,h1,h2,h3⟩:=T.2 i ks[i] (List.getElem?_eq_getElem hi)
  obtain ⟨a',items',n',h1',h2',h3'⟩:=T.2 j ks[j] (List.getElem?_eq_getElem hj)
  unfold kas_ask
  rw [show vs.getD i Value.none=.ref a by rw [List.getD_eq_getElem?_getD,h1];rfl,show vs.getD j Value.none=.ref a' by rw [List.getD_eq_getElem?_getD,h1'];rfl]
  refine kat_lt h2 rfl h2' rfl ?_
  have:=lexInts (prog:=prog) (w:=w) (A:=A) (b:=b) (Q:=C) (s:=s) 0 h3 h3' (by simpa [hi,hj] using h)
  simpa using this
inductive FstInts (h:Heap) (vs:List Value) (n:Nat):Prop
  | mk (fs:List Value) (f1:KatTups h vs fs) (f2:fs.length=n) (f3:∀v∈fs,∃n t,v=.int n t)
theorem fstInts {h:Heap}{ks:List (List Int)}{vs:List Value}(T:TupInts h ks vs) (hne:∀k∈ks,k≠[]):FstInts h vs ks.length:=by
  induction ks generalizing vs with
  | nil=>cases (List.length_eq_zero_iff.mp T.1.symm:vs=[]);exact ⟨[],trivial,rfl,fun v hv=>by cases hv⟩
  | cons k ks ih=>cases vs with
    | nil=>cases T.1
    | cons v vs =>
      obtain ⟨a,items,n,h1,h2,h3⟩:=T.2 0 k rfl
      obtain ⟨fs,f1,f2,f3⟩:=ih (vs:=vs) ⟨Nat.succ.inj T.1,fun i k' e=>T.2 (i+1) k' e⟩ fun k' hk'=>hne k' (.tail _ hk')
      cases (Option.some.inj h1)
      cases h3 with
      | nil=>exact absurd rfl (hne _ (.head _))
      | cons n' t hr=>exact ⟨.int n' t::fs,.cons h2 rfl rfl rfl f1,congrArg (·+1) f2,List.forall_mem_cons.mpr ⟨⟨_,_,rfl⟩,f3⟩⟩
theorem kindInts {ks:List (List Int)}{vs:List Value}{Q:SortKind→Shared→Prop}(T:TupInts s.heap ks vs) (hne:∀k∈ks,k≠[]) (h0:0<ks.length) (h:Q (tuples' true) s):wpAny (model prog w) A (keyKind' vs.toArray) Q E s:=by
  obtain ⟨fs,f1,f2,f3⟩:=fstInts T hne
  refine kat_kind f1 (f2▸h0) (T:=.type "int") (fun v hv=>?_) rfl h
  obtain ⟨n,t,rfl⟩:=f3 v hv
  exact (show Looks _ _ (pure (Value.type "int")) _ from .now)
theorem getD_list {p:Array Nat}{i:Nat}(h:i<p.toList.length):p.getD i 0=p.toList[i]:=by
  rw [Array.getD_eq_getD_getElem?,← Array.getElem?_toList,List.getElem?_eq_getElem h];rfl
inductive SortEnd (s:Shared) (ks:List (List Int)) (vs:List Value) (st':SortSt) (s':Shared):Prop
  | mk (p:Array Nat) (hs:s'=s) (har:arrOf st'=p.map (kas_item (vs.toArray.zip vs.toArray))) (hf:failedOf st'=none) (hp:PM p ks.length) (ho:Srt (fun i j=>ltL (ks.getD i []) (ks.getD j [])) p ks.length)
noncomputable def Sorted (s:Shared) (a:Addr) (ks:List (List Int)) (vs:List Value) (P:PySem.Fin→Shared→Prop):Prop :=
  ∀(p:List Nat) h' e,p.Perm (List.range ks.length)→(p.map fun i=>ks.getD i []).Pairwise (fun x y=>ltL x y=true)→(∀b o,b≠a→s.heap.get? b=some o→h'.get? b=some o)→s.heap.objs.size≤h'.objs.size →
      h'.get? a=some (seqObj "list" (p.map fun i=>vs.getD i Value.none).toArray e)→P (.done (.ret .none)) {s with heap:=h' }
theorem sortFin {a:Addr}{ks:List (List Int)}{vs:List Value}{e1:Nat}{P:PySem.Fin→Shared→Prop}(ho:s.heap.get? a=some (seqObj "list" #[] e1)) (hl:ks.length=vs.length) (nd:ks.Nodup) (h64:ks.length<64) (h:Sorted s a ks vs P)
    {st:SortSt}{p:Array Nat}(hp:PM p ks.length) (hs:Srt (fun i j=>ltL (ks.getD i []) (ks.getD j [])) p ks.length) (har:(arrOf st).map (·.2)=List.toArray (p.toList.map fun i=>vs.getD i Value.none)) (hf:failedOf st=none) :
      wpAny (model prog w) A (do
        let touched:=(← seqEpoch a) != e1
        Builtin.List.listUpdate (.ref a) fun q_=>(arrOf st).map (·.2)
        if let some e:=failedOf st then rule "list.sort.comparison-raised";throw e
        if touched then rule "list.sort.modified";raiseError "ValueError" "list modified during sort"
        ret .none) P E s:=by
  have hz:=hp.size
  have hsz:(List.toArray (p.toList.map fun i=>vs.getD i Value.none)).size≤63:=by rw [List.size_toArray,List.length_map,Array.length_toList,hz];exact Nat.le_of_lt_succ h64
  rw [har]
  refine wpAny_bind (seqEpoch_at ho rfl (wpAny_bind (listUpdate_at ho rfl ?_ (Nat.zero_le _) (Nat.le_trans hsz (by rw [sizeLine_eq];decide)))))
  rw [hf]
  simp only [bne_self_eq_false,Bool.false_eq_true,if_false]
  refine wpAny_pure (h p.toList _ _ (by simpa using Array.perm_iff_toList_perm.mp hp) ?_ (Heap.SameBut.update ..).extBut (Nat.le_of_eq (Heap.size_update ..).symm) (get?_update_seq ho fun q_=>_))
  rw [List.pairwise_map]
  refine List.pairwise_iff_getElem.mpr fun i j hi hj hij=>?_
  have:=hs.lt' (ordL nd) hp (Nat.le_refl _) (i:=i) (j:=j) hij (by rw [Array.length_toList,hz] at hj;exact hj)
  rw [getD_list hi,getD_list hj] at this
  exact this
theorem sortTups {a:Addr}{ks:List (List Int)}{vs:List Value}{n:Nat}{P:PySem.Fin→Shared→Prop}(ho:s.heap.get? a=some (seqObj "list" vs.toArray n)) (T:TupInts s.heap ks vs) (ht:∀(k:Nat) b o,vs[k]?=some (.ref b)→s.heap.get? b=some o→b≠a) (hne:∀k∈ks,k≠[]) (nd:ks.Nodup) (h64:ks.length<64)
    (h:Sorted s a ks vs P):wpAny (model prog w) A (Builtin.«list.sort» ⟨[.ref a],[]⟩) P E s:=by
  obtain ⟨e1,ho1⟩:∃e1,(s.heap.update a (Obj.mapSeq fun q_=>(#[]:Array Value))).get? a=some (seqObj "list" #[] e1):=⟨_,get?_update_seq ho fun q_=>#[]⟩
  have hl:=T.1
  rw [list_sort_plain]
  refine wpAny_bind (listItems_at ho rfl ?_)
  refine wpAny_bind (listUpdate_at ho rfl ?_ (by rw [List.size_toArray,sizeLine_eq];lia) (Nat.zero_le _))
  refine wpAny_bind (seqEpoch_at ho1 rfl ?_)
  refine wpAny_bind (wpAny_newTuple ?_ (by show vs.length≤_;rw [sizeLine_eq];lia))
  refine wpAny_bind (wpAny_newList ?_ (Nat.zero_le _))
  refine wpAny_holding ?_
  show wpAny (model prog w) A _ P E {s with heap:=((s.heap.update a (Obj.mapSeq fun q_=>(#[]:Array Value))).push (seqObj "tuple" vs.toArray 0)).push (seqObj "list" #[] 0) }
  dsimp only
  have ho6:=Heap.get?_push_of_some (seqObj "list" #[] 0) (Heap.get?_push_of_some (seqObj "tuple" vs.toArray 0) ho1)
  have k1:∀b o,b≠a→s.heap.get? b=some o→(((s.heap.update a (Obj.mapSeq fun q_=>(#[]:Array Value))).push (seqObj "tuple" vs.toArray 0)).push (seqObj "list" #[] 0)).get? b=some o:=fun b o hb e=>Heap.get?_push_of_some _ (Heap.get?_push_of_some _ ((Heap.SameBut.update ..).extBut b o hb e))
  have sz:s.heap.objs.size≤(((s.heap.update a (Obj.mapSeq fun q_=>(#[]:Array Value))).push (seqObj "tuple" vs.toArray 0)).push (seqObj "list" #[] 0)).objs.size:=by rw [size_push',size_push',Heap.size_update];exact Nat.le_add_right _ 2
  generalize ((s.heap.update a (Obj.mapSeq fun q_=>(#[]:Array Value))).push (seqObj "tuple" vs.toArray 0)).push (seqObj "list" #[] 0)=h6 at ho6 k1 sz ⊢
  have T1:TupInts h6 ks vs:=⟨hl,fun i k e=>(T.2 i k e).imp fun b=>Exists.imp fun items=>Exists.imp fun m g=>⟨g.1,k1 b _ (ht i b _ g.1 g.2.1) g.2.1,g.2.2⟩⟩
  have h':Sorted {s with heap:=h6 } a ks vs P:=fun p h' e a1 a2 a3 a4 a5=>h p h' e a1 a2 (fun b o hb e=>a3 b o hb (k1 b o hb e)) (Nat.le_trans sz a4) a5
  generalize hs':({s with heap:=h6 }:Shared)=s' at h' ⊢
  have ho':s'.heap.get? a=some (seqObj "list" #[] e1):=by rw [← hs'];exact ho6
  replace T1:TupInts s'.heap ks vs:=by rw [← hs'];exact T1
  clear hs' ho6 k1 sz h T ht ho ho1
  by_cases h2:vs.toArray.size<2
  · rw [if_pos h2,if_pos h2]
    refine wpAny_bind (wpAny_pure ?_)
    rw [StateT.run_pure]
    refine wpAny_bind (wpAny_pure (sortFin ho' hl nd h64 h' (p:=List.toArray (List.range ks.length)) (.refl _) (fun i hi=>absurd (show ks.length<2 by rw [hl];exact h2) (Nat.not_lt_of_le (Nat.le_trans (Nat.le_add_left 2 i) hi))) ?_ rfl))
    show (vs.toArray.zip vs.toArray).map (·.2)=_
    apply Array.toList_inj.mp
    rw [hl]
    refine List.ext_getElem? fun i=>?_
    by_cases hi:i<vs.length
    · simp [hi,List.getElem?_zip_eq_some]
    · simp [hi,Nat.le_of_not_lt hi]
  · rw [if_neg h2,if_neg h2]
    have h2':2≤vs.length:=Nat.le_of_not_lt h2
    refine wpAny_bind (kindInts T1 hne (by lia) ?_)
    have ask:(kas_sort vs.length).kasWp (kas_ask prog w A (tuples' true) vs) (fun p s₁=>s₁=s'∧PM p ks.length∧Srt (fun i j=>ltL (ks.getD i []) (ks.getD j [])) p ks.length) s':=by
      rw [← hl]
      exact KS.wp (lt:=fun i j=>ltL (ks.getD i []) (ks.getD j [])) (n:=ks.length) (G:=fun s₁=>s₁=s') (fun i j C s₁ hi hj g hC=>by
        subst g
        exact askInts T1 i j C hi hj (hC _ rfl)) _ (sort_ok (ordL nd) (by lia)) (fun p s₁ hp g=>⟨g,hp⟩) _ rfl
    refine wpAny_bind (wpAny_mono (kat_run (Q:=SortEnd s' ks vs) rfl h2' (by lia) (fun p' st' s₁ a1 a2 a3 a4=>⟨p',a4.1,a2,a3,a4.2.1,a4.2.2⟩) ask) (fun r s₁ g=>?_) fun q_ q_ e=>e)
    obtain ⟨⟨⟩,st'⟩:=r
    obtain ⟨p,rfl,har,hf,hpm,hs⟩:=g
    exact sortFin ho' hl nd h64 h' hpm hs (kat_snds rfl har) hf
end
section
variable {w:World}{B:Heap}{A:Around}{own own':Own}{P:Pins}{X:Addr→Own→Prop}{env:Env}{Q:D→Own→Prop}{QB:Bool→Own→Prop}{QF:Fl→Own→Prop}{s:Shared}{N:Addr→Prop}
theorem relMap {α:Type}{h:Heap}{N:Addr→Prop}{f:α→D}{g:α→Value}:∀{l:List α},(∀x∈l,RelD h N (f x) (g x))→RelDs h N (l.map f) (l.map g)
  | [],_=>rfl
  | x::l,hx=>⟨_,_,rfl,hx x (.head _),relMap fun y hy=>hx y (.tail _ hy)⟩
theorem range_getD {α:Type}(l:List α) (d:α):(List.range l.length).map (fun i=>l.getD i d)=l:=by
  refine List.ext_getElem? fun i=>?_
  by_cases hi:i<l.length
  · simp [hi]
  · simp [hi,Nat.le_of_not_lt hi]
theorem sortedTd {c:Addr}{l:List (List Int×D)}(lo:(c == sysModules)=false) (hh:A.handled=none) (I:Inv w B A s N own) (ho:Has own c (.td l)) (hne:∀k∈l.map (·.1),k≠[]) (h64:l.length<64)
    (h:∀(r:List (List Int)) a,r.Perm (l.map (·.1))→r.Pairwise (fun x y=>ltL x y=true)→Q (.ref a) ((a,.list (r.map fun k=>.tup (k.map .int)))::own)):wpAny (model PG w) A (call (.builtin "sorted") [.ref c]) (Post w B A RV s N own Q) (PostX w B A s N own X) s:=by
  obtain ⟨hN,xs,n,hd,nd,hk,r1,r2⟩:=I.owned _ ho.mem
  have hlen:xs.length=l.length:=by have:=congrArg List.length hk;simpa using this
  have raw:RawD s.heap c (List.toArray (xs.map (entryOfKey (tkind w)))) n:=⟨_,hd,⟨rfl,rfl,rfl⟩,rfl⟩
  refine call_function_entry kind_sorted plain_sorted entry_sorted (args_sorted1 _) ?_
  unfold Builtin.«sorted»
  refine wpAny_bind (m:=checkCount "sorted" 1 1 _) (wpAny_pure ?_)
  refine wpAny_bind (wpAny_grown (kdu_collect (A:=A.in1) (rawSrc lo _ n) hh raw (by rw [sizeLine_eq];simp;lia) fun h' tk acc hk' hacc hsz'=>?_))
  have hsz':s.heap.objs.size≤h'.objs.size:=hsz'
  have ha:acc.toList=xs.map fun x=>.ref x.2.1:=by
    refine List.ext_getElem? fun i=>?_
    rw [Array.getElem?_toList]
    have hsz:acc.size=xs.length:=by simpa using hacc.1
    by_cases hi:i<xs.length
    · obtain ⟨e,he,hv⟩:=hacc.2 i (acc[i]'(by lia)) (Array.getElem?_eq_getElem _)
      rw [Array.getElem?_eq_getElem (by lia),hv]
      simp only [List.getElem?_toArray,List.getElem?_map,List.getElem?_eq_getElem hi,Option.map_some,Option.some.injEq] at he
      simp only [List.getElem?_map,List.getElem?_eq_getElem hi,Option.map_some,← he]
      rfl
    · rw [Array.getElem?_eq_none (by lia),List.getElem?_eq_none (by simp;lia)]
  refine wpAny_bind (wpAny_newList ?_ (by rw [ha,sizeLine_eq];simp;lia))
  rw [ha]
  have g0:∀b o,s.heap.get? b=some o→(h'.push (seqObj "list" (xs.map fun x=>Value.ref x.2.1).toArray 0)).get? b=some o:=fun b o e=>Heap.get?_push_of_some _ (hk' b o e)
  have hlt:∀(b:Addr) (o:Obj),s.heap.get? b=some o→b≠h'.objs.size:=fun b o e=>Nat.ne_of_lt (Heap.lt_size (hk' b o e))
  have T:TupInts (h'.push (seqObj "list" (xs.map fun x=>Value.ref x.2.1).toArray 0)) (l.map (·.1)) (xs.map fun x=>Value.ref x.2.1):=by
    refine ⟨by simp [hlen],fun i k e=>?_⟩
    simp only [List.getElem?_map,Option.map_eq_some_iff] at e
    obtain ⟨p,e1,e2⟩:=e
    obtain ⟨v,hv,rv⟩:=RelDs.get r1 (i:=i) (d:=.tup (p.1.map .int)) (by simp [e1])
    obtain ⟨a,m,items,rfl,q1,q2,q3⟩:=rv
    exact ⟨a,items,m,hv,g0 _ _ q2,by rw [← e2];exact intsAre q3⟩
  refine wpAny_bind (wpAny_holding (wpAny_call_entry slot_list_sort ⟨_,Heap.get?_push_size _ rfl,rfl⟩ entry_list_sort ?body (args_list_sort _)))
  case body =>
    refine sortTups (n:=0) (Heap.get?_push_size _ rfl) T (fun k b o e1 e2=>?_) hne (by rw [← hk];exact nd) (by simpa using h64) fun p h2 e hp hpw hkeep hz hlist=>?_
    · simp only [List.getElem?_map,Option.map_eq_some_iff,Value.ref.injEq] at e1
      obtain ⟨x,hx,rfl⟩:=e1
      have hkl:k<l.length:=by
        rw [← hlen]
        exact (List.getElem?_eq_some_iff.mp hx).1
      obtain ⟨v,hv,rv⟩:=RelDs.get r1 (i:=k) (d:=.tup (l[k].1.map .int)) (by simp [hkl])
      obtain ⟨a,m,items,rfl,q1,q2,q3⟩:=rv
      simp only [List.getElem?_map,hx,Option.map_some,Option.some.injEq,Value.ref.injEq] at hv
      rw [hv]
      exact hlt a _ q2
    · refine ⟨_,rfl,wpAny_pure ⟨_,rfl,?_⟩⟩
      have kp:∀b o,s.heap.get? b=some o→h2.get? b=some o:=fun b o eb=>hkeep b o (hlt b o eb) (g0 b o eb)
      have hp':p.Perm (List.range l.length):=by simpa using hp
      have rel:RelDs h2 (fun x=>N x∨x=h'.objs.size) ((p.map fun i=>(l.map (·.1)).getD i []).map fun k=>.tup (k.map .int)) (p.map fun i=>(xs.map fun x=>Value.ref x.2.1).getD i Value.none):=by
        rw [List.map_map]
        refine relMap fun i hi=>?_
        have hil:i<l.length:=by simpa using hp'.mem_iff.mp hi
        obtain ⟨v,hv,rv⟩:=RelDs.get r1 (i:=i) (d:=.tup (l[i].1.map .int)) (by simp [hil])
        have e1:(l.map (·.1)).getD i []=l[i].1:=by simp [hil]
        have e2:(xs.map fun x=>Value.ref x.2.1).getD i Value.none=v:=by rw [List.getD_eq_getElem?_getD,hv];rfl
        show RelD _ _ (.tup (((l.map (·.1)).getD i []).map .int)) _
        rw [e1,e2]
        exact rv.mono (fun a o q_ eo q_=>kp a o eo) (fun a o hn eo=>fun hc=>hc.elim hn fun hx=>hlt a o eo hx)
      refine Post.make I kp (Nat.le_trans hsz' (Nat.le_trans (by rw [size_push'];exact Nat.le_succ _) hz)) hsz' (Nat.lt_of_lt_of_le (by rw [size_push'];exact Nat.lt_succ_self _) hz) (o:=.list ((p.map fun i=>(l.map (·.1)).getD i []).map fun k=>.tup (k.map .int))) ⟨_,e,hlist,rel⟩ (show RelD _ _ (.ref h'.objs.size) _ from rfl) (h _ _ ?_ hpw)
      have:=hp'.map fun i=>(l.map (·.1)).getD i []
      rw [show l.length=(l.map (·.1)).length by simp,range_getD] at this
      exact this
theorem Call.sortedTd {c:Addr}{l:List (List Int×D)}(hsys:B.NoLimit) (hh:A.handled=none) (ho:Has own c (.td l)) (hne:∀k∈l.map (·.1),k≠[]) (h64:l.length<64)
    (h:∀(r:List (List Int)) a,r.Perm (l.map (·.1))→r.Pairwise (fun x y=>ltL x y=true)→Q (.ref a) ((a,.list (r.map fun k=>.tup (k.map .int)))::own)):Call w B A (.builtin "sorted") [.ref c] own Q X :=
  Call.of1 fun s N v I r=>by
    have r:v=.ref c:=r
    subst r
    exact Mine.sortedTd (notSys hsys I ho) hh I ho hne h64 h
end
structure Fm where
  w:World
  B:Heap
  A:Around
  env:Env
  L:Addr
  ln:List Str
  fr:Bool
  cs:Nat→Addr
  X:Addr→Own→Prop
@[reducible] noncomputable def Fm.x (f:Fm) (X:Addr→Own→Prop):Fm:={f with X:=X }
@[reducible] noncomputable def Fm.ax (f:Fm) (A:Around) (X:Addr→Own→Prop):Fm:={f with A:=A,X:=X }
@[reducible] noncomputable def Fm.comp (f:Fm) (env:Env) (L:Addr) (ln:List Str) (X:Addr→Own→Prop):Fm:={f with env:=env,L:=L,ln:=ln,fr:=false,X:=X }
noncomputable abbrev Vals:=List (Option D)
noncomputable abbrev Fm.ns (f:Fm) (v:Vals):Addr×O:=(f.L,.ns f.fr f.ln v)
inductive AtN {β:Type}(x:Addr×O) (Q:β→Own→Prop) (d:β) (o':Own):Prop
  | intro (own':Own) (hp:o'.Perm (x::own')) (q:Q d own')
noncomputable abbrev Fm.at {β:Type}(f:Fm) (v:Vals) (Q:β→Own→Prop):β→Own→Prop:=AtN (f.ns v) Q
noncomputable def Fm.E {α β:Type}(f:Fm) (R:Rl β α) (P:Pins) (v:Vals) (own:Own) (t:Sem α) (Q:β→Own→Prop):Prop :=
  ∀o,o.Perm (f.ns v::own)→Wp f.w f.B f.A R P o t (f.at v Q) f.X
structure Cn where
  g:List (Str×D)
  names:List (Str×NameKind)
  ln:List Str
  cm:List (Str×Nat)
  exc:List Addr
  quiet:Bool
structure Ok (K:Frag) (c:Cn) (f:Fm):Prop where
  ev:∃F cells,EV f.env c.names f.L cells F∧∀x i,c.cm.lookup x=some i→cells.lookup x=some (f.cs i)
  gr:Gr K f.B
  hh:c.quiet=false→f.A.handled=none
  ln:f.ln=c.ln
  gl:∀x d,c.g.lookup x=some d→globIn K x=some d
  exc:∀C∈c.exc,ExcOk K C 36
section own
theorem Has.fromPerm {l l':Own}{a o} (h:Has l a o) (p:l'.Perm (q::l)):Has l' a o:=h.perm fun x hx=>p.mem_iff.mpr (.tail _ hx)
theorem Put.fromPerm {l l' m:Own}{a:Addr}{o o':O}(U:Put l a o o' l') (p:m.Perm (q::l)):∃m',Put m a o o' m'∧m'.Perm (q::l'):=by
  obtain ⟨m',U'⟩:=Has.put o' (Has.fromPerm (Has.of_mem U.has) p)
  refine ⟨m',U',?_⟩
  obtain ⟨a1,b1,e1,e2⟩:=U.split
  obtain ⟨a2,b2,e3,e4⟩:=U'.split
  subst e1 e2 e3 e4
  have h:(a2++b2).Perm (q::(a1++b1)):=by
    refine (List.perm_cons (a,o)).mp ?_
    refine List.perm_middle.symm.trans (p.trans ?_)
    exact (List.Perm.cons q List.perm_middle).trans (.swap ..)
  refine List.perm_middle.trans ((h.cons (a,o')).trans ?_)
  exact (List.Perm.swap ..).trans (List.Perm.cons q List.perm_middle.symm)
end own
section
variable {α β γ δ:Type}{f:Fm}{R:Rl β α}{P:Pins}{v:Vals}{own:Own}{Q Q':β→Own→Prop}
theorem AtN.mk {x:Addr×O}{b:β}{o:Own}(hp:o.Perm (x::own)) (q:Q b own):AtN x Q b o:=⟨own,hp,q⟩
theorem Wp.go {w:World}{B:Heap}{A:Around}{R:Rl β α}{P:Pins}{o:Own}{t:Sem α}{x:Addr×O}{Q G:β→Own→Prop}{X:Addr→Own→Prop}(h:Wp w B A R P o t (AtN x Q) X) (k:∀b o₁ own₁,o₁.Perm (x::own₁)→Q b own₁→G b o₁):Wp w B A R P o t G X :=
  h.mono (fun b o₁ q=>by obtain ⟨own₁,hp₁,q⟩:=q;exact k b o₁ own₁ hp₁ q) fun q_ q_ x=>x
theorem AtN.map {x:Addr×O}{g:γ→β}{c:γ}{o:Own}(h:AtN x (fun c o=>Q (g c) o) c o):AtN x Q (g c) o:=by
  obtain ⟨own',hp,q⟩:=h
  exact ⟨own',hp,q⟩
theorem AtN.new {n:Addr×O}{b:β}{o:Own}{x:Addr×O}(hp:o.Perm (n::own)) (q:Q b (x::own)):AtN n Q b (x::o):=⟨x::own,(hp.cons x).trans (.swap ..),q⟩
end
noncomputable abbrev PT:=Fm→Vals→Own→(D→Own→Prop)→Prop
noncomputable abbrev BT:=Fm→Vals→Own→(Bool→Own→Prop)→Prop
noncomputable abbrev LT:=Fm→Vals→Own→(List D→Own→Prop)→Prop
noncomputable def VOp (f:Fm) (v:Vals) (op:Operator) (a b:D) (own:Own) (Q:D→Own→Prop):Prop:=∀P va vb,f.E RV ((b,vb)::(a,va)::P) v own (binaryOp op va vb) Q
noncomputable def VCmp (f:Fm) (v:Vals) (op:CmpOp) (a b:D) (own:Own) (Q:Bool→Own→Prop):Prop:=∀P va vb,f.E RB ((b,vb)::(a,va)::P) v own (compareOp op va vb) Q
noncomputable def VSub (f:Fm) (v:Vals) (a b:D) (own:Own) (Q:D→Own→Prop):Prop:=∀value slice,PlainSub slice→∀P va vb,f.E RV ((b,vb)::(a,va)::P) v own (subscriptTail value slice va vb) Q
noncomputable def VSlice (f:Fm) (v:Vals) (d:D) (lo hi st:Option Int) (own:Own) (Q:D→Own→Prop):Prop :=
  ∀value slice (ops:Value→Value→List Value),(∀o i,subscripted slice false o i=operate (ops o i) (getItem o i))→∀o,o.Perm (f.ns v::own)→Sliced f.w f.B f.A value slice d lo hi st o (f.at v Q) f.X
noncomputable def VAttr (f:Fm) (v:Vals) (name:Str) (a:D) (own:Own) (Q:D→Own→Prop):Prop:=∀P va,f.E RV ((a,va)::P) v own (getAttr va name true) Q
noncomputable abbrev VCall (f:Fm) (v:Vals) (fv:Value) (ds:List D) (own:Own) (Q:D→Own→Prop):Prop:=Call f.w f.B f.A fv ds own Q (fun x o=>f.X x (o++[f.ns v]))
theorem VCall.sound {f:Fm}{v:Vals}{fv:Value}{ds:List D}{own o:Own}{Q:D→Own→Prop}(h:VCall f v fv ds own Q) (hp:o.Perm (f.ns v::own)):Call f.w f.B f.A fv ds o (f.at v Q) f.X:=fun P vs hl =>
  (h P vs hl).frame (rest:=[f.ns v]) (fun p=>by rw [hp.mem_iff];simp [or_comm]) (fun q_=>trivial) (hp.trans (List.perm_append_singleton ..).symm) (fun b o₁ q=>⟨o₁,List.perm_append_singleton ..,q⟩) fun q_ q_ x=>x
@[reducible] noncomputable def isSome' (u:Option D) (k:D→Prop):Prop:=match u with
  | some d=>k d
  | none=>False
@[reducible] noncomputable def getAt:Vals→Nat→(D→Prop)→Prop
  | [],_,_=>False
  | u::_,0,k=>isSome' u k
  | _::v,n+1,k=>getAt v n k
@[reducible] noncomputable def kD (d:D):PT:=fun q_ q_ own Q=>Q d own
@[reducible] noncomputable def loc (i:Nat):PT:=fun q_ v own Q=>getAt v i fun d=>Q d own
@[reducible] noncomputable def cellP (i:Nat):PT:=fun f q_ own Q=>∃d,Has own (f.cs i) (.cell (some d))∧Q d own
@[reducible] noncomputable def opD (f:Fm) (v:Vals) (op:Operator) (a b:D) (own:Own) (Q:D→Own→Prop):Prop :=
  match a with
  | .int i=>(match b with
    | .int j=>(match op with
      | .Add=>Q (.int (i+j)) own
      | .Sub=>Q (.int (i-j)) own
      | .Mult=>IntMulOk i j∧Q (.int (i*j)) own
      | .Mod=>j≠0∧Q (.int (i.fmod j)) own
      | .FloorDiv=>(j≠0∧j.natAbs<1073741824)∧Q (.int (i.fdiv j)) own
      | .BitAnd=>Q (.int (Builtin.bitAnd i j)) own
      | .BitOr=>Q (.int (Builtin.bitOr i j)) own
      | .RShift=>0≤j∧Q (.int (i.fdiv (2 ^ j.toNat))) own
      | _=>VOp f v op a b own Q)
    | _=>VOp f v op a b own Q)
  | .str x=>(match b with
    | .str y=>(match op with
      | .Add=>x.length+y.length≤16777216∧Q (.str (x++y)) own
      | _=>VOp f v op a b own Q)
    | _=>VOp f v op a b own Q)
  | .bytes x=>(match b with
    | .bytes y=>(match op with
      | .Add=>x.length+y.length≤16777216∧Q (.bytes (x++y)) own
      | _=>VOp f v op a b own Q)
    | _=>VOp f v op a b own Q)
  | _=>VOp f v op a b own Q
@[reducible] noncomputable def onI (a:D) (k:Int→Prop) (e:Prop):Prop:=match a with | .int i=>k i | _=>e
@[reducible] noncomputable def onS (a:D) (k:List Nat→Prop) (e:Prop):Prop:=match a with | .str i=>k i | _=>e
@[reducible] noncomputable def onB (a:D) (k:List UInt8→Prop) (e:Prop):Prop:=match a with | .bytes i=>k i | _=>e
@[reducible] noncomputable def on3 (a b:D) (kI:Int→Int→Prop) (kS:List Nat→List Nat→Prop) (kB:List UInt8→List UInt8→Prop) (e:Prop):Prop:=match a with
  | .int i=>onI b (kI i) e
  | .str i=>onS b (kS i) e
  | .bytes i=>onB b (kB i) e
  | _=>e
@[reducible] noncomputable def isN (a b:D) (t n e:Prop):Prop:=match b with
  | .none=>(match a with
    | .cst _=>e
    | .none=>t
    | _=>n)
  | _=>e
theorem onI.elim {a:D}{k:Int→Prop}{e G:Prop}(h:onI a k e) (h1:∀i,a=.int i→k i→G) (h2:e→G):G:=by
  cases a with
  | int i=>exact h1 i rfl h
  | _=>exact h2 h
theorem onS.elim {a:D}{k:List Nat→Prop}{e G:Prop}(h:onS a k e) (h1:∀i,a=.str i→k i→G) (h2:e→G):G:=by
  cases a with
  | str i=>exact h1 i rfl h
  | _=>exact h2 h
theorem onB.elim {a:D}{k:List UInt8→Prop}{e G:Prop}(h:onB a k e) (h1:∀i,a=.bytes i→k i→G) (h2:e→G):G:=by
  cases a with
  | bytes i=>exact h1 i rfl h
  | _=>exact h2 h
theorem on3.elim {a b:D}{kI:Int→Int→Prop}{kS:List Nat→List Nat→Prop}{kB:List UInt8→List UInt8→Prop}{e G:Prop}(h:on3 a b kI kS kB e) (h1:∀i j,a=.int i→b=.int j→kI i j→G) (h2:∀i j,a=.str i→b=.str j→kS i j→G) (h3:∀i j,a=.bytes i→b=.bytes j→kB i j→G) (h4:e→G):G:=by
  cases a with
  | int i=>exact onI.elim h (fun j=>h1 i j rfl) h4
  | str i=>exact onS.elim h (fun j=>h2 i j rfl) h4
  | bytes i=>exact onB.elim h (fun j=>h3 i j rfl) h4
  | _=>exact h4 h
theorem isN.elim {a b:D}{t n e G:Prop}(h:isN a b t n e) (h1:b=.none→a=.none→t→G) (h2:b=.none→isNoneD a=false→(∀v,a≠.cst v)→n→G) (h3:e→G):G:=by
  cases b with
  | none =>
    cases a with
    | none=>exact h1 rfl rfl h
    | cst=>exact h3 h
    | _=>exact h2 rfl rfl (fun q_ e=>D.noConfusion e) h
  | _=>exact h3 h
@[reducible] noncomputable def cmpD (f:Fm) (v:Vals) (op:CmpOp) (a b:D) (own:Own) (Q:Bool→Own→Prop):Prop :=
  match op with
  | .Is=>isN a b (Q true own) (Q false own) (VCmp f v op a b own Q)
  | .IsNot=>isN a b (Q false own) (Q true own) (VCmp f v op a b own Q)
  | .Eq=>on3 a b (fun i j=>Q (i == j) own) (fun i j=>Q (i == j) own) (fun i j=>Q (i == j) own) (VCmp f v op a b own Q)
  | .NotEq=>on3 a b (fun i j=>Q (i != j) own) (fun i j=>Q (i != j) own) (fun i j=>Q (i != j) own) (VCmp f v op a b own Q)
  | .Lt=>onI a (fun i=>onI b (fun j=>Q (decide (i<j)) own) (VCmp f v op a b own Q)) (VCmp f v op a b own Q)
  | .LtE=>onI a (fun i=>onI b (fun j=>Q (decide (i≤j)) own) (VCmp f v op a b own Q)) (VCmp f v op a b own Q)
  | .Gt=>onI a (fun i=>onI b (fun j=>Q (decide (i > j)) own) (VCmp f v op a b own Q)) (VCmp f v op a b own Q)
  | .GtE=>onI a (fun i=>onI b (fun j=>Q (decide (i ≥ j)) own) (VCmp f v op a b own Q)) (VCmp f v op a b own Q)
  | _=>VCmp f v op a b own Q
@[reducible] noncomputable def bin (op:Operator) (l r:PT):PT:=fun f v own Q=>l f v own fun a o=>r f v o fun b o=>opD f v op a b o Q
@[reducible] noncomputable def neg (l:PT):PT:=fun f v own Q=>l f v own fun a o=>match a with | .int i=>Q (.int (-i)) o | _=>False
@[reducible] noncomputable def cmp (op:CmpOp) (l r:PT):BT:=fun f v own Q=>l f v own fun a o=>r f v o fun b o=>cmpD f v op a b o Q
@[reducible] noncomputable def cmp2 (op op':CmpOp) (l r r':PT):BT:=fun f v own Q=>l f v own fun a o=>r f v o fun b o=>cmpD f v op a b o fun c o=>(c=false→Q false o)∧(c=true→r' f v o fun b' o=>cmpD f v op' b b' o Q)
@[reducible] noncomputable def le3 (l r r':PT):BT:=fun f v own Q=>l f v own fun a o=>r f v o fun b o=>r' f v o fun b' o=>onI a (fun i=>onI b (fun j=>onI b' (fun m=>Q (decide (i≤j) && decide (j≤m)) o) False) False) False
@[reducible] noncomputable def ofB (b:BT):PT:=fun f v own Q=>b f v own fun c o=>Q (.bool c) o
@[reducible] noncomputable def tv (p:PT):BT:=fun f v own Q=>p f v own fun d o=>∃c,d=.bool c∧Q c o
@[reducible] noncomputable def notB (b:BT):BT:=fun f v own Q=>b f v own fun c o=>Q (!c) o
@[reducible] noncomputable def nilOr:BT:=fun q_ q_ own Q=>Q false own
@[reducible] noncomputable def nilAnd:BT:=fun q_ q_ own Q=>Q true own
@[reducible] noncomputable def orB (b r:BT):BT:=fun f v own Q=>b f v own fun c o=>(c=true→Q true o)∧(c=false→r f v o Q)
@[reducible] noncomputable def andB (b r:BT):BT:=fun f v own Q=>b f v own fun c o=>(c=false→Q false o)∧(c=true→r f v o Q)
@[reducible] noncomputable def orV (l r:PT):PT:=fun f v own Q=>l f v own fun d o=>∃c,d=.bool c∧(c=true→Q (.bool true) o)∧(c=false→r f v o Q)
@[reducible] noncomputable def andV (l r:PT):PT:=fun f v own Q=>l f v own fun d o=>∃c,d=.bool c∧(c=false→Q (.bool false) o)∧(c=true→r f v o Q)
@[reducible] noncomputable def ite (t:BT) (a b:PT):PT:=fun f v own Q=>t f v own fun c o=>(c=true→a f v o Q)∧(c=false→b f v o Q)
@[reducible] noncomputable def nilL:LT:=fun q_ q_ own Q=>Q [] own
@[reducible] noncomputable def consL (p:PT) (r:LT):LT:=fun f v own Q=>p f v own fun d o=>r f v o fun ds o=>Q (d::ds) o
@[reducible] noncomputable def callP (fv:Value) (a:LT):PT:=fun f v own Q=>a f v own fun ds o=>VCall f v fv ds o Q
@[reducible] noncomputable def methP (o:PT) (name:Str) (a:LT):PT:=fun f v own Q=>o f v own fun d o=>∃fv,Meth f.w f.B f.A d o name fv∧KeepOk f.w f.B fv∧a f v o fun ds o=>VCall f v fv (d::ds) o Q
@[reducible] noncomputable def attrP (o:PT) (name:Str):PT:=fun f v own Q=>o f v own fun d o=>VAttr f v name d o Q
@[reducible] noncomputable def subP (o i:PT):PT:=fun f v own Q=>o f v own fun a o=>i f v o fun b o=>VSub f v a b o Q
@[reducible] noncomputable def noPart:PT:=fun q_ q_ own Q=>Q .none own
@[reducible] noncomputable def asPart (d:D) (k:Option Int→Prop):Prop:=match d with
  | .none=>k none
  | .int i=>k (some i)
  | _=>False
@[reducible] noncomputable def sliceP (o lo hi st:PT):PT:=fun f v own Q=>o f v own fun a o=>lo f v o fun l o=>asPart l fun l=>hi f v o fun h o=>asPart h fun h=>st f v o fun s o=>asPart s fun s=>VSlice f v a l h s o Q
@[reducible] noncomputable def listP (a:LT):PT:=fun f v own Q=>a f v own fun ds o=>∀c,Q (.ref c) ((c,.list ds)::o)
@[reducible] noncomputable def tupP (a:LT):PT:=fun f v own Q=>a f v own fun ds o=>Q (.tup ds) o
@[reducible] noncomputable def dict0:PT:=fun q_ q_ own Q=>(∀c,Q (.ref c) ((c,.td [])::own))∨(∀c,Q (.ref c) ((c,.idict [])::own))
@[reducible] noncomputable def dictP (keys:List Str) (a:LT):PT:=fun f v own Q=>∀c,a f v ((c,.sd [])::own) fun ds o=>∃o',Put o c (.sd []) (.sd (keys.zip ds)) o'∧Q (.ref c) o'
section
variable {K:Frag}{c:Cn}{f:Fm}{v:Vals}{own:Own}{P:Pins}{Q:D→Own→Prop}{QB:Bool→Own→Prop}{Qs:List D→Own→Prop}
noncomputable def SE (K:Frag) (c:Cn) (e:Expr) (p:PT):Prop:=∀f,Ok K c f→∀v own Q P,p f v own Q→f.E RV P v own (eval e f.env) Q
noncomputable def SB (K:Frag) (c:Cn) (e:Expr) (p:BT):Prop:=∀f,Ok K c f→∀v own Q P,p f v own Q→f.E RE P v own (isTrue e f.env (eval e f.env)) Q
noncomputable def SBs (K:Frag) (c:Cn) (op:BoolOp) (es:List Expr) (p:BT):Prop:=∀f,Ok K c f→∀v own Q P,p f v own Q→f.E RE P v own (allTrue op es f.env) Q
structure SL (K:Frag) (c:Cn) (es:List Expr) (a:LT):Prop where
  run:∀f,Ok K c f→∀v own Q P pos,a f v own Q→f.E RVs P v own (spliced (backTo pos (starEach es f.env))) (fun ds o=>ds.length=es.length∧Q ds o)
  plain:∀env pos,(backTo pos (starEach es env)).any (·.1)=false
  each:∀e r,es=e::r→∀env,starEach (e::r) env=(false,eval e env)::starEach r env
  next:∀e r,es=e::r→∀env pos,(backTo pos (starEach r env)).any (·.1)=false
theorem getAt_slot {k:D→Prop}{x:Str}{ln:List Str}{v:Vals}{i:Nat}(h:ln[i]?=some x) (g:getAt v i k):∃d,LSlot ln v x d∧k d:=by
  induction ln generalizing v i with
  | nil=>cases h
  | cons y ln ih =>
    cases v with
    | nil=>exact False.elim g
    | cons u v =>
      cases i with
      | zero =>
        cases u with
        | none=>exact False.elim g
        | some d=>cases h;exact ⟨d,.here,g⟩
      | succ i =>
        obtain ⟨d,s,kd⟩:=ih h g
        exact ⟨d,.there s,kd⟩
theorem ns_has {o:Own}(hp:o.Perm (f.ns v::own)):Has o f.L (.ns f.fr f.ln v):=Has.of_mem (hp.mem_iff.mpr (.head _))
theorem SE.loc {x:Str}{pos:Pos}{i:Nat}(h1:c.names.lookup x=some .local) (h2:(x == ("__debug__" : Str))=false) (h3:c.ln[i]?=some x):SE K c (.Name x pos) (loc i):=fun f ok v own Q P h o hp=>by
  obtain ⟨F,cells,E,_⟩:=ok.ev
  obtain ⟨d,s,q⟩:=getAt_slot (k:=fun d=>Q d own) (ln:=f.ln) (x:=x) (i:=i) (by rw [ok.ln];exact h3) h
  exact Wp.nLoc E h1 h2 (ns_has hp) s (.mk hp q)
theorem SE.cell {x:Str}{pos:Pos}{i:Nat}(h1:c.names.lookup x=some .cell) (h2:(x == ("__debug__" : Str))=false) (h3:c.cm.lookup x=some i):SE K c (.Name x pos) (cellP i):=fun f ok v own Q P ⟨d,hh,q⟩ o hp=>by
  obtain ⟨F,cells,E,hc⟩:=ok.ev
  exact Wp.nCell E h1 h2 (hc _ _ h3) (hh.fromPerm hp) (.mk hp q)
theorem SE.glob {x:Str}{pos:Pos}{d:D}(h1:c.names.lookup x=some .globalImplicit) (h2:(x == ("__debug__" : Str))=false) (h3:c.g.lookup x=some d):SE K c (.Name x pos) (kD d):=fun f ok v own Q P h o hp=>by
  obtain ⟨F,cells,E,hc⟩:=ok.ev
  exact Wp.nAny E ok.gr h1 h2 (ok.gl _ _ h3) (.mk hp h)
theorem SE.const {k:Const}{n pos} {d:D}(h:(match k with | .none=>some D.none | .bool b=>some (.bool b) | .int i=>some (.int i) | .str x=>some (.str x.cps.toList) | .bytes l=>some (.bytes l) | _=>Option.none)=some d):SE K c (.Constant k n pos) (kD d):=fun f ok v own Q P q o hp=>by
  cases k <;> cases h
  · exact Wp.cNone (.mk hp q)
  · exact Wp.cBool (.mk hp q)
  · exact Wp.cInt (.mk hp q)
  · exact Wp.cStr rfl (.mk hp q)
  · exact Wp.cBytes (.mk hp q)
theorem E2 {α β:Type}{R:Rl β α}{QR:β→Own→Prop}{l r:Expr}{pl pr:PT}{k:Value→Value→Sem α}{kd:D→D→Own→Prop}(sl:SE K c l pl) (sr:SE K c r pr) (ok:Ok K c f) (hk:∀a b own,kd a b own→∀P va vb o,o.Perm (f.ns v::own)→Wp f.w f.B f.A R ((b,vb)::(a,va)::P) o (k va vb) QR f.X)
    (h:pl f v own fun a o=>pr f v o fun b o=>kd a b o) {o:Own}(hp:o.Perm (f.ns v::own)):Wp f.w f.B f.A RV P o (eval l f.env) (fun d o=>∀a,Wp f.w f.B f.A RV ((d,a)::P) o (eval r f.env) (fun d' o'=>∀b,Wp f.w f.B f.A R ((d',b)::(d,a)::P) o' (k a b) QR f.X) f.X) f.X :=
  (sl f ok v own _ P h o hp).go fun d o₁ own₁ hp₁ q a=>(sr f ok v own₁ _ _ q o₁ hp₁).go fun d' o₂ own₂ hp₂ q' b=>hk _ _ _ q' _ _ _ o₂ hp₂
theorem VOp.raw {op:Operator}{a b:D}(h:VOp f v op a b own Q) (P va vb):f.E RV ((b,vb)::(a,va)::P) v own (binaryOp op va vb) Q:=h P va vb
theorem opD.sound {op:Operator}{a b:D}(h:opD f v op a b own Q) (P va vb):f.E RV ((b,vb)::(a,va)::P) v own (binaryOp op va vb) Q:=by
  cases a with
  | int i =>
    cases b with
    | int j =>
      cases op with
      | Add=>exact fun o hp=>Wp.addI (.mk hp h)
      | Sub=>exact fun o hp=>Wp.subI (.mk hp h)
      | Mult=>exact fun o hp=>Wp.mulI h.1 (.mk hp h.2)
      | Mod=>exact fun o hp=>Wp.modI h.1 (.mk hp h.2)
      | FloorDiv=>exact fun o hp=>Wp.divI h.1.1 h.1.2 (.mk hp h.2)
      | BitAnd=>exact fun o hp=>Wp.andI (.mk hp h)
      | BitOr=>exact fun o hp=>Wp.orI (.mk hp h)
      | RShift=>exact fun o hp=>Wp.shrI h.1 (.mk hp h.2)
      | _=>exact h.raw P va vb
    | _=>exact VOp.raw h P va vb
  | str x =>
    cases b with
    | str y =>
      cases op with
      | Add=>exact fun o hp=>Wp.addS h.1 (.mk hp h.2)
      | _=>exact h.raw P va vb
    | _=>exact VOp.raw h P va vb
  | bytes x =>
    cases b with
    | bytes y =>
      cases op with
      | Add=>exact fun o hp=>Wp.addBy h.1 (.mk hp h.2)
      | _=>exact h.raw P va vb
    | _=>exact VOp.raw h P va vb
  | _=>exact VOp.raw h P va vb
theorem VCmp.raw {op:CmpOp}{a b:D}(h:VCmp f v op a b own QB) (P va vb):f.E RB ((b,vb)::(a,va)::P) v own (compareOp op va vb) QB:=h P va vb
theorem cmpD.sound {op:CmpOp}{a b:D}(h:cmpD f v op a b own QB) (P va vb):f.E RB ((b,vb)::(a,va)::P) v own (compareOp op va vb) QB:=by
  cases op with
  | Is=>exact isN.elim h (fun e1 e2 h'=>by subst e1 e2;exact fun o hp=>Wp.isNone (.mk hp h') (fun q_ e=>D.noConfusion e)) (fun e1 e2 hc h'=>by subst e1;exact fun o hp=>Wp.isNone (e2.symm▸.mk hp h') hc) fun h=>h P va vb
  | IsNot=>exact isN.elim h (fun e1 e2 h'=>by subst e1 e2;exact fun o hp=>Wp.isNotNone (.mk hp h') (fun q_ e=>D.noConfusion e)) (fun e1 e2 hc h'=>by subst e1;exact fun o hp=>Wp.isNotNone (e2.symm▸.mk hp h') hc) fun h=>h P va vb
  | Eq=>exact on3.elim h (fun i j e1 e2 h'=>by subst e1 e2;exact fun o hp=>Wp.eqI (.mk hp h')) (fun i j e1 e2 h'=>by subst e1 e2;exact fun o hp=>Wp.eqS (.mk hp h')) (fun i j e1 e2 h'=>by subst e1 e2;exact fun o hp=>Wp.eqBy (.mk hp h')) fun h=>h P va vb
  | NotEq=>exact on3.elim h (fun i j e1 e2 h'=>by subst e1 e2;exact fun o hp=>Wp.neI (.mk hp h')) (fun i j e1 e2 h'=>by subst e1 e2;exact fun o hp=>Wp.neS (.mk hp h')) (fun i j e1 e2 h'=>by subst e1 e2;exact fun o hp=>Wp.neBy (.mk hp h')) fun h=>h P va vb
  | Lt=>exact onI.elim h (fun i e1 h=>onI.elim h (fun j e2 h'=>by subst e1 e2;exact fun o hp=>Wp.ltI (.mk hp h')) fun h=>h P va vb) fun h=>h P va vb
  | LtE=>exact onI.elim h (fun i e1 h=>onI.elim h (fun j e2 h'=>by subst e1 e2;exact fun o hp=>Wp.leI (.mk hp h')) fun h=>h P va vb) fun h=>h P va vb
  | Gt=>exact onI.elim h (fun i e1 h=>onI.elim h (fun j e2 h'=>by subst e1 e2;exact fun o hp=>Wp.gtI (.mk hp h')) fun h=>h P va vb) fun h=>h P va vb
  | GtE=>exact onI.elim h (fun i e1 h=>onI.elim h (fun j e2 h'=>by subst e1 e2;exact fun o hp=>Wp.geI (.mk hp h')) fun h=>h P va vb) fun h=>h P va vb
  | _=>exact h P va vb
theorem SE.bin {l r:Expr}{pl pr:PT}{op pos} (sl:SE K c l pl) (sr:SE K c r pr):SE K c (.BinOp l op r pos) (bin op pl pr):=fun f ok v own Q P h o hp =>
  Wp.BinOp (E2 sl sr ok (fun a b own h P va vb=>h.sound P va vb) h hp)
theorem SE.neg {e:Expr}{p:PT}{pos} (s:SE K c e p):SE K c (.UnaryOp .USub e pos) (neg p):=fun f ok v own Q P h o hp =>
  Wp.UnaryOp ((s f ok v own _ P h o hp).go fun d o₁ own₁ hp₁ q a=>by
    cases d <;> first | exact False.elim q | exact Wp.negI (.mk hp₁ q))
theorem SB.cmp {l r:Expr}{pl pr:PT}{op pos} (hm:behindInMarks op r=false) (sl:SE K c l pl) (sr:SE K c r pr):SB K c (.Compare l [op] [r] pos) (cmp op pl pr):=fun f ok v own Q P h o hp =>
  Wp.tCompare1 hm (E2 sl sr ok (fun a b own h P va vb=>h.sound P va vb) h hp)
theorem skip3 {x y z p:D×Value}{P:Pins}(h:p∈x::y::P):p∈x::y::z::P:=((List.Sublist.cons z (List.Sublist.refl P)).cons_cons y |>.cons_cons x).subset h
theorem SB.cmp2 {l r r':Expr}{pl pr pr':PT}{op op' pos} (hm:behindInMarks op' r'=false) (sl:SE K c l pl) (sr:SE K c r pr) (sr':SE K c r' pr'):SB K c (.Compare l [op,op'] [r,r'] pos) (cmp2 op op' pl pr pr'):=fun f ok v own Q P h o hp =>
  Wp.tCompare2 hm ((sl f ok v own _ P h o hp).go fun d o₁ own₁ hp₁ q a=>(sr f ok v own₁ _ _ q o₁ hp₁).go fun d' o₂ own₂ hp₂ q' b =>
    (cmpD.sound q' _ _ _ o₂ hp₂).go fun cc o₃ own₃ hp₃ q₃=>⟨fun e=>.mk hp₃ (q₃.1 e),fun e=>(sr' f ok v own₃ _ _ (q₃.2 e) o₃ hp₃).go fun d₃ o₄ own₄ hp₄ q₄ b'=>(cmpD.sound q₄ P _ _ o₄ hp₄).pins fun p hm=>skip3 hm⟩)
noncomputable def Pu (p:PT):Prop:=∀f v o k,p f v o k→∃d,k d o
theorem Pu.kD {d:D}:Pu (kD d):=fun q_ q_ q_ q_ h=>⟨d,h⟩
theorem getAt_ex {k:D→Prop}:∀{v:Vals}{i:Nat},getAt v i k→∃d,k d
  | [],_,h=>h.elim
  | some d::_,0,h=>⟨d,h⟩
  | none::_,0,h=>h.elim
  | _::v,i+1,h=>getAt_ex (v:=v) (i:=i) h
theorem Pu.loc {i:Nat}:Pu (loc i):=fun q_ q_ q_ q_ h=>getAt_ex h
theorem SB.le3 {l r r':Expr}{pl pr pr':PT}{pos} (hm:behindInMarks .LtE r'=false) (pu:Pu pr') (sl:SE K c l pl) (sr:SE K c r pr) (sr':SE K c r' pr'):SB K c (.Compare l [.LtE,.LtE] [r,r'] pos) (le3 pl pr pr'):=fun f ok v own Q P h o hp =>
  Wp.tCompare2 hm ((sl f ok v own _ P h o hp).go fun d o₁ own₁ hp₁ q a=>(sr f ok v own₁ _ _ q o₁ hp₁).go fun d' o₂ own₂ hp₂ q' b=>by
    obtain ⟨b',hb⟩:=pu _ _ _ _ q'
    refine onI.elim hb (fun i e1 h1=>onI.elim h1 (fun j e2 h2=>onI.elim h2 (fun m q_ h3=>?_) False.elim) False.elim) False.elim
    subst e1 e2
    refine Wp.leI ⟨fun e=>?_,fun e=>(sr' f ok v own₂ _ _ q' o₂ hp₂).go fun d₃ o₄ own₄ hp₄ q₄ b'=>?_⟩
    · rw [e] at h3
      exact .mk hp₂ h3
    · refine onI.elim (a:=d₃) (k:=fun m=>Q (decide (i≤j) && decide (j≤m)) own₄) (e:=False) q₄ (fun k e4 q₅=>?_) False.elim
      subst e4
      rw [e] at q₅
      exact (Wp.leI (P:=P) (.mk hp₄ q₅)).pins fun p hm=>skip3 hm)
theorem SE.ofCmp {l r:Expr}{pl pr:PT}{op pos} (hm:behindInMarks op r=false) (sl:SE K c l pl) (sr:SE K c r pr):SE K c (.Compare l [op] [r] pos) (ofB (Mine.cmp op pl pr)):=fun f ok v own Q P h o hp =>
  Wp.Compare1 hm (E2 (R:=RB) (QR:=fun b=>f.at v Q (.bool b)) (k:=compareOp op) sl sr ok (fun a b own h P va vb o hp=>(cmpD.sound (QB:=fun b o=>Q (.bool b) o) h P va vb o hp).mono (fun q_ q_ q=>q.map) fun q_ q_ x=>x) h hp)
theorem SB.not {e:Expr}{b:BT}{pos} (s:SB K c e b):SB K c (.UnaryOp .Not e pos) (notB b):=fun f ok v own Q P h o hp=>Wp.tNot ((s f ok v own _ P h o hp).mono (fun q_ q_ q=>q.map) fun q_ q_ x=>x)
theorem SBs.nilOr:SBs K c .Or [] nilOr:=fun f ok v own Q P h o hp=>Wp.orNil (.mk hp h)
theorem SBs.nilAnd:SBs K c .And [] nilAnd:=fun f ok v own Q P h o hp=>Wp.andNil (.mk hp h)
theorem SBs.or {e:Expr}{es:List Expr}{b r:BT}(s:SB K c e b) (t:SBs K c .Or es r):SBs K c .Or (e::es) (orB b r):=fun f ok v own Q P h o hp =>
  Wp.orCons ((s f ok v own _ P h o hp).go fun cc o₁ own₁ hp₁ q=>⟨fun e=>.mk hp₁ (q.1 e),fun e=>t f ok v own₁ Q P (q.2 e) o₁ hp₁⟩)
theorem SBs.and {e:Expr}{es:List Expr}{b r:BT}(s:SB K c e b) (t:SBs K c .And es r):SBs K c .And (e::es) (andB b r):=fun f ok v own Q P h o hp =>
  Wp.andCons ((s f ok v own _ P h o hp).go fun cc o₁ own₁ hp₁ q=>⟨fun e=>.mk hp₁ (q.1 e),fun e=>t f ok v own₁ Q P (q.2 e) o₁ hp₁⟩)
theorem SB.bool {op:BoolOp}{es:List Expr}{b:BT}{pos} (s:SBs K c op es b):SB K c (.BoolOp op es pos) b:=fun f ok v own Q P h o hp=>by
  cases op
  · exact Wp.tAnd (s f ok v own _ P h o hp)
  · exact Wp.tOr (s f ok v own _ P h o hp)
theorem SB.tv {e:Expr}{p:PT}(he:∀env,isTrue e env (eval e env)=(eval e env >>= fun v=>PySem.standAt e.pos >>= fun q_=>PySem.holding [v] (truthy v))) (s:SE K c e p):SB K c e (tv p):=fun f ok v own Q P h o hp =>
  Wp.tVal (he _) ((s f ok v own _ P h o hp).go fun d o₁ own₁ hp₁ qq=>by obtain ⟨cc,e,q⟩:=qq;exact ⟨cc,e,.mk hp₁ q⟩)
theorem SE.or {l r:Expr}{pl pr:PT}{pos} (sl:SE K c l pl) (sr:SE K c r pr):SE K c (.BoolOp .Or [l,r] pos) (orV pl pr):=fun f ok v own Q P h o hp =>
  Wp.vOr ((sl f ok v own _ P h o hp).go fun d o₁ own₁ hp₁ qq=>by obtain ⟨cc,e,q1,q2⟩:=qq;exact ⟨cc,e,fun e=>.mk hp₁ (q1 e),fun e=>sr f ok v own₁ Q P (q2 e) o₁ hp₁⟩)
theorem SE.and {l r:Expr}{pl pr:PT}{pos} (sl:SE K c l pl) (sr:SE K c r pr):SE K c (.BoolOp .And [l,r] pos) (andV pl pr):=fun f ok v own Q P h o hp =>
  Wp.vAnd ((sl f ok v own _ P h o hp).go fun d o₁ own₁ hp₁ qq=>by obtain ⟨cc,e,q1,q2⟩:=qq;exact ⟨cc,e,fun e=>.mk hp₁ (q1 e),fun e=>sr f ok v own₁ Q P (q2 e) o₁ hp₁⟩)
theorem SE.ite {t a b:Expr}{pt:BT}{pa pb:PT}{pos} (st:SB K c t pt) (sa:SE K c a pa) (sb:SE K c b pb):SE K c (.IfExp t a b pos) (Mine.ite pt pa pb):=fun f ok v own Q P h o hp =>
  Wp.IfExp ((st f ok v own _ P h o hp).go fun cc o₁ own₁ hp₁ qq=>by obtain ⟨q1,q2⟩:=qq;exact ⟨fun e=>sa f ok v own₁ Q P (q1 e) o₁ hp₁,fun e=>sb f ok v own₁ Q P (q2 e) o₁ hp₁⟩)
noncomputable def plainArg:Expr→Bool
  | .Starred _ _=>false
  | _=>true
theorem starEach_plain {e:Expr}{r:List Expr}{env:Env}(h:plainArg e=true):starEach (e::r) env=(false,eval e env)::starEach r env:=by
  cases e <;> first | rfl | cases h
theorem SL.nil:SL K c [] nilL where
  run:=fun f ok v own Q P pos h o hp=>Wp.sNil (.mk hp ⟨rfl,h⟩)
  plain:=fun q_ q_=>rfl
  each:=fun q_ q_ e=>by cases e
  next:=fun q_ q_ e=>by cases e
theorem SL.cons {e:Expr}{es:List Expr}{p:PT}{a:LT}(hs:plainArg e=true) (s:SE K c e p) (t:SL K c es a):SL K c (e::es) (consL p a) where
  run:=fun f ok v own Q P pos h o hp=>Wp.sCons (starEach_plain hs) ((s f ok v own _ P h o hp).go fun d o₁ own₁ hp₁ q va=>(t.run f ok v own₁ _ _ pos q o₁ hp₁).go fun ds o₂ own₂ hp₂ qq=>by obtain ⟨hl,q'⟩:=qq;exact .mk hp₂ ⟨congrArg (·+1) hl,q'⟩)
  plain:=fun env pos=>by
    rw [starEach_plain hs]
    exact t.plain env pos
  each:=fun e' r' h env=>by cases h;exact starEach_plain hs
  next:=fun e' r' h env pos=>by cases h;exact t.plain env pos
end
section
variable {K:Frag}{c:Cn}{f:Fm}{v:Vals}{own:Own}{P:Pins}{Q:D→Own→Prop}{QB:Bool→Own→Prop}{Qs:List D→Own→Prop}
theorem Wp.permPost {α β:Type}{w:World}{B:Heap}{A:Around}{R:Rl β α}{t:Sem α}{Q:β→Own→Prop}{X:Addr→Own→Prop}(h:Wp w B A R P own t (fun b o=>∃o',o.Perm o'∧Q b o') X):Wp w B A R P own t Q X:=fun s N I hp =>
  wpAny_mono (h s N I hp) (fun a s' hq=>by obtain ⟨N',o,b,S,I',r,o',p,q⟩:=hq;exact ⟨N',o',b,S.perm p,I'.perm p,r,q⟩) fun q_ q_ x=>x
theorem Meth.fromPerm {w:World}{B:Heap}{A:Around}{d:D}{name:Str}{fv:Value}{o:Own}{x:Addr×O}(h:Meth w B A d own name fv) (hp:o.Perm (x::own)):Meth w B A d o name fv:=fun s N u I r=>h s N u (Inv.drop (hid:=[x]) (I.perm hp)) r
theorem SE.call0 {g:Expr}{fv:Value}{pos} (hf:∀env,eval (.Call g [] [] pos) env=(eval g env >>= fun v=>callWith pos v [] (backTo pos (starEach [] env)) (backToKw pos (keywordEach [] env))))
    (sg:SE K c g (kD (.cst fv))) (hk:∀f,Ok K c f→KeepOk f.w f.B fv):SE K c (.Call g [] [] pos) (callP fv nilL):=fun f ok v own Q P h o hp =>
  Wp.eCall0 (hf _) ((sg f ok v own (fun d o=>d=.cst fv∧o=own) P ⟨rfl,rfl⟩ o hp).go fun d o₁ own₁ hp₁ qq=>by obtain ⟨e,e'⟩:=qq;exact ⟨fv,e,hk f ok,VCall.sound h (e'▸hp₁)⟩)
theorem SE.call {g e:Expr}{r:List Expr}{fv:Value}{a:LT}{pos} (hf:∀env,eval (.Call g (e::r) [] pos) env=(eval g env >>= fun v=>callWith pos v [] (backTo pos (starEach (e::r) env)) (backToKw pos (keywordEach [] env))))
    (sg:SE K c g (kD (.cst fv))) (hk:∀f,Ok K c f→KeepOk f.w f.B fv) (sl:SL K c (e::r) a):SE K c (.Call g (e::r) [] pos) (callP fv a):=fun f ok v own Q P h o hp =>
  Wp.eCall (hf _) (sl.each _ _ rfl _) (sl.next _ _ rfl _ _) ((sg f ok v own (fun d o=>d=.cst fv∧o=own) P ⟨rfl,rfl⟩ o hp).go fun d o₁ own₁ hp₁ qq=>by obtain ⟨e,e'⟩:=qq;exact ⟨fv,e,hk f ok,
    (sl.run f ok v own _ P pos h o₁ (e'▸hp₁)).go fun ds o₂ own₂ hp₂ qq=>by obtain ⟨_,q⟩:=qq;exact VCall.sound q hp₂⟩)
noncomputable def notBare:Expr→Bool
  | .Call (.Name _ _) [] [] _=>false
  | _=>true
theorem attrBase_eq {o:Expr}(h:notBare o=true) {name:Str}{env:Env}{t:Sem Value}:attributeBase o name env t=t:=by
  cases o with
  | Call g a k pos =>
    cases g with
    | Name x p =>
      cases a with
      | nil =>
        cases k with
        | nil=>cases h
        | cons=>rfl
      | cons=>rfl
    | _=>rfl
  | _=>rfl
theorem SE.meth {g e:Expr}{r:List Expr}{p:PT}{name:Str}{a:LT}{apos pos:Pos}(hb:notBare g=true) (hline:(apos.endLine == pos.line)=true) (hlen:(decide (r.length<20))=true) (sg:SE K c g p) (sl:SL K c (e::r) a) :
    SE K c (.Call (.Attribute g name apos) (e::r) [] pos) (methP p name a):=fun f ok v own Q P h o hp=>by
  refine Wp.eMeth (attrBase_eq hb) hline ?_ (sl.each _ _ rfl _) (sl.next _ _ rfl _ _) ((sg f ok v own _ P h o hp).go fun d o₁ own₁ hp₁ qq=>by obtain ⟨fv,hm,hk,q⟩:=qq;exact ⟨fv,hm.fromPerm hp₁,hk,fun va =>
    (sl.run f ok v own₁ _ _ pos q o₁ hp₁).go fun ds o₂ own₂ hp₂ qq=>by obtain ⟨_,q'⟩:=qq;exact VCall.sound q' hp₂⟩)
  have h1:=sl.plain f.env pos
  unfold methodCallForm
  rw [List.all_eq_not_any_not]
  simp only [Bool.not_not,h1]
  have:r.length+1+0<30:=by have:=of_decide_eq_true hlen;lia
  simp [this]
theorem SE.meth0 {g:Expr}{p:PT}{name:Str}{apos pos:Pos}(hb:notBare g=true) (hline:(apos.endLine == pos.line)=true) (sg:SE K c g p) :
    SE K c (.Call (.Attribute g name apos) [] [] pos) (methP p name nilL):=fun f ok v own Q P h o hp =>
  Wp.eMeth0 (attrBase_eq hb) hline ((sg f ok v own _ P h o hp).go fun d o₁ own₁ hp₁ qq=>by obtain ⟨fv,hm,hk,q⟩:=qq;exact ⟨fv,hm.fromPerm hp₁,hk,VCall.sound q hp₁⟩)
theorem SE.attr {g:Expr}{p:PT}{name:Str}{pos:Pos}(hb:notBare g=true) (sg:SE K c g p):SE K c (.Attribute g name pos) (attrP p name):=fun f ok v own Q P h o hp =>
  Wp.eAttr (attrBase_eq hb) ((sg f ok v own _ P h o hp).go fun d o₁ own₁ hp₁ q va=>q P va o₁ hp₁)
theorem SE.sub {g i:Expr}{pg pi:PT}{pos:Pos}(hs:PlainSub i) (sg:SE K c g pg) (si:SE K c i pi):SE K c (.Subscript g i pos) (subP pg pi):=fun f ok v own Q P h o hp =>
  Wp.Sub (E2 (k:=subscriptTail g i) sg si ok (fun a b own h P va vb=>h g i hs P va vb) h hp)
noncomputable def SP (K:Frag) (c:Cn) (e:Option Expr) (p:PT):Prop:=∀f,Ok K c f→∀v own Q P,p f v own Q→f.E RV P v own (evalPart e f.env) Q
theorem SP.none:SP K c none noPart:=fun f ok v own Q P h o hp=>Wp.partNone (.mk hp h)
theorem SP.some {e:Expr}{p:PT}(s:SE K c e p):SP K c (some e) p:=fun f ok v own Q P h o hp=>Wp.partSome (s f ok v own Q P h o hp)
theorem asPart_is {d:D}{k:Option Int→Prop}(h:asPart d k):∃lo,d=optD lo∧k lo:=by
  cases d <;> first | exact False.elim h | exact ⟨_,by exact rfl,h⟩ | exact ⟨Option.none,rfl,h⟩
theorem SE.slice {g:Expr}{lo hi st:Option Expr}{pg pl ph ps:PT}{p pos:Pos}(ops:Value→Value→List Value) (hs:∀o i,subscripted (.Slice lo hi st p) false o i=operate (ops o i) (getItem o i)) (sg:SE K c g pg) (sl:SP K c lo pl) (sh:SP K c hi ph) (ss:SP K c st ps) :
    SE K c (.Subscript g (.Slice lo hi st p) pos) (sliceP pg pl ph ps):=fun f ok v own Q P h o hp =>
  Wp.SubSlice ((sg f ok v own _ P h o hp).go fun d o₁ own₁ hp₁ q va=>(sl f ok v own₁ _ _ q o₁ hp₁).go fun l o₂ own₂ hp₂ q₂=>by
    obtain ⟨l',e,q₂⟩:=asPart_is q₂
    refine ⟨l',e,fun vl=>(sh f ok v own₂ _ _ q₂ o₂ hp₂).go fun u o₃ own₃ hp₃ q₃=>?_⟩
    obtain ⟨u',e,q₃⟩:=asPart_is q₃
    refine ⟨u',e,fun vu=>(ss f ok v own₃ _ _ q₃ o₃ hp₃).go fun s o₄ own₄ hp₄ q₄=>?_⟩
    obtain ⟨s',e,q₄⟩:=asPart_is q₄
    exact ⟨s',e,q₄ g _ ops hs o₄ hp₄⟩)
theorem SE.list {es:List Expr}{a:LT}{pos} (hl:decide (es.length<100)=true) (sl:SL K c es a):SE K c (.List es pos) (listP a):=fun f ok v own Q P h o hp =>
  Wp.eList ((sl.run f ok v own _ P pos h o hp).go fun ds o₁ own₁ hp₁ qq=>by obtain ⟨hn,q⟩:=qq;exact ⟨by rw [hn,sizeLine_eq];have:=of_decide_eq_true hl;lia,fun cc=>.new hp₁ (q cc)⟩)
theorem SE.tup {es:List Expr}{a:LT}{k pos} (hl:decide (es.length<100)=true) (sl:SL K c es a):SE K c (.Tuple es k pos) (tupP a):=fun f ok v own Q P h o hp =>
  Wp.eTuple ((sl.run f ok v own _ P pos h o hp).go fun ds o₁ own₁ hp₁ qq=>by obtain ⟨hn,q⟩:=qq;exact ⟨by rw [hn,sizeLine_eq];have:=of_decide_eq_true hl;omega,.mk hp₁ q⟩)
theorem SE.dict0 {pos}:SE K c (.Dict [] [] pos) dict0:=fun f ok v own Q P h o hp=>by
  rcases h with h | h
  · exact Wp.eDictTd fun cc=>.new hp (h cc)
  · exact Wp.eDictId fun cc=>.new hp (h cc)
noncomputable def pairsOf (pos:Pos) (env:Env):List (Option Expr)→List Expr→List (Sem Value×Sem Value)
  | some k::ks,e::es=>(eval k env,(do let x ← eval e env;PySem.standAt pos;pure x))::pairsOf pos env ks es
  | _,_=>[]
structure SD (K:Frag) (c:Cn) (keys:List (Option Expr)) (vals:List Expr) (pos:Pos) (names:List Str) (a:LT):Prop where
  shape:∀env,(evalEachOpt keys env).zip ((evalEach vals env).map fun v=>do let x ← v;PySem.standAt pos;pure x)=(pairsOf pos env keys vals).map fun p=>(some p.1,p.2)
  len:∀env,(pairsOf pos env keys vals).length=names.length
  run:∀f,Ok K c f→∀v own Q P,a f v own Q→f.E RPairs P v own (evalPairs (pairsOf pos f.env keys vals)) (fun l o=>∃ds,l=names.zip ds∧ds.length=names.length∧Q ds o)
theorem SD.nil {pos}:SD K c [] [] pos [] nilL where
  shape:=fun q_=>rfl
  len:=fun q_=>rfl
  run:=fun f ok v own Q P h o hp=>Wp.pairsNil (.mk hp ⟨[],rfl,rfl,h⟩)
theorem SD.cons {x:Str}{n p} {e:Expr}{ks:List (Option Expr)}{es:List Expr}{pos} {names:List Str}{p1:PT}{a:LT}(s:SE K c e p1) (t:SD K c ks es pos names a):SD K c (some (.Constant (.str x) n p)::ks) (e::es) pos (x::names) (consL p1 a) where
  shape:=fun env=>congrArg _ (t.shape env)
  len:=fun env=>congrArg (·+1) (t.len env)
  run:=fun f ok v own Q P h o hp=>Wp.pairsCons (Wp.cStr rfl ⟨x,rfl,fun va=>(s f ok v own _ _ h o hp).go fun d o₁ own₁ hp₁ q b=>(t.run f ok v own₁ _ _ q o₁ hp₁).go fun l o₂ own₂ hp₂ qq=>by obtain ⟨ds,e,hl,q₂⟩:=qq;exact     .mk hp₂ ⟨d::ds,by rw [e];rfl,congrArg (·+1) hl,q₂⟩⟩)
theorem zip_keys {α β:Type}:∀{l:List α}{m:List β},m.length=l.length→(l.zip m).map (·.1)=l
  | [],[],_=>rfl
  | x::l,y::m,h=>congrArg (x::·) (zip_keys (by simpa using h))
theorem SE.dict {keys:List (Option Expr)}{vals:List Expr}{pos} {names:List Str}{a:LT}(h0:names≠[]) (hl:names.length≤15) (nd:names.Nodup) (sd:SD K c keys vals pos names a):SE K c (.Dict keys vals pos) (dictP names a):=fun f ok v own Q P h o hp =>
  Wp.eDict (sd.shape _) (fun e=>h0 (List.length_eq_zero_iff.mp (by rw [← sd.len f.env,e];rfl))) (by rw [sd.len];exact hl) fun cc =>
    (sd.run f ok v _ _ P (h cc) _ ((hp.cons _).trans (.swap ..))).mono (fun l o₁ hh=>by
      obtain ⟨own₁,hp₁,ds,e,hn,o',U,q⟩:=hh
      obtain ⟨m',U',hp'⟩:=U.fromPerm hp₁
      subst e
      exact ⟨m',U',by rw [zip_keys hn];exact nd,.mk hp' q⟩) fun q_ q_ x=>x
theorem VOp.list {cc e:Addr}{l l':List D}(h1:Has own cc (.list l)) (h2:Has own e (.list l')) (hz:l.length+l'.length≤16777216) (h:∀r,Q (.ref r) ((r,.list (l++l'))::own)):VOp f v .Add (.ref cc) (.ref e) own Q:=fun P va vb o hp =>
  Wp.addL (h1.fromPerm hp) (h2.fromPerm hp) hz fun r=>.new hp (h r)
theorem VOp.tup {l l':List D}(h1:l≠[]) (h2:l'≠[]) (hz:l.length+l'.length≤16777216) (h:Q (.tup (l++l')) own):VOp f v .Add (.tup l) (.tup l') own Q:=fun P va vb o hp=>Wp.addT h1 h2 hz (.mk hp h)
theorem VSub.list {cc:Addr}{l:List D}{i:Int}{d:D}(ho:Has own cc (.list l)) (h0:0≤i) (hi:i<2 ^ 63) (hd:l[i.toNat]?=some d) (h:Q d own):VSub f v (.ref cc) (.int i) own Q:=fun value slice hs P va vb o hp=>Wp.listAt (ho.fromPerm hp) h0 hi hd hs (.mk hp h)
theorem VSub.listNeg {cc:Addr}{l:List D}{i:Int}{d:D}(ho:Has own cc (.list l)) (h0:i<0) (h1:-(l.length:Int)≤i) (hi:-(2 ^ 63)≤i) (hd:l[(i+l.length).toNat]?=some d) (h:Q d own):VSub f v (.ref cc) (.int i) own Q:=fun value slice hs P va vb o hp=>Wp.listAtNeg (ho.fromPerm hp) h0 h1 hi hd hs (.mk hp h)
theorem VSub.tup {l:List D}{i:Int}{j:Nat}{d:D}(h0:-(2 ^ 63)≤i) (hi:i<2 ^ 63) (hj:seqIndex? i l.length=some j) (hd:l[j]?=some d) (h:Q d own):VSub f v (.tup l) (.int i) own Q:=fun value slice hs P va vb o hp=>Wp.tupAt h0 hi hj hd hs (.mk hp h)
theorem VSub.str {l:List Nat}{i:Int}{ch:Nat}(h0:0≤i) (hz:l.length≤1048576) (hd:l[i.toNat]?=some ch) (h:Q (.str [ch]) own):VSub f v (.str l) (.int i) own Q:=fun value slice hs P va vb o hp=>Wp.strAt h0 hz hd hs (.mk hp h)
theorem VSub.bytes {l:List UInt8}{i:Int}{ch:UInt8}(h0:0≤i) (hz:l.length≤1048576) (hd:l[i.toNat]?=some ch) (h:Q (.int ch.toNat) own):VSub f v (.bytes l) (.int i) own Q:=fun value slice hs P va vb o hp=>Wp.bytesAt h0 hz hd hs (.mk hp h)
theorem VSub.sd {cc:Addr}{l:List (Str×D)}{x:Str}{xs:List Nat}{d:D}(e:xs=x.cps.toList) (ho:Has own cc (.sd l)) (hd:KGet l x d) (h:Q d own):VSub f v (.ref cc) (.str xs) own Q:=by
  subst e
  exact fun value slice hs P va vb o hp=>Wp.sdAt (ho.fromPerm hp) hd hs (.mk hp h)
theorem VSub.id {cc:Addr}{l:List (Int×D)}{x:Int}{d:D}(ho:Has own cc (.idict l)) (hd:(x,d)∈l) (h:Q d own):VSub f v (.ref cc) (.int x) own Q:=fun value slice hs P va vb o hp=>Wp.idAt (ho.fromPerm hp) hd hs (.mk hp h)
theorem VSub.td {cc:Addr}{l:List (List Int×D)}{x:List Int}{d:D}(hu:f.A.units+1<cLine) (ho:Has own cc (.td l)) (hd:(x,d)∈l) (h:Q d own):VSub f v (.ref cc) (.tup (x.map .int)) own Q:=fun value slice hs P va vb o hp=>Wp.tdAt hu (ho.fromPerm hp) hd hs (.mk hp h)
theorem VSlice.list {cc:Addr}{l l':List D}{lo hi st:Option Int}(ho:Has own cc (.list l)) (e:sliceL l lo hi st=some l') (hz:l.length≤16777216) (h0:st≠some 0) (h:∀a,Q (.ref a) ((a,.list l')::own)):VSlice f v (.ref cc) lo hi st own Q:=fun value slice ops hs o hp=>Sliced.list (ho.fromPerm hp) e hz h0 hs fun a=>.new hp (h a)
theorem VSlice.bytes {l:List UInt8}{lo hi:Option Int}(h1:∀i,lo=some i→0≤i) (h2:∀i,hi=some i→0≤i) (hz:l.length≤1048576) (h:Q (.bytes (sliceB l lo hi)) own):VSlice f v (.bytes l) lo hi none own Q:=fun value slice ops hs o hp=>Sliced.bytes h1 h2 hz hs (.mk hp h)
theorem VSlice.str {l l':List Nat}{lo hi:Option Int}(e:Txt.slice ⟨l.toArray⟩ lo hi=⟨l'.toArray⟩) (hz:l.length≤1048576) (h:Q (.str l') own):VSlice f v (.str l) lo hi none own Q:=fun value slice ops hs o hp=>Sliced.str e hz hs (.mk hp h)
theorem VAttr.obj (hK:K.In f.B) {C d x:Addr}{name:Str}{ns:List Str}{l:List D}{y:D}(ok:AttrOk K C name) (h1:Has own x (.inst C d)) (h2:Has own d (.attrs ns l)) (hg:AGet ns l name y) (hv:Plain y) (h:Q y own):VAttr f v name (.ref x) own Q:=fun P va o hp=>Wp.attrOwn hK ok (h1.fromPerm hp) (h2.fromPerm hp) hg hv (.mk hp h)
theorem VAttr.inst (hK:K.In f.B) {C:Addr}{name:Str}{ns:List Str}{l:List D}{y:D}(ok:AttrOk K C name) (hg:AGet ns l name y) (hv:Plain y) (h:Q y own):VAttr f v name (.inst C ns l) own Q:=fun P va o hp=>Wp.attrInst hK ok hg hv (.mk hp h)
theorem VAttr.exc (hK:K.In f.B) {C fI x dd:Addr}{tb:Option Addr}{y:D}(ok:ExcOk K C fI) (h1:Has own x (.exc C dd tb)) (h2:Has own dd (.attrs ["told"] [y])) (hv:Plain y) (h:Q y own):VAttr f v "told" (.ref x) own Q:=fun P va o hp=>Wp.attrExc hK ok (h1.fromPerm hp) (h2.fromPerm hp) hv (.mk hp h)
theorem VCmp.neNil {n:Nat}{cc e:Addr}{xs:List Int}(cx:Cx f.A n) (h1:Has own cc (.list (xs.map .int))) (h2:Has own e (.list [])) (h:QB (!xs.isEmpty) own):VCmp f v .NotEq (.ref cc) (.ref e) own QB:=fun P va vb o hp=>Wp.neNil cx (h1.fromPerm hp) (h2.fromPerm hp) (.mk hp h)
theorem VCmp.notInB {e:List UInt8}{ls:List (List UInt8)}(h:QB (!ls.any (· == e)) own):VCmp f v .NotIn (.bytes e) (.tup (ls.map .bytes)) own QB:=fun P va vb o hp=>Wp.notInB (.mk hp h)
theorem Readable.fromPerm {o:Own}{x:Addr×O}{d:D}{p:PyData}(h:Readable own d p) (hp:o.Perm (x::own)):Readable o d p:=h.imp id fun hq=>by obtain ⟨cc,l,ps,e,hh,r⟩:=hq;exact ⟨cc,l,ps,e,hh.fromPerm hp,r⟩
theorem VCmp.eqP {d e:D}{p q:PyData}(h1:Readable own d p) (h2:Readable own e q) (c1:p.canLay0=true) (c2:q.canLay0=true) (hu:f.A.units+min p.depth q.depth<cLine) (h:QB (PyData.eqv p q) own):VCmp f v .Eq d e own QB:=fun P va vb o hp=>Wp.eqP (h1.fromPerm hp) (h2.fromPerm hp) c1 c2 hu (.mk hp h)
theorem VCmp.neP {d e:D}{p q:PyData}(h1:Readable own d p) (h2:Readable own e q) (c1:p.canLay0=true) (c2:q.canLay0=true) (hu:f.A.units+min p.depth q.depth<cLine) (h:QB (!PyData.eqv p q) own):VCmp f v .NotEq d e own QB:=fun P va vb o hp=>Wp.neP (h1.fromPerm hp) (h2.fromPerm hp) c1 c2 hu (.mk hp h)
theorem VCmp.notInP {e:D}{ps:List PyData}{l:List D}{q:PyData}(h1:pyDs l=some ps) (h2:pyD e=some q) (c1:PyData.canLayAll0 ps=true) (c2:q.canLay0=true) (hu:f.A.units+1+min (PyData.depthAll ps) q.depth<cLine) (h:QB (!ps.any fun y=>PyData.eqv y q) own):VCmp f v .NotIn e (.tup l) own QB:=fun P va vb o hp=>Wp.notInP h1 h2 c1 c2 hu (.mk hp h)
end
inductive Sl where
  | loc (i:Nat) | cell (i:Nat)
@[reducible] noncomputable def setAt:Vals→Nat→D→(Vals→Prop)→Prop
  | _::v,0,d,k=>k (some d::v)
  | u::v,n+1,d,k=>setAt v n d fun v'=>k (u::v')
  | [],_,_,_=>False
@[reducible] noncomputable def setS (s:Sl) (f:Fm) (v:Vals) (own:Own) (d:D) (k:Vals→Own→Prop):Prop:=match s with
  | .loc i=>setAt v i d fun v'=>k v' own
  | .cell i=>∃u o',Put own (f.cs i) (.cell u) (.cell (some d)) o'∧k v o'
@[reducible] noncomputable def setAll:List Sl→Fm→List D→Vals→Own→(Vals→Own→Prop)→Prop
  | [],_,[],v,own,k=>k v own
  | s::ss,f,d::ds,v,own,k=>setS s f v own d fun v o=>setAll ss f ds v o k
  | _,_,_,_,_,_=>False
@[reducible] noncomputable def setRev:List Sl→Fm→List D→Vals→Own→(Vals→Own→Prop)→Prop
  | [],_,[],v,own,k=>k v own
  | s::ss,f,d::ds,v,own,k=>setRev ss f ds v own fun v o=>setS s f v o d k
  | _,_,_,_,_,_=>False
noncomputable abbrev ST:=Fm→Vals→Own→(Fl→Vals→Own→Prop)→Prop
noncomputable abbrev TT:=Fm→Vals→Own→D→(Vals→Own→Prop)→Prop
@[reducible] noncomputable def tgtS (s:Sl):TT:=fun f v own d k=>setS s f v own d k
@[reducible] noncomputable def tgtT (ss:List Sl):TT:=fun f v own d k=>match d with | .tup ds=>setAll ss f ds v own k | _=>False
@[reducible] noncomputable def nilS:ST:=fun q_ v own Q=>Q .next v own
@[reducible] noncomputable def thenS (k:Vals→Own→Prop) (Q:Fl→Vals→Own→Prop):Fl→Vals→Own→Prop:=fun fl v o=>match fl with | .next=>k v o | .brk=>Q .brk v o | .cont=>Q .cont v o | .ret d=>Q (.ret d) v o
@[reducible] noncomputable def seqS (s r:ST):ST:=fun f v own Q=>s f v own (thenS (fun v o=>r f v o Q) Q)
@[reducible] noncomputable def asgS (e:PT) (t:TT):ST:=fun f v own Q=>e f v own fun d o=>t f v o d fun v o=>Q .next v o
@[reducible] noncomputable def tgtR (ss:List Sl):TT:=fun f v own d k=>match d with | .tup ds=>setRev ss f ds v own k | _=>False
@[reducible] noncomputable def exprS (e:PT):ST:=fun f v own Q=>e f v own fun d o=>match d with | .none=>Q .next v o | .bool _=>Q .next v o | _=>False
@[reducible] noncomputable def ifS (t:BT) (a b:ST):ST:=fun f v own Q=>t f v own fun c o=>(c=true→a f v o Q)∧(c=false→b f v o Q)
@[reducible] noncomputable def retS (e:PT):ST:=fun f v own Q=>e f v own fun d o=>Q (.ret d) v o
@[reducible] noncomputable def ret0:ST:=fun f v own Q=>Q (.ret .none) v own
noncomputable def VSetAttr (f:Fm) (v:Vals) (name:Str) (x d:D) (own:Own) (Q:Own→Prop):Prop:=∀P va vb,f.E (β:=Unit) RE ((x,va)::(d,vb)::P) v own (PySem.setAttr va name vb) (fun q_ o=>Q o)
noncomputable def VSetItem (f:Fm) (v:Vals) (x y d:D) (own:Own) (Q:Own→Prop):Prop:=∀P va vb u,f.E (β:=Unit) RE ((y,vb)::(x,va)::(d,u)::P) v own (setItem va vb u) (fun q_ o=>Q o)
@[reducible] noncomputable def asgA (e o:PT) (name:Str):ST:=fun f v own Q=>e f v own fun d o₁=>o f v o₁ fun x o₂=>VSetAttr f v name x d o₂ fun o=>Q .next v o
@[reducible] noncomputable def asgI (e o i:PT):ST:=fun f v own Q=>e f v own fun d o₁=>o f v o₁ fun x o₂=>i f v o₂ fun y o₃=>VSetItem f v x y d o₃ fun o=>Q .next v o
@[reducible] noncomputable def raiseS (C:Addr) (e:PT):ST:=fun f v own q_=>e f v own fun d o=>∃x dd,d=.ref x∧Has o x (.exc C dd none)∧∀o',o'.Perm (f.ns v::o)→f.X x o'
@[reducible] noncomputable def subS (i:Nat) (e:PT):ST:=fun f v own Q=>getAt v i fun a=>e f v own fun b o=>match a with
  | .int m=>(match b with | .int n=>setAt v i (.int (m-n)) fun v'=>Q .next v' o | _=>False)
  | _=>False
section
variable {K:Frag}{c:Cn}{f:Fm}{v:Vals}{own:Own}{P:Pins}{Q:Fl→Vals→Own→Prop}
inductive TgN (x:Vals→Addr×O) (k:Vals→Own→Prop) (o':Own):Prop
  | intro (v':Vals) (own':Own) (hp:o'.Perm (x v'::own')) (q:k v' own')
noncomputable abbrev Fm.tg (f:Fm) (k:Vals→Own→Prop):Own→Prop:=TgN f.ns k
noncomputable abbrev Fm.aft {β:Type}(f:Fm) (Q:β→Vals→Own→Prop):β→Own→Prop:=fun b=>f.tg (Q b)
noncomputable def Fm.S (f:Fm) (P:Pins) (v:Vals) (own:Own) (t:Sem Flow) (Q:Fl→Vals→Own→Prop):Prop:=∀o,o.Perm (f.ns v::own)→Wp f.w f.B f.A RF P o t (f.aft Q) f.X
theorem TgN.mk {x:Vals→Addr×O}{k:Vals→Own→Prop}{o:Own}(hp:o.Perm (x v::own)) (q:k v own):TgN x k o:=⟨v,own,hp,q⟩
noncomputable def SS (K:Frag) (c:Cn) (st:Stmt) (p:ST):Prop:=∀f,Ok K c f→∀v own Q P,p f v own Q→f.S P v own (exec st f.env) Q
noncomputable def SSs (K:Frag) (c:Cn) (sts:List Stmt) (p:ST):Prop:=∀f,Ok K c f→∀v own Q P,p f v own Q→f.S P v own (execs sts f.env) Q
theorem setAt_set {k:Vals→Prop}{x:Str}{d:D}:∀{ln:List Str}{v:Vals}{i:Nat},ln[i]?=some x→setAt v i d k→∃v',LSet ln v x d v'∧k v'
  | [],_,_,h,_=>by simp at h
  | _::_,[],_,_,g=>g.elim
  | y::ln,u::v,0,h,g=>by cases h;exact ⟨_,.here,g⟩
  | y::ln,u::v,i+1,h,g=>by
    obtain ⟨v',s,kd⟩:=setAt_set (ln:=ln) (x:=x) (v:=v) (i:=i) (by simpa using h) g
    exact ⟨_,.there s,kd⟩
theorem Put.head {o o':Own}{a:Addr}{x x':O}(U:Put o a x x' o') (hp:o.Perm ((a,x)::own)):o'.Perm ((a,x')::own):=by
  obtain ⟨p,q,e,e'⟩:=U.split
  subst e e'
  exact List.perm_middle.trans (((List.perm_cons _).mp (List.perm_middle.symm.trans hp)).cons _)
noncomputable def SlOk (c:Cn) (x:Str):Sl→Prop
  | .loc i=>c.names.lookup x=some .local∧c.ln[i]?=some x
  | .cell i=>c.names.lookup x=some .cell∧c.cm.lookup x=some i
theorem setS_bind {x:Str}{s:Sl}{d:D}{k:Vals→Own→Prop}{o:Own}(ok:Ok K c f) (hs:SlOk c x s) (hp:o.Perm (f.ns v::own)) (h:setS s f v own d k):∃o' v' own',Bind f.env x d o o'∧o'.Perm (f.ns v'::own')∧k v' own':=by
  obtain ⟨F,cells,E,hc⟩:=ok.ev
  cases s with
  | loc i =>
    obtain ⟨v',s,q⟩:=setAt_set (ln:=f.ln) (by rw [ok.ln];exact hs.2) h
    obtain ⟨o',U⟩:=(ns_has hp).put (.ns f.fr f.ln v')
    exact ⟨o',v',own,E.bLoc hs.1 (ns_has hp) s U,U.head hp,q⟩
  | cell i =>
    obtain ⟨u,own',U,q⟩:=h
    obtain ⟨o',U',hp'⟩:=U.fromPerm hp
    exact ⟨o',v,own',E.bCell hs.1 (hc _ _ hs.2) U',hp',q⟩
inductive SlsOk (c:Cn):List Str→List Sl→Prop
  | nil:SlsOk c [] []
  | cons {x s xs ss}:SlOk c x s→SlsOk c xs ss→SlsOk c (x::xs) (s::ss)
inductive SetOut (f:Fm) (xs:List Str) (ds:List D) (o:Own) (k:Vals→Own→Prop):Prop
  | mk (o':Own) (v':Vals) (own':Own) (b:BindAll f.env xs ds o o') (hp:o'.Perm (f.ns v'::own')) (q:k v' own')
theorem setAll_bind (ok:Ok K c f) {xs:List Str}{ss:List Sl}{ds:List D}{k:Vals→Own→Prop}{v own} {o:Own}(hs:SlsOk c xs ss) (hp:o.Perm (f.ns v::own)) (h:setAll ss f ds v own k):SetOut f xs ds o k:=by
  induction hs generalizing ds v own o with
  | nil =>
    cases ds with
    | nil=>exact ⟨o,v,own,.nil,hp,h⟩
    | cons=>exact False.elim h
  | cons a r ih =>
    cases ds with
    | nil=>exact False.elim h
    | cons d ds =>
      obtain ⟨o₁,v₁,own₁,b,hp₁,q⟩:=setS_bind ok a hp h
      obtain ⟨o₂,v₂,own₂,b₂,hp₂,q₂⟩:=ih hp₁ q
      exact ⟨o₂,v₂,own₂,.cons b b₂,hp₂,q₂⟩
theorem BindAll.snoc {env:Env}{x:Str}{d:D}{xs ds o o₁ o₂} (h:BindAll env xs ds o o₁) (b:Bind env x d o₁ o₂):BindAll env (xs++[x]) (ds++[d]) o o₂:=by
  induction h with
  | nil=>exact .cons b .nil
  | cons a r ih=>exact .cons a (ih b)
theorem setRev_bind (ok:Ok K c f) {xs:List Str}{ss:List Sl}{ds:List D}{k:Vals→Own→Prop}{v own} {o:Own}(hs:SlsOk c xs ss) (hp:o.Perm (f.ns v::own)) (h:setRev ss f ds v own k):ds.length=xs.length∧SetOut f xs.reverse ds.reverse o k:=by
  induction hs generalizing ds k with
  | nil =>
    cases ds with
    | nil=>exact ⟨rfl,o,v,own,.nil,hp,h⟩
    | cons=>exact False.elim h
  | cons a r ih =>
    cases ds with
    | nil=>exact False.elim h
    | cons d ds =>
      obtain ⟨hl,o₁,v₁,own₁,b,hp₁,q⟩:=ih h
      obtain ⟨o₂,v₂,own₂,b₂,hp₂,q₂⟩:=setS_bind ok a hp₁ q
      exact ⟨congrArg (·+1) hl,o₂,v₂,own₂,by rw [List.reverse_cons,List.reverse_cons];exact b.snoc b₂,hp₂,q₂⟩
theorem SSs.nil:SSs K c [] nilS:=fun f ok v own Q P h o hp=>Wp.nil (.mk hp h)
theorem SSs.cons {s:Stmt}{r:List Stmt}{p q:ST}(h1:SS K c s p) (h2:SSs K c r q):SSs K c (s::r) (seqS p q):=fun f ok v own Q P h o hp =>
  Wp.cons ((h1 f ok v own _ P h o hp).mono (fun fl o' hq=>by
    obtain ⟨v',own',hp',q⟩:=hq
    cases fl with
    | next=>exact h2 f ok v' own' Q P q o' hp'
    | _=>exact .mk hp' q) fun q_ q_ x=>x)
noncomputable def noComp:Expr→Bool
  | .ListComp .. | .SetComp .. | .DictComp ..=>false
  | _=>true
theorem swaps_no {e:Expr}{t:Option Expr}{n:Nat}{env:Env}(h:noComp e=true):swapsWith e t n env=pure false:=by
  cases e <;> first | rfl | cases h
theorem swaps_item {g i:Expr}{p:Pos}{e:Expr}{n:Nat}{env:Env}:swapsWith e (some (.Subscript g i p)) n env=pure false:=by
  cases e <;> rfl
theorem swaps_attr {g:Expr}{x:Str}{p:Pos}{e:Expr}{n:Nat}{env:Env}:swapsWith e (some (.Attribute g x p)) n env=pure false:=by
  cases e <;> rfl
theorem SS.asgName {x:Str}{p' pos} {e:Expr}{p:PT}{s:Sl}(hn:noComp e=true) (hs:SlOk c x s) (h1:SE K c e p):SS K c (.Assign [.Name x p'] e pos) (asgS p (tgtS s)):=fun f ok v own Q P h o hp =>
  Wp.AssignName ((h1 f ok v own _ P h o hp).go fun d o₁ own₁ hp₁ q=>by
    obtain ⟨o',v',own',b,hp',q'⟩:=setS_bind ok hs hp₁ q
    exact ⟨o',b,.mk hp' q'⟩) (swaps_no hn)
theorem SS.expr {e:Expr}{p:PT}{pos} (hn:noComp e=true) (h1:SE K c e p):SS K c (.Expr e pos) (exprS p):=fun f ok v own Q P h o hp=>by
  obtain ⟨F,cells,E,hc⟩:=ok.ev
  refine Wp.sExpr ((h1 f ok v own _ P h o hp).go fun d o₁ own₁ hp₁ q=>?_) E.still (swaps_no hn)
  cases d <;> first | exact False.elim q | exact ⟨.inl rfl,.mk hp₁ q⟩ | exact ⟨.inr ⟨_,rfl⟩,.mk hp₁ q⟩
theorem SS.ifs {t:Expr}{a b:List Stmt}{pt:BT}{pa pb:ST}{pos} (ht:SB K c t pt) (ha:SSs K c a pa) (hb:SSs K c b pb):SS K c (.If t a b pos) (ifS pt pa pb):=fun f ok v own Q P h o hp =>
  Wp.If ((ht f ok v own _ P h o hp).go fun cc o₁ own₁ hp₁ qq=>by obtain ⟨q1,q2⟩:=qq;exact ⟨fun e=>ha f ok v own₁ Q P (q1 e) o₁ hp₁,fun e=>hb f ok v own₁ Q P (q2 e) o₁ hp₁⟩)
theorem SS.ret {e:Expr}{p:PT}{pos} (h1:SE K c e p):SS K c (.Return (some e) pos) (retS p):=fun f ok v own Q P h o hp =>
  Wp.Return ((h1 f ok v own _ P h o hp).go fun d o₁ own₁ hp₁ q=>.mk hp₁ q)
theorem SS.ret0 {pos}:SS K c (.Return none pos) ret0:=fun f ok v own Q P h o hp=>Wp.Return0 (.mk hp h)
theorem swapped_noTup {es:List Expr}{n p'} {e:Expr}{env:Env}(h:(match e with | .Tuple ..=>false | _=>true)=true):swappedStores [.Tuple es n p'] e env=pure none:=by
  cases e <;> first | rfl | exact absurd h Bool.false_ne_true
theorem swapped_attr {g e:Expr}{name p'} {env:Env}:swappedStores [.Attribute g name p'] e env=pure none:=rfl
theorem SS.asgAttr {g e:Expr}{p pg:PT}{name p' pos} (h1:SE K c e p) (hg:SE K c g pg):SS K c (.Assign [.Attribute g name p'] e pos) (asgA p pg name):=fun f ok v own Q P h o hp =>
  Wp.AssignAttr ((swaps_attr:swapsWith e (some (.Attribute g name p')) pos.line f.env=pure false)) swapped_attr ((h1 f ok v own _ P h o hp).go fun d o₁ own₁ hp₁ q va=>(hg f ok v own₁ _ _ q o₁ hp₁).go fun x o₂ own₂ hp₂ q₂ vb =>     (q₂ _ vb va o₂ hp₂).go fun q_ o₃ own₃ hp₃ q₃=>.mk hp₃ q₃)
theorem SS.asgItem {g i e:Expr}{p pg pi:PT}{p' pos} (h1:SE K c e p) (hg:SE K c g pg) (hi:SE K c i pi):SS K c (.Assign [.Subscript g i p'] e pos) (asgI p pg pi):=fun f ok v own Q P h o hp =>
  Wp.AssignSub swaps_item ((h1 f ok v own _ P h o hp).go fun d o₁ own₁ hp₁ q u=>(hg f ok v own₁ _ _ q o₁ hp₁).go fun x o₂ own₂ hp₂ q₂ va=>(hi f ok v own₂ _ _ q₂ o₂ hp₂).go fun y o₃ own₃ hp₃ q₃ vb =>     (q₃ _ va vb u o₃ hp₃).go fun q_ o₄ own₄ hp₄ q₄=>.mk hp₄ q₄)
theorem VSetAttr.obj (hK:K.In f.B) {C d x:Addr}{name:Str}{ns ns':List Str}{l l':List D}{y:D}{own':Own}{Q:Own→Prop}(ok:AttrOk K C name) (h1:Has own x (.inst C d)) (h2:Put own d (.attrs ns l) (.attrs ns' l') own') (hg:ASet ns l name y ns' l') (nd':ns'.Nodup) (hz:ns.length≤100) (h:Q own'):VSetAttr f v name (.ref x) y own Q:=fun P va vb o hp=>by
  obtain ⟨o',U,hp'⟩:=h2.fromPerm hp
  exact Wp.setAttr hK ok (h1.fromPerm hp) U hg nd' hz (.mk hp' h)
theorem VSetAttr.exc (hK:K.In f.B) {C fI x t:Addr}{y:D}{Q:Own→Prop}(ok:ExcOk K C fI) (h1:∀dd,∃own',Put own x (.exact (excObj C t)) (.exc C dd none) own'∧Q ((dd,.attrs ["told"] [y])::own')):VSetAttr f v "told" (.ref x) y own Q:=fun P va vb o hp=>Wp.setAttrExc hK ok fun dd=>by
  obtain ⟨own',U,q⟩:=h1 dd
  obtain ⟨o',U',hp'⟩:=U.fromPerm hp
  exact ⟨o',U',.new hp' q⟩
theorem VSetItem.sd {cc:Addr}{l l':List (Str×D)}{x:Str}{xs:List Nat}{d:D}{own':Own}{Q:Own→Prop}(e:xs=x.cps.toList) (ho:Put own cc (.sd l) (.sd l') own') (hd:KSet l x d l') (hz:l.length≤1000) (h:Q own'):VSetItem f v (.ref cc) (.str xs) d own Q:=fun P va vb u o hp=>by
  obtain ⟨o',U,hp'⟩:=ho.fromPerm hp
  subst e
  exact Wp.sdSet U hd hz (.mk hp' h)
theorem VSetItem.id {cc:Addr}{l:List (Int×D)}{x:Int}{d:D}{own':Own}{Q:Own→Prop}(ho:Put own cc (.idict l) (.idict (storeD l x d)) own') (hz:l.length≤1000) (h:Q own'):VSetItem f v (.ref cc) (.int x) d own Q:=fun P va vb u o hp=>by
  obtain ⟨o',U,hp'⟩:=ho.fromPerm hp
  exact Wp.idSet U hz (.mk hp' h)
theorem VSetItem.td {cc:Addr}{l:List (List Int×D)}{x:List Int}{d:D}{own':Own}{Q:Own→Prop}(hu:f.A.units+1<cLine) (ho:Put own cc (.td l) (.td (storeD l x d)) own') (hz:l.length≤1000) (h:Q own'):VSetItem f v (.ref cc) (.tup (x.map .int)) d own Q:=fun P va vb u o hp=>by
  obtain ⟨o',U,hp'⟩:=ho.fromPerm hp
  exact Wp.tdSet hu U hz (.mk hp' h)
end
@[reducible] noncomputable def nones:List Str→Vals
  | []=>[]
  | _::r=>none::nones r
theorem nones_eq:∀l:List Str,nones l=l.map fun q_=>none
  | []=>rfl
  | _::r=>congrArg (none::·) (nones_eq r)
noncomputable def Sb (o' o:Own):Prop:=∃q,List.Sublist q o∧q.Perm o'
theorem Sb.refl (o:Own):Sb o o:=⟨o,.refl o,.refl o⟩
theorem Sb.cons {o' o:Own}(a:Addr×O) (h:Sb o' o):Sb o' (a::o):=let ⟨q,h1,h2⟩:=h;⟨q,h1.cons a,h2⟩
theorem Sb.perm {o' o:Own}(h:o.Perm o'):Sb o' o:=⟨o,.refl o,h⟩
@[reducible] noncomputable def turnV (J:Vals→Own→Prop) (Q:Fl→Vals→Own→Prop):Fl→Vals→Own→Prop:=fun fl v o=>match fl with | .next=>∃o',Sb o' o∧J v o' | .cont=>∃o',Sb o' o∧J v o' | .brk=>Q .next v o | .ret r=>Q (.ret r) v o
inductive VFor (f:Fm) (t:TT) (body:ST) (v:Vals) (own:Own) (dx:D) (Q:Fl→Vals→Own→Prop):Prop
  | mk (ds:List D) (C:Own→Prop) (J:Nat→Vals→Own→Prop) (XB:Addr→Own→Prop) (it:Iterable f.w f.B f.A dx ds C) (hC:∀k v o,J k v o→∀o',(∀p∈o,p∈o')→C o')
      (h0:J 0 v own) (hx:Notes f.w f.B f.A f.env XB f.X)
      (hb:∀k d v o,ds[k]?=some d→J k v o→t (f.x XB) v o d fun v o=>body (f.x XB) v o (turnV (J (k+1)) Q))
      (he:∀v o,J ds.length v o→Q .next v o)
inductive VWhile (f:Fm) (t:BT) (body:ST) (v:Vals) (own:Own) (Q:Fl→Vals→Own→Prop):Prop
  | mk (J:Nat→Vals→Own→Prop) (n:Nat) (XB:Addr→Own→Prop) (h0:J n v own) (hx:Notes f.w f.B f.A f.env XB f.X)
      (hb:∀n v o,J n v o→t (f.x XB) v o fun c o=>(c=false→Q .next v o)∧(c=true→body (f.x XB) v o fun fl v o=>match fl with | .next=>∃o' m,Sb o' o∧m<n∧J m v o' | .cont=>∃o' m,Sb o' o∧m<n∧J m v o' | .brk=>Q .next v o | .ret r=>Q (.ret r) v o))
inductive VTry (f:Fm) (C:Addr) (body handler:ST) (v:Vals) (own:Own) (Q:Fl→Vals→Own→Prop):Prop
  | mk (pr:Prop) (d:D) (keep:Own) (fr:∃outer,f.A.frames=some (f.env::outer))
      (hb:body (f.x fun x o=>pr∧Thr C d (f.ns v::keep) false x o) v own Q)
      (hh:pr→∀e o,Thr C d keep true e (f.ns v::o)→handler (f.ax (f.A.mark (some (.ref e))) fun q_ q_=>False) v o Q)
@[reducible] noncomputable def delAt:Vals→Nat→(Vals→Prop)→Prop
  | [],_,_=>False
  | u::v,0,k=>isSome' u fun q_=>k (none::v)
  | u::v,n+1,k=>delAt v n fun v'=>k (u::v')
inductive VTryAs (f:Fm) (C:Addr) (i:Nat) (body handler:ST) (v:Vals) (own:Own) (Q:Fl→Vals→Own→Prop):Prop
  | mk (pr:Prop) (d:D) (keep:Own) (fr:∃outer,f.A.frames=some (f.env::outer))
      (hb:body (f.x fun x o=>pr∧Thr C d (f.ns v::keep) false x o) v own Q)
      (hh:pr→∀e o,Thr C d keep true e (f.ns v::o)→setAt v i (.ref e) fun v₁=>handler (f.ax (f.A.mark (some (.ref e))) fun q_ q_=>False) v₁ o fun fl v₂ o₂=>setAt v₂ i .none fun v₃=>delAt v₃ i fun v₄=>Q fl v₄ o₂)
noncomputable abbrev CompX (pr:Prop) (Cc:Addr) (d:D) (ln:List Str) (L:Addr):Addr→Own→Prop:=fun x o=>pr∧Thr Cc d [] false x o∧∃vals,Has o L (.ns false ln vals)
inductive VComp (f:Fm) (ln:List Str) (t:TT) (ifs:BT) (elt:PT) (v:Vals) (own:Own) (dx:D) (F:Addr→Own→Prop):Prop
  | mk (ds:List D) (C:Own→Prop) (J:Nat→List D→Own→Prop) (pr:Prop) (Cc:Addr) (d:D) (it:Iterable f.w f.B f.A dx ds C) (hC:∀k rs o,J k rs o→∀o',(∀p∈o,p∈o')→C o')
      (h0:J 0 [] own) (hz:ds.length≤16777216) (hl:∀k rs o,J k rs o→rs.length≤k) (hx:pr→(∃outer,f.A.frames=some (f.env::outer))∧∀x o,Thr Cc d [] true x o→f.X x o)
      (hb:∀k e rs o L env,ds[k]?=some e→J k rs o→∀f',f'=f.comp env L ln (CompX pr Cc d ln L) →
        t f' (nones ln) o e fun v o=>ifs f' v o fun ok o=>(ok=false→J (k+1) rs o)∧(ok=true→elt f' v o fun y o=>∃y' o',Yield y o y' o'∧J (k+1) (rs++[y']) o'))
      (he:∀acc rs o,J ds.length rs o→F acc ((acc,.list rs)::o))
@[reducible] noncomputable def forS (it:PT) (t:TT) (body:ST):ST:=fun f v own Q=>it f v own fun dx o=>VFor f t body v o dx Q
@[reducible] noncomputable def whileS (t:BT) (body:ST):ST:=fun f v own Q=>VWhile f t body v own Q
@[reducible] noncomputable def tryS (C:Addr) (body handler:ST):ST:=fun f v own Q=>VTry f C body handler v own Q
@[reducible] noncomputable def tryAsS (C:Addr) (i:Nat) (body handler:ST):ST:=fun f v own Q=>VTryAs f C i body handler v own Q
@[reducible] noncomputable def compP (ln:List Str) (t:TT) (ifs:BT) (elt:PT) (it:PT):PT:=fun f v own Q=>it f v own fun dx o=>VComp f ln t ifs elt v o dx fun acc o=>Q (.ref acc) o
@[reducible] noncomputable def asgC (ln:List Str) (t:TT) (ifs:BT) (elt:PT) (it:PT) (s:Sl):ST:=fun f v own Q=>it f v own fun dx o=>VComp f ln t ifs elt v o dx fun acc o=>setS s f v o (.ref acc) fun v o=>Q .next v o
section
variable {K:Frag}{c:Cn}{f:Fm}{v:Vals}{own:Own}{P:Pins}{Q:Fl→Vals→Own→Prop}
theorem Ok.x (ok:Ok K c f) {X:Addr→Own→Prop}:Ok K c (f.x X):=⟨ok.ev,ok.gr,ok.hh,ok.ln,ok.gl,ok.exc⟩
theorem Ok.quiet (ok:Ok K c f) {X:Addr→Own→Prop}{A:Around}(hc:c'  = {c with quiet:=true }):Ok K c' (f.ax A X):=by
  subst hc
  exact ⟨ok.ev,ok.gr,(fun h=>by cases h),ok.ln,ok.gl,ok.exc⟩
noncomputable def SA (K:Frag) (c:Cn) (t:Expr) (p:TT):Prop:=∀f,Ok K c f→∀v own d k P,p f v own d k→∀va o,o.Perm (f.ns v::own)→Wp f.w f.B f.A RE ((d,va)::P) o (assign t f.env va) (fun (_:Unit)=>f.tg k) f.X
theorem SA.name {x:Str}{pos} {s:Sl}(hs:SlOk c x s):SA K c (.Name x pos) (tgtS s):=fun f ok v own d k P h va o hp=>by
  obtain ⟨o',v',own',b,hp',q⟩:=setS_bind ok hs hp h
  exact Wp.assignName b ⟨v',own',hp',q⟩
theorem SA.tup {es:List Expr}{xs:List Str}{ss:List Sl}{n pos} (hq:c.quiet=false) (hn:NameList es xs) (hs:SlsOk c xs ss):SA K c (.Tuple es n pos) (tgtT ss):=fun f ok v own d k P h va o hp=>by
  cases d <;> first | exact False.elim h | skip
  obtain ⟨o',v',own',b,hp',q⟩:=setAll_bind ok hs hp h
  exact Wp.assignTup (ok.hh hq) hn b ⟨v',own',hp',q⟩
theorem SS.asgTup {es:List Expr}{xs:List Str}{ss:List Sl}{n p' pos} {e:Expr}{p:PT}(hq:c.quiet=false) (hn:NameList es xs) (hs:SlsOk c xs ss) (hc:noComp e=true) (hsw:∀env cells F L,EV env c.names L cells F→swappedStores [.Tuple es n p'] e env=pure none) (h1:SE K c e p) :
    SS K c (.Assign [.Tuple es n p'] e pos) (asgS p (tgtT ss)):=fun f ok v own Q P h o hp=>by
  obtain ⟨F,cells,E,_⟩:=ok.ev
  refine Wp.AssignTup (ok.hh hq) hn (swaps_no hc:swapsWith e (some (.Tuple es n p')) pos.line f.env=pure false) (hsw _ _ _ _ E) ((h1 f ok v own _ P h o hp).go fun d o₁ own₁ hp₁ q=>?_)
  cases d <;> first | exact False.elim q | skip
  obtain ⟨o',v',own',b,hp',q⟩:=setAll_bind ok hs hp₁ q
  exact ⟨_,o',rfl,b,.mk hp' q⟩
theorem SS.asgRev {es:List Expr}{xs:List Str}{ss:List Sl}{n p' pos} {e:Expr}{p:PT}(hq:c.quiet=false) (hs:SlsOk c xs ss) (hc:noComp e=true) (hsw:∀env cells F L,EV env c.names L cells F→swappedStores [.Tuple es n p'] e env=pure (some xs)) (h1:SE K c e p) :
    SS K c (.Assign [.Tuple es n p'] e pos) (asgS p (tgtR ss)):=fun f ok v own Q P h o hp=>by
  obtain ⟨F,cells,E,_⟩:=ok.ev
  refine Wp.AssignSwap (ok.hh hq) (swaps_no hc:swapsWith e (some (.Tuple es n p')) pos.line f.env=pure false) (hsw _ _ _ _ E) ((h1 f ok v own _ P h o hp).go fun d o₁ own₁ hp₁ q=>?_)
  cases d <;> first | exact False.elim q | skip
  obtain ⟨hl,o',v',own',b,hp',q⟩:=setRev_bind ok hs hp₁ q
  exact ⟨_,o',rfl,hl,b,.mk hp' q⟩
theorem SS.raise {e:Expr}{p:PT}{pos} {C:Addr}(hq:c.quiet=false) (hC:C∈c.exc) (h1:SE K c e p):SS K c (.Raise (some e) none pos) (raiseS C p):=fun f ok v own Q P h o hp =>
  Wp.Raise ok.gr.K (ok.hh hq) (ok.exc C hC) ((h1 f ok v own _ P h o hp).mono (fun d o₁ hq=>by
    obtain ⟨own₁,hp₁,x,dd,e,hh,q⟩:=hq
    exact ⟨x,dd,e,hh.fromPerm hp₁,q _ hp₁⟩) fun q_ q_ x=>x)
theorem SS.augSub {x:Str}{p' pos} {e:Expr}{p:PT}{i:Nat}(h1:c.names.lookup x=some .local) (h2:c.ln[i]?=some x) (he:SE K c e p):SS K c (.AugAssign (.Name x p') .Sub e pos) (subS i p):=fun f ok v own Q P h o hp=>by
  obtain ⟨F,cells,E,_⟩:=ok.ev
  obtain ⟨d,s,q⟩:=getAt_slot (ln:=f.ln) (x:=x) (i:=i) (by rw [ok.ln];exact h2) h
  refine Wp.AugName fun st N I hpp=>?_
  obtain ⟨_,_,m,hn,hv⟩:=(I.owned _ (ns_has hp).mem).2
  obtain ⟨j,e1,e2⟩:=s.at
  obtain ⟨u,e3,e4⟩:=hv j x d e1 e2
  refine wpAny_loadName_local E.k ((E.kindOf x).trans h1) (by rw [E.l];exact hn) e3 ⟨N,o,d,.refl ..,I,e4,fun a=>(he f ok v own _ _ q o hp).go fun d' o₁ own₁ hp₁ q₁ b=>?_⟩
  cases d <;> first | exact False.elim q₁ | skip
  cases d' <;> first | exact False.elim q₁ | skip
  obtain ⟨o',v',own',bd,hp',q'⟩:=setS_bind (s:=.loc i) (k:=fun v' o=>Q .next v' o) ok ⟨h1,h2⟩ hp₁ q₁
  exact Wp.isubI ⟨o',bd,.mk hp' q'⟩
inductive SubP (q:Own→Prop) (o:Own):Prop
  | intro (o' o'':Own) (hs:List.Sublist o' o'') (p:o.Perm o'') (h:q o')
theorem Wp.subPost {α β:Type}{w:World}{B:Heap}{A:Around}{R:Rl β α}{t:Sem α}{own:Own}{Q:β→Own→Prop}{X:Addr→Own→Prop}(h:Wp w B A R P own t (fun b=>SubP (Q b)) X):Wp w B A R P own t Q X:=fun s N I hp =>
  h.useC I hp (fun a s' N' o b S I' r g=>by
    obtain ⟨o',o'',hs,p,q⟩:=g
    exact ⟨N',o',b,⟨S.same,S.nf,S.grow,S.n1,S.n2,fun b hb=>S.own2 b ((p.map _).mem_iff.mpr ((hs.map _).subset hb)),S.os⟩,(I'.perm p).sub (fun p hp=>hs.subset hp) ((hs.map _).nodup (I'.perm p).nd),r,q⟩) fun x s' N' o S I' q=>⟨N',o,x,S,I',rfl,q⟩
theorem subJ {J:Vals→Own→Prop}{T:Own→Prop}{o₃ own₃:Own}{v₃:Vals}(p₃:o₃.Perm (f.ns v₃::own₃)) (q:∃o',Sb o' own₃∧J v₃ o') (h:∀o,f.tg J o→T o):SubP T o₃:=by
  obtain ⟨o',⟨q₀,hs,hq⟩,q⟩:=q
  exact ⟨_,_,hs.cons_cons _,p₃,h _ ⟨v₃,o',hq.cons _,q⟩⟩
theorem turnBody {J:Vals→Own→Prop}{fl:Fl}{o₃:Own}(h:f.aft (turnV J Q) fl o₃):SubP (turnF (f.tg J) (f.aft Q) fl) o₃:=by
  obtain ⟨v₃,own₃,p₃,q₃⟩:=h
  cases fl with
  | next=>exact subJ p₃ q₃ fun q_ h=>h
  | cont=>exact subJ p₃ q₃ fun q_ h=>h
  | brk=>exact ⟨_,_,.refl _,.refl _,.mk p₃ q₃⟩
  | ret r=>exact ⟨_,_,.refl _,.refl _,.mk p₃ q₃⟩
theorem turn_ok {t:Expr}{body:List Stmt}{pt:TT}{pb:ST}(ok:Ok K c f) (ht:SA K c t pt) (hb:SSs K c body pb) {XB:Addr→Own→Prop}{J:Vals→Own→Prop}{d:D}{v':Vals}{own' o:Own}{P:Pins}(va:Value) (pp:o.Perm (f.ns v'::own'))
    (h:pt (f.x XB) v' own' d fun v o=>pb (f.x XB) v o (turnV J Q)):Wp f.w f.B f.A RE ((d,va)::P) o (assign t f.env va) (fun (_:Unit) o₁=>Wp f.w f.B f.A RF ((d,va)::P) o₁ (execs body f.env) (turnF (f.tg J) (f.aft Q)) XB) XB :=
  (ht (f.x XB) ok.x v' own' d _ P h va o pp).mono (fun q_ o₂ g=>by
    obtain ⟨v₂,own₂,p₂,q₂⟩:=g
    exact Wp.subPost ((hb (f.x XB) ok.x v₂ own₂ _ _ q₂ o₂ p₂).mono (fun q_ q_ g=>turnBody (f:=f) g) fun q_ q_ x=>x)) fun q_ q_ x=>x
theorem TgN.mem {x:Vals→Addr×O}{k:Vals→Own→Prop}{C:Own→Prop}{o:Own}(hC:∀v o,k v o→∀o',(∀p∈o,p∈o')→C o') (g:TgN x k o):C o:=by
  obtain ⟨v',own',p,j⟩:=g
  exact hC v' own' j o fun x hx=>p.mem_iff.mpr (.tail _ hx)
theorem TgN.imp {x:Vals→Addr×O}{k k':Vals→Own→Prop}{o:Own}(h:∀v o,k v o→k' v o) (g:TgN x k o):TgN x k' o:=by
  obtain ⟨v',own',p,j⟩:=g
  exact ⟨v',own',p,h _ _ j⟩
theorem SS.for {t it:Expr}{body:List Stmt}{pos} {pt:TT}{pi:PT}{pb:ST}(hs:∀env x,foldedSetIterable it env x=pure x) (ht:SA K c t pt) (hi:SE K c it pi) (hb:SSs K c body pb):SS K c (.For t it body [] pos) (forS pi pt pb):=fun f ok v own Q P h o hp =>
  Wp.ForI (hs _) ((hi f ok v own _ P h o hp).mono (fun dx o₁ g=>by
    obtain ⟨own₁,hp₁,⟨ds,C,J,XB,hit,hC,h0,hx,hbd,he⟩⟩:=g
    exact ⟨ds,C,fun k=>f.tg (J k),XB,hit,fun k o=>TgN.mem (hC k),⟨v,own₁,hp₁,h0⟩,hx,fun a k d o hd g va=>by
      obtain ⟨v',own',p,j⟩:=g
      exact turn_ok ok ht hb va p (hbd k d v' own' hd j),fun o=>TgN.imp he⟩) fun q_ q_ x=>x)
theorem SS.while {t:Expr}{body:List Stmt}{pos} {pt:BT}{pb:ST}(ht:SB K c t pt) (hb:SSs K c body pb):SS K c (.While t body [] pos) (whileS pt pb):=fun f ok v own Q P h o hp=>by
  obtain ⟨J,n,XB,h0,hx,hbd⟩:=h
  refine Wp.While (J:=fun k=>f.tg (J k)) ⟨v,own,hp,h0⟩ hx fun n o g=>?_
  obtain ⟨v',own',p,j⟩:=g
  refine (ht (f.x XB) ok.x v' own' _ P (hbd n v' own' j) o p).mono (fun cc o₁ g=>?_) fun q_ q_ x=>x
  obtain ⟨own₁,p₁,q1,q2⟩:=g
  refine ⟨fun e=>.mk p₁ (q1 e),fun e=>Wp.subPost ((hb (f.x XB) ok.x v' own₁ _ P (q2 e) o₁ p₁).mono (fun fl o₃ g=>?_) fun q_ q_ x=>x)⟩
  have key:∀{o₃ own₃:Own}{v₃:Vals},o₃.Perm (f.ns v₃::own₃)→(∃o' m,Sb o' own₃∧m<n∧J m v₃ o')→SubP (fun o₂=>∃m,m<n∧f.tg (J m) o₂) o₃:=fun p₃ q=>by
    obtain ⟨o',m,hs,hm,q⟩:=q
    exact subJ (J:=J m) p₃ ⟨o',hs,q⟩ fun q_ h=>⟨m,hm,h⟩
  obtain ⟨v₃,own₃,p₃,q₃⟩:=g
  cases fl with
  | next=>exact key p₃ q₃
  | cont=>exact key p₃ q₃
  | brk=>exact ⟨_,_,.refl _,.refl _,.mk p₃ q₃⟩
  | ret r=>exact ⟨_,_,.refl _,.refl _,.mk p₃ q₃⟩
end
section
variable {K:Frag}{c:Cn}{f:Fm}{v:Vals}{own:Own}{P:Pins}{Q:Fl→Vals→Own→Prop}
theorem Thr.permD {C:Addr}{d:D}{keep:Own}{n:Bool}{e:Addr}{o:Own}{x:Addr×O}(t:Thr C d (x::keep) n e o):∃o',o.Perm (x::o')∧Thr C d keep n e (x::o'):=by
  have hm:x∈o:=by
    obtain ⟨_,_,_,_,_,_,hk⟩:=t
    exact (hk x (.head _)).1.mem
  obtain ⟨a,b,e⟩:=List.append_of_mem hm
  refine ⟨a++b,by rw [e];exact List.perm_middle,(t.keep fun p hp=>.tail _ hp).sub fun p hp=>?_⟩
  rw [e] at hp
  rcases List.mem_append.mp hp with h | h
  · exact .tail _ (List.mem_append_left _ h)
  · rcases List.mem_cons.mp h with rfl | h
    · exact .head _
    · exact .tail _ (List.mem_append_right _ h)
theorem SS.try {x:Str}{np hpos pos:Pos}{b₀:Stmt}{body suite:List Stmt}{C:Addr}{pb ph:ST}(hC:C∈c.exc) (h1:c.names.lookup x=some .globalImplicit) (h2:(x == ("__debug__" : Str))=false) (h3:nsIn K mainGlobals x=some (some (.ref C)))
    (hb:SSs K c body pb) (hh:SSs K {c with quiet:=true } (b₀::suite) ph):SS K c (.Try body [.ExceptHandler (some (.Name x np)) none (b₀::suite) hpos] [] [] pos) (tryS C pb ph):=fun f ok v own Q P h o hp=>by
  obtain ⟨F,cells,E,_⟩:=ok.ev
  obtain ⟨pr,d,keep,⟨outer,hfr⟩,hbd,hhd⟩:=h
  have bd:=(hb (f.x fun x o=>pr∧Thr C d (f.ns v::keep) false x o) ok.x v own _ P hbd o hp)
  by_cases hpr:pr
  · refine Wp.Try ok.gr.K (ok.exc C hC) hfr E.f E.k E.g ((E.kindOf x).trans h1) (ok.gr.gn h3) h2 (bd.mono (fun q_ q_ q=>q) fun q_ q_ t=>t.2) fun e o t=>?_
    obtain ⟨o',p,t'⟩:=t.permD
    exact hh (f.ax (f.A.mark (some (.ref e))) fun q_ q_=>False) (ok.quiet rfl) v o' _ P (hhd hpr e o' t') o p
  · refine Wp.Try (d:=d) (keep:=[(0,.exc 0 0 none)]) ok.gr.K (ok.exc C hC) hfr E.f E.k E.g ((E.kindOf x).trans h1) (ok.gr.gn h3) h2 (bd.mono (fun q_ q_ q=>q) fun q_ q_ t=>(hpr t.1).elim) fun e o t=>?_
    obtain ⟨_,_,_,_,_,_,hk⟩:=t
    exact ((hk _ (.head _)).2).elim
theorem delAt_del {k:Vals→Prop}{x:Str}:∀{ln:List Str}{v:Vals}{i:Nat},ln[i]?=some x→delAt v i k→∃v',LDel ln v x v'∧k v'
  | [],_,_,h,_=>by simp at h
  | _::_,[],_,_,g=>g.elim
  | y::ln,none::v,0,h,g=>g.elim
  | y::ln,some _::v,0,h,g=>by cases h;exact ⟨_,.here,g⟩
  | y::ln,u::v,i+1,h,g=>by
    obtain ⟨v',s,kd⟩:=delAt_del (ln:=ln) (x:=x) (v:=v) (i:=i) (by simpa using h) g
    exact ⟨_,.there s,kd⟩
theorem LSet.slot {ln:List Str}{v v':Vals}{x:Str}{d:D}(h:LSet ln v x d v'):LSlot ln v' x d:=by
  induction h with
  | here=>exact .here
  | there _ ih=>exact .there ih
theorem SS.tryAs {x n:Str}{np hpos pos:Pos}{b₀:Stmt}{body suite:List Stmt}{C:Addr}{i:Nat}{pb ph:ST}(hC:C∈c.exc) (h1:c.names.lookup x=some .globalImplicit) (h2:(x == ("__debug__" : Str))=false) (h3:nsIn K mainGlobals x=some (some (.ref C)))
    (n1:c.names.lookup n=some .local) (n2:c.ln[i]?=some n)
    (hb:SSs K c body pb) (hh:SSs K {c with quiet:=true } (b₀::suite) ph):SS K c (.Try body [.ExceptHandler (some (.Name x np)) (some n) (b₀::suite) hpos] [] [] pos) (tryAsS C i pb ph):=fun f ok v own Q P h o hp=>by
  obtain ⟨F,cells,E,_⟩:=ok.ev
  obtain ⟨pr,d,keep,⟨outer,hfr⟩,hbd,hhd⟩:=h
  have bd:=(hb (f.x fun x o=>pr∧Thr C d (f.ns v::keep) false x o) ok.x v own _ P hbd o hp)
  by_cases hpr:pr
  · refine Wp.TryAs ok.gr.K (ok.exc C hC) hfr E.f E.k E.g ((E.kindOf x).trans h1) (ok.gr.gn h3) h2 ((E.kindOf n).trans n1) (bd.mono (fun q_ q_ q=>q) fun q_ q_ t=>t.2) fun e o t=>?_
    obtain ⟨o',p,t'⟩:=t.permD
    obtain ⟨o₁,v₁,own₁,b,hp₁,q⟩:=setS_bind (s:=.loc i) (x:=n) (k:=fun v₁ o=>ph (f.ax (f.A.mark (some (.ref e))) fun q_ q_=>False) v₁ o fun fl v₂ o₂=>setAt v₂ i .none fun v₃=>delAt v₃ i fun v₄=>Q fl v₄ o₂) ok ⟨n1,n2⟩ p (hhd hpr e o' t')
    refine ⟨o₁,b,(hh (f.ax (f.A.mark (some (.ref e))) fun q_ q_=>False) (ok.quiet rfl) v₁ own₁ _ P q o₁ hp₁).mono (fun fl o₂ hh=>?_) fun q_ q_ x=>x⟩
    obtain ⟨v₂,own₂,hp₂,q₂⟩:=hh
    obtain ⟨v₃,s₃,q₃⟩:=setAt_set (ln:=f.ln) (x:=n) (by rw [ok.ln];exact n2) q₂
    obtain ⟨o₃,U₃⟩:=(ns_has hp₂).put (.ns f.fr f.ln v₃)
    have hp₃:=U₃.head hp₂
    obtain ⟨v₄,s₄,q₄⟩:=delAt_del (ln:=f.ln) (x:=n) (by rw [ok.ln];exact n2) q₃
    obtain ⟨o₄,U₄⟩:=(ns_has hp₃).put (.ns f.fr f.ln v₄)
    exact ⟨o₃,o₄,f.fr,f.ln,v₃,v₄,E.bLoc n1 (ns_has hp₂) s₃ U₃,by rw [E.l];exact U₄,s₃.slot,s₄,.mk (U₄.head hp₃) q₄⟩
  · refine Wp.TryAs (d:=d) (keep:=[(0,.exc 0 0 none)]) ok.gr.K (ok.exc C hC) hfr E.f E.k E.g ((E.kindOf x).trans h1) (ok.gr.gn h3) h2 ((E.kindOf n).trans n1) (bd.mono (fun q_ q_ q=>q) fun q_ q_ t=>(hpr t.1).elim) fun e o t=>?_
    obtain ⟨_,_,_,_,_,_,hk⟩:=t
    exact ((hk _ (.head _)).2).elim
theorem Wp.frm {α β:Type}{w:World}{B:Heap}{A:Around}{R:Rl β α}{t:Sem α}{fp rest o:Own}{Q₁ Q:β→Own→Prop}{X₁ X:Addr→Own→Prop}(h:Wp w B A R P fp t Q₁ X₁) (hp:o.Perm (fp++rest)) (hq:∀b o₁,Q₁ b o₁→Q b (o₁++rest)) (hx:∀b o₁,X₁ b o₁→X b (o₁++rest)):Wp w B A R P o t Q X :=
  h.frame (fun p=>hp.mem_iff.trans List.mem_append) (fun q_=>trivial) hp hq hx
theorem Del.app {l l' r:Own}{p:Addr×O}(h:Del l p l'):Del (l++r) p (l'++r):=by
  induction h with
  | here=>exact .here
  | there _ ih=>exact .there ih
theorem Yield.wrap {d d':D}{o o' r:Own}{x:Addr×O}(h:Yield d o d' o'):Yield d (x::(o++r)) d' (x::(o'++r)):=by
  induction h with
  | done s=>exact .done ((s.append_right r).cons_cons x)
  | list a _ ih=>exact .list (.there a.app) ih
  | inst a b _ ih=>exact .inst (.there a.app) (.there b.app) ih
noncomputable def freeIn (ns:List (Str×NameKind)) (x:Str):Bool:=ns.any fun p=>p.1 == x && p.2 == .free
theorem closeL_ok {cells:List (Str×Addr)}:∀(ns:List (Str×NameKind)) (cs:List (Str×Addr)),(∀p∈ns,p.2=.free→∃a,cells.lookup p.1=some a) →
    ∃cl,closeL cells ns cs=some cl∧∀x,cl.lookup x=if freeIn ns x then cells.lookup x else cs.lookup x
  | [],cs,_=>⟨cs,rfl,fun x=>by simp [freeIn]⟩
  | (y,k)::r,cs,h=>by
    unfold closeL
    cases hk:(k == NameKind.free) with
    | true =>
      have ek:k=.free:=by simpa using hk
      subst ek
      obtain ⟨a,ha⟩:=h (y,.free) (.head _) rfl
      obtain ⟨cl,e,hc⟩:=closeL_ok r ((y,a)::cs) fun p hp=>h p (.tail _ hp)
      refine ⟨cl,by simp only [if_true,ha];exact e,fun x=>?_⟩
      rw [hc x]
      unfold freeIn
      rw [List.any_cons]
      cases hr:(r.any fun p=>p.1 == x && p.2 == .free) with
      | true=>simp
      | false =>
        simp only [Bool.or_false,Bool.false_eq_true,if_false]
        by_cases hx:y=x
        · subst hx;simp [ha]
        · have h1:(y == x)=false:=by simpa using hx
          have h2:(x == y)=false:=by simpa using fun e:x=y=>hx e.symm
          rw [List.lookup_cons,h2]
          simp [h1]
    | false =>
      obtain ⟨cl,e,hc⟩:=closeL_ok r cs fun p hp=>h p (.tail _ hp)
      refine ⟨cl,by simp only [Bool.false_eq_true,if_false];exact e,fun x=>?_⟩
      rw [hc x]
      unfold freeIn
      rw [List.any_cons]
      simp only [hk,Bool.and_false,Bool.false_or]
noncomputable def Cn.inner (c:Cn) (scope:Scope) (ln:List Str):Cn:={c with names:=relNames scope.names c.names,ln:=ln,cm:=c.cm.filter fun p=>freeIn scope.names p.1 }
structure ScOk (c:Cn) (scope:Scope) (ln:List Str):Prop where
  kind:scope.kind=.function
  names:∀x∈scope.names,x.2=.local→scope.names.lookup x.1=some .local
  cell:∀x∈scope.names,x.2≠.cell
  ln:ln.Nodup
  free:∀x∈scope.names,x.2=.free→∃i,c.cm.lookup x.1=some i
theorem lookup_filter {α:Type}{p:Str→Bool}{x:Str}{i:α}:∀{l:List (Str×α)},(l.filter fun q=>p q.1).lookup x=some i→p x=true∧l.lookup x=some i
  | [],h=>by cases h
  | (y,k)::r,h=>by
    rw [List.filter_cons] at h
    rw [List.lookup_cons]
    cases hp:p y with
    | true =>
      rw [hp,if_pos rfl,List.lookup_cons] at h
      cases hx:(x == y) with
      | true =>
        rw [hx] at h
        have:x=y:=by simpa using hx
        subst this
        exact ⟨hp,h⟩
      | false=>rw [hx] at h;exact lookup_filter h
    | false =>
      rw [hp] at h
      have h':=lookup_filter (by simpa using h)
      cases hx:(x == y) with
      | true =>
        have:x=y:=by simpa using hx
        subst this
        rw [hp] at h';exact absurd h'.1 (by decide)
      | false=>exact h'
theorem Ok.comp (ok:Ok K c f) {scope:Scope}{ln:List Str}(hs:ScOk c scope ln):∃cl,closureFor scope f.env=pure cl∧∀L X,Ok K (c.inner scope ln) (f.comp (compEnvC scope cl L f.env) L ln X):=by
  obtain ⟨F,cells,E,hc⟩:=ok.ev
  obtain ⟨cl,e,hl⟩:=closeL_ok (cells:=cells) scope.names [] fun p hp hk=>by
    obtain ⟨i,hi⟩:=hs.free p hp hk
    exact ⟨_,hc _ _ hi⟩
  refine ⟨cl,E.clos e,fun L X=>⟨⟨F,cl,E.comp hs.kind,fun x i hx=>?_⟩,ok.gr,ok.hh,rfl,ok.gl,ok.exc⟩⟩
  obtain ⟨h1,h2⟩:=lookup_filter (p:=freeIn scope.names) hx
  rw [hl x,h1,if_pos rfl]
  exact hc _ _ h2
noncomputable def ST2 (K:Frag) (c:Cn) (ifs:List Expr) (p:BT):Prop:=∀f,Ok K c f→∀v own Q P,p f v own Q→f.E RE P v own (testsOf ifs f.env) Q
theorem ST2.nil:ST2 K c [] nilAnd:=fun f ok v own Q P h o hp=>Wp.tests0 (.mk hp h)
theorem ST2.one {e:Expr}{b:BT}(s:SB K c e b):ST2 K c [e] b:=fun f ok v own Q P h o hp=>Wp.tests1 (s f ok v own Q P h o hp)
theorem CompX.more {pr:Prop}{Cc:Addr}{d:D}{ln:List Str}{L x:Addr}{o r:Own}(h:CompX pr Cc d ln L x o):CompX pr Cc d ln L x (o++r):=⟨h.1,h.2.1.sub fun q hq=>List.mem_append_left _ hq,h.2.2.imp fun vals hv=>hv.perm fun q hq=>List.mem_append_left _ hq⟩
theorem VComp.run {elt target:Expr}{ifs:List Expr}{scope:Scope}{cl:List (Str×Addr)}{ln:List Str}{pt:TT}{pi:BT}{pe:PT}{dx:D}{F:Addr→Own→Prop}{own o:Own}{use:Option (Value→Sem Unit)}{Q:D→Own→Prop}
    (hok:∀L X,Ok K (c.inner scope ln) (f.comp (compEnvC scope cl L f.env) L ln X))
    (ht:SA K (c.inner scope ln) target pt) (hi:ST2 K (c.inner scope ln) ifs pi) (he:SE K (c.inner scope ln) elt pe) (h:VComp f ln pt pi pe v own dx F) (hp:o.Perm (f.ns v::own))
    (hfin:∀acc rs own' o,o.Perm (f.ns v::own')→F acc ((acc,.list rs)::own')→CompUse f.w f.B f.A use Q f.X acc rs o):CompIGo f.w f.B f.A P elt target ifs scope cl f.env ln use Q f.X dx o:=by
  obtain ⟨ds,C,J,pr,Cc,d,hit,hC,h0,hz,hl,hx,hb,hF⟩:=h
  refine ⟨ds,C,fun k=>AtN (f.ns v) (J k),CompX pr Cc d ln,hit,hC 0 [] own h0 o fun x hx=>hp.mem_iff.mpr (.tail _ hx),fun k rs o v acc L g=>?_,⟨own,hp,h0⟩,hz,fun k rs o g=>?_,fun a L k e rs o hk g va=>?_,fun L x o t=>?_,fun acc rs o g=>?_⟩
  · obtain ⟨own',p,j⟩:=g
    exact hC k rs own' j _ fun x hx=>.tail _ (.tail _ (p.mem_iff.mpr (.tail _ hx)))
  · obtain ⟨own',p,j⟩:=g
    exact hl k rs own' j
  · obtain ⟨own',p,j⟩:=g
    have ok':=hok L (CompX pr Cc d ln L)
    rw [← nones_eq]
    refine ((ht _ ok' _ own' e _ ((e,va)::(dx,a)::P) (hb k e rs own' L _ hk j _ rfl) va _ (.refl _)).pins fun q hq=>(List.mem_cons.mp hq).elim (fun e=>e▸.head _) id).frm (rest:=[f.ns v]) ((p.trans (List.perm_append_singleton ..).symm).cons _) (fun q_ o₁ g=>?_) fun q_ q_=>CompX.more
    obtain ⟨v₁,own₁,p₁,q₁⟩:=g
    refine Wp.permPost ((hi _ ok' v₁ own₁ _ ((e,va)::(dx,a)::P) q₁ o₁ p₁).frm (rest:=[f.ns v]) (.refl _) (fun ok o₂ g=>?_) fun q_ q_=>CompX.more)
    obtain ⟨own₂,p₂,qf,qt⟩:=g
    refine ⟨_,p₂.append_right _,fun e=>⟨⟨own₂,List.perm_append_singleton ..,qf e⟩⟩,fun e=>?_⟩
    refine Wp.permPost ((he _ ok' v₁ own₂ _ ((_,va)::(dx,a)::P) (qt e) _ (.refl _)).frm (rest:=[f.ns v]) (.refl _) (fun y o₃ g=>?_) fun q_ q_=>CompX.more)
    obtain ⟨own₃,p₃,y',o',hy,hj⟩:=g
    exact ⟨_,p₃.append_right _,hy.wrap,⟨o',List.perm_append_singleton ..,hj⟩⟩
  · obtain ⟨hpr,⟨dd,tb,a1,a2,a3,a4,_⟩,vals,hv⟩:=t
    obtain ⟨⟨outer,hfr⟩,hX⟩:=hx hpr
    exact ⟨outer,Cc,d,vals,hfr,⟨dd,tb,a1,a2,a3,a4,fun p hm=>List.mem_singleton.mp hm▸⟨hv,trivial⟩⟩,hX x⟩
  · obtain ⟨own',p,j⟩:=g
    exact hfin acc rs own' o p (hF acc rs own' j)
theorem SE.comp {elt target iter:Expr}{ifs:List Expr}{scope:Scope}{pos:Pos}{ln:List Str}{pt:TT}{pi:BT}{pe px:PT}(hs:∀env x,foldedSetIterable iter env x=pure x) (hsc:ScOk c scope ln)
    (hx:SE K c iter px) (ht:SA K (c.inner scope ln) target pt) (hi:ST2 K (c.inner scope ln) ifs pi) (he:SE K (c.inner scope ln) elt pe):SE K c (.ListComp elt [⟨target,iter,ifs,0⟩] scope pos) (compP ln pt pi pe px):=fun f ok v own Q P h o hp=>by
  obtain ⟨F,cells,E,_⟩:=ok.ev
  obtain ⟨cl,hcl,hok⟩:=ok.comp hsc
  refine Wp.eComp (hs _) hcl hsc.kind hsc.names hsc.cell hsc.ln E.f ((hx f ok v own _ P h o hp).mono (fun dx o₁ g=>?_) fun q_ q_ x=>x)
  obtain ⟨own₁,hp₁,q⟩:=g
  exact VComp.run hok ht hi he q hp₁ fun acc rs own' o p hq=>.new p hq
theorem SS.asgComp {x:Str}{p' pos₁:Pos}{elt target iter:Expr}{ifs:List Expr}{scope:Scope}{pos:Pos}{ln:List Str}{i:Nat}{pt:TT}{pi:BT}{pe px:PT}(hs:∀env x,foldedSetIterable iter env x=pure x) (hsc:ScOk c scope ln)
    (h1:c.names.lookup x=some .local) (h2:c.ln[i]?=some x) (hl:(p'.line == pos.line)=true) (hn:(scope.names.any fun q=>q.1 == x && (q.2 == .local || q.2 == .cell))=false)
    (hx:SE K c iter px) (ht:SA K (c.inner scope ln) target pt) (hi:ST2 K (c.inner scope ln) ifs pi) (he:SE K (c.inner scope ln) elt pe):SS K c (.Assign [.Name x p'] (.ListComp elt [⟨target,iter,ifs,0⟩] scope pos) pos₁) (asgC ln pt pi pe px (.loc i)):=fun f ok v own Q P h o hp=>by
  obtain ⟨F,cells,E,_⟩:=ok.ev
  obtain ⟨cl,hcl,hok⟩:=ok.comp hsc
  refine Wp.AssignComp (E.swaps h1 hl hn) (hs _) hcl hsc.kind hsc.names hsc.cell hsc.ln E.f ((hx f ok v own _ P h o hp).mono (fun dx o₁ g=>?_) fun q_ q_ x=>x)
  obtain ⟨own₁,hp₁,q⟩:=g
  refine VComp.run hok ht hi he q hp₁ fun acc rs own' o p hq=>?_
  obtain ⟨o',v',own'',b,hp',q'⟩:=setS_bind (s:=.loc i) (k:=fun v o=>Q .next v o) ok ⟨h1,h2⟩ ((p.cons _).trans (.swap ..)) hq
  exact Wp.assignName b (.mk hp' q')
end
section
variable {w:World}{B:Heap}{A:Around}{own:Own}{X:Addr→Own→Prop}{Q:D→Own→Prop}{s:Shared}{N:Addr→Prop}{P:Pins}
noncomputable def enumP (it:Addr) (k:Nat) (ob:Obj):Prop:=∃old,ob={cls:=.type "enumerate", data:=.fields #[.none,.bool false,.ref it,rawInt k,.none,old] }
noncomputable abbrev enumO (e it a:Addr) (k:Nat):Own:=[(e,.sat (enumP it k)),(it,.it "list_iterator" #[.ref a,.int k 0])]
theorem Call.enumerate {a:Addr}{ds:List D}(ho:Has own a (.list ds)) (h:∀e it,Q (.ref e) (enumO e it a 0++own)):Call w B A (.type "enumerate") [.ref a] own Q X:=Call.of1 fun s N v I r=>by
  have r:v=.ref a:=r
  subst r
  obtain ⟨_,items,n,e,_⟩:=I.owned _ ho.mem
  refine call_enumerate_1 e fun h' he hi hz hk=>?_
  obtain ⟨oi,g1,g2,g3⟩:=hi
  obtain ⟨I',S'⟩:=I.makes (k:=s.toks) (h':=h') (enumO (s.heap.objs.size+1) s.heap.objs.size a 0) hk (by lia) (by simp) (fun p hp=>by
    rcases List.mem_cons.mp hp with rfl | hp
    · exact ⟨Nat.le_succ _,by show s.heap.objs.size+1<_;lia⟩
    · rw [List.mem_singleton] at hp;subst hp;exact ⟨Nat.le_refl _,by show s.heap.objs.size<_;lia⟩) fun p hp=>by
    rcases List.mem_cons.mp hp with rfl | hp
    · exact ⟨_,he,by simp,.none,rfl⟩
    · rw [List.mem_singleton] at hp;subst hp;exact ⟨oi,g1,g2,by decide,g3⟩
  exact ⟨_,_,.ref (s.heap.objs.size+1),S',I',rfl,h _ _⟩
theorem enumWalk (hh:A.handled=none) {e it a:Addr}{ds:List D}{elts:List Expr}{n:Nat}{pos:Pos} :
    Walk w B A P (.Tuple elts n pos) e (ds.zipIdx.map fun p=>.tup [.int p.2,p.1]) (enumO e it a) (fun o=>Has o a (.list ds)) where
  item:=fun k o d s N hd hC I hp E R T hT hR=>by
    obtain ⟨_,oe,ge,ce,old,rfl⟩:=I.owned _ (.head _)
    obtain ⟨_,oi,g1,g2,_,g3⟩:=I.owned _ (.tail _ (.head _))
    obtain ⟨_,items,m,el,r⟩:=I.owned (a,.list ds) (.tail _ (.tail _ hC.mem))
    have nd:=I.nd
    simp only [enumO,List.cons_append,List.nil_append,List.map_cons,List.nodup_cons,List.mem_cons,not_or] at nd
    obtain ⟨⟨hne,hneo⟩,hnio,_⟩:=nd
    rw [List.getElem?_map] at hd
    cases hq:ds.zipIdx[k]? with
    | none=>rw [hq] at hd;cases hd
    | some p =>
      rw [hq] at hd
      cases hd
      rw [List.getElem?_zipIdx] at hq
      obtain ⟨x,hx,rfl⟩:=Option.map_eq_some_iff.mp hq
      obtain ⟨v,hv,rv⟩:=r.get hx
      refine wpAny_pyNext_enum_item (l:=a) (i:=k) ge ⟨oi,g1,g2,g3⟩ ⟨_,el,rfl,m,rfl⟩ (by simpa using hv) hne fun h' he' hh ht hz hk=>?_
      obtain ⟨oi',q1,q2,q3⟩:=hh
      refine hT _ _ (wpAny_letOwnedTupleGo_enum he' fun h'' he'' hs''=>?_)
      have kk:∀b y,b≠e→b≠it→s.heap.get? b=some y→h''.get? b=some y:=fun b y h1 h2 hy=>(hs''.2 b h1).trans (hk b y h1 h2 hy)
      have hN:N e∧N it:=⟨(I.owned _ (.head _)).1,(I.owned _ (.tail _ (.head _))).1⟩
      have ks:∀b y,¬ N b→s.heap.get? b=some y→y.cls≠.type "frame" → h''.get? b=some y:=fun b y hb hy q_=>kk b y (fun q=>hb (q▸hN.1)) (fun q=>hb (q▸hN.2)) hy
      have nf:∀b y,s.heap.get? b=some y→NF y→y.cls=.type "frame" → ∃o',h''.get? b=some o'∧NF o'∧o'.cls=y.cls:=fun b y hy hn hf=>by
        refine ⟨y,kk b y (fun q=>?_) (fun q=>?_) hy,hn,rfl⟩
        · subst q;rw [ge] at hy;cases hy;simp at hf
        · subst q;rw [g1] at hy;cases hy;rw [g2] at hf;simp at hf
      have sz:s.heap.objs.size≤h''.objs.size:=by rw [hs''.1,hz];exact Nat.le_succ _
      have off:∀b,b∉(enumO e it a k++o).map (·.1)→b≠e∧b≠it:=fun b hb=>⟨fun q=>hb (by simp [q]),fun q=>hb (by simp [q])⟩
      have S:Step s N (enumO e it a k++o) {s with heap:=h'',toks:=s.toks+1 } N (enumO e it a (k+1)++o) :=
        ⟨fun b y hy hb=>⟨y,kk b y (off b hb).1 (off b hb).2 hy,.refl y⟩,nf,sz,fun q_ h q_ q_=>h,fun q_ h=>.inl h,fun b hb=>.inl hb,rfl⟩
      have hT':h''.get? s.heap.objs.size=some {cls:=.type "tuple", data:=.seq #[.int k s.toks,v] }:=(hs''.2 _ fun q=>by
        have:=Heap.lt_size ge
        rw [q] at this;exact Nat.lt_irrefl _ this).trans ht
      refine hR _ _ N S ⟨fun b y hy=>kk b y (fun q=>by rw [q,I.offB _ hN.1] at hy;cases hy) (fun q=>by rw [q,I.offB _ hN.2] at hy;cases hy) (I.stays b y hy),I.hi,fun b h=>Nat.lt_of_lt_of_le (I.lt b h) sz,fun p hp=>?_,I.nd,I.frames.keeps nf,I.gens⟩ ?_
      · rcases List.mem_cons.mp hp with rfl | hp
        · exact ⟨hN.1,_,he'',(by simp),v,rfl⟩
        · rcases List.mem_cons.mp hp with rfl | hp
          · exact ⟨hN.2,oi',(hs''.2 _ fun q=>hne q.symm).trans q1,q2,by decide,q3⟩
          · have O:=I.owned p (.tail _ (.tail _ hp))
            exact ⟨O.1,O.2.mono ks S.kn fun ob eo=>⟨ob,kk _ _ (fun q=>hneo (List.mem_map.mpr ⟨p,hp,q⟩)) (fun q=>hnio (List.mem_map.mpr ⟨p,hp,q⟩)) eo,.refl ob⟩⟩
      · refine ⟨_,0,[.int k s.toks,v],rfl,fun q=>absurd (I.lt _ q) (Nat.lt_irrefl _),hT',⟨_,_,rfl,⟨s.toks,by simp⟩,_,_,rfl,?_,rfl⟩⟩
        exact rv.mono ks S.kn
  done:=fun o s N hC I hp E T hT=>by
    obtain ⟨_,oe,ge,ce,old,rfl⟩:=I.owned _ (.head _)
    obtain ⟨_,oi,g1,g2,_,g3⟩:=I.owned _ (.tail _ (.head _))
    obtain ⟨_,items,m,el,r⟩:=I.owned (a,.list ds) (.tail _ (.tail _ hC.mem))
    refine wpAny_grown (wpAny_pyNext_enum_end hh ge ⟨oi,g1,g2,g3⟩ ⟨_,el,rfl,m,rfl⟩ (by simp [r.length]) fun h' he hz=>?_)
    have I1:Inv w B A s N ((it,.it "list_iterator" #[.ref a,.int (ds.zipIdx.map fun p:D×Nat=>D.tup [.int p.2,p.1]).length 0])::o):=Inv.drop (hid:=[(e,.sat (enumP it _))]) I
    obtain ⟨I2,S2⟩:=I1.spent (fun ob ho hf=>by rw [g1] at ho;cases ho;rw [g2] at hf;simp at hf) he hz
    exact hT _ N ⟨fun b y hy hb=>S2.same b y hy fun q=>hb (.tail _ q),S2.nf,S2.grow,fun b h1 h2 h3=>S2.n1 b h1 h2 fun q=>h3 (.tail _ q),S2.n2,fun b hb=>(S2.own2 b hb).imp (fun q=>.tail _ q) id,S2.os⟩ I2
  self:=fun o s N hC I E R h=>by
    obtain ⟨_,oe,ge,ce,old,rfl⟩:=I.owned _ (.head _)
    exact wpAny_pyIter_enum ge h
end
inductive VEnum (f:Fm) (ss:List Sl) (body:ST) (v:Vals) (own:Own) (dx:D) (Q:Fl→Vals→Own→Prop):Prop
  | mk (e it a:Addr) (ds:List D) (o₀:Own) (J:Nat→Vals→Own→Prop) (XB:Addr→Own→Prop) (hdx:dx=.ref e) (how:own=enumO e it a 0++o₀) (hh:f.A.handled=none) (hC:∀k v o,J k v o→Has o a (.list ds)) (h0:J 0 v o₀) (hx:Notes f.w f.B f.A f.env XB f.X)
      (hb:∀k d v o,ds[k]?=some d→J k v o→tgtT ss (f.x XB) v o (.tup [.int k,d]) fun v o=>body (f.x XB) v o (turnV (J (k+1)) Q))
      (he:∀v o,J ds.length v o→Q .next v o)
@[reducible] noncomputable def forT (it:PT) (ss:List Sl) (body:ST):ST:=fun f v own Q=>it f v own fun dx o=>VFor f (tgtT ss) body v o dx Q∨VEnum f ss body v o dx Q
theorem enumGet {ds:List D}{k:Nat}{d:D}(hd:(ds.zipIdx.map fun p=>D.tup [.int p.2,p.1])[k]?=some d):∃x,ds[k]?=some x∧d=.tup [.int k,x]:=by
  obtain ⟨q,hq,rfl⟩:=mapGet hd
  rw [List.getElem?_zipIdx,Nat.zero_add] at hq
  obtain ⟨x,hx,rfl⟩:=Option.map_eq_some_iff.mp hq
  exact ⟨x,hx,rfl⟩
theorem SS.forT {K:Frag}{c:Cn}{it:Expr}{es:List Expr}{n:Nat}{p:Pos}{body:List Stmt}{pos} {ss:List Sl}{pi:PT}{pb:ST}(hs:∀env x,foldedSetIterable it env x=pure x) (ht:SA K c (.Tuple es n p) (tgtT ss)) (hi:SE K c it pi) (hb:SSs K c body pb):SS K c (.For (.Tuple es n p) it body [] pos) (forT pi ss pb):=fun f ok v own Q P h o hp=>by
  refine Wp.For (hs _) ((hi f ok v own _ P h o hp).mono (fun dx o₁ g=>?_) fun q_ q_ x=>x)
  obtain ⟨own₁,hp₁,q⟩:=g
  rcases q with ⟨ds,C,J,XB,hit,hC,h0,hx,hbd,he⟩ | ⟨e,it',a,ds,o₀,J,XB,rfl,rfl,hh,hC,h0,hx,hbd,he⟩
  · exact fun a st N I hpp=>hit st N a o₁ P I hpp (hC 0 v own₁ h0 o₁ fun x hx=>hp₁.mem_iff.mpr (.tail _ hx)) _ _ fun it sts cls s' N' S' I' G=>⟨N',(it,sts 0)::o₁,.ref it,S',I',rfl,.mk (its:=fun k=>[(it,sts k)]) (J:=fun k=>f.tg (J k)) G.walk (fun k o=>TgN.mem (hC k)) ⟨v,own₁,hp₁,h0⟩ hx (fun k d o hd g va=>by
        obtain ⟨v',own',p,j⟩:=g
        exact turn_ok ok ht hb va p (hbd k d v' own' hd j)) fun o=>TgN.imp he⟩
  · intro av st N I hpp
    cases (show av=.ref e from hpp _ (.head _))
    have pm:o₁.Perm (enumO e it' a 0++(f.ns v::o₀)):=hp₁.trans List.perm_middle.symm
    have I':=I.perm pm
    obtain ⟨_,oe,ge,ce,old,rfl⟩:=I'.owned _ (.head _)
    refine wpAny_pyIter_enum ge ⟨N,_,.ref e,(Step.refl st N o₁).perm pm,I',rfl,.mk (its:=enumO e it' a) (J:=fun k=>f.tg (J k)) (enumWalk (ds:=ds) hh) (fun k o g=>?_) ⟨v,o₀,.refl _,h0⟩ hx (fun k d o hd g va=>?_) fun o g=>?_⟩
    · obtain ⟨v',own',p,j⟩:=g
      exact (hC k v' own' j).fromPerm p
    · obtain ⟨v',own',p,j⟩:=g
      obtain ⟨x,hx',rfl⟩:=enumGet hd
      exact turn_ok ok ht hb va p (hbd k x v' own' hx' j)
    · rw [List.length_map,List.length_zipIdx] at g
      exact g.imp he
noncomputable section
noncomputable abbrev CE (K:Frag) (c:Cn) (e:Expr):=Option {p:PT // SE K c e p }
noncomputable abbrev CB (K:Frag) (c:Cn) (e:Expr):=Option {p:BT // SB K c e p }
noncomputable abbrev CL (K:Frag) (c:Cn) (es:List Expr):=Option {a:LT // SL K c es a }
noncomputable abbrev CS (K:Frag) (c:Cn) (s:Stmt):=Option {p:ST // SS K c s p }
noncomputable abbrev CSs (K:Frag) (c:Cn) (s:List Stmt):=Option {p:ST // SSs K c s p }
structure Com (K:Frag) where
  e:∀c e,CE K c e
  b:∀c e,CB K c e
  ss:∀c s,CSs K c s
variable {K:Frag}(r:Com K) (c:Cn)
theorem evalCall {x:Str}{p pos:Pos}{es:List Expr}{env:Env}:eval (.Call (.Name x p) es [] pos) env=(eval (.Name x p) env >>= fun v=>callWith pos v [] (backTo pos (starEach es env)) (backToKw pos (keywordEach [] env))):=rfl
noncomputable def comName (x:Str) (pos:Pos):CE K c (.Name x pos) :=
  if h2:(x == ("__debug__" : Str))=false then
    match h1:c.names.lookup x with
    | some .local=>match c.ln.idxOf? x with
      | some i=>if h3:c.ln[i]?=some x then some ⟨loc i,SE.loc h1 h2 h3⟩ else none
      | none=>none
    | some .cell=>match h3:c.cm.lookup x with
      | some i=>some ⟨cellP i,SE.cell h1 h2 h3⟩
      | none=>none
    | some .globalImplicit=>match h3:c.g.lookup x with
      | some d=>some ⟨kD d,SE.glob h1 h2 h3⟩
      | none=>none
    | _=>none
  else none
noncomputable def comL:∀es,CL K c es
  | []=>some ⟨nilL,SL.nil⟩
  | e::es=>if h:plainArg e=true then (r.e c e).bind fun p=>(comL es).bind fun a=>some ⟨consL p.1 a.1,SL.cons h p.2 a.2⟩ else none
noncomputable def comFn (fv:Value):Option (PLift (∀f,Ok K c f→KeepOk f.w f.B fv)):=match fv with
  | .builtin id=>some ⟨fun f ok=>KeepOk.builtin id⟩
  | .type id=>some ⟨fun f ok=>KeepOk.type id⟩
  | v=>if h:keepIn K v=true then some ⟨fun f ok=>KeepOk.K ok.gr.K h⟩ else none
noncomputable def comG (x:Str) (p:Pos):Option {fv:Value // SE K c (.Name x p) (kD (.cst fv)) } :=
  if h2:(x == ("__debug__" : Str))=false then
    match h1:c.names.lookup x with
    | some .globalImplicit=>match h3:c.g.lookup x with
      | some (.cst fv)=>some ⟨fv,SE.glob h1 h2 h3⟩
      | _=>none
    | _=>none
  else none
noncomputable def comArgs (x:Str) (p:Pos) (fv:Value) (hs:SE K c (.Name x p) (kD (.cst fv))) (k:∀f,Ok K c f→KeepOk f.w f.B fv) (pos:Pos):∀es,CE K c (.Call (.Name x p) es [] pos)
  | []=>some ⟨callP fv nilL,SE.call0 (fun q_=>evalCall) hs k⟩
  | e::es=>(comL r c (e::es)).bind fun a=>some ⟨callP fv a.1,SE.call (fun q_=>evalCall) hs k a.2⟩
noncomputable def comMeth (o:Expr) (name:Str) (apos pos:Pos) (hb:notBare o=true) (hl:(apos.endLine == pos.line)=true) (p:PT) (hp:SE K c o p):∀es,CE K c (.Call (.Attribute o name apos) es [] pos)
  | []=>some ⟨methP p name nilL,SE.meth0 hb hl hp⟩
  | e::es=>if hn:(decide (es.length<20))=true then (comL r c (e::es)).bind fun a=>some ⟨methP p name a.1,SE.meth hb hl hn hp a.2⟩ else none
noncomputable def comCall (g:Expr) (es:List Expr) (pos:Pos):CE K c (.Call g es [] pos):=match g with
  | .Name x p=>(comG c x p).bind fun s=>(comFn c s.1).bind fun k=>comArgs r c x p s.1 s.2 k.down pos es
  | .Attribute o name apos=>if hb:notBare o=true then if hl:(apos.endLine == pos.line)=true then (r.e c o).bind fun p=>comMeth r c o name apos pos hb hl p.1 p.2 es else none else none
  | _=>none
noncomputable def comPart:∀e,Option {p:PT // SP K c e p }
  | none=>some ⟨noPart,SP.none⟩
  | some e=>(r.e c e).bind fun p=>some ⟨p.1,SP.some p.2⟩
noncomputable def noSlice:Expr→Bool
  | .Slice ..=>false
  | _=>true
theorem plainSub_of {e:Expr}(h:noSlice e=true):PlainSub e:=fun o i=>by
  cases e <;> first | rfl | exact absurd h Bool.false_ne_true
theorem sliceSub {lo hi st:Option Expr}{p:Pos}:∃ops:Value→Value→List Value,∀o i,subscripted (.Slice lo hi st p) false o i=operate (ops o i) (getItem o i):=by
  cases st
  · exact ⟨fun o i=>[i,o],fun q_ q_=>rfl⟩
  · exact ⟨fun o i=>[o,i],fun q_ q_=>rfl⟩
noncomputable def comSub (g:Expr) (pos:Pos) (p:PT) (hp:SE K c g p) (i:Expr):CE K c (.Subscript g i pos):=match i with
  | .Slice lo hi st q=>(comPart r c lo).bind fun a=>(comPart r c hi).bind fun b=>(comPart r c st).bind fun d=>some ⟨sliceP p a.1 b.1 d.1,SE.slice sliceSub.choose sliceSub.choose_spec hp a.2 b.2 d.2⟩
  | e=>if h:noSlice e=true then (r.e c e).bind fun q=>some ⟨subP p q.1,SE.sub (plainSub_of h) hp q.2⟩ else none
noncomputable def comD:∀(keys:List (Option Expr)) (vals:List Expr) (pos:Pos),Option {p:List Str×LT // SD K c keys vals pos p.1 p.2 }
  | [],[],pos=>some ⟨([],nilL),SD.nil⟩
  | some (.Constant (.str x) n p)::ks,e::es,pos=>(r.e c e).bind fun a=>(comD ks es pos).bind fun t=>some ⟨(x::t.1.1,consL a.1 t.1.2),SD.cons a.2 t.2⟩
  | _,_,_=>none
noncomputable def comDict (keys:List (Option Expr)) (vals:List Expr) (pos:Pos):CE K c (.Dict keys vals pos):=match keys,vals with
  | [],[]=>some ⟨dict0,SE.dict0⟩
  | keys,vals=>(comD r c keys vals pos).bind fun t=>if h0:t.1.1≠[] then if hl:t.1.1.length≤15 then if nd:t.1.1.Nodup then some ⟨dictP t.1.1 t.1.2,SE.dict h0 hl nd t.2⟩ else none else none else none
noncomputable def noSet:Expr→Bool
  | .Set ..=>false
  | _=>true
theorem noSet_ok {e:Expr}(h:noSet e=true) (env:Env) (x:Value):foldedSetIterable e env x=pure x:=by
  cases e <;> first | rfl | exact absurd h Bool.false_ne_true
noncomputable def comSl (x:Str):Option {s:Sl // SlOk c x s } :=
  match h1:c.names.lookup x with
  | some .local=>match c.ln.idxOf? x with
    | some i=>if h3:c.ln[i]?=some x then some ⟨.loc i,h1,h3⟩ else none
    | none=>none
  | some .cell=>match h3:c.cm.lookup x with
    | some i=>some ⟨.cell i,h1,h3⟩
    | none=>none
  | _=>none
structure Names (c:Cn) (es:List Expr) where
  xs:List Str
  ss:List Sl
  n:NameList es xs
  s:SlsOk c xs ss
noncomputable def comNames:∀es,Option (Names c es)
  | []=>some ⟨[],[],.nil,.nil⟩
  | .Name x p::es=>(comSl c x).bind fun s=>(comNames es).bind fun t=>some ⟨x::t.xs,s.1::t.ss,.cons t.n,.cons s.2 t.s⟩
  | _=>none
noncomputable def comT:∀e,Option {p:TT // SA K c e p }
  | .Name x p=>(comSl c x).bind fun s=>some ⟨tgtS s.1,SA.name s.2⟩
  | .Tuple es n p=>if hq:c.quiet=false then (comNames c es).bind fun t=>some ⟨tgtT t.ss,SA.tup hq t.n t.s⟩ else none
  | _=>none
noncomputable def scOk (scope:Scope):Option {ln:List Str // ScOk c scope ln } :=
  let ln:=(scope.names.filter (·.2 == .local)).map (·.1)
  if h1:scope.kind=.function then if h2:(scope.names.all fun x=>x.2 != .local || scope.names.lookup x.1 == some .local)=true then
    if h3:(scope.names.all fun x=>x.2 != .cell)=true then if h4:ln.Nodup then if h5:(scope.names.all fun x=>x.2 != .free || (c.cm.lookup x.1).isSome)=true then
      some ⟨ln,h1,(fun x hx e=>by have:=List.all_eq_true.mp h2 x hx;simpa [e] using this),(fun x hx e=>by have:=List.all_eq_true.mp h3 x hx;simp [e] at this),h4,fun x hx e=>by
        have:=List.all_eq_true.mp h5 x hx
        rw [e] at this
        exact Option.isSome_iff_exists.mp (by simpa using this)⟩
    else none else none else none else none else none
noncomputable def comIfs:∀es,Option {p:BT // ST2 K c es p }
  | []=>some ⟨nilAnd,ST2.nil⟩
  | [e]=>(r.b c e).bind fun b=>some ⟨b.1,ST2.one b.2⟩
  | _=>none
structure CompC (K:Frag) (c:Cn) (elt:Expr) (g:Comprehension) (scope:Scope) where
  t:TT
  i:BT
  e:PT
  x:PT
  ln:List Str
  sc:ScOk c scope ln
  hs:∀env x,foldedSetIterable g.iter env x=pure x
  ha:g.is_async=0
  hx:SE K c g.iter x
  ht:SA K (c.inner scope ln) g.target t
  hi:ST2 K (c.inner scope ln) g.ifs i
  he:SE K (c.inner scope ln) elt e
noncomputable def comComp (elt:Expr) (g:Comprehension) (scope:Scope):Option (CompC K c elt g scope) :=
  (scOk c scope).bind fun ln=>(r.e c g.iter).bind fun x=>(comT (K:=K) (c.inner scope ln.1) g.target).bind fun t=>(comIfs r (c.inner scope ln.1) g.ifs).bind fun i=>(r.e (c.inner scope ln.1) elt).bind fun e =>
  if hs:noSet g.iter=true then if ha:g.is_async=0 then some ⟨t.1,i.1,e.1,x.1,ln.1,ln.2,noSet_ok hs,ha,x.2,t.2,i.2,e.2⟩ else none else none
theorem CompC.sound {elt:Expr}{g:Comprehension}{scope:Scope}{pos:Pos}(k:CompC K c elt g scope):SE K c (.ListComp elt [g] scope pos) (compP k.ln k.t k.i k.e k.x):=by
  obtain ⟨t,i,e,x,ln,sc,hs,ha,hx,ht,hi,he⟩:=k
  obtain ⟨a1,a2,a3,a4⟩:=g
  cases ha
  exact SE.comp hs sc hx ht hi he
noncomputable def comListComp (elt:Expr) (gs:List Comprehension) (scope:Scope) (pos:Pos):CE K c (.ListComp elt gs scope pos):=match gs with
  | [g]=>(comComp r c elt g scope).bind fun k=>some ⟨compP k.ln k.t k.i k.e k.x,k.sound⟩
  | _=>none
noncomputable def comConst (k:Const) (n:Nat) (pos:Pos):CE K c (.Constant k n pos):=match k with
  | .none=>some ⟨kD .none,SE.const rfl⟩
  | .bool b=>some ⟨kD (.bool b),SE.const rfl⟩
  | .int i=>some ⟨kD (.int i),SE.const rfl⟩
  | .str x=>some ⟨kD (.str x.cps.toList),SE.const rfl⟩
  | .bytes l=>some ⟨kD (.bytes l),SE.const rfl⟩
  | _=>none
noncomputable def comE (e:Expr):CE K c e:=match e with
  | .Name x pos=>comName c x pos
  | .Constant k n pos=>comConst c k n pos
  | .BinOp a op b pos=>(r.e c a).bind fun p=>(r.e c b).bind fun q=>some ⟨bin op p.1 q.1,SE.bin p.2 q.2⟩
  | .UnaryOp .USub a pos=>(r.e c a).bind fun p=>some ⟨neg p.1,SE.neg p.2⟩
  | .Compare a [op] [b] pos=>if h:behindInMarks op b=false then (r.e c a).bind fun p=>(r.e c b).bind fun q=>some ⟨ofB (cmp op p.1 q.1),SE.ofCmp h p.2 q.2⟩ else none
  | .BoolOp .Or [a,b] pos=>(r.e c a).bind fun p=>(r.e c b).bind fun q=>some ⟨orV p.1 q.1,SE.or p.2 q.2⟩
  | .BoolOp .And [a,b] pos=>(r.e c a).bind fun p=>(r.e c b).bind fun q=>some ⟨andV p.1 q.1,SE.and p.2 q.2⟩
  | .IfExp t a b pos=>(r.b c t).bind fun s=>(r.e c a).bind fun p=>(r.e c b).bind fun q=>some ⟨ite s.1 p.1 q.1,SE.ite s.2 p.2 q.2⟩
  | .List es pos=>if h:decide (es.length<100)=true then (comL r c es).bind fun a=>some ⟨listP a.1,SE.list h a.2⟩ else none
  | .Tuple es k pos=>if h:decide (es.length<100)=true then (comL r c es).bind fun a=>some ⟨tupP a.1,SE.tup h a.2⟩ else none
  | .Dict keys vals pos=>comDict r c keys vals pos
  | .Subscript g i pos=>(r.e c g).bind fun p=>comSub r c g pos p.1 p.2 i
  | .Attribute g name pos=>if h:notBare g=true then (r.e c g).bind fun p=>some ⟨attrP p.1 name,SE.attr h p.2⟩ else none
  | .Call g es [] pos=>comCall r c g es pos
  | .ListComp elt gs scope pos=>comListComp r c elt gs scope pos
  | _=>none
noncomputable def comOr:∀es,Option {p:BT // SBs K c .Or es p }
  | []=>some ⟨nilOr,SBs.nilOr⟩
  | e::es=>(r.b c e).bind fun b=>(comOr es).bind fun t=>some ⟨orB b.1 t.1,SBs.or b.2 t.2⟩
noncomputable def comAnd:∀es,Option {p:BT // SBs K c .And es p }
  | []=>some ⟨nilAnd,SBs.nilAnd⟩
  | e::es=>(r.b c e).bind fun b=>(comAnd es).bind fun t=>some ⟨andB b.1 t.1,SBs.and b.2 t.2⟩
noncomputable def comLe3 (a b b':Expr) (pos:Pos) (h:behindInMarks .LtE b'=false) (p q:PT) (hp:SE K c a p) (hq:SE K c b q):CB K c (.Compare a [.LtE,.LtE] [b,b'] pos):=match b' with
  | .Name x n=>(comSl c x).bind fun s=>match s with
    | ⟨.loc i,hs⟩=>if h2:(x == ("__debug__" : Str))=false then some ⟨le3 p q (loc i),SB.le3 h Pu.loc hp hq (SE.loc hs.1 h2 hs.2)⟩ else none
    | _=>none
  | .Constant (.int i) n z=>some ⟨le3 p q (kD (.int i)),SB.le3 h Pu.kD hp hq (SE.const rfl)⟩
  | _=>none
noncomputable def comLe3g (a b b':Expr) (pos:Pos) (h:behindInMarks .LtE b'=false) (p q:PT) (hp:SE K c a p) (hq:SE K c b q):CB K c (.Compare a [.LtE,.LtE] [b,b'] pos):=match b' with
  | .Name x n=>if h2:(x == ("__debug__" : Str))=false then match h1:c.names.lookup x with
    | some .globalImplicit=>match h3:c.g.lookup x with
      | some d=>some ⟨le3 p q (kD d),SB.le3 h Pu.kD hp hq (SE.glob h1 h2 h3)⟩
      | none=>none
    | _=>none
    else none
  | _=>none
noncomputable def comB (e:Expr):CB K c e:=match e with
  | .Compare a [op] [b] pos=>if h:behindInMarks op b=false then (r.e c a).bind fun p=>(r.e c b).bind fun q=>some ⟨cmp op p.1 q.1,SB.cmp h p.2 q.2⟩ else none
  | .Compare a [.LtE,.LtE] [b,b'] pos=>if h:behindInMarks .LtE b'=false then (r.e c a).bind fun p=>(r.e c b).bind fun q=>((comLe3 c a b b' pos h p.1 q.1 p.2 q.2).orElse fun q_=>comLe3g c a b b' pos h p.1 q.1 p.2 q.2).orElse fun q_=>(r.e c b').bind fun q'=>some ⟨cmp2 .LtE .LtE p.1 q.1 q'.1,SB.cmp2 h p.2 q.2 q'.2⟩ else none
  | .UnaryOp .Not a pos=>(r.b c a).bind fun p=>some ⟨notB p.1,SB.not p.2⟩
  | .BoolOp .Or es pos=>(comOr r c es).bind fun t=>some ⟨t.1,SB.bool t.2⟩
  | .BoolOp .And es pos=>(comAnd r c es).bind fun t=>some ⟨t.1,SB.bool t.2⟩
  | .Name x pos=>(r.e c (.Name x pos)).bind fun p=>some ⟨tv p.1,SB.tv (fun q_=>rfl) p.2⟩
  | .Subscript g i pos=>(r.e c (.Subscript g i pos)).bind fun p=>some ⟨tv p.1,SB.tv (fun q_=>rfl) p.2⟩
  | _=>none
noncomputable def swN (names:List (Str×NameKind)) (line:Nat) (ts:List Expr):List Str:=ts.filterMap fun
    | .Name id pos=>if names.lookup id == some .local && pos.line == line then some id else none
    | _=>none
noncomputable def anyStar (vs:List Expr):Bool:=vs.any fun | .Starred ..=>true | _=>false
noncomputable def swC (names:List (Str×NameKind)) (ts vs:List Expr):Option (Option (List Str)) :=
  if (!(ts.length == 2 || ts.length == 3) || vs.length != ts.length)=true then some none else
  if anyStar vs=true then some none else
  let ns:=swN names ((ts.head?.map (·.pos.line)).getD 0) ts
  if (ns.length != ts.length || ns.eraseDups.length != ns.length)=true then some none else
  if vs.all (foldedForSure 8)=true then some none else
  if vs.all (constantsAlone 8)=true then none else some (some ns)
theorem ifBoth {p:Prop}[Decidable p] {a o:Option (List Str)}{b:Option (Option (List Str))}{t:Sem (Option (List Str))}(h:(if p then some a else b)=some o) (k:b=some o→t=pure o):(if p then pure a else t)=pure o:=by
  by_cases q:p
  · rw [if_pos q] at h ⊢;cases h;rfl
  · rw [if_neg q] at h ⊢;exact k h
theorem ifLast {p:Prop}[Decidable p] {a o:Option (List Str)}{t:Sem (Option (List Str))}(h:(if p then none else some a)=some o):(if p then t else pure a)=pure o:=by
  by_cases q:p
  · rw [if_pos q] at h;cases h
  · rw [if_neg q] at h ⊢;cases h;rfl
theorem swC_ok {env:Env}{names:List (Str×NameKind)}{L F:Addr}{cells:List (Str×Addr)}(E:EV env names L cells F) {ts vs:List Expr}{n p k q} {o:Option (List Str)}(h:swC names ts vs=some o):swappedStores [.Tuple ts n p] (.Tuple vs k q) env=pure o:=by
  have hb:(env.blockKind != .function)=false:=by rw [E.block];rfl
  have e:swappedStores [.Tuple ts n p] (.Tuple vs k q) env=(if (!(ts.length == 2 || ts.length == 3) || vs.length != ts.length || env.blockKind != .function)=true then pure none else if anyStar vs=true then pure none else
      if ((swN names ((ts.head?.map (·.pos.line)).getD 0) ts).length != ts.length || (swN names ((ts.head?.map (·.pos.line)).getD 0) ts).eraseDups.length != (swN names ((ts.head?.map (·.pos.line)).getD 0) ts).length)=true then pure none else
      if vs.all (foldedForSure 8)=true then pure none else if vs.all (constantsAlone 8)=true then unsupported "assign.tuple-of-constant-expressions:order-of-the-stores" >>= fun (_:Unit)=>pure (some (swN names ((ts.head?.map (·.pos.line)).getD 0) ts)) else pure (some (swN names ((ts.head?.map (·.pos.line)).getD 0) ts))):=by
    have e2:names=env.scope.names:=E.n.symm
    unfold swN
    rw [e2]
    rfl
  rw [e,hb,Bool.or_false]
  exact ifBoth h fun h=>ifBoth h fun h=>ifBoth h fun h=>ifBoth h ifLast
end
noncomputable section
variable {K:Frag}(r:Com K) (c:Cn)
noncomputable def comAsgName (x:Str) (p' pos:Pos) (e:Expr):CS K c (.Assign [.Name x p'] e pos):=match e with
  | .ListComp elt [g] scope q=>match h1:c.names.lookup x with
    | some .local=>match c.ln.idxOf? x with
      | some i=>if h2:c.ln[i]?=some x then if hl:(p'.line == q.line)=true then if hn:(scope.names.any fun q=>q.1 == x && (q.2 == .local || q.2 == .cell))=false then
          (comComp r c elt g scope).bind fun k=>some ⟨asgC k.ln k.t k.i k.e k.x (.loc i),by
            obtain ⟨t,i,e,x,ln,sc,hs,ha,hx,ht,hi,he⟩:=k
            obtain ⟨a1,a2,a3,a4⟩:=g
            cases ha
            exact SS.asgComp hs sc h1 h2 hl hn hx ht hi he⟩
        else none else none else none
      | none=>none
    | _=>none
  | e=>if hn:noComp e=true then (comSl c x).bind fun s=>(r.e c e).bind fun p=>some ⟨asgS p.1 (tgtS s.1),SS.asgName hn s.2 p.2⟩ else none
noncomputable def notTup:Expr→Bool
  | .Tuple ..=>false
  | _=>true
theorem notTup_ok {es:List Expr}{n p'} {e:Expr}{env:Env}(h:notTup e=true):swappedStores [.Tuple es n p'] e env=pure none:=swapped_noTup (by cases e <;> first | rfl | exact absurd h Bool.false_ne_true)
noncomputable def comAsgTup (es:List Expr) (n:Nat) (p' pos:Pos) (e:Expr):CS K c (.Assign [.Tuple es n p'] e pos) :=
  if hq:c.quiet=false then if hc:noComp e=true then (comNames c es).bind fun t=>(r.e c e).bind fun p =>
    if hz:notTup e=true then some ⟨asgS p.1 (tgtT t.ss),SS.asgTup hq t.n t.s hc (fun q_ q_ q_ q_ q_=>notTup_ok hz) p.2⟩
    else match e,p,hc with
      | .Tuple vs k q,p,hc=>match h:swC c.names es vs with
        | some none=>some ⟨asgS p.1 (tgtT t.ss),SS.asgTup hq t.n t.s hc (fun q_ q_ q_ q_ E=>swC_ok E h) p.2⟩
        | some (some xs)=>if hx:xs=t.xs then some ⟨asgS p.1 (tgtR t.ss),SS.asgRev hq t.s hc (fun q_ q_ q_ q_ E=>by rw [← hx];exact swC_ok E h) p.2⟩ else none
        | none=>none
      | _,_,_=>none
  else none else none
noncomputable def comAsg (t:Expr) (e:Expr) (pos:Pos):CS K c (.Assign [t] e pos):=match t with
  | .Name x p'=>comAsgName r c x p' pos e
  | .Tuple es n p'=>comAsgTup r c es n p' pos e
  | .Attribute g name p'=>(r.e c e).bind fun p=>(r.e c g).bind fun q=>some ⟨asgA p.1 q.1 name,SS.asgAttr p.2 q.2⟩
  | .Subscript g i p'=>(r.e c e).bind fun p=>(r.e c g).bind fun q=>(r.e c i).bind fun s=>some ⟨asgI p.1 q.1 s.1,SS.asgItem p.2 q.2 s.2⟩
  | _=>none
noncomputable def comRaise (e:Expr) (pos:Pos):CS K c (.Raise (some e) none pos):=match e with
  | .Call (.Name x p) es [] q=>match c.g.lookup x with
    | some (.cst (.ref C))=>if hC:C∈c.exc then if hq:c.quiet=false then (r.e c (.Call (.Name x p) es [] q)).bind fun s=>some ⟨raiseS C s.1,SS.raise hq hC s.2⟩ else none else none
    | _=>none
  | _=>none
noncomputable def comTry (body:List Stmt) (x:Str) (np:Pos) (n:Option Str) (b₀:Stmt) (suite:List Stmt) (hpos pos:Pos):CS K c (.Try body [.ExceptHandler (some (.Name x np)) n (b₀::suite) hpos] [] [] pos) :=
  if h2:(x == ("__debug__" : Str))=false then match h1:c.names.lookup x with
    | some .globalImplicit=>match h3:nsIn K mainGlobals x with
      | some (some (.ref C))=>if hC:C∈c.exc then (r.ss c body).bind fun b=>(r.ss {c with quiet:=true } (b₀::suite)).bind fun h=>match n with
        | none=>some ⟨tryS C b.1 h.1,SS.try hC h1 h2 h3 b.2 h.2⟩
        | some n=>match n1:c.names.lookup n with
          | some .local=>match c.ln.idxOf? n with
            | some i=>if n2:c.ln[i]?=some n then some ⟨tryAsS C i b.1 h.1,SS.tryAs hC h1 h2 h3 n1 n2 b.2 h.2⟩ else none
            | none=>none
          | _=>none
        else none
      | _=>none
    | _=>none
  else none
noncomputable def comFor (t:Expr) (it:Expr) (body:List Stmt) (pos:Pos) (hs:noSet it=true) (b:PT) (hb:SE K c it b) (d:ST) (hd:SSs K c body d):CS K c (.For t it body [] pos):=match t with
  | .Name x p=>(comSl c x).bind fun s=>some ⟨forS b (tgtS s.1) d,SS.for (fun q_ q_=>noSet_ok hs _ _) (SA.name s.2) hb hd⟩
  | .Tuple es n p=>if hq:c.quiet=false then (comNames c es).bind fun t=>some ⟨forT b t.ss d,SS.forT (fun q_ q_=>noSet_ok hs _ _) (SA.tup hq t.n t.s) hb hd⟩ else none
  | _=>none
noncomputable def comS (s:Stmt):CS K c s:=match s with
  | .Assign [t] e pos=>comAsg r c t e pos
  | .AugAssign (.Name x p') .Sub e pos=>match h1:c.names.lookup x with
    | some .local=>match c.ln.idxOf? x with
      | some i=>if h2:c.ln[i]?=some x then (r.e c e).bind fun p=>some ⟨subS i p.1,SS.augSub h1 h2 p.2⟩ else none
      | none=>none
    | _=>none
  | .Expr e pos=>if hn:noComp e=true then (r.e c e).bind fun p=>some ⟨exprS p.1,SS.expr hn p.2⟩ else none
  | .If t a b pos=>(r.b c t).bind fun s=>(r.ss c a).bind fun p=>(r.ss c b).bind fun q=>some ⟨ifS s.1 p.1 q.1,SS.ifs s.2 p.2 q.2⟩
  | .Return (some e) pos=>(r.e c e).bind fun p=>some ⟨retS p.1,SS.ret p.2⟩
  | .Return none pos=>some ⟨ret0,SS.ret0⟩
  | .Raise (some e) none pos=>comRaise r c e pos
  | .For t it body [] pos=>if hs:noSet it=true then (r.e c it).bind fun b=>(r.ss c body).bind fun d=>comFor c t it body pos hs b.1 b.2 d.1 d.2 else none
  | .While t body [] pos=>(r.b c t).bind fun a=>(r.ss c body).bind fun d=>some ⟨whileS a.1 d.1,SS.while a.2 d.2⟩
  | .Try body [.ExceptHandler (some (.Name x np)) n (b₀::suite) hpos] [] [] pos=>comTry r c body x np n b₀ suite hpos pos
  | _=>none
noncomputable def comSs:∀s,CSs K c s
  | []=>some ⟨nilS,SSs.nil⟩
  | s::ss=>(comS r c s).bind fun p=>(comSs ss).bind fun q=>some ⟨seqS p.1 q.1,SSs.cons p.2 q.2⟩
noncomputable def com (K:Frag):Nat→Com K
  | 0=>⟨fun q_ q_=>none,fun q_ q_=>none,fun q_ q_=>none⟩
  | n+1=>⟨fun c e=>comE (com K n) c e,fun c e=>comB (com K n) c e,fun c s=>comSs (com K n) c s⟩
end
structure FnIR where
  params:List Str
  ln:List Str
  nc:Nat
  sl:List Sl
  body:ST
noncomputable def cmFrom:Nat→List (Str×NameKind)→List (Str×Nat)
  | _,[]=>[]
  | i,(y,k)::r=>if k == .cell then (y,i)::cmFrom (i+1) r else cmFrom i r
noncomputable abbrev cnOf (g:List (Str×D)) (exc:List Addr) (names:List (Str×NameKind)) (ln:List Str):Cn:=⟨g,names,ln,cmFrom 0 names,exc,false⟩
noncomputable def fdIn:PySem.Data→Option FuncData
  | .func fd=>some fd
  | _=>none
noncomputable def fdOf (K:Frag) (a:Addr):Option FuncData:=(K.lookup a).bind fun oo=>fdIn oo.data
theorem fdOf_some {K:Frag}{a:Addr}{fd:FuncData}(h:fdOf K a=some fd):∃oo,K.lookup a=some oo∧oo.data=.func fd:=by
  obtain ⟨oo,ho,h⟩:=Option.bind_eq_some_iff.mp h
  refine ⟨oo,ho,?_⟩
  cases hd:oo.data with
  | func fd'=>rw [hd] at h;cases h;rfl
  | _=>rw [hd] at h;cases h
inductive FnOk (K:Frag) (g:List (Str×D)) (exc:List Addr) (a:Addr) (ir:FnIR):Prop
  | mk (fd:FuncData) (names:List (Str×NameKind)) (more:List (Str×Const)) (body:List Stmt) (hf:fdOf K a=some fd) (hs:fd.scope=⟨.function,names,false,false,more⟩) (hcd:codeIn K fd.code fd.qualname=true)
      (hbody:fd.body=.stmts body) (hclo:fd.closure=[]) (hg:fd.globals=mainGlobals) (hbu:fd.builtins=builtinsNs) (hln:ir.ln.Nodup) (hnd:(names.map (·.1)).Nodup) (hnc:ir.nc=(names.filter (·.2 == .cell)).length)
      (hss:SSs K (cnOf g exc names ir.ln) body ir.body) (hsl:SlsOk (cnOf g exc names ir.ln) ir.params ir.sl)
noncomputable section
noncomputable def comSls (c:Cn):∀xs,Option {ss:List Sl // SlsOk c xs ss }
  | []=>some ⟨[],.nil⟩
  | x::xs=>(comSl c x).bind fun s=>(comSls c xs).bind fun t=>some ⟨s.1::t.1,.cons s.2 t.2⟩
noncomputable def comF1 (K:Frag) (g:List (Str×D)) (exc:List Addr) (a:Addr) (fd:FuncData) (hf:fdOf K a=some fd) (params:List Str):Option {ir:FnIR // FnOk K g exc a ir }:=match hs:fd.scope with
  | ⟨.function,names,false,false,more⟩=>match hbody:fd.body with
    | .stmts body =>
      if hcd:codeIn K fd.code fd.qualname=true then if hclo:fd.closure.isEmpty=true then if hg:fd.globals=mainGlobals then if hbu:fd.builtins=builtinsNs then
      if hln:((names.filter (·.2 != .cell)).filter (·.2 == .local) |>.map (·.1)).Nodup then if hnd:(names.map (·.1)).Nodup then
        ((com K 40).ss (cnOf g exc names ((names.filter (·.2 != .cell)).filter (·.2 == .local) |>.map (·.1))) body).bind fun p=>(comSls (cnOf g exc names ((names.filter (·.2 != .cell)).filter (·.2 == .local) |>.map (·.1))) params).bind fun t =>
          some ⟨⟨params,_,_,t.1,p.1⟩,.mk fd names more body hf hs hcd hbody (List.isEmpty_iff.mp hclo) hg hbu hln hnd rfl p.2 t.2⟩
      else none else none else none else none else none else none
    | _=>none
  | _=>none
noncomputable def comF (K:Frag) (g:List (Str×D)) (exc:List Addr) (a:Addr) (params:List Str):Option {ir:FnIR // FnOk K g exc a ir }:=match hf:fdOf K a with
  | some fd=>comF1 K g exc a fd hf params
  | none=>none
end
theorem FnOk.of {K:Frag}{g:List (Str×D)}{exc:List Addr}{a:Addr}{params:List Str}{ir:FnIR}(h:(comF K g exc a params).map (·.1)=some ir):FnOk K g exc a ir:=by
  cases hc:comF K g exc a params with
  | none=>rw [hc] at h;cases h
  | some x=>rw [hc] at h;cases h;exact x.2
noncomputable def BindOk (K:Frag) (a:Addr) (params:List Str) (n:Nat) (dv:List Value):Prop:=∀fd,fdOf K a=some fd→∀B,Gr K B→∀(s:Shared) (vs:List Value),(∀b o,B.get? b=some o→s.heap.get? b=some o)→vs.length=n→BindsTo s fd ⟨vs,[]⟩ (params.zip (vs++dv))
@[reducible] noncomputable def cellsI (cs:Nat→Addr):Nat→Nat→Own→Own
  | _,0,own=>own
  | i,k+1,own=>(cs i,.cell none)::cellsI cs (i+1) k own
@[reducible] noncomputable def VEnd (Q:D→Own→Prop):Fl→Vals→Own→Prop:=fun fl q_ o=>match fl with
  | .ret d=>∃d' o',Yield d o d' o'∧Q d' o'
  | _=>∃d' o',Yield .none o d' o'∧Q d' o'
structure Wk (K:Frag) (f:Fm) (n:Nat):Prop where
  cx:Cx f.A n
  gr:Gr K f.B
  fr:∃outer F,f.A.frames=some (f.env::outer)∧f.env.frame=some F
theorem cells_off {x:Str}{names:List (Str×NameKind)}{n:Nat}{acc:List (Str×Addr)}(h:x∉names.map (·.1)):(cellsFrom n names acc).lookup x=acc.lookup x:=by
  induction names generalizing n acc with
  | nil=>rfl
  | cons p r ih =>
    rw [List.map_cons,List.mem_cons,not_or] at h
    show (if (p.2 == .cell)=true then cellsFrom (n+1) r ((p.1,n)::acc) else cellsFrom n r acc).lookup x=_
    by_cases hk:(p.2 == .cell)=true
    · rw [if_pos hk,ih h.2,List.lookup_cons,show (x == p.1)=false from beq_eq_false_iff_ne.mpr h.1]
    · rw [if_neg hk,ih h.2]
theorem cells_at {x:Str}{j:Nat}{names:List (Str×NameKind)}:∀{n i:Nat}{acc:List (Str×Addr)},(names.map (·.1)).Nodup→(cmFrom i names).lookup x=some j→∃d,j=i+d∧(cellsFrom n names acc).lookup x=some (n+d):=by
  induction names with
  | nil=>intro _ _ _ _ h;cases h
  | cons p r ih =>
    intro n i acc nd h
    rw [List.map_cons,List.nodup_cons] at nd
    replace h:(if (p.2 == .cell)=true then (p.1,i)::cmFrom (i+1) r else cmFrom i r).lookup x=some j:=h
    show ∃d,j=i+d∧(if (p.2 == .cell)=true then cellsFrom (n+1) r ((p.1,n)::acc) else cellsFrom n r acc).lookup x=some (n+d)
    by_cases hk:(p.2 == .cell)=true
    · rw [if_pos hk,List.lookup_cons] at h
      rw [if_pos hk]
      cases hx:(x == p.1) with
      | true =>
        rw [hx] at h
        cases h
        cases (eq_of_beq hx)
        exact ⟨0,rfl,by rw [cells_off nd.1,List.lookup_cons,hx];rfl⟩
      | false =>
        rw [hx] at h
        obtain ⟨d,h1,h2⟩:=ih (n:=n+1) (acc:=(p.1,n)::acc) nd.2 h
        exact ⟨d+1,h1.trans (Nat.succ_add_eq_add_succ i d),h2.trans (congrArg some (Nat.succ_add_eq_add_succ n d))⟩
    · rw [if_neg hk] at h ⊢
      exact ih nd.2 h
theorem cells_own {names:List (Str×NameKind)}:∀{n:Nat}{acc:List (Str×Addr)}{cs:Nat→Addr}{i:Nat}{own:Own},(∀j,cs (i+j)=n+j)→(cellsOwn (cellsFrom n names acc)++own).Perm (cellsI cs i (names.filter (·.2 == .cell)).length (cellsOwn acc++own)):=by
  induction names with
  | nil=>exact fun q_=>.refl _
  | cons p r ih =>
    intro n acc cs i own h
    show (cellsOwn (if (p.2 == .cell)=true then cellsFrom (n+1) r ((p.1,n)::acc) else cellsFrom n r acc)++own).Perm _
    rw [List.filter_cons]
    by_cases hk:(p.2 == .cell)=true
    · rw [if_pos hk,if_pos hk]
      refine (ih (n:=n+1) (cs:=cs) (i:=i+1) (acc:=(p.1,n)::acc) fun j=>by rw [Nat.succ_add_eq_add_succ,h];exact (Nat.succ_add_eq_add_succ n j).symm).trans ?_
      have e:cs i=n:=h 0
      show (cellsI cs (i+1) _ ((n,.cell none)::(cellsOwn acc++own))).Perm ((cs i,.cell none)::cellsI cs (i+1) _ (cellsOwn acc++own))
      rw [e]
      generalize (r.filter (·.2 == .cell)).length=m
      generalize cellsOwn acc++own=l
      generalize (n,O.cell none)=x
      clear h e ih
      generalize i+1=i'
      induction m generalizing i' with
      | zero=>exact .refl _
      | succ m ih=>exact ((ih (i'+1)).cons _).trans (.swap ..)
    · rw [if_neg hk,if_neg hk]
      exact ih h
theorem Yield.skip {d d':D}{o o':Own}{x:Addr×O}(h:Yield d o d' o'):Yield d (x::o) d' o':=by
  induction h with
  | done s=>exact .done (s.cons x)
  | list a _ ih=>exact .list (.there a) ih
  | inst a b _ ih=>exact .inst (.there a) (.there b) ih
section
variable {w:World}{B:Heap}{A:Around}{own own':Own}{X:Addr→Own→Prop}{Q:D→Own→Prop}{K:Frag}{g:List (Str×D)}{exc:List Addr}
theorem enterB {a:Addr}{ir:FnIR}{n:Nat}{ds dd dds:List D}{dv:List Value}{C:Addr}{d:D}{pr:Prop}(F:FnOk K g exc a ir) (hb:BindOk K a ir.params ds.length dv) (hdv:∀h N,RelDs h N dd dv) (hgl:∀x d,g.lookup x=some d→globIn K x=some d) (hex:∀C∈exc,ExcOk K C 36)
    (hds:dds=ds++dd) (hX:pr→∀x o,Thr C d [] true x o→X x o) (cx:Cx A (n+1)) (gr:Gr K B)
    (h:∀f:Fm,Wk K f n→f.X=(fun x o=>pr∧Thr C d [] false x o)→f.B=B→setAll ir.sl f dds (nones ir.ln) (cellsI f.cs 0 ir.nc own) fun v o=>ir.body f v o (VEnd Q)):CallC w B A (.ref a) ds own Q X:=by
  obtain ⟨fd,names,more,body,hf,hs,hcd,hbody,hclo,hg,hbu,hln,hnd,hnc,hss,hsl⟩:=F
  have hb':=hb fd hf B gr
  subst hds
  simp only [nones_eq] at h
  obtain ⟨oo,ho,hdata⟩:=fdOf_some hf
  have key:∀L,∃own₁,BindAll (callEnvC fd L a) ir.params (ds++dd) ((L,.ns true ir.ln (ir.ln.map fun q_=>none))::(cellsOwn (cellsFrom (L+1) fd.scope.names [])++own)) own₁ ∧
      Wp w B (A.deeper (callEnvC fd L a)) RF [] own₁ (execs body (callEnvC fd L a)) (Ends Q) (fun x o=>pr∧Thr C d [] false x o):=fun L=>by
    have E:=EV.of_call (L:=L) (f:=a) hs hg hbu
    obtain ⟨l,hl⟩:=cx.frames
    let f:Fm:=⟨w,B,A.deeper (callEnvC fd L a),callEnvC fd L a,L,ir.ln,true,fun j=>L+1+j,fun x o=>pr∧Thr C d [] false x o⟩
    have hn:fd.scope.names=names:=by rw [hs]
    have ok:Ok K (cnOf g exc names ir.ln) f:=⟨⟨L,_,E,fun x i hx=>by
      obtain ⟨d,e1,e2⟩:=cells_at (n:=L+1) (acc:=[]) hnd hx
      rw [e1,Nat.zero_add]
      exact e2⟩,gr,fun q_=>cx.deeper.handled,rfl,hgl,hex⟩
    have hp:((L,O.ns true ir.ln (ir.ln.map fun q_=>none))::(cellsOwn (cellsFrom (L+1) fd.scope.names [])++own)).Perm (f.ns (ir.ln.map fun q_=>none)::cellsI f.cs 0 ir.nc own):=by
      rw [hn,hnc]
      refine List.Perm.cons _ ?_
      exact cells_own (acc:=[]) (cs:=f.cs) (i:=0) fun j=>congrArg (fun k:Nat=>(L+1+k:Nat)) (Nat.zero_add j)
    obtain ⟨o',v',own₁,b,hp',q⟩:=setAll_bind ok hsl hp (h f ⟨cx.deeper,gr,l,L,by simp [f,Around.deeper,hl],rfl⟩ rfl rfl)
    refine ⟨o',b,Wp.permPost ((hss f ok v' own₁ _ [] q o' hp').mono (fun fl o₂ ⟨v₂,own₂,hp₂,q₂⟩=>⟨_,hp₂,?_⟩) fun q_ q_ x=>x)⟩
    cases fl with
    | ret d=>obtain ⟨d',o'',y,hq⟩:=q₂;exact ⟨d',o'',y.skip,hq⟩
    | _=>obtain ⟨d',o'',y,hq⟩:=q₂;exact ⟨d',o'',y.skip,hq⟩
  by_cases hpr:pr
  · refine CallC.defT (hX hpr) cx gr.lim (gr.K _ _ ho) hdata (codeRec_of gr.K hcd) hbody hclo hb' hdv hln (fun L=>?_) (by rw [hs]) (by rw [hs]) (by rw [hs])
    obtain ⟨own₁,b,hw⟩:=key L
    exact ⟨own₁,b,hw.mono (fun q_ q_ q=>q) fun q_ q_ t=>t.2⟩
  · refine CallC.def cx gr.lim (gr.K _ _ ho) hdata (codeRec_of gr.K hcd) hbody hclo hb' hdv hln (fun L=>?_) (by rw [hs]) (by rw [hs]) (by rw [hs])
    obtain ⟨own₁,b,hw⟩:=key L
    exact ⟨own₁,b,hw.mono (fun q_ q_ q=>q) fun q_ q_ t=>hpr t.1⟩
theorem enter {a:Addr}{ir:FnIR}{n:Nat}{ds dd dds:List D}{dv:List Value}{C:Addr}{d:D}{pr:Prop}(F:FnOk K g exc a ir) (hb:BindOk K a ir.params ds.length dv) (hdv:∀h N,RelDs h N dd dv) (hgl:∀x d,g.lookup x=some d→globIn K x=some d) (hex:∀C∈exc,ExcOk K C 36)
    (hds:dds=ds++dd) (hX:pr→∀x o,Thr C d [] true x o→X x o) (cx:Cx A (n+1)) (gr:Gr K B)
    (h:∀f:Fm,Wk K f n→f.X=(fun x o=>pr∧Thr C d [] false x o)→setAll ir.sl f dds (nones ir.ln) (cellsI f.cs 0 ir.nc own) fun v o=>ir.body f v o (VEnd Q)):CallC w B A (.ref a) ds own Q X:=enterB F hb hdv hgl hex hds hX cx gr fun f W hx q_=>h f W hx
end
noncomputable section
noncomputable def gt:List (Str×D):=[(Str.ofString "hex_code", (D.cst (.ref 85))),(Str.ofString "hex_value", (D.cst (.ref 92))),(Str.ofString "code_of_hex", (D.cst (.ref 99))),(Str.ofString "coll_ideographs", (D.cst (.ref 240))),(Str.ofString "coll_scaled", (D.cst (.ref 274))),(Str.ofString "coll_trimmed", (D.cst (.ref 420))),(Str.ofString "coll_number", (D.cst (.ref 427))),(Str.ofString "coll_code", (D.cst (.ref 434))),(Str.ofString "coll_codes", (D.cst (.ref 439))),(Str.ofString "coll_elements", (D.cst (.ref 444))),(Str.ofString "coll_base_row", (D.cst (.ref 451))),(Str.ofString "read_allkeys", (D.cst (.ref 500))),(Str.ofString "allkeys_octets", (D.cst (.ref 505))),(Str.ofString "_law_deck", (D.cst (.ref 510))),(Str.ofString "_law_draw", (D.cst (.ref 517))),(Str.ofString "_law_pick", (D.cst (.ref 524))),(Str.ofString "_law_octets", (D.cst (.ref 529))),(Str.ofString "_law_hex", (D.cst (.ref 536))),(Str.ofString "_law_element", (D.cst (.ref 541))),(Str.ofString "_law_row", (D.cst (.ref 546))),(Str.ofString "_law_implicit", (D.cst (.ref 551))),(Str.ofString "_law_has", (D.cst (.ref 556))),(Str.ofString "BadCode", (D.cst (.ref 52))),(Str.ofString "BadRow", (D.cst (.ref 64))),(Str.ofString "CollBase", (D.cst (.ref 265))),(Str.ofString "Elements", (D.cst (.ref 397))),(Str.ofString "CollReader", (D.cst (.ref 489))),(Str.ofString "MAX_CODE", (D.int 1114111)),(Str.ofString "LEAST_HEX", (D.int 4)),(Str.ofString "MOST_HEX", (D.int 6)),(Str.ofString "COLL_SECONDARY", (D.int 32)),(Str.ofString "COLL_TERTIARY", (D.int 2)),(Str.ofString "COLL_OTHERS", (D.int 64448)),(Str.ofString "COLL_CORE", (D.int 64320)),(Str.ofString "COLL_EXTENSIONS", (D.int 64384)),(Str.ofString "COLL_REST_BIT", (D.int 32768)),(Str.ofString "COLL_REST_MASK", (D.int 32767)),(Str.ofString "COLL_REST_SHIFT", (D.int 15)),(Str.ofString "HEX_DIGITS", (D.bytes [48,49,50,51,52,53,54,55,56,57,65,66,67,68,69,70])),(Str.ofString "COLL_BLANKS", (D.bytes [32,9,13])),(Str.ofString "len", (D.cst (.builtin "len"))),(Str.ofString "min", (D.cst (.builtin "min"))),(Str.ofString "sorted", (D.cst (.builtin "sorted"))),(Str.ofString "ord", (D.cst (.builtin "ord"))),(Str.ofString "range", (D.cst (.type "range"))),(Str.ofString "tuple", (D.cst (.type "tuple"))),(Str.ofString "list", (D.cst (.type "list"))),(Str.ofString "int", (D.cst (.type "int"))),(Str.ofString "bytes", (D.cst (.type "bytes"))),(Str.ofString "enumerate", (D.cst (.type "enumerate")))]
@[reducible] noncomputable def ir_UniError_init__:FnIR:=⟨["self", "told"],["self", "told"],0,[(.loc 0),(.loc 1)],(seqS (asgA (loc 1) (loc 0) "told") nilS)⟩
@[reducible] noncomputable def ir_hex_code:FnIR:=⟨["code"],["code", "found", "rest"],0,[(.loc 0)],(seqS (asgS (listP nilL) (tgtS (.loc 1))) (seqS (asgS (loc 0) (tgtS (.loc 2))) (seqS (whileS (orB (cmp .Gt (loc 2) (kD (.int 0))) (orB (cmp .Lt (callP  (.builtin "len") (consL (loc 1) nilL)) (kD (.int 4))) nilOr)) (seqS (exprS (methP (loc 1) "append" (consL (subP (kD (.bytes [48,49,50,51,52,53,54,55,56,57,65,66,67,68,69,70])) (bin .BitAnd (loc 2) (kD (.int 15)))) nilL))) (seqS (asgS (bin .RShift (loc 2) (kD (.int 4))) (tgtS (.loc 2))) nilS))) (seqS (retS (callP  (.type "bytes") (consL (sliceP (loc 1) noPart noPart (neg (kD (.int 1)))) nilL))) nilS))))⟩
@[reducible] noncomputable def ir_hex_value:FnIR:=⟨["octet"],["octet"],0,[(.loc 0)],(seqS (ifS (le3 (kD (.int 48)) (loc 0) (kD (.int 57))) (seqS (retS (bin .Sub (loc 0) (kD (.int 48)))) nilS) nilS) (seqS (ifS (le3 (kD (.int 65)) (loc 0) (kD (.int 70))) (seqS (retS (bin .Sub (loc 0) (kD (.int 55)))) nilS) nilS) (seqS (ifS (le3 (kD (.int 97)) (loc 0) (kD (.int 102))) (seqS (retS (bin .Sub (loc 0) (kD (.int 87)))) nilS) nilS) (seqS (retS (kD .none)) nilS))))⟩
@[reducible] noncomputable def ir_code_of_hex:FnIR:=⟨["octets"],["octets", "number", "octet", "digit"],0,[(.loc 0)],(seqS (ifS (notB (le3 (kD (.int 1)) (callP  (.builtin "len") (consL (loc 0) nilL)) (kD (.int 6)))) (seqS (raiseS 52 (callP  (.ref 52) (consL (loc 0) nilL))) nilS) nilS) (seqS (asgS (kD (.int 0)) (tgtS (.loc 1))) (seqS (forS (loc 0) (tgtS (.loc 2)) (seqS (asgS (callP  (.ref 92) (consL (loc 2) nilL)) (tgtS (.loc 3))) (seqS (ifS (cmp .Is (loc 3) (kD .none)) (seqS (raiseS 52 (callP  (.ref 52) (consL (loc 0) nilL))) nilS) nilS) (seqS (asgS (bin .Add (bin .Mult (kD (.int 16)) (loc 1)) (loc 3)) (tgtS (.loc 1))) nilS)))) (seqS (ifS (cmp .Gt (loc 1) (kD (.int 1114111))) (seqS (raiseS 52 (callP  (.ref 52) (consL (loc 0) nilL))) nilS) nilS) (seqS (retS (loc 1)) nilS)))))⟩
@[reducible] noncomputable def ir_coll_ideographs:FnIR:=⟨[],["rows", "first", "last"],0,[],(seqS (asgS (listP (consL (tupP (consL (kD (.int 19968)) (consL (kD (.int 40959)) (consL (kD (.int 64320)) nilL)))) (consL (tupP (consL (kD (.int 64014)) (consL (kD (.int 64015)) (consL (kD (.int 64320)) nilL)))) (consL (tupP (consL (kD (.int 64017)) (consL (kD (.int 64017)) (consL (kD (.int 64320)) nilL)))) nilL)))) (tgtS (.loc 0))) (seqS (asgS (bin .Add (loc 0) (listP (consL (tupP (consL (kD (.int 64019)) (consL (kD (.int 64020)) (consL (kD (.int 64320)) nilL)))) (consL (tupP (consL (kD (.int 64031)) (consL (kD (.int 64031)) (consL (kD (.int 64320)) nilL)))) (consL (tupP (consL (kD (.int 64033)) (consL (kD (.int 64033)) (consL (kD (.int 64320)) nilL)))) nilL))))) (tgtS (.loc 0))) (seqS (asgS (bin .Add (loc 0) (listP (consL (tupP (consL (kD (.int 64035)) (consL (kD (.int 64036)) (consL (kD (.int 64320)) nilL)))) (consL (tupP (consL (kD (.int 64039)) (consL (kD (.int 64041)) (consL (kD (.int 64320)) nilL)))) nilL)))) (tgtS (.loc 0))) (seqS (forT (tupP (consL (tupP (consL (kD (.int 13312)) (consL (kD (.int 19903)) nilL))) (consL (tupP (consL (kD (.int 131072)) (consL (kD (.int 173791)) nilL))) (consL (tupP (consL (kD (.int 173824)) (consL (kD (.int 177977)) nilL))) (consL (tupP (consL (kD (.int 177984)) (consL (kD (.int 178205)) nilL))) nilL))))) [(.loc 1),(.loc 2)] (seqS (exprS (methP (loc 0) "append" (consL (tupP (consL (loc 1) (consL (loc 2) (consL (kD (.int 64384)) nilL)))) nilL))) nilS)) (seqS (forT (tupP (consL (tupP (consL (kD (.int 178208)) (consL (kD (.int 183969)) nilL))) (consL (tupP (consL (kD (.int 183984)) (consL (kD (.int 191456)) nilL))) (consL (tupP (consL (kD (.int 191472)) (consL (kD (.int 192093)) nilL))) nilL)))) [(.loc 1),(.loc 2)] (seqS (exprS (methP (loc 0) "append" (consL (tupP (consL (loc 1) (consL (loc 2) (consL (kD (.int 64384)) nilL)))) nilL))) nilS)) (seqS (forT (tupP (consL (tupP (consL (kD (.int 196608)) (consL (kD (.int 201546)) nilL))) (consL (tupP (consL (kD (.int 201552)) (consL (kD (.int 205743)) nilL))) nilL))) [(.loc 1),(.loc 2)] (seqS (exprS (methP (loc 0) "append" (consL (tupP (consL (loc 1) (consL (loc 2) (consL (kD (.int 64384)) nilL)))) nilL))) nilS)) (seqS (retS (loc 0)) nilS)))))))⟩
@[reducible] noncomputable def ir_CollBase_init__:FnIR:=⟨["self", "first", "last", "base", "origin"],["self", "first", "last", "base", "origin"],0,[(.loc 0),(.loc 1),(.loc 2),(.loc 3),(.loc 4)],(seqS (asgA (loc 1) (loc 0) "first") (seqS (asgA (loc 2) (loc 0) "last") (seqS (asgA (loc 3) (loc 0) "base") (seqS (asgA (loc 4) (loc 0) "origin") nilS))))⟩
@[reducible] noncomputable def ir_CollBase_elements_of:FnIR:=⟨["self", "code"],["self", "code", "lead", "rest"],0,[(.loc 0),(.loc 1)],(seqS (ifS (cmp .Is (attrP (loc 0) "origin") (kD .none)) (seqS (asgS (tupP (consL (bin .Add (attrP (loc 0) "base") (bin .RShift (loc 1) (kD (.int 15)))) (consL (bin .BitAnd (loc 1) (kD (.int 32767))) nilL))) (tgtR [(.loc 2),(.loc 3)])) nilS) (seqS (asgS (tupP (consL (attrP (loc 0) "base") (consL (bin .Sub (loc 1) (attrP (loc 0) "origin")) nilL))) (tgtR [(.loc 2),(.loc 3)])) nilS)) (seqS (retS (listP (consL (tupP (consL (loc 2) (consL (kD (.int 32)) (consL (kD (.int 2)) (consL (kD (.bool false)) nilL))))) (consL (tupP (consL (bin .BitOr (loc 3) (kD (.int 32768))) (consL (kD (.int 0)) (consL (kD (.int 0)) (consL (kD (.bool false)) nilL))))) nilL)))) nilS))⟩
@[reducible] noncomputable def ir_coll_scaled:FnIR:=⟨["elements", "factors"],["elements", "factors"],3,[(.loc 0),(.loc 1)],(seqS (asgS (loc 1) (tgtT [(.cell 0),(.cell 1),(.cell 2)])) (seqS (retS (compP [".0", "one"] (tgtS (.loc 1)) nilAnd (tupP (consL (bin .Mult (subP (loc 1) (kD (.int 0))) (cellP 0)) (consL (bin .Mult (subP (loc 1) (kD (.int 1))) (cellP 1)) (consL (bin .Mult (subP (loc 1) (kD (.int 2))) (cellP 2)) (consL (subP (loc 1) (kD (.int 3))) nilL))))) (loc 0))) nilS))⟩
@[reducible] noncomputable def ir_Elements_init__:FnIR:=⟨["self", "has_ideographs"],["self", "has_ideographs", "first", "last", "base"],0,[(.loc 0),(.loc 1)],(seqS (asgA dict0 (loc 0) "table") (seqS (asgA dict0 (loc 0) "longest") (seqS (asgA (tupP (consL (kD (.int 1)) (consL (kD (.int 1)) (consL (kD (.int 1)) nilL)))) (loc 0) "factors") (seqS (asgA (listP (consL (callP  (.ref 265) (consL (kD (.int 0)) (consL (kD (.int 1114111)) (consL (kD (.int 64448)) nilL)))) nilL)) (loc 0) "bases") (seqS (ifS (tv (loc 1)) (seqS (forT (callP  (.ref 240) nilL) [(.loc 2),(.loc 3),(.loc 4)] (seqS (exprS (methP (loc 0) "put_implicit" (consL (loc 2) (consL (loc 3) (consL (loc 4) nilL))))) nilS)) nilS) nilS) nilS)))))⟩
@[reducible] noncomputable def ir_Elements_put:FnIR:=⟨["self", "codes", "elements"],["self", "codes", "elements", "key"],0,[(.loc 0),(.loc 1),(.loc 2)],(seqS (asgS (callP  (.type "tuple") (consL (loc 1) nilL)) (tgtS (.loc 3))) (seqS (asgI (callP  (.type "list") (consL (loc 2) nilL)) (attrP (loc 0) "table") (loc 3)) (seqS (ifS (cmp .Lt (methP (attrP (loc 0) "longest") "get" (consL (subP (loc 3) (kD (.int 0))) (consL (kD (.int 0)) nilL))) (callP  (.builtin "len") (consL (loc 3) nilL))) (seqS (asgI (callP  (.builtin "len") (consL (loc 3) nilL)) (attrP (loc 0) "longest") (subP (loc 3) (kD (.int 0)))) nilS) nilS) nilS)))⟩
@[reducible] noncomputable def ir_Elements_get:FnIR:=⟨["self", "codes"],["self", "codes"],0,[(.loc 0),(.loc 1)],(seqS (retS (methP (attrP (loc 0) "table") "get" (consL (callP  (.type "tuple") (consL (loc 1) nilL)) nilL))) nilS)⟩
@[reducible] noncomputable def ir_Elements_rows:FnIR:=⟨["self"],[],1,[(.cell 0)],(seqS (retS (compP [".0", "key"] (tgtS (.loc 1)) nilAnd (tupP (consL (loc 1) (consL (subP (attrP (cellP 0) "table") (loc 1)) nilL))) (callP  (.builtin "sorted") (consL (attrP (cellP 0) "table") nilL)))) nilS)⟩
@[reducible] noncomputable def ir_Elements_put_implicit:FnIR:=⟨["self", "first", "last", "base", "origin"],["self", "first", "last", "base", "origin"],0,[(.loc 0),(.loc 1),(.loc 2),(.loc 3),(.loc 4)],(seqS (exprS (methP (attrP (loc 0) "bases") "append" (consL (callP  (.ref 265) (consL (loc 1) (consL (loc 2) (consL (loc 3) (consL (loc 4) nilL))))) nilL))) nilS)⟩
@[reducible] noncomputable def ir_Elements_implicit_of:FnIR:=⟨["self", "code"],["self", "code", "at"],0,[(.loc 0),(.loc 1)],(seqS (asgS (bin .Sub (callP  (.builtin "len") (consL (attrP (loc 0) "bases") nilL)) (kD (.int 1))) (tgtS (.loc 2))) (seqS (whileS (notB (cmp2 .LtE .LtE (attrP (subP (attrP (loc 0) "bases") (loc 2)) "first") (loc 1) (attrP (subP (attrP (loc 0) "bases") (loc 2)) "last"))) (seqS (subS 2 (kD (.int 1))) nilS)) (seqS (retS (callP  (.ref 274) (consL (methP (subP (attrP (loc 0) "bases") (loc 2)) "elements_of" (consL (loc 1) nilL)) (consL (attrP (loc 0) "factors") nilL)))) nilS)))⟩
@[reducible] noncomputable def ir_coll_trimmed:FnIR:=⟨["octets"],["octets"],0,[(.loc 0)],(seqS (retS (methP (loc 0) "strip" (consL (kD (.bytes [32,9,13])) nilL))) nilS)⟩
@[reducible] noncomputable def ir_coll_number:FnIR:=⟨["octets", "row"],["octets", "row", "found", "octet", "digit"],0,[(.loc 0),(.loc 1)],(seqS (ifS (orB (cmp .Eq (loc 0) (kD (.bytes []))) (orB (cmp .Gt (callP  (.builtin "len") (consL (loc 0) nilL)) (kD (.int 6))) nilOr)) (seqS (raiseS 64 (callP  (.ref 64) (consL (loc 1) nilL))) nilS) nilS) (seqS (asgS (kD (.int 0)) (tgtS (.loc 2))) (seqS (forS (loc 0) (tgtS (.loc 3)) (seqS (asgS (callP  (.ref 92) (consL (loc 3) nilL)) (tgtS (.loc 4))) (seqS (ifS (cmp .Is (loc 4) (kD .none)) (seqS (raiseS 64 (callP  (.ref 64) (consL (loc 1) nilL))) nilS) nilS) (seqS (asgS (bin .Add (bin .Mult (loc 2) (kD (.int 16))) (loc 4)) (tgtS (.loc 2))) nilS)))) (seqS (retS (loc 2)) nilS))))⟩
@[reducible] noncomputable def ir_coll_code:FnIR:=⟨["octets", "row"],["octets", "row", "found"],0,[(.loc 0),(.loc 1)],(seqS (asgS (kD .none) (tgtS (.loc 2))) (seqS (tryS 52 (seqS (asgS (callP  (.ref 99) (consL (loc 0) nilL)) (tgtS (.loc 2))) nilS) (seqS (asgS (kD .none) (tgtS (.loc 2))) nilS)) (seqS (ifS (cmp .Is (loc 2) (kD .none)) (seqS (raiseS 64 (callP  (.ref 64) (consL (loc 1) nilL))) nilS) nilS) (seqS (retS (loc 2)) nilS))))⟩
@[reducible] noncomputable def ir_coll_codes:FnIR:=⟨["octets", "row"],["octets", "found"],1,[(.loc 0),(.cell 0)],(seqS (asgC [".0", "word"] (tgtS (.loc 1)) (cmp .NotEq (loc 1) (kD (.bytes []))) (callP  (.ref 434) (consL (loc 1) (consL (cellP 0) nilL))) (methP (methP (loc 0) "replace" (consL (kD (.bytes [9])) (consL (kD (.bytes [32])) nilL))) "split" (consL (kD (.bytes [32])) nilL)) (.loc 1)) (seqS (ifS (cmp .Eq (loc 1) (listP nilL)) (seqS (raiseS 64 (callP  (.ref 64) (consL (cellP 0) nilL))) nilS) nilS) (seqS (retS (loc 1)) nilS)))⟩
@[reducible] noncomputable def ir_coll_elements:FnIR:=⟨["octets", "row"],["octets", "found", "rest", "ended", "sign", "weights", "numbers"],1,[(.loc 0),(.cell 0)],(seqS (asgS (tupP (consL (listP nilL) (consL (callP  (.ref 420) (consL (loc 0) nilL)) nilL))) (tgtR [(.loc 1),(.loc 2)])) (seqS (whileS (cmp .NotEq (loc 2) (kD (.bytes []))) (seqS (asgS (methP (loc 2) "find" (consL (kD (.bytes [93])) nilL)) (tgtS (.loc 3))) (seqS (ifS (orB (cmp .NotEq (sliceP (loc 2) noPart (kD (.int 1)) noPart) (kD (.bytes [91]))) (orB (cmp .Lt (loc 3) (kD (.int 0))) nilOr)) (seqS (raiseS 64 (callP  (.ref 64) (consL (cellP 0) nilL))) nilS) nilS) (seqS (asgS (tupP (consL (sliceP (loc 2) (kD (.int 1)) (kD (.int 2)) noPart) (consL (methP (sliceP (loc 2) (kD (.int 2)) (loc 3) noPart) "split" (consL (kD (.bytes [46])) nilL)) nilL))) (tgtR [(.loc 4),(.loc 5)])) (seqS (ifS (orB (cmp .NotIn (loc 4) (tupP (consL (kD (.bytes [46])) (consL (kD (.bytes [42])) nilL)))) (orB (cmp .NotIn (callP  (.builtin "len") (consL (loc 5) nilL)) (tupP (consL (kD (.int 3)) (consL (kD (.int 4)) nilL)))) nilOr)) (seqS (raiseS 64 (callP  (.ref 64) (consL (cellP 0) nilL))) nilS) nilS) (seqS (asgC [".0", "weight"] (tgtS (.loc 1)) nilAnd (callP  (.ref 427) (consL (loc 1) (consL (cellP 0) nilL))) (loc 5) (.loc 6)) (seqS (exprS (methP (loc 1) "append" (consL (tupP (consL (subP (loc 6) (kD (.int 0))) (consL (subP (loc 6) (kD (.int 1))) (consL (subP (loc 6) (kD (.int 2))) (consL (ofB (cmp .Eq (loc 4) (kD (.bytes [42])))) nilL))))) nilL))) (seqS (asgS (callP  (.ref 420) (consL (sliceP (loc 2) (bin .Add (loc 3) (kD (.int 1))) noPart noPart) nilL)) (tgtS (.loc 2))) nilS)))))))) (seqS (retS (loc 1)) nilS)))⟩
@[reducible] noncomputable def ir_coll_base_row:FnIR:=⟨["octets", "row"],["octets", "row", "fields", "ends", "first", "last"],0,[(.loc 0),(.loc 1)],(seqS (asgS (methP (loc 0) "split" (consL (kD (.bytes [59])) nilL)) (tgtS (.loc 2))) (seqS (ifS (cmp .NotEq (callP  (.builtin "len") (consL (loc 2) nilL)) (kD (.int 2))) (seqS (raiseS 64 (callP  (.ref 64) (consL (loc 1) nilL))) nilS) nilS) (seqS (asgS (methP (callP  (.ref 420) (consL (subP (loc 2) (kD (.int 0))) nilL)) "split" (consL (kD (.bytes [46,46])) nilL)) (tgtS (.loc 3))) (seqS (ifS (cmp .NotIn (callP  (.builtin "len") (consL (loc 3) nilL)) (tupP (consL (kD (.int 1)) (consL (kD (.int 2)) nilL)))) (seqS (raiseS 64 (callP  (.ref 64) (consL (loc 1) nilL))) nilS) nilS) (seqS (asgS (tupP (consL (callP  (.ref 434) (consL (subP (loc 3) (kD (.int 0))) (consL (loc 1) nilL))) (consL (callP  (.ref 434) (consL (subP (loc 3) (neg (kD (.int 1)))) (consL (loc 1) nilL))) nilL))) (tgtR [(.loc 4),(.loc 5)])) (seqS (ifS (cmp .Lt (loc 5) (loc 4)) (seqS (raiseS 64 (callP  (.ref 64) (consL (loc 1) nilL))) nilS) nilS) (seqS (retS (tupP (consL (loc 4) (consL (loc 5) (consL (callP  (.ref 427) (consL (callP  (.ref 420) (consL (subP (loc 2) (kD (.int 1))) nilL)) (consL (loc 1) nilL))) nilL))))) nilS)))))))⟩
@[reducible] noncomputable def ir_CollReader_init__:FnIR:=⟨["self"],["self"],0,[(.loc 0)],(seqS (asgA (callP  (.ref 397) nilL) (loc 0) "elements") (seqS (asgA (kD .none) (loc 0) "version") (seqS (asgA (listP nilL) (loc 0) "ranges") nilS)))⟩
@[reducible] noncomputable def ir_CollReader_put_row:FnIR:=⟨["self", "octets", "row"],["self", "octets", "row", "fields", "elements"],0,[(.loc 0),(.loc 1),(.loc 2)],(seqS (ifS (cmp .Eq (loc 1) (kD (.bytes []))) (seqS ret0 nilS) nilS) (seqS (ifS (cmp .Eq (sliceP (loc 1) noPart (kD (.int 1)) noPart) (kD (.bytes [64]))) (seqS (exprS (methP (loc 0) "put_order" (consL (loc 1) (consL (loc 2) nilL)))) (seqS ret0 nilS)) nilS) (seqS (asgS (methP (loc 1) "split" (consL (kD (.bytes [59])) nilL)) (tgtS (.loc 3))) (seqS (ifS (cmp .NotEq (callP  (.builtin "len") (consL (loc 3) nilL)) (kD (.int 2))) (seqS (raiseS 64 (callP  (.ref 64) (consL (loc 2) nilL))) nilS) nilS) (seqS (asgS (callP  (.ref 444) (consL (subP (loc 3) (kD (.int 1))) (consL (loc 2) nilL))) (tgtS (.loc 4))) (seqS (ifS (cmp .Eq (loc 4) (listP nilL)) (seqS (raiseS 64 (callP  (.ref 64) (consL (loc 2) nilL))) nilS) nilS) (seqS (exprS (methP (attrP (loc 0) "elements") "put" (consL (callP  (.ref 439) (consL (callP  (.ref 420) (consL (subP (loc 3) (kD (.int 0))) nilL)) (consL (loc 2) nilL))) (consL (loc 4) nilL)))) nilS)))))))⟩
@[reducible] noncomputable def ir_CollReader_put_order:FnIR:=⟨["self", "octets", "row"],["self", "octets", "row", "word", "blank", "rest"],0,[(.loc 0),(.loc 1),(.loc 2)],(seqS (asgS (methP (methP (loc 1) "replace" (consL (kD (.bytes [9])) (consL (kD (.bytes [32])) nilL))) "partition" (consL (kD (.bytes [32])) nilL)) (tgtT [(.loc 3),(.loc 4),(.loc 5)])) (seqS (ifS (andB (cmp .Eq (loc 3) (kD (.bytes [64,118,101,114,115,105,111,110]))) (andB (cmp .Is (attrP (loc 0) "version") (kD .none)) (andB (cmp .NotEq (callP  (.ref 420) (consL (loc 5) nilL)) (kD (.bytes []))) nilAnd))) (seqS (asgA (callP  (.ref 420) (consL (loc 5) nilL)) (loc 0) "version") nilS) (seqS (ifS (cmp .Eq (loc 3) (kD (.bytes [64,105,109,112,108,105,99,105,116,119,101,105,103,104,116,115]))) (seqS (exprS (methP (attrP (loc 0) "ranges") "append" (consL (callP  (.ref 451) (consL (loc 5) (consL (loc 2) nilL))) nilL))) nilS) (seqS (raiseS 64 (callP  (.ref 64) (consL (loc 2) nilL))) nilS)) nilS)) nilS))⟩
@[reducible] noncomputable def ir_CollReader_close:FnIR:=⟨["self"],["self", "origins", "first", "last", "base"],0,[(.loc 0)],(seqS (asgS dict0 (tgtS (.loc 1))) (seqS (forT (attrP (loc 0) "ranges") [(.loc 2),(.loc 3),(.loc 4)] (seqS (asgI (callP  (.builtin "min") (consL (loc 2) (consL (methP (loc 1) "get" (consL (loc 4) (consL (loc 2) nilL))) nilL))) (loc 1) (loc 4)) nilS)) (seqS (forT (attrP (loc 0) "ranges") [(.loc 2),(.loc 3),(.loc 4)] (seqS (exprS (methP (attrP (loc 0) "elements") "put_implicit" (consL (loc 2) (consL (loc 3) (consL (loc 4) (consL (subP (loc 1) (loc 4)) nilL)))))) nilS)) (seqS (retS (attrP (loc 0) "elements")) nilS))))⟩
@[reducible] noncomputable def ir_read_allkeys:FnIR:=⟨["octets"],["octets", "reader", "number", "octets_now"],0,[(.loc 0)],(seqS (asgS (callP  (.ref 489) nilL) (tgtS (.loc 1))) (seqS (forT (callP  (.type "enumerate") (consL (methP (loc 0) "split" (consL (kD (.bytes [10])) nilL)) nilL)) [(.loc 2),(.loc 3)] (seqS (exprS (methP (loc 1) "put_row" (consL (callP  (.ref 420) (consL (subP (methP (loc 3) "partition" (consL (kD (.bytes [35])) nilL)) (kD (.int 0))) nilL)) (consL (bin .Add (loc 2) (kD (.int 1))) nilL)))) nilS)) (seqS (retS (methP (loc 1) "close" nilL)) nilS)))⟩
@[reducible] noncomputable def ir_allkeys_octets:FnIR:=⟨["elements"],["elements", "rows", "base", "ends", "key", "told", "pieces", "primary", "secondary", "tertiary", "is_variable", "weights"],0,[(.loc 0)],(seqS (asgS (listP nilL) (tgtS (.loc 1))) (seqS (forS (attrP (loc 0) "bases") (tgtS (.loc 2)) (seqS (ifS (cmp .IsNot (attrP (loc 2) "origin") (kD .none)) (seqS (asgS (bin .Add (bin .Add (callP  (.ref 85) (consL (attrP (loc 2) "first") nilL)) (kD (.bytes [46,46]))) (callP  (.ref 85) (consL (attrP (loc 2) "last") nilL))) (tgtS (.loc 3))) (seqS (exprS (methP (loc 1) "append" (consL (bin .Add (bin .Add (bin .Add (kD (.bytes [64,105,109,112,108,105,99,105,116,119,101,105,103,104,116,115,32])) (loc 3)) (kD (.bytes [59,32]))) (callP  (.ref 85) (consL (attrP (loc 2) "base") nilL))) nilL))) nilS)) nilS) nilS)) (seqS (forT (methP (loc 0) "rows" nilL) [(.loc 4),(.loc 5)] (seqS (asgS (listP nilL) (tgtS (.loc 6))) (seqS (forT (loc 5) [(.loc 7),(.loc 8),(.loc 9),(.loc 10)] (seqS (asgS (bin .Add (bin .Add (bin .Add (bin .Add (callP  (.ref 85) (consL (loc 7) nilL)) (kD (.bytes [46]))) (callP  (.ref 85) (consL (loc 8) nilL))) (kD (.bytes [46]))) (callP  (.ref 85) (consL (loc 9) nilL))) (tgtS (.loc 11))) (seqS (exprS (methP (loc 6) "append" (consL (bin .Add (bin .Add (ite (tv (loc 10)) (kD (.bytes [91,42])) (kD (.bytes [91,46]))) (loc 11)) (kD (.bytes [93]))) nilL))) nilS))) (seqS (exprS (methP (loc 1) "append" (consL (bin .Add (bin .Add (methP (kD (.bytes [32])) "join" (consL (compP [".0", "code"] (tgtS (.loc 1)) nilAnd (callP  (.ref 85) (consL (loc 1) nilL)) (loc 4)) nilL)) (kD (.bytes [32,59,32]))) (methP (kD (.bytes [])) "join" (consL (loc 6) nilL))) nilL))) nilS)))) (seqS (retS (methP (kD (.bytes [])) "join" (consL (compP [".0", "row"] (tgtS (.loc 1)) nilAnd (bin .Add (loc 1) (kD (.bytes [10]))) (loc 1)) nilL))) nilS))))⟩
@[reducible] noncomputable def ir_law_deck:FnIR:=⟨["script"],["script", "cell", "cells", "mixed"],0,[(.loc 0)],(seqS (asgS (tupP (consL (compP [".0", "cell"] (tgtS (.loc 1)) nilAnd (callP  (.type "int") (consL (loc 1) nilL)) (sliceP (loc 0) noPart (kD (.int 20)) noPart)) (consL (kD (.int 5801)) nilL))) (tgtR [(.loc 2),(.loc 3)])) (seqS (forS (loc 2) (tgtS (.loc 1)) (seqS (asgS (bin .Mod (bin .Add (bin .Add (bin .Mult (loc 3) (kD (.int 48271))) (bin .Mod (loc 1) (kD (.int 2147483629)))) (kD (.int 5801))) (kD (.int 2147483587))) (tgtS (.loc 3))) nilS)) (seqS (retS (dictP ["cells", "mixed", "turn"] (consL (sliceP (loc 2) noPart noPart (neg (kD (.int 1)))) (consL (loc 3) (consL (kD (.int 0)) nilL))))) nilS)))⟩
@[reducible] noncomputable def ir_law_draw:FnIR:=⟨["deck", "below"],["deck", "below", "figure", "cell"],0,[(.loc 0),(.loc 1)],(seqS (asgI (bin .Add (subP (loc 0) (kD (.str (Str.ofString "turn").cps.toList))) (kD (.int 1))) (loc 0) (kD (.str (Str.ofString "turn").cps.toList))) (seqS (asgS (bin .Add (subP (loc 0) (kD (.str (Str.ofString "mixed").cps.toList))) (bin .Mult (bin .Mult (kD (.int 61613)) (subP (loc 0) (kD (.str (Str.ofString "turn").cps.toList)))) (subP (loc 0) (kD (.str (Str.ofString "turn").cps.toList))))) (tgtS (.loc 2))) (seqS (ifS (cmp .NotEq (subP (loc 0) (kD (.str (Str.ofString "cells").cps.toList))) (listP nilL)) (seqS (asgS (methP (subP (loc 0) (kD (.str (Str.ofString "cells").cps.toList))) "pop" nilL) (tgtS (.loc 3))) (seqS (ifS (cmp .GtE (loc 3) (kD (.int 1000000))) (seqS (exprS (methP (subP (loc 0) (kD (.str (Str.ofString "cells").cps.toList))) "append" (consL (bin .FloorDiv (loc 3) (loc 1)) nilL))) (seqS (retS (bin .Mod (loc 3) (loc 1))) nilS)) nilS) (seqS (asgS (bin .Add (loc 2) (bin .Mod (loc 3) (kD (.int 2147483563)))) (tgtS (.loc 2))) nilS))) nilS) (seqS (asgS (bin .Mod (bin .Mult (bin .Mod (loc 2) (kD (.int 2147483629))) (kD (.int 40692))) (kD (.int 2147483647))) (tgtS (.loc 2))) (seqS (asgS (bin .Mod (bin .Add (bin .Mult (loc 2) (loc 2)) (kD (.int 1823))) (kD (.int 2147483587))) (tgtS (.loc 2))) (seqS (retS (bin .Mod (bin .FloorDiv (bin .Mod (bin .Mult (loc 2) (kD (.int 39373))) (kD (.int 2147483579))) (kD (.int 64))) (loc 1))) nilS))))))⟩
@[reducible] noncomputable def ir_law_pick:FnIR:=⟨["deck", "some"],["deck", "some"],0,[(.loc 0),(.loc 1)],(seqS (retS (subP (loc 1) (callP  (.ref 517) (consL (loc 0) (consL (callP  (.builtin "len") (consL (loc 1) nilL)) nilL))))) nilS)⟩
@[reducible] noncomputable def ir_law_octets:FnIR:=⟨["text"],["text"],0,[(.loc 0)],(seqS (retS (callP  (.type "bytes") (consL (compP [".0", "sign"] (tgtS (.loc 1)) nilAnd (callP  (.builtin "ord") (consL (loc 1) nilL)) (loc 0)) nilL))) nilS)⟩
@[reducible] noncomputable def ir_law_hex:FnIR:=⟨["number", "many", "is_large"],["number", "many", "is_large", "found"],0,[(.loc 0),(.loc 1),(.loc 2)],(seqS (asgS (kD (.str [])) (tgtS (.loc 3))) (seqS (whileS (orB (cmp .Gt (loc 0) (kD (.int 0))) (orB (cmp .Lt (callP  (.builtin "len") (consL (loc 3) nilL)) (loc 1)) nilOr)) (seqS (asgS (bin .Add (subP (ite (tv (loc 2)) (kD (.str [48,49,50,51,52,53,54,55,56,57,65,66,67,68,69,70])) (kD (.str [48,49,50,51,52,53,54,55,56,57,97,98,99,100,101,102]))) (bin .Mod (loc 0) (kD (.int 16)))) (loc 3)) (tgtS (.loc 3))) (seqS (asgS (bin .FloorDiv (loc 0) (kD (.int 16))) (tgtS (.loc 0))) nilS))) (seqS (retS (loc 3)) nilS)))⟩
@[reducible] noncomputable def ir_law_element:FnIR:=⟨["deck"],["is_variable", "weights", "text"],1,[(.cell 0)],(seqS (asgS (tupP (consL (ofB (cmp .Eq (callP  (.ref 517) (consL (cellP 0) (consL (kD (.int 3)) nilL))) (kD (.int 0)))) (consL (tupP (consL (callP  (.ref 517) (consL (cellP 0) (consL (kD (.int 65536)) nilL))) (consL (bin .Add (kD (.int 32)) (callP  (.ref 517) (consL (cellP 0) (consL (kD (.int 300)) nilL)))) (consL (callP  (.ref 517) (consL (cellP 0) (consL (kD (.int 32)) nilL))) nilL)))) nilL))) (tgtR [(.loc 0),(.loc 1)])) (seqS (asgS (methP (kD (.str [])) "join" (consL (compP [".0", "number"] (tgtS (.loc 1)) nilAnd (bin .Add (kD (.str [46])) (callP  (.ref 536) (consL (loc 1) (consL (kD (.int 4)) (consL (ofB (cmp .Eq (callP  (.ref 517) (consL (cellP 0) (consL (kD (.int 2)) nilL))) (kD (.int 0)))) nilL))))) (loc 1)) nilL)) (tgtS (.loc 2))) (seqS (ifS (cmp .Eq (callP  (.ref 517) (consL (cellP 0) (consL (kD (.int 4)) nilL))) (kD (.int 0))) (seqS (asgS (bin .Add (loc 2) (kD (.str [46,48,48,54,49]))) (tgtS (.loc 2))) nilS) nilS) (seqS (retS (tupP (consL (bin .Add (loc 1) (tupP (consL (loc 0) nilL))) (consL (bin .Add (bin .Add (bin .Add (kD (.str [91])) (ite (tv (loc 0)) (kD (.str [42])) (kD (.str [46])))) (sliceP (loc 2) (kD (.int 1)) noPart noPart)) (kD (.str [93]))) nilL)))) nilS))))⟩
@[reducible] noncomputable def ir_law_row:FnIR:=⟨["deck", "told"],["told", "way", "page", "first", "base", "last", "codes", "some", "blank"],1,[(.cell 0),(.loc 0)],(seqS (asgS (callP  (.ref 517) (consL (cellP 0) (consL (kD (.int 7)) nilL))) (tgtS (.loc 1))) (seqS (ifS (cmp .Eq (loc 1) (kD (.int 0))) (seqS (asgS (callP  (.ref 524) (consL (cellP 0) (consL (listP (consL (kD (.str [])) (consL (kD (.str [35,32,97,32,114,101,109,97,114,107,32,59,32,91])) (consL (kD (.str [32,32])) (consL (kD (.str [64,118,101,114,115,105,111,110,32,49,53,46,49,46,48])) (consL (kD (.str [9,35,32,120])) nilL)))))) nilL))) (tgtS (.loc 2))) (seqS (asgS (ite (andB (cmp .Eq (sliceP (loc 2) noPart (kD (.int 1)) noPart) (kD (.str [64]))) (andB (tv (subP (loc 0) (kD (.str (Str.ofString "version").cps.toList)))) nilAnd)) (kD (.str [35])) (loc 2)) (tgtS (.loc 2))) (seqS (asgI (orV (subP (loc 0) (kD (.str (Str.ofString "version").cps.toList))) (ofB (cmp .Eq (sliceP (loc 2) noPart (kD (.int 1)) noPart) (kD (.str [64]))))) (loc 0) (kD (.str (Str.ofString "version").cps.toList))) (seqS (retS (loc 2)) nilS)))) nilS) (seqS (ifS (andB (cmp .Eq (loc 1) (kD (.int 1))) (andB (cmp .NotEq (subP (loc 0) (kD (.str (Str.ofString "firsts").cps.toList))) (listP nilL)) nilAnd)) (seqS (asgS (methP (subP (loc 0) (kD (.str (Str.ofString "firsts").cps.toList))) "pop" (consL (callP  (.ref 517) (consL (cellP 0) (consL (callP  (.builtin "len") (consL (subP (loc 0) (kD (.str (Str.ofString "firsts").cps.toList))) nilL)) nilL))) nilL)) (tgtS (.loc 3))) (seqS (asgS (callP  (.ref 524) (consL (cellP 0) (consL (listP (consL (kD (.int 64256)) (consL (kD (.int 64257)) nilL))) nilL))) (tgtS (.loc 4))) (seqS (asgS (bin .Add (loc 3) (callP  (.ref 524) (consL (cellP 0) (consL (listP (consL (kD (.int 0)) (consL (kD (.int 1)) (consL (kD (.int 7)) (consL (kD (.int 39)) nilL))))) nilL)))) (tgtS (.loc 5))) (seqS (exprS (methP (subP (loc 0) (kD (.str (Str.ofString "ranges").cps.toList))) "append" (consL (tupP (consL (loc 3) (consL (loc 5) (consL (loc 4) nilL)))) nilL))) (seqS (asgS (bin .Add (callP  (.ref 536) (consL (loc 3) (consL (kD (.int 4)) (consL (kD (.bool true)) nilL)))) (ite (cmp .Gt (loc 5) (loc 3)) (bin .Add (kD (.str [46,46])) (callP  (.ref 536) (consL (loc 5) (consL (kD (.int 4)) (consL (kD (.bool true)) nilL))))) (kD (.str [])))) (tgtS (.loc 2))) (seqS (retS (bin .Add (bin .Add (bin .Add (bin .Add (kD (.str [64,105,109,112,108,105,99,105,116,119,101,105,103,104,116,115,32])) (loc 2)) (kD (.str [59,32]))) (callP  (.ref 536) (consL (loc 4) (consL (kD (.int 4)) (consL (kD (.bool true)) nilL))))) (callP  (.ref 524) (consL (cellP 0) (consL (listP (consL (kD (.str [])) (consL (kD (.str [32,35,32,98,97,115,101])) nilL))) nilL))))) nilS)))))) nilS) (seqS (asgS (callP  (.type "tuple") (consL (compP [".0", "k"] (tgtS (.loc 1)) nilAnd (callP  (.ref 524) (consL (cellP 0) (consL (listP (consL (kD (.int 97)) (consL (kD (.int 98)) (consL (kD (.int 769)) (consL (kD (.int 128512)) nilL))))) nilL))) (callP  (.type "range") (consL (callP  (.ref 524) (consL (cellP 0) (consL (listP (consL (kD (.int 1)) (consL (kD (.int 1)) (consL (kD (.int 2)) (consL (kD (.int 3)) nilL))))) nilL))) nilL))) nilL)) (tgtS (.loc 6))) (seqS (asgC [".0", "k"] (tgtS (.loc 1)) nilAnd (callP  (.ref 541) (consL (cellP 0) nilL)) (callP  (.type "range") (consL (callP  (.ref 524) (consL (cellP 0) (consL (listP (consL (kD (.int 1)) (consL (kD (.int 1)) (consL (kD (.int 2)) nilL)))) nilL))) nilL)) (.loc 7)) (seqS (asgI (compP [".0", "one"] (tgtS (.loc 1)) nilAnd (subP (loc 1) (kD (.int 0))) (loc 7)) (subP (loc 0) (kD (.str (Str.ofString "rows").cps.toList))) (loc 6)) (seqS (asgS (methP (kD (.str [32])) "join" (consL (compP [".0", "code"] (tgtS (.loc 1)) nilAnd (callP  (.ref 536) (consL (loc 1) (consL (kD (.int 4)) (consL (ofB (cmp .Eq (callP  (.ref 517) (consL (cellP 0) (consL (kD (.int 2)) nilL))) (kD (.int 0)))) nilL)))) (loc 6)) nilL)) (tgtS (.loc 2))) (seqS (asgS (callP  (.ref 524) (consL (cellP 0) (consL (listP (consL (kD (.str [32])) (consL (kD (.str [])) (consL (kD (.str [32,32])) nilL)))) nilL))) (tgtS (.loc 8))) (seqS (retS (bin .Add (bin .Add (bin .Add (bin .Add (bin .Add (loc 2) (loc 8)) (kD (.str [59]))) (loc 8)) (methP (kD (.str [])) "join" (consL (compP [".0", "one"] (tgtS (.loc 1)) nilAnd (subP (loc 1) (kD (.int 1))) (loc 7)) nilL))) (callP  (.ref 524) (consL (cellP 0) (consL (listP (consL (kD (.str [])) (consL (kD (.str [32,35,32,65])) (consL (kD (.str [35])) (consL (kD (.str [13])) nilL))))) nilL))))) nilS)))))))))⟩
@[reducible] noncomputable def ir_law_implicit:FnIR:=⟨["told", "code"],["told", "code", "first", "last", "origin"],1,[(.loc 0),(.loc 1)],(seqS (forT (subP (loc 0) (kD (.str (Str.ofString "ranges").cps.toList))) [(.loc 2),(.loc 3),(.cell 0)] (seqS (ifS (le3 (loc 2) (loc 1) (loc 3)) (seqS (asgS (callP  (.builtin "min") (consL (compP [".0", "one"] (tgtS (.loc 1)) (cmp .Eq (subP (loc 1) (kD (.int 2))) (cellP 0)) (subP (loc 1) (kD (.int 0))) (subP (loc 0) (kD (.str (Str.ofString "ranges").cps.toList)))) nilL)) (tgtS (.loc 4))) (seqS (retS (listP (consL (tupP (consL (cellP 0) (consL (kD (.int 32)) (consL (kD (.int 2)) (consL (kD (.bool false)) nilL))))) (consL (tupP (consL (bin .Add (kD (.int 32768)) (bin .Mod (bin .Sub (loc 1) (loc 4)) (kD (.int 32768)))) (consL (kD (.int 0)) (consL (kD (.int 0)) (consL (kD (.bool false)) nilL))))) nilL)))) nilS)) nilS) nilS)) (seqS (retS (listP (consL (tupP (consL (bin .Add (kD (.int 64448)) (bin .FloorDiv (loc 1) (kD (.int 32768)))) (consL (kD (.int 32)) (consL (kD (.int 2)) (consL (kD (.bool false)) nilL))))) (consL (tupP (consL (bin .Add (kD (.int 32768)) (bin .Mod (loc 1) (kD (.int 32768)))) (consL (kD (.int 0)) (consL (kD (.int 0)) (consL (kD (.bool false)) nilL))))) nilL)))) nilS))⟩
@[reducible] noncomputable def ir_law_has:FnIR:=⟨["table", "told"],["keys", "codes", "first", "last", "base"],2,[(.cell 0),(.cell 1)],(seqS (asgS (callP  (.builtin "sorted") (consL (subP (cellP 1) (kD (.str (Str.ofString "rows").cps.toList))) nilL)) (tgtS (.loc 0))) (seqS (ifS (orB (cmp .NotEq (compP [".0", "row", "elements"] (tgtT [(.loc 1),(.loc 2)]) nilAnd (callP  (.type "tuple") (consL (loc 1) nilL)) (methP (cellP 0) "rows" nilL)) (loc 0)) (orB (cmp .IsNot (methP (cellP 0) "get" (consL (tupP (consL (kD (.int 122)) nilL)) nilL)) (kD .none)) nilOr)) (seqS (retS (kD (.bool false))) nilS) nilS) (seqS (ifS (cmp .NotEq (compP [".0", "row"] (tgtS (.loc 1)) (cmp .NotEq (compP [".0", "one"] (tgtS (.loc 1)) nilAnd (callP  (.type "tuple") (consL (loc 1) nilL)) (methP (cellP 0) "get" (consL (loc 1) nilL))) (subP (subP (cellP 1) (kD (.str (Str.ofString "rows").cps.toList))) (loc 1))) (loc 1) (loc 0)) (listP nilL)) (seqS (retS (kD (.bool false))) nilS) nilS) (seqS (asgS (listP (consL (kD (.int 888)) (consL (bin .Add (kD (.int 196608)) (kD (.int 131072))) nilL))) (tgtS (.loc 1))) (seqS (forT (subP (cellP 1) (kD (.str (Str.ofString "ranges").cps.toList))) [(.loc 2),(.loc 3),(.loc 4)] (seqS (asgS (bin .Add (loc 1) (listP (consL (bin .Sub (loc 2) (kD (.int 1))) (consL (loc 2) (consL (bin .FloorDiv (bin .Add (loc 2) (loc 3)) (kD (.int 2))) (consL (loc 3) (consL (bin .Add (loc 3) (kD (.int 1))) nilL))))))) (tgtS (.loc 1))) nilS)) (seqS (retS (ofB (cmp .Eq (compP [".0", "code"] (tgtS (.loc 1)) (cmp .NotEq (compP [".0", "one"] (tgtS (.loc 1)) nilAnd (callP  (.type "tuple") (consL (loc 1) nilL)) (methP (cellP 0) "implicit_of" (consL (loc 1) nilL))) (callP  (.ref 551) (consL (cellP 1) (consL (loc 1) nilL)))) (loc 1) (loc 1)) (listP nilL)))) nilS))))))⟩
@[reducible] noncomputable def ir_law:FnIR:=⟨["script"],["script", "rows", "at", "some", "bad", "e", "table"],2,[(.loc 0)],(seqS (asgS (tupP (consL (callP  (.ref 510) (consL (loc 0) nilL)) (consL (dictP ["rows", "ranges", "version", "firsts"] (consL dict0 (consL (listP nilL) (consL (kD (.bool false)) (consL (listP (consL (kD (.int 94208)) (consL (kD (.int 101632)) (consL (kD (.int 110960)) nilL)))) nilL))))) nilL))) (tgtT [(.cell 0),(.cell 1)])) (seqS (asgC [".0", "turn"] (tgtS (.loc 1)) nilAnd (callP  (.ref 546) (consL (cellP 0) (consL (cellP 1) nilL))) (callP  (.type "range") (consL (callP  (.ref 517) (consL (cellP 0) (consL (kD (.int 8)) nilL))) nilL)) (.loc 1)) (seqS (ifS (cmp .Eq (callP  (.ref 517) (consL (cellP 0) (consL (kD (.int 3)) nilL))) (kD (.int 0))) (seqS (asgS (callP  (.ref 517) (consL (cellP 0) (consL (bin .Add (callP  (.builtin "len") (consL (loc 1) nilL)) (kD (.int 1))) nilL))) (tgtS (.loc 2))) (seqS (asgS (listP (consL (kD (.str [48,48,54,49])) (consL (kD (.str [59,32,91,46,48,48,48,49,46,48,48,50,48,46,48,48,48,50,93])) (consL (kD (.str [49,49,48,48,48,48,32,59,32,91,46,48,48,48,49,46,48,48,50,48,46,48,48,48,50,93])) (consL (kD (.str [48,48,71,49,32,59,32,91,46,48,48,48,49,46,48,48,50,48,46,48,48,48,50,93])) (consL (kD (.str [64,119,104,97,116,32,49])) nilL)))))) (tgtS (.loc 3))) (seqS (asgS (bin .Add (loc 3) (listP (consL (kD (.str [48,48,54,49,32,59,32,91,46,48,48,48,49,46,48,48,50,48])) (consL (kD (.str [48,48,54,49,32,59,32,46,48,48,48,49,46,48,48,50,48,46,48,48,48,50,93])) (consL (kD (.str [48,48,54,49,32,59,32,91,46,48,48,48,49,46,48,48,50,48,93])) (consL (kD (.str [48,48,54,49,32,59,32,91,48,48,48,49,46,48,48,50,48,46,48,48,48,50,93])) nilL)))))) (tgtS (.loc 3))) (seqS (asgS (bin .Add (loc 3) (listP (consL (kD (.str [48,48,54,49,32,59])) (consL (kD (.str [64,118,101,114,115,105,111,110])) (consL (kD (.str [48,48,54,49,32,59,32,91,46,48,48,48,49,46,48,48,50,48,46,48,48,48,50,46,48,48,48,49,46,48,48,48,49,93])) nilL))))) (tgtS (.loc 3))) (seqS (asgS (callP  (.ref 524) (consL (cellP 0) (consL (bin .Add (loc 3) (listP (consL (kD (.str [64,105,109,112,108,105,99,105,116,119,101,105,103,104,116,115,32,49,55,48,48,48,46,46,49,56,65,70,70])) (consL (kD (.str [64,105,109,112,108,105,99,105,116,119,101,105,103,104,116,115,32,49,56,65,70,70,46,46,49,55,48,48,48,59,32,70,66,48,48])) nilL)))) nilL))) (tgtS (.loc 4))) (seqS (tryAsS 64 5 (seqS (exprS (callP  (.ref 500) (consL (callP  (.ref 529) (consL (bin .Add (methP (kD (.str [10])) "join" (consL (bin .Add (bin .Add (sliceP (loc 1) noPart (loc 2) noPart) (listP (consL (loc 4) nilL))) (sliceP (loc 1) (loc 2) noPart noPart)) nilL)) (kD (.str [10]))) nilL)) nilL))) nilS) (seqS (retS (ofB (cmp .Eq (attrP (loc 5) "told") (bin .Add (loc 2) (kD (.int 1)))))) nilS)) (seqS (retS (kD (.bool false))) nilS))))))) nilS) (seqS (asgS (callP  (.ref 500) (consL (callP  (.ref 529) (consL (bin .Add (methP (kD (.str [10])) "join" (consL (loc 1) nilL)) (kD (.str [10]))) nilL)) nilL)) (tgtS (.loc 6))) (seqS (retS (andV (callP  (.ref 556) (consL (loc 6) (consL (cellP 1) nilL))) (callP  (.ref 556) (consL (callP  (.ref 500) (consL (callP  (.ref 505) (consL (loc 6) nilL)) nilL)) (consL (cellP 1) nilL))))) nilS)))))⟩
end
theorem BindOk.s0 {K:Frag}{a:Addr}(h:(fdOf K a).map (fun fd=>bindArgs fd ⟨[],[]⟩)=some (pure [])):BindOk K a [] 0 []:=fun fd hf B g s vs hk hl=>by
  rw [hf] at h
  exact len0 hl (BindsTo.of_eq (Option.some.inj h))
theorem BindOk.s1 {K:Frag}{a:Addr}{x:Str}(h:∀v,(fdOf K a).map (fun fd=>bindArgs fd ⟨[v],[]⟩)=some (pure [(x,v)])):BindOk K a [x] 1 []:=fun fd hf B g s vs hk hl=>by
  rw [hf] at h
  exact len1 hl fun v=>BindsTo.of_eq (Option.some.inj (h v))
theorem BindOk.s2 {K:Frag}{a:Addr}{x y:Str}(h:∀v u,(fdOf K a).map (fun fd=>bindArgs fd ⟨[v,u],[]⟩)=some (pure [(x,v),(y,u)])):BindOk K a [x,y] 2 []:=fun fd hf B g s vs hk hl=>by
  rw [hf] at h
  exact len2 hl fun v u=>BindsTo.of_eq (Option.some.inj (h v u))
theorem BindOk.s3 {K:Frag}{a:Addr}{x y z:Str}(h:∀v u t,(fdOf K a).map (fun fd=>bindArgs fd ⟨[v,u,t],[]⟩)=some (pure [(x,v),(y,u),(z,t)])):BindOk K a [x,y,z] 3 []:=fun fd hf B g s vs hk hl=>by
  rw [hf] at h
  exact len3 hl fun v u t=>BindsTo.of_eq (Option.some.inj (h v u t))
section
variable {K:Frag}{a T:Addr}{params:List Str}{fd:FuncData}{oT:Obj}{dv:Value}{m:Nat}{dvs:List Value}
theorem BindOk.d (hf:fdOf K a=some fd) (hd:fd.defaults=.ref T) (ho:K.lookup T=some oT) (hs:oT.data=.seq #[dv] m) {n:Nat}(h:∀vs,vs.length=n→∃k,bindArgs fd ⟨vs,[]⟩=(seqItems? fd.defaults >>= k)∧k (some #[dv])=pure (params.zip (vs++dvs))):BindOk K a params n dvs:=fun fd' hf' B g s vs hk hl=>by
  rw [hf] at hf'
  cases hf'
  obtain ⟨k,h1,h2⟩:=h vs hl
  exact BindsTo.of_defaults hd (hk _ _ (g.K _ _ ho)) hs h1 h2
noncomputable abbrev DfOk (fd:FuncData) (dv:Value) (dvs:List Value) (params:List Str) (vs:List Value):Prop:=∃k,bindArgs fd ⟨vs,[]⟩=(seqItems? fd.defaults >>= k)∧k (some #[dv])=pure (params.zip (vs++dvs))
theorem BindOk.d1 (hf:fdOf K a=some fd) (hd:fd.defaults=.ref T) (ho:K.lookup T=some oT) (hs:oT.data=.seq #[dv] m) (h:∀v0,DfOk fd dv dvs params [v0]):BindOk K a params 1 dvs:=BindOk.d hf hd ho hs fun vs hl=>len1 hl h
theorem BindOk.d2 (hf:fdOf K a=some fd) (hd:fd.defaults=.ref T) (ho:K.lookup T=some oT) (hs:oT.data=.seq #[dv] m) (h:∀v0 v1,DfOk fd dv dvs params [v0,v1]):BindOk K a params 2 dvs:=BindOk.d hf hd ho hs fun vs hl=>len2 hl h
theorem BindOk.d4 (hf:fdOf K a=some fd) (hd:fd.defaults=.ref T) (ho:K.lookup T=some oT) (hs:oT.data=.seq #[dv] m) (h:∀v0 v1 v2 v3,DfOk fd dv dvs params [v0,v1,v2,v3]):BindOk K a params 4 dvs:=BindOk.d hf hd ho hs fun vs hl=>len4 hl h
theorem BindOk.d5 (hf:fdOf K a=some fd) (hd:fd.defaults=.ref T) (ho:K.lookup T=some oT) (hs:oT.data=.seq #[dv] m) (h:∀v0 v1 v2 v3 v4,DfOk fd dv dvs params [v0,v1,v2,v3,v4]):BindOk K a params 5 dvs:=BindOk.d hf hd ho hs fun vs hl=>len5 hl h
end
structure Parts (K:Frag):Prop where
  f_UniError_init__:FnOk K gt [52,64] 36 ir_UniError_init__
  b_UniError_init__0:BindOk K 36 [Str.ofString "self", Str.ofString "told"] 2 []
  f_hex_code:FnOk K gt [52,64] 85 ir_hex_code
  b_hex_code:BindOk K 85 [Str.ofString "code"] 1 []
  f_hex_value:FnOk K gt [52,64] 92 ir_hex_value
  b_hex_value:BindOk K 92 [Str.ofString "octet"] 1 []
  f_code_of_hex:FnOk K gt [52,64] 99 ir_code_of_hex
  b_code_of_hex:BindOk K 99 [Str.ofString "octets"] 1 []
  f_coll_ideographs:FnOk K gt [52,64] 240 ir_coll_ideographs
  b_coll_ideographs:BindOk K 240 [] 0 []
  f_CollBase_init__:FnOk K gt [52,64] 255 ir_CollBase_init__
  b_CollBase_init__0:BindOk K 255 [Str.ofString "self", Str.ofString "first", Str.ofString "last", Str.ofString "base", Str.ofString "origin"] 5 []
  b_CollBase_init__1:BindOk K 255 [Str.ofString "self", Str.ofString "first", Str.ofString "last", Str.ofString "base", Str.ofString "origin"] 4 [.none]
  f_CollBase_elements_of:FnOk K gt [52,64] 262 ir_CollBase_elements_of
  b_CollBase_elements_of:BindOk K 262 [Str.ofString "self", Str.ofString "code"] 2 []
  f_coll_scaled:FnOk K gt [52,64] 274 ir_coll_scaled
  b_coll_scaled:BindOk K 274 [Str.ofString "elements", Str.ofString "factors"] 2 []
  f_Elements_init__:FnOk K gt [52,64] 310 ir_Elements_init__
  b_Elements_init__1:BindOk K 310 [Str.ofString "self", Str.ofString "has_ideographs"] 1 [.bool true]
  f_Elements_put:FnOk K gt [52,64] 317 ir_Elements_put
  b_Elements_put:BindOk K 317 [Str.ofString "self", Str.ofString "codes", Str.ofString "elements"] 3 []
  f_Elements_get:FnOk K gt [52,64] 331 ir_Elements_get
  b_Elements_get:BindOk K 331 [Str.ofString "self", Str.ofString "codes"] 2 []
  f_Elements_rows:FnOk K gt [52,64] 336 ir_Elements_rows
  b_Elements_rows:BindOk K 336 [Str.ofString "self"] 1 []
  f_Elements_put_implicit:FnOk K gt [52,64] 358 ir_Elements_put_implicit
  b_Elements_put_implicit0:BindOk K 358 [Str.ofString "self", Str.ofString "first", Str.ofString "last", Str.ofString "base", Str.ofString "origin"] 5 []
  b_Elements_put_implicit1:BindOk K 358 [Str.ofString "self", Str.ofString "first", Str.ofString "last", Str.ofString "base", Str.ofString "origin"] 4 [.none]
  f_Elements_implicit_of:FnOk K gt [52,64] 365 ir_Elements_implicit_of
  b_Elements_implicit_of:BindOk K 365 [Str.ofString "self", Str.ofString "code"] 2 []
  f_coll_trimmed:FnOk K gt [52,64] 420 ir_coll_trimmed
  b_coll_trimmed:BindOk K 420 [Str.ofString "octets"] 1 []
  f_coll_number:FnOk K gt [52,64] 427 ir_coll_number
  b_coll_number:BindOk K 427 [Str.ofString "octets", Str.ofString "row"] 2 []
  f_coll_code:FnOk K gt [52,64] 434 ir_coll_code
  b_coll_code:BindOk K 434 [Str.ofString "octets", Str.ofString "row"] 2 []
  f_coll_codes:FnOk K gt [52,64] 439 ir_coll_codes
  b_coll_codes:BindOk K 439 [Str.ofString "octets", Str.ofString "row"] 2 []
  f_coll_elements:FnOk K gt [52,64] 444 ir_coll_elements
  b_coll_elements:BindOk K 444 [Str.ofString "octets", Str.ofString "row"] 2 []
  f_coll_base_row:FnOk K gt [52,64] 451 ir_coll_base_row
  b_coll_base_row:BindOk K 451 [Str.ofString "octets", Str.ofString "row"] 2 []
  f_CollReader_init__:FnOk K gt [52,64] 465 ir_CollReader_init__
  b_CollReader_init__:BindOk K 465 [Str.ofString "self"] 1 []
  f_CollReader_put_row:FnOk K gt [52,64] 472 ir_CollReader_put_row
  b_CollReader_put_row:BindOk K 472 [Str.ofString "self", Str.ofString "octets", Str.ofString "row"] 3 []
  f_CollReader_put_order:FnOk K gt [52,64] 479 ir_CollReader_put_order
  b_CollReader_put_order:BindOk K 479 [Str.ofString "self", Str.ofString "octets", Str.ofString "row"] 3 []
  f_CollReader_close:FnOk K gt [52,64] 486 ir_CollReader_close
  b_CollReader_close:BindOk K 486 [Str.ofString "self"] 1 []
  f_read_allkeys:FnOk K gt [52,64] 500 ir_read_allkeys
  b_read_allkeys:BindOk K 500 [Str.ofString "octets"] 1 []
  f_allkeys_octets:FnOk K gt [52,64] 505 ir_allkeys_octets
  b_allkeys_octets:BindOk K 505 [Str.ofString "elements"] 1 []
  f_law_deck:FnOk K gt [52,64] 510 ir_law_deck
  b_law_deck:BindOk K 510 [Str.ofString "script"] 1 []
  f_law_draw:FnOk K gt [52,64] 517 ir_law_draw
  b_law_draw:BindOk K 517 [Str.ofString "deck", Str.ofString "below"] 2 []
  f_law_pick:FnOk K gt [52,64] 524 ir_law_pick
  b_law_pick:BindOk K 524 [Str.ofString "deck", Str.ofString "some"] 2 []
  f_law_octets:FnOk K gt [52,64] 529 ir_law_octets
  b_law_octets:BindOk K 529 [Str.ofString "text"] 1 []
  f_law_hex:FnOk K gt [52,64] 536 ir_law_hex
  b_law_hex:BindOk K 536 [Str.ofString "number", Str.ofString "many", Str.ofString "is_large"] 3 []
  f_law_element:FnOk K gt [52,64] 541 ir_law_element
  b_law_element:BindOk K 541 [Str.ofString "deck"] 1 []
  f_law_row:FnOk K gt [52,64] 546 ir_law_row
  b_law_row:BindOk K 546 [Str.ofString "deck", Str.ofString "told"] 2 []
  f_law_implicit:FnOk K gt [52,64] 551 ir_law_implicit
  b_law_implicit:BindOk K 551 [Str.ofString "told", Str.ofString "code"] 2 []
  f_law_has:FnOk K gt [52,64] 556 ir_law_has
  b_law_has:BindOk K 556 [Str.ofString "table", Str.ofString "told"] 2 []
  f_law:FnOk K gt [52,64] 561 ir_law
  b_law:BindOk K 561 [Str.ofString "script"] 1 []
  a_first:AttrOk K 265 "first"
  a_last:AttrOk K 265 "last"
  a_base:AttrOk K 265 "base"
  a_origin:AttrOk K 265 "origin"
  a_table:AttrOk K 397 "table"
  a_longest:AttrOk K 397 "longest"
  a_factors:AttrOk K 397 "factors"
  a_bases:AttrOk K 397 "bases"
  a_elements:AttrOk K 489 "elements"
  a_version:AttrOk K 489 "version"
  a_ranges:AttrOk K 489 "ranges"
  m_elements_of:MethOk K 265 "elements_of" 262
  m_put:MethOk K 397 "put" 317
  m_get:MethOk K 397 "get" 331
  m_rows:MethOk K 397 "rows" 336
  m_put_implicit:MethOk K 397 "put_implicit" 358
  m_implicit_of:MethOk K 397 "implicit_of" 365
  m_put_row:MethOk K 489 "put_row" 472
  m_put_order:MethOk K 489 "put_order" 479
  m_close:MethOk K 489 "close" 486
  c_CollBase:ClsOk K 265 255
  c_Elements:ClsOk K 397 310
  c_CollReader:ClsOk K 489 465
  gl:gt.map (fun p=>globIn K p.1)=gt.map (fun p=>some p.2)
  x_52:ExcOk K 52 36
  x_64:ExcOk K 64 36
section
variable {K:Frag}(pk:Parts K)
include pk
theorem Parts.gt {x:Str}{d:D}(h:gt.lookup x=some d):globIn K x=some d:=by
  have key:∀l:List (Str×D),l.map (fun p=>globIn K p.1)=l.map (fun p=>some p.2)→l.lookup x=some d→globIn K x=some d:=fun l=>by
    induction l with
    | nil=>intro _ h;cases h
    | cons p r ih =>
      intro hm hl
      rw [List.map_cons,List.map_cons,List.cons.injEq] at hm
      rw [List.lookup_cons] at hl
      cases hx:(x == p.1) with
      | true =>
        rw [hx] at hl
        cases hl
        rw [show x=p.1 by simpa using hx]
        exact hm.1
      | false=>rw [hx] at hl;exact ih hm.2 hl
  exact key _ pk.gl h
theorem Parts.ex:∀C∈[52,64],ExcOk K C 36:=fun C hC=>by
  rcases List.mem_cons.mp hC with rfl | hC
  · exact pk.x_52
  · rcases List.mem_cons.mp hC with rfl | hC
    · exact pk.x_64
    · cases hC
variable {w:World}{B:Heap}{A:Around}{own own':Own}{X:Addr→Own→Prop}{Q:D→Own→Prop}
theorem Parts.fn {a:Addr}{ir:FnIR}{n:Nat}{ds:List D}(F:FnOk K Mine.gt [52,64] a ir) (hb:BindOk K a ir.params ds.length []) (cx:Cx A (n+1)) (gr:Gr K B)
    (h:∀f:Fm,Wk K f n→setAll ir.sl f ds (nones ir.ln) (cellsI f.cs 0 ir.nc own) fun v o=>ir.body f v o (VEnd Q)):CallC w B A (.ref a) ds own Q X :=
  enter (pr:=False) (C:=0) (d:=.none) (dd:=[]) (dv:=[]) F hb (fun q_ q_=>rfl) (fun q_ q_=>pk.gt) pk.ex (List.append_nil ds).symm False.elim cx gr fun f W q_=>h f W
theorem Parts.fnB {a:Addr}{ir:FnIR}{n:Nat}{ds:List D}(F:FnOk K Mine.gt [52,64] a ir) (hb:BindOk K a ir.params ds.length []) (cx:Cx A (n+1)) (gr:Gr K B)
    (h:∀f:Fm,Wk K f n→f.B=B→setAll ir.sl f ds (nones ir.ln) (cellsI f.cs 0 ir.nc own) fun v o=>ir.body f v o (VEnd Q)):CallC w B A (.ref a) ds own Q X :=
  enterB (pr:=False) (C:=0) (d:=.none) (dd:=[]) (dv:=[]) F hb (fun q_ q_=>rfl) (fun q_ q_=>pk.gt) pk.ex (List.append_nil ds).symm False.elim cx gr fun f W q_ hf=>h f W hf
theorem Parts.fnD {a:Addr}{ir:FnIR}{n:Nat}{ds:List D}{d:D}{u:Value}(F:FnOk K Mine.gt [52,64] a ir) (hb:BindOk K a ir.params ds.length [u]) (hu:∀h N,RelD h N d u) (cx:Cx A (n+1)) (gr:Gr K B) {dds:List D}(hd:dds=ds++[d])
    (h:∀f:Fm,Wk K f n→setAll ir.sl f dds (nones ir.ln) (cellsI f.cs 0 ir.nc own) fun v o=>ir.body f v o (VEnd Q)):CallC w B A (.ref a) ds own Q X :=
  enter (pr:=False) (C:=0) (d:=.none) (dd:=[d]) (dv:=[u]) F hb (fun h N=>RelDs.one (hu h N)) (fun q_ q_=>pk.gt) pk.ex hd False.elim cx gr fun f W q_=>h f W
theorem Parts.fnX (pr:Prop) (C:Addr) (d:D) {a:Addr}{ir:FnIR}{n:Nat}{ds:List D}(F:FnOk K Mine.gt [52,64] a ir) (hb:BindOk K a ir.params ds.length []) (hX:pr→∀x o,Thr C d [] true x o→X x o) (cx:Cx A (n+1)) (gr:Gr K B)
    (h:∀f:Fm,Wk K f n→f.X=(fun x o=>pr∧Thr C d [] false x o)→setAll ir.sl f ds (nones ir.ln) (cellsI f.cs 0 ir.nc own) fun v o=>ir.body f v o (VEnd Q)):CallC w B A (.ref a) ds own Q X :=
  enter (dd:=[]) (dv:=[]) F hb (fun q_ q_=>rfl) (fun q_ q_=>pk.gt) pk.ex (List.append_nil ds).symm hX cx gr h
end
section
variable {w:World}{B:Heap}{A:Around}{own own':Own}{X:Addr→Own→Prop}{Q:D→Own→Prop}{K:Frag}{f:Fm}{v:Vals}
set_option hygiene false
set_option compiler.extract_closed false
theorem br1 {a b:Prop}(h:b):(false=true→a)∧(false=false→b):=⟨fun e=>Bool.noConfusion e,fun q_=>h⟩
theorem br2 {a b:Prop}(h:b):(true=false→a)∧(true=true→b):=⟨fun e=>Bool.noConfusion e,fun q_=>h⟩
theorem br3 {a b:Prop}(h:a):(true=true→a)∧(true=false→b):=⟨fun q_=>h,fun e=>Bool.noConfusion e⟩
theorem br4 {a b:Prop}(h:a):(false=false→a)∧(false=true→b):=⟨fun q_=>h,fun e=>Bool.noConfusion e⟩
theorem cellI {c:Addr}{d:D}(h:Has own c (.cell (some d))) (q:Q d own):∃d,Has own c (.cell (some d))∧Q d own:=⟨d,h,q⟩
theorem Call.lenMap {α:Type}{l:List α}{g:α→D}{c:Addr}(h:Has own c (.list (l.map g))) (hz:l.length≤16777216) (q:Q (.int l.length) own):Call w B A (.builtin "len") [.ref c] own Q X:=Call.lenList h (leMap hz) (by rw [List.length_map];exact q)
theorem cellX {c:Addr}{d:D}{G:D→Prop}(h:Has own c (.cell (some d))) (q:G d):∃d,Has own c (.cell (some d))∧G d:=⟨d,h,q⟩
theorem methI {d:D}{name:Str}{a:LT}{fv:Value}(m:Meth f.w f.B f.A d own name fv) (k:KeepOk f.w f.B fv) (h:a f v own fun ds o=>VCall f v fv (d::ds) o Q):∃fv,Meth f.w f.B f.A d own name fv∧KeepOk f.w f.B fv∧a f v own fun ds o=>VCall f v fv (d::ds) o Q:=⟨fv,m,k,h⟩
theorem methB {d:D}{name:Str}{a:LT}{id:String}(m:Meth f.w f.B f.A d own name (.builtin id)) (h:a f v own fun ds o=>VCall f v (.builtin id) (d::ds) o Q):∃fv,Meth f.w f.B f.A d own name fv∧KeepOk f.w f.B fv∧a f v own fun ds o=>VCall f v fv (d::ds) o Q:=⟨_,m,KeepOk.builtin _,h⟩
theorem mStrip {l:List UInt8}{a:LT}(h:a f v own fun ds o=>VCall f v (.builtin "bytes.strip") (.bytes l::ds) o Q):∃fv,Meth f.w f.B f.A (.bytes l) own "strip" fv∧KeepOk f.w f.B fv∧a f v own fun ds o=>VCall f v fv (.bytes l::ds) o Q:=methB (Meth.bytes slot_bytes_strip type_bytes_strip) h
theorem mSplit {l:List UInt8}{a:LT}(h:a f v own fun ds o=>VCall f v (.builtin "bytes.split") (.bytes l::ds) o Q):∃fv,Meth f.w f.B f.A (.bytes l) own "split" fv∧KeepOk f.w f.B fv∧a f v own fun ds o=>VCall f v fv (.bytes l::ds) o Q:=methB (Meth.bytes slot_bytes_split type_bytes_split) h
theorem mPart {l:List UInt8}{a:LT}(h:a f v own fun ds o=>VCall f v (.builtin "bytes.partition") (.bytes l::ds) o Q):∃fv,Meth f.w f.B f.A (.bytes l) own "partition" fv∧KeepOk f.w f.B fv∧a f v own fun ds o=>VCall f v fv (.bytes l::ds) o Q:=methB (Meth.bytes slot_bytes_partition type_bytes_partition) h
theorem mRepl {l:List UInt8}{a:LT}(h:a f v own fun ds o=>VCall f v (.builtin "bytes.replace") (.bytes l::ds) o Q):∃fv,Meth f.w f.B f.A (.bytes l) own "replace" fv∧KeepOk f.w f.B fv∧a f v own fun ds o=>VCall f v fv (.bytes l::ds) o Q:=methB (Meth.bytes slot_bytes_replace type_bytes_replace) h
theorem mFind {l:List UInt8}{a:LT}(h:a f v own fun ds o=>VCall f v (.builtin "bytes.find") (.bytes l::ds) o Q):∃fv,Meth f.w f.B f.A (.bytes l) own "find" fv∧KeepOk f.w f.B fv∧a f v own fun ds o=>VCall f v fv (.bytes l::ds) o Q:=methB (Meth.bytes slot_bytes_find type_bytes_find) h
theorem mJoinB {l:List UInt8}{a:LT}(h:a f v own fun ds o=>VCall f v (.builtin "bytes.join") (.bytes l::ds) o Q):∃fv,Meth f.w f.B f.A (.bytes l) own "join" fv∧KeepOk f.w f.B fv∧a f v own fun ds o=>VCall f v fv (.bytes l::ds) o Q:=methB (Meth.bytes slot_bytes_join type_bytes_join) h
theorem mAppend {c:Addr}{l:List D}{a:LT}(ho:Has own c (.list l)) (h:a f v own fun ds o=>VCall f v (.builtin "list.append") (.ref c::ds) o Q):∃fv,Meth f.w f.B f.A (.ref c) own "append" fv∧KeepOk f.w f.B fv∧a f v own fun ds o=>VCall f v fv (.ref c::ds) o Q:=methB (Meth.list ho F.slot_list_append F.type_list_append) h
theorem mPop {c:Addr}{l:List D}{a:LT}(ho:Has own c (.list l)) (h:a f v own fun ds o=>VCall f v (.builtin "list.pop") (.ref c::ds) o Q):∃fv,Meth f.w f.B f.A (.ref c) own "pop" fv∧KeepOk f.w f.B fv∧a f v own fun ds o=>VCall f v fv (.ref c::ds) o Q:=methB (Meth.list ho F.slot_list_pop F.type_list_pop) h
theorem mJoin {l:List Nat}{a:LT}(h:a f v own fun ds o=>VCall f v (.builtin "str.join") (.str l::ds) o Q):∃fv,Meth f.w f.B f.A (.str l) own "join" fv∧KeepOk f.w f.B fv∧a f v own fun ds o=>VCall f v fv (.str l::ds) o Q:=methB (Meth.str F.slot_str_join F.type_str_join) h
theorem setC {a:Addr}{d:D}{k:Own→Prop}{u:Option D}(h:Put own a (.cell u) (.cell (some d)) own') (hk:k own'):∃u o',Put own a (.cell u) (.cell (some d)) o'∧k o':=⟨_,_,h,hk⟩
theorem VCmp.notIn2 {e a b:List UInt8}{QB:Bool→Own→Prop}(h:QB (!decide (e=a∨e=b)) own):VCmp f v .NotIn (.bytes e) (.tup [.bytes a,.bytes b]) own QB:=by
  refine VCmp.notInB (ls:=[a,b]) ?_
  have:[a,b].any (· == e)=decide (e=a∨e=b):=by
    show ((a == e) || ((b == e) || false))=_
    rw [Bool.or_false,Bool.eq_iff_iff,Bool.or_eq_true,decide_eq_true_eq,beq_iff_eq,beq_iff_eq]
    exact or_congr eq_comm eq_comm
  rw [this];exact h
theorem VSlice.hi {l:List UInt8}{hi:Int}(h0:0≤hi) (hz:l.length≤1048576) (h:Q (.bytes (sliceB l none (some hi))) own):VSlice f v (.bytes l) none (some hi) none own Q:=VSlice.bytes (fun q_ e=>by cases e) (fun q_ e=>by cases e;exact h0) hz h
theorem VSlice.lo {l:List UInt8}{lo:Int}(h0:0≤lo) (hz:l.length≤1048576) (h:Q (.bytes (sliceB l (some lo) none)) own):VSlice f v (.bytes l) (some lo) none none own Q:=VSlice.bytes (fun q_ e=>by cases e;exact h0) (fun q_ e=>by cases e) hz h
theorem VSlice.both {l:List UInt8}{lo hi:Int}(h0:0≤lo) (h1:0≤hi) (hz:l.length≤1048576) (h:Q (.bytes (sliceB l (some lo) (some hi))) own):VSlice f v (.bytes l) (some lo) (some hi) none own Q:=VSlice.bytes (fun q_ e=>by cases e;exact h0) (fun q_ e=>by cases e;exact h1) hz h
theorem and3 {a b c G:Prop}(h:a∧b∧c) (k:a→b→c→G):G:=k h.1 h.2.1 h.2.2
theorem and4 {a b c d G:Prop}(h:a∧b∧c∧d) (k:a→b→c→d→G):G:=k h.1 h.2.1 h.2.2.1 h.2.2.2
theorem and5 {a b c d e G:Prop}(h:a∧b∧c∧d∧e) (k:a→b→c→d→e→G):G:=k h.1 h.2.1 h.2.2.1 h.2.2.2.1 h.2.2.2.2
inductive NextS {σ:Type}(I:σ→Prop) (rs:σ→List D) (ow:σ→Own) (r:List D) (o:Own):Prop
  | mk (x:σ) (h:I x) (er:rs x=r) (eo:ow x=o)
theorem VComp.st {α σ:Type}{ln:List Str}{t:TT}{elt:PT}{ifs:BT}{dx:D}{F:Addr→Own→Prop}{C:Own→Prop}(xs:List α) (g:α→D) (I:Nat→σ→Prop) (rs:σ→List D) (ow:σ→Own) (x₀:σ) (pr:Prop) (Cc:Addr) (d:D) (it:Iterable f.w f.B f.A dx (xs.map g) C) (hC:∀k x,I k x→∀o',(∀p∈ow x,p∈o')→C o')
    (e0:ow x₀=own) (r0:rs x₀=[]) (h0:I 0 x₀) (hz:xs.length≤16777216) (hl:∀k x,I k x→(rs x).length≤k) (hx:pr→(∃outer,f.A.frames=some (f.env::outer))∧∀x o,Thr Cc d [] true x o→f.X x o)
    (hb:∀k a x L env,xs[k]?=some a→I k x→t (f.comp env L ln (CompX pr Cc d ln L)) (nones ln) (ow x) (g a) fun v o=>ifs (f.comp env L ln (CompX pr Cc d ln L)) v o fun ok o=>(ok=false→NextS (I (k+1)) rs ow (rs x) o)∧(ok=true→elt (f.comp env L ln (CompX pr Cc d ln L)) v o fun y o=>∃y' o',Yield y o y' o'∧NextS (I (k+1)) rs ow (rs x++[y']) o'))
    (he:∀acc x,I xs.length x→F acc ((acc,.list (rs x))::ow x)):VComp f ln t ifs elt v own dx F:=by
  refine VComp.mk (xs.map g) C (fun k=>NextS (I k) rs ow) pr Cc d it (fun k r o q o' hs=>?_) ⟨x₀,h0,r0,e0⟩ (by rw [List.length_map];exact hz) (fun k r o q=>?_) hx (fun k e r o L env hk q f' hf=>?_) fun acc r o q=>?_
  · obtain ⟨x,h,rfl,rfl⟩:=q
    exact hC k x h o' hs
  · obtain ⟨x,h,rfl,rfl⟩:=q
    exact hl k x h
  · obtain ⟨x,h,rfl,rfl⟩:=q
    obtain ⟨a,ha,rfl⟩:=mapGet hk
    exact hf▸hb k a x L env ha h
  · obtain ⟨x,h,rfl,rfl⟩:=q
    rw [List.length_map] at h
    exact he acc x h
theorem Wk.fr1 {n:Nat}(W:Wk K f n):∃outer,f.A.frames=some (f.env::outer):=W.fr.imp fun q_ h=>h.elim fun q_ h=>h.1
theorem Has.eqL {a:Addr}{l l':List D}(h:Has own a (.list l)) (e:l=l'):Has own a (.list l'):=e▸h
theorem takeS {α:Type}{l:List α}{k:Nat}{a:α}(h:l[k]?=some a):l.take (k+1)=l.take k++[a]:=by
  rw [List.take_add_one,h];rfl
inductive NextV {σ:Type}(I:σ→Prop) (vl:σ→Vals) (ow:σ→Own) (v:Vals) (o:Own):Prop
  | mk (x:σ) (h:I x) (ev:vl x=v) (eo:ow x=o)
theorem VWhile.st {σ:Type}{t:BT}{body:ST}{Q:Fl→Vals→Own→Prop}(I:Nat→σ→Prop) (vl:σ→Vals) (ow:σ→Own) (n:Nat) (x₀:σ) (h0:I n x₀) (ev:vl x₀=v) (eo:ow x₀=own) (hx:Notes f.w f.B f.A f.env f.X f.X)
    (hb:∀m x,I m x→t f (vl x) (ow x) fun c o=>(c=false→Q .next (vl x) o)∧(c=true→body f (vl x) o fun fl v o=>match fl with | .next=>∃o' m',Sb o' o∧m'<m∧NextV (I m') vl ow v o' | .cont=>∃o' m',Sb o' o∧m'<m∧NextV (I m') vl ow v o' | .brk=>Q .next v o | .ret r=>Q (.ret r) v o)):VWhile f t body v own Q :=
  .mk (fun m=>NextV (I m) vl ow) n f.X ⟨x₀,h0,ev,eo⟩ hx fun m v o q=>by
    obtain ⟨x,h,rfl,rfl⟩:=q
    exact hb m x h
theorem VFor.st {α σ:Type}{t:TT}{body:ST}{dx:D}{Q:Fl→Vals→Own→Prop}{C:Own→Prop}(xs:List α) (g:α→D) (I:Nat→σ→Prop) (vl:σ→Vals) (ow:σ→Own) (x₀:σ) (it:Iterable f.w f.B f.A dx (xs.map g) C) (hC:∀k x,I k x→∀o',(∀p∈ow x,p∈o')→C o') (hx:Notes f.w f.B f.A f.env f.X f.X) (h0:I 0 x₀) (ev:vl x₀=v) (eo:ow x₀=own)
    (hb:∀k a x,xs[k]?=some a→I k x→t f (vl x) (ow x) (g a) fun v o=>body f v o (turnV (NextV (I (k+1)) vl ow) Q)) (he:∀x,I xs.length x→Q .next (vl x) (ow x)):VFor f t body v own dx Q :=
  .mk (xs.map g) C (fun k=>NextV (I k) vl ow) f.X it (fun k v o q=>by
    obtain ⟨x,h,rfl,rfl⟩:=q
    exact hC k x h) ⟨x₀,h0,ev,eo⟩ hx (fun k d v o hd q=>by
    obtain ⟨x,h,rfl,rfl⟩:=q
    obtain ⟨a,ha,rfl⟩:=mapGet hd
    exact hb k a x ha h) fun v o q=>by
    obtain ⟨x,h,rfl,rfl⟩:=q
    rw [List.length_map] at h
    exact he x h
theorem VFor.stQ {α σ:Type}{t:TT}{body:ST}{dx:D}{Q:Fl→Vals→Own→Prop}{C:Own→Prop}(xs:List α) (g:α→D) (I:Nat→σ→Prop) (vl:σ→Vals) (ow:σ→Own) (x₀:σ) (it:Iterable f.w f.B f.A dx (xs.map g) C) (hC:∀k x,I k x→∀o',(∀p∈ow x,p∈o')→C o') (h0:I 0 x₀) (ev:vl x₀=v) (eo:ow x₀=own)
    (hb:∀k a x,xs[k]?=some a→I k x→∀T:Fl→Vals→Own→Prop,(∀{fl v o},turnV (NextV (I (k+1)) vl ow) Q fl v o→T fl v o)→t (f.x fun q_ q_=>False) (vl x) (ow x) (g a) fun v o=>body (f.x fun q_ q_=>False) v o T) (he:∀x,I xs.length x→Q .next (vl x) (ow x)):VFor f t body v own dx Q :=
  .mk (xs.map g) C (fun k=>NextV (I k) vl ow) _ it (fun k v o q=>by
    obtain ⟨x,h,rfl,rfl⟩:=q
    exact hC k x h) ⟨x₀,h0,ev,eo⟩ Notes.no (fun k d v o hd q=>by
    obtain ⟨x,h,rfl,rfl⟩:=q
    obtain ⟨a,ha,rfl⟩:=mapGet hd
    exact hb k a x ha h _ fun q=>q) fun v o q=>by
    obtain ⟨x,h,rfl,rfl⟩:=q
    rw [List.length_map] at h
    exact he x h
theorem notB_t {c:Bool}(h:(!c)=true):c=false:=by cases c;rfl;cases h
theorem notB_f {c:Bool}(h:(!c)=false):c=true:=by cases c;cases h;rfl
local macro_rules | `(tactic| wtm_at "M")=>`(tactic| first | exact .here | assumption | ((first | apply Has.there | apply Put.there | apply Del.there | apply KGet.there | apply KSet.there);wtm_at "M"))
local macro_rules | `(tactic| wtm_at "Ms")=>`(tactic| first | exact .refl _ | (apply List.Sublist.cons;wtm_at "Ms") | (apply List.Sublist.cons_cons;wtm_at "Ms"))
local macro_rules | `(tactic| wtm_at "Mp")=>`(tactic| first | exact .nil | (apply Pick.cons;wtm_at "M";wtm_at "Mp"))
local macro_rules | `(tactic| wtm_at "Ml")=>`(tactic| first | assumption | exact leMap (by assumption) | exact leApp (by wtm_at "Ml") (by wtm_at "Ml") | exact Nat.le_refl _)
local macro_rules | `(tactic| wtm_at "Vs")=>`(tactic| first | assumption | (with_reducible exact Nat.le_of_ble_eq_true rfl) | ((with_reducible apply leSum);wtm_at "Ml";wtm_at "Ml";exact rfl) | ((with_reducible apply leN);wtm_at "Ml";exact rfl) | decide | omega | exact ⟨by decide,by decide⟩ | exact IntMulOk.of_right (by decide) | exact IntMulOk.of_left (by decide) | exact mulFmod (by decide) (by decide) | exact IntMulOk.of_left (intBits_le_64 (by omega) (by omega)) | (simp;omega))
local macro_rules | `(tactic| wtm_at "V")=>`(tactic| first
  | with_reducible first | apply br1 | apply br2 | apply br3 | apply br4 | refine And.intro (fun (hc:_=(_:Bool))=>?_) (fun (hc:_=(_:Bool))=>?_) | apply mStrip | apply mSplit | apply mPart | apply mRepl | apply mFind | apply VCmp.notIn2 | apply Call.bFind
  | ((with_reducible first | apply cellI | apply cellX | apply setC | apply mAppend | apply mPop);wtm_at "M")
  | ((with_reducible first | apply And.intro | apply Call.lenBytes);wtm_at "Vs")
  | ((with_reducible apply VSub.sd rfl);wtm_at "M";wtm_at "M")
  | ((with_reducible apply VSetItem.sd rfl);wtm_at "M";wtm_at "M";exact Nat.le_of_ble_eq_true rfl)
  | ((with_reducible apply Call.lenMap);wtm_at "M";wtm_at "Vs")
  | ((with_reducible apply Call.lenList);wtm_at "M";wtm_at "Vs")
  | ((with_reducible first | apply VSlice.hi | apply VSlice.lo);wtm_at "Vs";wtm_at "Vs")
  | ((with_reducible apply VSlice.both);wtm_at "Vs";wtm_at "Vs";wtm_at "Vs")
  | ((with_reducible apply VSub.list);wtm_at "M";decide;decide;rfl)
  | ((with_reducible apply VSub.tup);decide;decide;rfl;rfl))
theorem VEnd.same {d:D}{own:Own}{Q:D→Own→Prop}(h:Q d own):∃d' o',Yield d own d' o'∧Q d' o':=⟨d,own,.done (List.Sublist.refl _),h⟩
theorem VEnd.sub {d:D}{own own':Own}{Q:D→Own→Prop}(hs:List.Sublist own' own) (h:Q d own'):∃d' o',Yield d own d' o'∧Q d' o':=⟨d,own',.done hs,h⟩
noncomputable def hexV (o:Int):D:=if 48≤o∧o≤57 then .int (o-48) else if 65≤o∧o≤70 then .int (o-55) else if 97≤o∧o≤102 then .int (o-87) else .none
theorem and_le {a b c:Int}:(decide (a≤b) && decide (b≤c))=true↔a≤b∧b≤c:=by rw [Bool.and_eq_true,decide_eq_true_eq,decide_eq_true_eq]
theorem and_le_f {a b c:Int}(h:(decide (a≤b) && decide (b≤c))=false):¬ (a≤b∧b≤c):=fun q=>by rw [and_le.mpr q] at h;cases h
theorem c_hex_value (pk:Parts K) {n:Nat}(cx:Cx A (n+1)) (g:Gr K B) {o:Int}(h:Q (hexV o) own):CallC w B A (.ref 92) [.int o] own Q X:=by
  refine pk.fn pk.f_hex_value pk.b_hex_value cx g fun f W=>?_
  repeat' wtm_at "V"
  all_goals refine VEnd.same ?_
  all_goals (unfold hexV at h)
  · rwa [if_pos (and_le.mp (by assumption))] at h
  · rwa [if_neg (and_le_f (by assumption)),if_pos (and_le.mp (by assumption))] at h
  · rwa [if_neg (and_le_f (by assumption)),if_neg (and_le_f (by assumption)),if_pos (and_le.mp (by assumption))] at h
  · rwa [if_neg (and_le_f (by assumption)),if_neg (and_le_f (by assumption)),if_neg (and_le_f (by assumption))] at h
theorem c_excInit (pk:Parts K) {n:Nat}(cx:Cx A (n+1)) (g:Gr K B) {C e t:Addr}{d:D}(ok:ExcOk K C 36) (h:∀dd,Q .none ((dd,.attrs ["told"] [d])::(e,.exc C dd none)::own)):CallC w B A (.ref 36) [.ref e,d] ((e,.exact (excObj C t))::own) Q X:=by
  refine pk.fn pk.f_UniError_init__ pk.b_UniError_init__0 cx g fun f W=>?_
  refine VSetAttr.exc W.gr.K ok fun dd=>⟨_,.here,?_⟩
  exact VEnd.same (h dd)
theorem c_BadRow (pk:Parts K) {n:Nat}(cx:Cx A (n+3)) (g:Gr K B) {d:D}(h:∀e dd,Q (.ref e) ((dd,.attrs ["told"] [d])::(e,.exc 64 dd none)::own)):Call w B A (.ref 64) [d] own Q X :=
  Call.exc g.K pk.x_64 (fun A' e t q_ hcx=>(c_excInit (n:=n) pk (hcx _ cx) g pk.x_64 fun dd=>⟨rfl,dd,rfl⟩).call) h
theorem c_BadCode (pk:Parts K) {n:Nat}(cx:Cx A (n+3)) (g:Gr K B) {d:D}(h:∀e dd,Q (.ref e) ((dd,.attrs ["told"] [d])::(e,.exc 52 dd none)::own)):Call w B A (.ref 52) [d] own Q X :=
  Call.exc g.K pk.x_52 (fun A' e t q_ hcx=>(c_excInit (n:=n) pk (hcx _ cx) g pk.x_52 fun dd=>⟨rfl,dd,rfl⟩).call) h
theorem VRaise.row (pk:Parts K) {n:Nat}(W:Wk K f (n+3)) {pr:Prop}{d:D}(hX:f.X=fun x o=>pr∧Thr 64 d [] false x o) (hp:pr):Call f.w f.B f.A (.ref 64) [d] own (fun d o=>∃x dd,d=.ref x∧Has o x (.exc 64 dd none)∧∀o',o'.Perm (f.ns v::o)→f.X x o') X :=
  c_BadRow pk W.cx W.gr fun e dd=>⟨e,dd,rfl,.there .here,fun o' p=>by
    rw [hX]
    exact ⟨hp,dd,none,.fromPerm (.there .here) p,.fromPerm .here p,(fun T h=>by cases h),(fun h=>by cases h),fun p h=>by cases h⟩⟩
theorem VRaise.code (pk:Parts K) {n:Nat}(W:Wk K f (n+3)) {pr:Prop}{d:D}(hX:f.X=fun x o=>pr∧Thr 52 d [] false x o) (hp:pr):Call f.w f.B f.A (.ref 52) [d] own (fun d o=>∃x dd,d=.ref x∧Has o x (.exc 52 dd none)∧∀o',o'.Perm (f.ns v::o)→f.X x o') X :=
  c_BadCode pk W.cx W.gr fun e dd=>⟨e,dd,rfl,.there .here,fun o' p=>by
    rw [hX]
    exact ⟨hp,dd,none,.fromPerm (.there .here) p,.fromPerm .here p,(fun T h=>by cases h),(fun h=>by cases h),fun p h=>by cases h⟩⟩
noncomputable abbrev DeckO (c cl:Addr) (cells:List Int) (mixed turn:Int) (rest:Own):Own:=(c,.sd [(Str.ofString "cells", .ref cl),(Str.ofString "mixed", .int mixed),(Str.ofString "turn", .int turn)])::(cl,.list (cells.map .int))::rest
theorem c_draw (pk:Parts K) {n:Nat}(cx:Cx A (n+3)) (g:Gr K B) {c cl:Addr}{cells:List Int}{mixed turn below:Int}(hb:0<below) (hb':below<1000000) (ht:0≤turn) (ht':turn<1000000) (hl:cells.length≤63)
    (h:∀d cells',0≤d→d<below→List.length cells'≤cells.length→Q (.int d) (DeckO c cl cells' mixed (turn+1) own)):CallC w B A (.ref 517) [.ref c,.int below] (DeckO c cl cells mixed turn own) Q X:=by
  refine pk.fn pk.f_law_draw pk.b_law_draw cx g fun f W=>?_
  have fin:∀(i:Int) (cs:List Int) (o:Own),List.length cs≤cells.length→List.Sublist (DeckO c cl cs mixed (turn+1) own) o→∃d' o',Yield (.int (i.fmod below)) o d' o'∧Q d' o':=fun i cs o hc hs=>VEnd.sub hs (h _ _ (Int.fmod_nonneg_of_pos _ hb) (Int.fmod_lt_of_pos _ hb) hc)
  have hb0:below≠0:=Int.ne_of_gt hb
  have hbz:below≠0∧below.natAbs<1073741824:=⟨hb0,Nat.lt_trans (Int.natAbs_lt_natAbs_of_nonneg_of_lt (Int.le_of_lt hb) hb') (by decide)⟩
  repeat' wtm_at "V"
  intro e
  refine VCmp.neNil W.cx (.there (.there .here)) .here ?_
  repeat' wtm_at "V"
  · obtain ⟨ys,y,rfl⟩:=ends_with (by assumption)
    have hy:ys.length<63:=by rw [List.length_append] at hl;exact hl
    refine Call.popInts (ys:=ys) (y:=y) (by wtm_at "M") (Nat.lt_trans hy (by decide)) ?_
    repeat' wtm_at "V"
    · refine Call.appendInts (by wtm_at "M") (Nat.le_trans (Nat.le_of_lt hy) (by decide)) ?_
      repeat' wtm_at "V"
      refine fin _ _ _ ?_ (by wtm_at "Ms")
      rw [List.length_append,List.length_append];exact Nat.le_refl _
    · refine fin _ _ _ ?_ (by wtm_at "Ms")
      rw [List.length_append];exact Nat.le_succ _
  · exact fin _ _ _ (Nat.le_refl _) (by wtm_at "Ms")
theorem k_draw (pk:Parts K) {n:Nat}(cx:Cx A (n+3)) (g:Gr K B) {rest:Own}{c cl:Addr}{cells:List Int}{mixed turn below:Int}(hp:Pick own (DeckO c cl cells mixed turn []) rest) (hb:0<below) (hb':below<1000000) (ht:0≤turn) (ht':turn<1000000) (hl:cells.length≤63)
    (h:∀d cells',0≤d→d<below→List.length cells'≤cells.length→Q (.int d) (DeckO c cl cells' mixed (turn+1) rest)):Call w B A (.ref 517) [.ref c,.int below] own Q X :=
  ((c_draw pk cx g (own:=[]) (Q:=fun b o=>∃d cells',0≤d∧d<below∧List.length cells'≤cells.length∧b=.int d∧o=DeckO c cl cells' mixed (turn+1) []) (X:=fun q_ q_=>False) hb hb' ht ht' hl fun d cs h1 h2 h3=>⟨d,cs,h1,h2,h3,rfl,rfl⟩).call).pick hp
    (fun b o hq=>by obtain ⟨d,cs,h1,h2,h3,rfl,rfl⟩:=hq;exact h d cs h1 h2 h3) (fun q_ q_ x=>x.elim)
theorem c_pick (pk:Parts K) {n:Nat}(cx:Cx A (n+4)) (g:Gr K B) {c cl a:Addr}{ds:List D}{cells:List Int}{mixed turn:Int}(ht:0≤turn) (ht':turn<1000000) (hl:cells.length≤63) (hd:0<ds.length) (hd':ds.length<1000)
    (h:∀(k:Nat) d cells',ds[k]?=some d→List.length cells'≤cells.length→Q d (DeckO c cl cells' mixed (turn+1) ((a,.list ds)::own))):CallC w B A (.ref 524) [.ref c,.ref a] (DeckO c cl cells mixed turn ((a,.list ds)::own)) Q X:=by
  refine pk.fn pk.f_law_pick pk.b_law_pick cx g fun f W=>?_
  repeat' wtm_at "V"
  have hd1:=Int.ofNat_lt.mpr hd'
  refine k_draw (n:=n) pk W.cx W.gr (by wtm_at "Mp") (Int.ofNat_lt.mpr hd) (Int.lt_trans hd1 (by decide)) ht ht' hl fun d cells' h1 h2 h3=>?_
  have hx:=List.getElem?_eq_getElem ((Int.toNat_lt h1).mpr h2)
  exact VSub.list (.there (.there .here)) h1 (Int.lt_trans h2 (Int.lt_trans hd1 (by decide))) hx (VEnd.same (h _ _ _ hx h3))
theorem Wk.thr {n:Nat}{pr:Prop}{C:Addr}{d:D}(W:Wk K f n) (hX:f.X=fun x o=>pr∧Thr C d [] false x o):Notes f.w f.B f.A f.env f.X f.X:=by
  obtain ⟨outer,F,h1,h2⟩:=W.fr
  rw [hX]
  exact fun s N own x I ⟨hp,hx⟩ E' R k=>Notes.thr (C:=C) (keep:=[]) (n:=false) h1 h2 s N own x I hx E' R fun s' N' o' S I' t=>k s' N' o' S I' ⟨hp,t.weak⟩
theorem VFor.run {t:TT}{body:ST}{dx:D}{Q:Fl→Vals→Own→Prop}{ds:List D}{C:Own→Prop}(J:Nat→Vals→Own→Prop) (it:Iterable f.w f.B f.A dx ds C) (hC:∀k v o,J k v o→∀o',(∀p∈o,p∈o')→C o') (hx:Notes f.w f.B f.A f.env f.X f.X) (h0:J 0 v own)
    (hb:∀k d v o,ds[k]?=some d→J k v o→t f v o d fun v o=>body f v o fun fl v o=>match fl with | .next=>∃o',Sb o' o∧J (k+1) v o' | .cont=>∃o',Sb o' o∧J (k+1) v o' | .brk=>Q .next v o | .ret r=>Q (.ret r) v o)
    (he:∀v o,J ds.length v o→Q .next v o):VFor f t body v own dx Q:=.mk ds C J f.X it hC h0 hx hb he
theorem VFor.quiet {t:TT}{body:ST}{dx:D}{Q:Fl→Vals→Own→Prop}{ds:List D}{C:Own→Prop}(J:Nat→Vals→Own→Prop) (it:Iterable f.w f.B f.A dx ds C) (hC:∀k v o,J k v o→∀o',(∀p∈o,p∈o')→C o') (h0:J 0 v own)
    (hb:∀k d v o,ds[k]?=some d→J k v o→t (f.x fun q_ q_=>False) v o d fun v o=>body (f.x fun q_ q_=>False) v o fun fl v o=>match fl with | .next=>∃o',Sb o' o∧J (k+1) v o' | .cont=>∃o',Sb o' o∧J (k+1) v o' | .brk=>Q .next v o | .ret r=>Q (.ret r) v o)
    (he:∀v o,J ds.length v o→Q .next v o):VFor f t body v own dx Q:=.mk ds C J _ it hC h0 Notes.no hb he
theorem bytesAt {l:List UInt8}{k:Nat}{d:D}(h:(l.map fun c=>D.int c.toNat)[k]?=some d):∃c,d=.int c.toNat∧l.drop k=c::l.drop (k+1):=by
  rw [List.getElem?_map] at h
  cases hl:l[k]? with
  | none=>rw [hl] at h;cases h
  | some c =>
    rw [hl] at h
    cases h
    obtain ⟨hlt,e⟩:=List.getElem?_eq_some_iff.mp hl
    exact ⟨c,rfl,by rw [List.drop_eq_getElem_cons hlt,e]⟩
noncomputable def hexFold:Int→List UInt8→Option Int
  | n,[]=>some n
  | n,c::l=>match hexV c.toNat with
    | .int d=>hexFold (16*n+d) l
    | _=>none
noncomputable def codeHex (l:List UInt8):Option Int:=if 1≤l.length∧l.length≤6 then (match hexFold 0 l with
  | some v=>if v≤1114111 then some v else none
  | none=>none) else none
theorem hexV_or (o:Int):hexV o=.none∨∃d,hexV o=.int d:=by
  unfold hexV
  repeat' split
  all_goals first | exact .inl rfl | exact .inr ⟨_,rfl⟩
theorem hexFold_none {l:List UInt8}(h:hexFold 0 l=none):codeHex l=none:=by
  unfold codeHex;rw [h];split <;> rfl
theorem c_code_of_hex (pk:Parts K) {n:Nat}(cx:Cx A (n+4)) (g:Gr K B) {l:List UInt8}(hz:l.length≤16777216) (h:∀v,codeHex l=some v→Q (.int v) own) (hX:codeHex l=none→∀x o,Thr 52 (.bytes l) [] true x o→X x o):CallC w B A (.ref 99) [.bytes l] own Q X:=by
  refine pk.fnX (codeHex l=none) 52 (.bytes l) pk.f_code_of_hex pk.b_code_of_hex hX cx g fun f W hX=>?_
  repeat' wtm_at "V"
  · refine VRaise.code (n:=n) pk W hX (if_neg fun q=>?_)
    have:=(and_le (a:=1) (b:=(l.length:Int)) (c:=6)).mpr (by lia)
    simp_all
  refine VFor.run (fun k v o=>∃m vo vd,hexFold 0 l=hexFold m (l.drop k)∧v=[some (.bytes l),some (.int m),vo,vd]∧o=own) (Iterable.bytes W.cx.handled) (fun q_ q_ q_ q_ q_ q_=>trivial) (W.thr hX) ⟨0,_,_,rfl,rfl,rfl⟩ ?_ ?_
  · rintro k d v o hk ⟨m,vo,vd,h1,rfl,rfl⟩
    obtain ⟨c,rfl,hd⟩:=bytesAt hk
    rw [hd] at h1
    refine (c_hex_value (n:=n+2) pk W.cx W.gr ?_).call
    rcases hexV_or c.toNat with hc | ⟨dd,hc⟩
    · rw [hc]
      repeat' wtm_at "V"
      exact VRaise.code (n:=n) pk W hX (hexFold_none (by rw [h1];unfold hexFold;rw [hc]))
    · rw [hc]
      repeat' wtm_at "V"
      exact ⟨_,.refl _,_,_,_,by rw [h1];conv=>lhs;unfold hexFold;rw [hc],rfl,rfl⟩
  · rintro v o ⟨m,vo,vd,h1,rfl,rfl⟩
    rw [List.length_map,List.drop_length] at h1
    have hl:1≤l.length∧l.length≤6:=by
      have:=(and_le (a:=1) (b:=(l.length:Int)) (c:=6)).mp (by simp_all)
      lia
    have hv:codeHex l=if m≤1114111 then some m else none:=by unfold codeHex;rw [if_pos hl,h1];rfl
    repeat' wtm_at "V"
    · refine VRaise.code (n:=n) pk W hX ?_
      rw [hv,if_neg (by simp_all)]
    · exact VEnd.same (h _ (by rw [hv,if_pos (by simp_all)]))
theorem c_coll_trimmed (pk:Parts K) {n:Nat}(cx:Cx A (n+2)) (g:Gr K B) {l:List UInt8}(hz:l.length≤1048576) (h:Q (.bytes (stripL l [32,9,13])) own):CallC w B A (.ref 420) [.bytes l] own Q X:=by
  refine pk.fn pk.f_coll_trimmed pk.b_coll_trimmed cx g fun f W=>?_
  repeat' wtm_at "V"
  exact Call.bStrip hz (VEnd.same h)
noncomputable def numHex (l:List UInt8):Option Int:=if l=[]∨6<l.length then none else hexFold 0 l
theorem c_coll_number (pk:Parts K) {n:Nat}(cx:Cx A (n+4)) (g:Gr K B) {l:List UInt8}{r:Int}(hz:l.length≤16777216) (h:∀v,numHex l=some v→Q (.int v) own) (hX:numHex l=none→∀x o,Thr 64 (.int r) [] true x o→X x o):CallC w B A (.ref 427) [.bytes l,.int r] own Q X:=by
  refine pk.fnX (numHex l=none) 64 (.int r) pk.f_coll_number pk.b_coll_number hX cx g fun f W hX=>?_
  repeat' wtm_at "V"
  · exact VRaise.row (n:=n) pk W hX (if_pos (.inl (by simp_all)))
  · exact VRaise.row (n:=n) pk W hX (if_pos (.inr (by simp_all;lia)))
  have hnum:numHex l=hexFold 0 l:=if_neg (by simp_all;lia)
  refine VFor.run (fun k v o=>∃m vo vd,hexFold 0 l=hexFold m (l.drop k)∧v=[some (.bytes l),some (.int r),some (.int m),vo,vd]∧o=own) (Iterable.bytes W.cx.handled) (fun q_ q_ q_ q_ q_ q_=>trivial) (W.thr hX) ⟨0,_,_,rfl,rfl,rfl⟩ ?_ ?_
  · rintro k d v o hk ⟨m,vo,vd,h1,rfl,rfl⟩
    obtain ⟨c,rfl,hd⟩:=bytesAt hk
    rw [hd] at h1
    refine (c_hex_value (n:=n+2) pk W.cx W.gr ?_).call
    rcases hexV_or c.toNat with hc | ⟨dd,hc⟩
    · rw [hc]
      repeat' wtm_at "V"
      exact VRaise.row (n:=n) pk W hX (by rw [hnum,h1];unfold hexFold;rw [hc])
    · rw [hc]
      repeat' wtm_at "V"
      exact ⟨_,.refl _,_,_,_,by rw [h1,Int.mul_comm m 16];conv=>lhs;unfold hexFold;rw [hc],rfl,rfl⟩
  · rintro v o ⟨m,vo,vd,h1,rfl,rfl⟩
    rw [List.length_map,List.drop_length] at h1
    exact VEnd.same (h m (by rw [hnum,h1];rfl))
theorem Thr.grow {C:Addr}{d:D}{keep o rest:Own}{n:Bool}{x:Addr}(t:Thr C d [] n x o) (hk:∀p∈keep,p∈rest∧NotX p.2):Thr C d keep false x (o++rest):=by
  obtain ⟨dd,tb,a,b,c,_,_⟩:=t
  have s:∀p∈o,p∈o++rest:=fun p h=>List.mem_append_left _ h
  exact ⟨dd,tb,a.perm s,b.perm s,fun T hT=>let ⟨fl,f⟩:=c T hT;⟨fl,f.perm s⟩,(by simp),fun p hp=>⟨.of_mem (List.mem_append_right _ (hk p hp).1),(hk p hp).2⟩⟩
theorem k_code_of_hex (pk:Parts K) {n:Nat}(cx:Cx A (n+4)) (g:Gr K B) {l:List UInt8}(hz:l.length≤16777216) (h:∀v,codeHex l=some v→Q (.int v) own) (hX:codeHex l=none→∀x o,Thr 52 (.bytes l) [] true x o→X x (o++own)):Call w B A (.ref 99) [.bytes l] own Q X :=
  (c_code_of_hex pk cx g (own:=[]) (Q:=fun b o=>∃v,codeHex l=some v∧b=.int v∧o=[]) (X:=fun x o=>codeHex l=none∧Thr 52 (.bytes l) [] true x o) hz (fun v e=>⟨v,e,rfl,rfl⟩) fun e x o t=>⟨e,t⟩).call.pick .nil
    (fun b o hq=>by obtain ⟨v,e,rfl,rfl⟩:=hq;exact h v e) fun x o hq=>hX hq.1 x o hq.2
theorem c_coll_code (pk:Parts K) {n:Nat}(cx:Cx A (n+5)) (g:Gr K B) {l:List UInt8}{r:Int}(hz:l.length≤16777216) (h:∀v,codeHex l=some v→Q (.int v) own) (hX:codeHex l=none→∀x o,Thr 64 (.int r) [] true x o→X x o):CallC w B A (.ref 434) [.bytes l,.int r] own Q X:=by
  refine pk.fnX (codeHex l=none) 64 (.int r) pk.f_coll_code pk.b_coll_code hX cx g fun f W hX=>?_
  obtain ⟨outer,F,h1,h2⟩:=W.fr
  refine VTry.mk (codeHex l=none) (.bytes l) [] ⟨outer,h1⟩ ?_ ?_
  · refine k_code_of_hex (n:=n) pk W.cx W.gr hz (fun v e=>?_) fun e x o t=>⟨e,?_⟩
    · repeat' wtm_at "V"
      exact VEnd.same (h v e)
    · rw [List.append_assoc]
      exact t.grow fun p hp=>by
        rw [List.mem_singleton] at hp
        subst hp
        exact ⟨List.mem_append_right _ (.head _),trivial⟩
  · intro hn e o t
    repeat' wtm_at "V"
    exact VRaise.row (n:=n+1) pk W hX hn
theorem orSplit {c:Bool}{R M p:Prop}(hp:c=true→p) (hR:p→R) (hM:(p→R)→c=false→M):(c=true→R)∧(c=false→M):=⟨fun h=>hR (hp h),hM hR⟩
noncomputable def capO (k:Nat):Int:=16 ^ (6-k)
noncomputable abbrev HexIs (c:UInt8):Prop:=(48≤c∧c≤57)∨(65≤c∧c≤70)∨(97≤c∧c≤102)
structure HexOf (code:Int) (bs:List UInt8):Prop where
  lo:4≤bs.length
  hi:bs.length≤6
  is:∀c∈bs,HexIs c
  val:hexFold 0 bs=some code
structure Digs (code:Int) (ds:List UInt8) (rest:Int):Prop where
  r0:0≤rest
  r1:rest<capO ds.length
  hl:ds.length≤6
  is:∀c∈ds,HexIs c
  val:hexFold rest ds.reverse=some code
theorem Digs.start {code:Int}(h0:0≤code) (h1:code<16777216):Digs code [] code:=⟨h0,h1,Nat.zero_le _,fun q_ h=>(by cases h),rfl⟩
theorem capO_next {k:Nat}{rest:Int}(hk:k≤6) (h:rest<capO k) (o:0<rest∨k<4):k+1≤6∧rest / 16<capO (k+1):=by
  have h5:k+1≤6:=by
    rcases Nat.lt_or_eq_of_le hk with q | rfl
    · exact q
    · exact absurd (Int.lt_add_one_iff.mp (show rest<0+1 from h)) (Int.not_le.mpr (o.resolve_right (by decide)))
  refine ⟨h5,Int.ediv_lt_of_lt_mul (by decide) ?_⟩
  rw [capO,← Int.pow_succ,← Nat.succ_sub h5,Nat.succ_eq_add_one,Nat.add_sub_add_right]
  exact h
theorem Digs.next {code rest:Int}{ds:List UInt8}(D:Digs code ds rest) (h:0<rest∨ds.length<4) {c:UInt8}(hc:HexIs c) (hv:hexV c.toNat=.int (rest % 16)):Digs code (ds++[c]) (rest / 16):=by
  have h0:=D.r0
  have cap:=capO_next D.hl D.r1 h
  refine ⟨by lia,by simpa using cap.2,by simpa using cap.1,fun x hx=>?_,?_⟩
  · rcases List.mem_append.mp hx with hx | hx
    · exact D.is x hx
    · rw [List.mem_singleton] at hx;subst hx;exact hc
  · rw [List.reverse_append,List.reverse_singleton,List.singleton_append]
    unfold hexFold
    rw [hv]
    show hexFold (16*(rest / 16)+rest % 16) ds.reverse=_
    rw [show 16*(rest / 16)+rest % 16=rest by lia,D.val]
theorem Digs.done {code rest:Int}{ds:List UInt8}(D:Digs code ds rest) (h:¬ (0<rest∨ds.length<4)):HexOf code ds.reverse:=by
  have h0:=D.r0
  have:rest=0:=by omega
  have:=D.hl
  exact ⟨by rw [List.length_reverse];omega,by rw [List.length_reverse];omega,fun x hx=>D.is x (List.mem_reverse.mp hx),by have:=D.val;rwa [‹rest=0›] at this⟩
noncomputable def dig (large:Bool) (k:Nat):UInt8:=if k<10 then 48+k.toUInt8 else if large then 55+k.toUInt8 else 87+k.toUInt8
noncomputable def isI (d:D) (k:Int):Bool:=match d with | .int i=>i == k | _=>false
theorem isI_eq {d:D}{k:Int}(h:isI d k=true):d=.int k:=by
  cases d with
  | int i=>exact congrArg D.int (eq_of_beq h)
  | _=>exact Bool.noConfusion h
theorem dig_hex:∀large,∀k<16,decide (HexIs (dig large k))=true:=by decide
theorem dig_val:∀large,∀k<16,isI (hexV (dig large k).toNat) k=true:=by decide
theorem turn_lt {rest:Int}{l:Nat}(h0:0≤rest) (h:0<rest∨l<4):(rest / 16).toNat+(4-(l+1))<rest.toNat+(4-l):=by
  obtain ⟨n,rfl⟩:=Int.eq_ofNat_of_zero_le h0
  show n / 16+(4-(l+1))<n+(4-l)
  rcases h with h | h
  · exact Nat.add_lt_add_of_lt_of_le (Nat.div_lt_self (Int.ofNat_lt.mp h) (by decide)) (Nat.sub_le_sub_left (Nat.le_succ l) 4)
  · exact Nat.add_lt_add_of_le_of_lt (Nat.div_le_self n 16) (Nat.sub_lt_sub_left h (Nat.lt_succ_self l))
theorem dig_b:∀k<16,([48,49,50,51,52,53,54,55,56,57,65,66,67,68,69,70]:List UInt8)[k]?=some (dig true k):=by decide
theorem dig_s:∀large,∀k<16,(if large then [48,49,50,51,52,53,54,55,56,57,65,66,67,68,69,70] else [48,49,50,51,52,53,54,55,56,57,97,98,99,100,101,102]:List Nat)[k]?=some (dig large k).toNat:=by decide
structure DigN (code:Int) (ds:List UInt8) (rest:Int) (large:Bool):Prop where
  k:(rest % 16).toNat<16
  next:Digs code (ds++[dig large (rest % 16).toNat]) (rest / 16)
  l:ds.length≤1000
  lt:(rest / 16).toNat+(4-(ds++[dig large (rest % 16).toNat]).length)<rest.toNat+(4-ds.length)
theorem Digs.turn {code rest:Int}{ds:List UInt8}(Z:Digs code ds rest) (h:0<rest∨ds.length<4) (large:Bool):DigN code ds rest large:=by
  have hk:(rest % 16).toNat<16:=(Int.toNat_lt (Int.emod_nonneg _ (by decide))).mpr (Int.emod_lt_of_pos _ (by decide))
  refine ⟨hk,Z.next h (of_decide_eq_true (dig_hex large _ hk)) ((isI_eq (dig_val large _ hk)).trans (congrArg D.int (Int.toNat_of_nonneg (Int.emod_nonneg _ (by decide))))),Nat.le_trans Z.hl (by decide),?_⟩
  rw [List.length_append,List.length_singleton]
  exact turn_lt Z.r0 h
theorem lt4 {n k:Nat}(e:n=k) (h:decide ((n:Int)<4)=true):k<4:=e▸Int.ofNat_lt.mp (of_decide_eq_true h)
theorem ge4 {n k:Nat}{rest:Int}(e:n=k) (hc:decide (rest > 0)=false) (h:decide ((n:Int)<4)=false):¬ (0<rest∨k<4):=fun q=>q.elim (of_decide_eq_false hc) fun q=>of_decide_eq_false h (Int.ofNat_lt.mpr (e▸q))
structure HxI (code:Int) (m:Nat) (x:List UInt8×Int):Prop where
  D:Digs code x.1 x.2
  m:m=x.2.toNat+(4-x.1.length)
theorem shr4 (i:Int):i.fdiv (2 ^ (4:Int).toNat)=i / 16:=by
  have:((2:Int) ^ (4:Int).toNat)=16:=by decide
  rw [this,Int.fdiv_eq_ediv_of_nonneg _ (by decide)]
noncomputable abbrev iOf (bs:List UInt8):List Int:=bs.map fun x=>(x.toNat:Int)
theorem iOf_len (ds:List UInt8):((iOf ds).map D.int).length=ds.length:=(List.length_map ..).trans (List.length_map ..)
theorem iOf_rev (ds:List UInt8):((iOf ds).map D.int).reverse=(iOf ds.reverse).map D.int:=by rw [iOf,iOf,List.map_reverse,List.map_reverse]
theorem iOf_back (ds:List UInt8):(iOf ds).map (fun n=>n.toNat.toUInt8)=ds:=by
  rw [List.map_map]
  exact (List.map_congr_left fun x q_=>by simp).trans (List.map_id ds)
theorem iOf_mem (ds:List UInt8):∀x∈iOf ds,0≤x∧x<256:=fun x hm=>by
  obtain ⟨y,_,rfl⟩:=List.mem_map.mp hm
  have:=y.toNat_lt
  exact ⟨Int.natCast_nonneg _,Int.ofNat_lt.mpr this⟩
theorem c_hex_code (pk:Parts K) {n:Nat}(cx:Cx A (n+2)) (g:Gr K B) {code:Int}(h0:0≤code) (h1:code<16777216) (h:∀bs,HexOf code bs→Q (.bytes bs) own):CallC w B A (.ref 85) [.int code] own Q X:=by
  refine pk.fn pk.f_hex_code pk.b_hex_code cx g fun f W=>?_
  intro c
  refine .mk (fun m=>NextV (HxI code m) (fun x=>[some (.int code),some (.ref c),some (.int x.2)]) fun x=>(c,.list ((iOf x.1).map .int))::own) _ (fun q_ q_=>False) ⟨([],code),⟨.start h0 h1,rfl⟩,rfl,rfl⟩ Notes.no fun m v o hI=>?_
  obtain ⟨x,hI,rfl,rfl⟩:=hI
  have hl:=iOf_len x.1
  refine orSplit (p:=0<x.2∨x.1.length<4) (fun h=>.inl (of_decide_eq_true h)) (fun hor=>?_) fun hR hc=>?_
  · obtain ⟨hk,hD,h5,hlt⟩:=hI.D.turn hor true
    repeat' wtm_at "V"
    refine VSub.bytes (ch:=dig true (x.2 % 16).toNat) (by rw [bitAnd_m4];exact Int.emod_nonneg _ (by decide)) (Nat.le_of_ble_eq_true rfl) (by rw [bitAnd_m4];exact dig_b _ hk) ?_
    refine Call.appendInts .here (by rw [List.length_map];exact Nat.le_trans h5 (by decide)) ?_
    repeat' wtm_at "V"
    exact ⟨_,_,.refl _,hI.m▸hlt,(x.1++[_],x.2 / 16),⟨hD,rfl⟩,by rw [shr4],by rw [iOf,List.map_append];rfl⟩
  · have hz:=Nat.le_trans hI.D.hl (show 6≤1000 by decide)
    refine Call.lenList .here (by rw [hl];exact Nat.le_trans hz (by decide)) (And.intro (fun hb=>hR (.inr (lt4 hl hb))) fun hb=>?_)
    have hn:=hI.D.done (ge4 hl hc hb)
    clear hR
    repeat' wtm_at "V"
    refine VSlice.list (l':=(iOf x.1.reverse).map .int) .here (congrArg some (iOf_rev _)) (by rw [hl];exact Nat.le_trans hz (by decide)) (by decide) fun a=>?_
    refine Call.bytesOf W.cx.handled .here (iOf_mem _) (by rw [List.length_map,List.length_reverse];exact Nat.le_trans hz (by decide)) ?_
    rw [iOf_back]
    exact VEnd.sub (by wtm_at "Ms") (h _ hn)
noncomputable abbrev sOf (bs:List UInt8):List Nat:=bs.map UInt8.toNat
theorem c_law_hex (pk:Parts K) {n:Nat}(cx:Cx A (n+2)) (g:Gr K B) {code:Int}{large:Bool}(h0:0≤code) (h1:code<16777216) (h:∀bs,HexOf code bs→Q (.str (sOf bs)) own):CallC w B A (.ref 536) [.int code,.int 4,.bool large] own Q X:=by
  refine pk.fn pk.f_law_hex pk.b_law_hex cx g fun f W=>?_
  refine .mk (fun m=>NextV (HxI code m) (fun x=>[some (.int x.2),some (.int 4),some (.bool large),some (.str (sOf x.1.reverse))]) fun x=>own) _ (fun q_ q_=>False) ⟨([],code),⟨.start h0 h1,rfl⟩,rfl,rfl⟩ Notes.no fun m v o hI=>?_
  obtain ⟨x,hI,rfl,rfl⟩:=hI
  have hl:(sOf x.1.reverse).length=x.1.length:=(List.length_map ..).trans List.length_reverse
  have hz:=Nat.le_trans hI.D.hl (show 6≤1000 by decide)
  refine orSplit (p:=0<x.2∨x.1.length<4) (fun h=>.inl (of_decide_eq_true h)) (fun hor=>?_) fun hR hc=>?_
  · obtain ⟨hk,hD,h5,hlt⟩:=hI.D.turn hor large
    refine And.intro (fun h=>Bool.noConfusion h) fun q_=>⟨large,rfl,?_⟩
    have fm:x.2.fmod 16=x.2 % 16:=Int.fmod_eq_emod_of_nonneg _ (by decide)
    have fd:x.2.fdiv 16=x.2 / 16:=Int.fdiv_eq_ediv_of_nonneg _ (by decide)
    have hs:=dig_s large _ hk
    cases large <;> repeat' wtm_at "V"
    all_goals (
      refine VSub.str (ch:=(dig _ (x.2 % 16).toNat).toNat) (by rw [fm];exact Int.emod_nonneg _ (by decide)) (Nat.le_of_ble_eq_true rfl) (by rw [fm];exact hs) ?_
      refine And.intro (by rw [hl];exact Nat.le_trans (Nat.add_le_add_left hz 1) (by decide)) (And.intro ⟨by decide,by decide⟩ ?_)
      exact ⟨_,_,.refl _,hI.m▸hlt,(x.1++[_],x.2 / 16),⟨hD,rfl⟩,by rw [fd,List.reverse_append];rfl,rfl⟩)
  · refine Call.lenStr (by rw [hl];exact Nat.le_trans hz (by decide)) (And.intro (fun hb=>hR (.inr (lt4 hl hb))) fun hb=>?_)
    have hn:=hI.D.done (ge4 hl hc hb)
    clear hR
    repeat' wtm_at "V"
    exact VEnd.same (h _ hn)
theorem sliceB_le (l:List UInt8) (lo hi:Option Int):(sliceB l lo hi).length≤l.length:=by
  unfold sliceB
  rw [List.length_drop]
  cases hi <;> simp [Option.elim] <;> omega
noncomputable abbrev trim (l:List UInt8):List UInt8:=stripL l [32,9,13]
theorem pyNil {xs:List D}{ps:List PyData}(h:pyDs xs=some ps):PyData.eqv (.list ps) (.list [])=xs.isEmpty:=by
  cases xs with
  | nil=>cases h;rfl
  | cons x xs =>
    obtain ⟨a,_,h⟩:=Option.bind_eq_some_iff.mp h
    obtain ⟨b,_,rfl⟩:=Option.map_eq_some_iff.mp h
    rfl
theorem VCmp.eqLst {xs:List D}{ps:List PyData}{e:Addr}{n:Nat}{QB:Bool→Own→Prop}(cx:Cx f.A n) (h1:pyDs xs=some ps) (c1:PyData.canLayAll0 ps=true) (h2:Has own e (.list [])) (h:QB xs.isEmpty own):VCmp f v .Eq (.lst xs) (.ref e) own QB:=by
  refine VCmp.eqP (p:=.list ps) (q:=.list []) (.inl (by show (pyDs xs).map _=_;rw [h1];rfl)) (.inr ⟨e,_,_,rfl,h2,rfl,rfl⟩) c1 rfl (Nat.lt_of_le_of_lt (Nat.add_le_add_left (Nat.min_le_right _ _) _) cx.line1) ?_
  rw [pyNil h1];exact h
theorem VCmp.eqNil {cc e:Addr}{xs:List D}{ps:List PyData}{n:Nat}{QB:Bool→Own→Prop}(cx:Cx f.A n) (h0:Has own cc (.list xs)) (h1:pyDs xs=some ps) (c1:PyData.canLayAll0 ps=true) (h2:Has own e (.list [])) (h:QB xs.isEmpty own):VCmp f v .Eq (.ref cc) (.ref e) own QB:=by
  refine VCmp.eqP (p:=.list ps) (q:=.list []) (.inr ⟨cc,_,_,rfl,h0,h1,rfl⟩) (.inr ⟨e,_,_,rfl,h2,rfl,rfl⟩) c1 rfl (Nat.lt_of_le_of_lt (Nat.add_le_add_left (Nat.min_le_right _ _) _) cx.line1) ?_
  rw [pyNil h1];exact h
noncomputable def codesOf (l:List UInt8):Option (List Int):=match ((splitB 32 l).filter (· != [])).mapM codeHex with
  | some []=>none
  | r=>r
theorem mapM_snoc {α β:Type}{g:α→Option β}{l:List α}{x:α}{ys:List β}(h:l.mapM g=some ys):(l++[x]).mapM g=(g x).map fun y=>ys++[y]:=by
  rw [List.mapM_append,h]
  cases hx:g x with
  | none=>simp [List.mapM_cons,hx]
  | some y=>simp [List.mapM_cons,hx]
theorem mapM_len {α β:Type}{g:α→Option β}:∀{l:List α}{ys:List β},l.mapM g=some ys→ys.length=l.length
  | [],_,h=>by cases h;rfl
  | x::l,ys,h=>by
    rw [List.mapM_cons] at h
    cases hx:g x with
    | none=>rw [hx] at h;cases h
    | some y =>
      rw [hx] at h
      cases hl:l.mapM g with
      | none=>rw [hl] at h;cases h
      | some zs =>
        rw [hl] at h
        cases h
        exact congrArg (·+1) (mapM_len hl)
theorem mapM_part {α β:Type}{g:α→Option β}{l r:List α}(h:l.mapM g=none):(l++r).mapM g=none:=by
  rw [List.mapM_append,h];rfl
theorem c_coll_codes (pk:Parts K) {n:Nat}(cx:Cx A (n+7)) (g:Gr K B) {l:List UInt8}{r:Int}(hz:l.length≤1048576) (h9:(9:UInt8)∉l) (h:∀cs,codesOf l=some cs→Q (.lst (cs.map .int)) own) (hX:codesOf l=none→∀x o,Thr 64 (.int r) [] true x o→X x o):CallC w B A (.ref 439) [.bytes l,.int r] own Q X:=by
  refine pk.fnX (codesOf l=none) 64 (.int r) pk.f_coll_codes pk.b_coll_codes hX cx g fun f W hX=>?_
  repeat' wtm_at "V"
  refine Call.bReplace0 h9 ?_
  repeat' wtm_at "V"
  refine Call.bSplit hz fun a=>?_
  have hlen:((splitB 32 l).map D.bytes).length≤16777216:=by have:=splitB_count 32 l;simp;lia
  refine VComp.mk ((splitB 32 l).map .bytes) _ (fun k rs o=>∃cs:List Int,(((splitB 32 l).take k).filter (· != [])).mapM codeHex=some cs∧rs=cs.map .int∧rs.length≤k∧o=(a,.list ((splitB 32 l).map .bytes))::(f.cs 0,.cell (some (.int r)))::own) (codesOf l=none) 64 (.int r) (Iterable.list W.cx.handled (ax:=a))
    (fun k rs o ⟨cs,_,_,_,e⟩ o' hs=>Has.of_mem (hs _ (e▸.head _))) ⟨[],rfl,rfl,Nat.le_refl _,rfl⟩ hlen (fun k rs o ⟨_,_,_,e,_⟩=>e) (fun hp=>⟨let ⟨o,_,e,_⟩:=W.fr;⟨o,e⟩,fun x o t=>by rw [hX];exact ⟨hp,t.weak⟩⟩) ?_ ?_
  · rintro k e rs o L env hk ⟨cs,h1,rfl,hle,rfl⟩ f' rfl
    obtain ⟨wd,hw,rfl⟩:∃wd,(splitB 32 l)[k]?=some wd∧e=.bytes wd:=by
      rw [List.getElem?_map] at hk
      cases hq:(splitB 32 l)[k]? with
      | none=>rw [hq] at hk;cases hk
      | some wd=>rw [hq] at hk;cases hk;exact ⟨wd,rfl,rfl⟩
    have ht:((splitB 32 l).take (k+1)).filter (· != [])=((splitB 32 l).take k).filter (· != [])++([wd].filter (· != [])):=by rw [List.take_add_one,hw,List.filter_append];rfl
    have hwl:wd.length≤16777216:=by have:=splitB_len 32 l wd (List.mem_of_getElem? hw);lia
    refine ⟨fun hc=>⟨cs,?_,rfl,by lia,rfl⟩,fun hc=>?_⟩
    · rw [ht,show ([wd].filter (· != []))=[] by simp_all];simpa using h1
    · have hf:([wd].filter (· != []))=[wd]:=by simp_all
      rw [hf] at ht
      refine ⟨_,.there .here,?_⟩
      refine (c_coll_code (n:=n+1) pk W.cx W.gr hwl (fun v hv=>?_) fun hv x o t=>?_).call
      · exact VEnd.same ⟨cs++[v],by rw [ht,mapM_snoc h1,hv];rfl,by simp,by simp;simpa using hle,rfl⟩
      · have hn:codesOf l=none:=by
          have e:(splitB 32 l).filter (· != [])=((splitB 32 l).take (k+1)).filter (· != [])++((splitB 32 l).drop (k+1)).filter (· != []):=by rw [← List.filter_append,List.take_append_drop]
          unfold codesOf
          rw [e,mapM_part (by rw [ht,mapM_snoc h1,hv];rfl)]
        exact ⟨hn,(t.weak).sub fun p hp=>List.mem_append_left _ hp,_,.of_mem (List.mem_append_right _ (.head _))⟩
  · rintro acc rs o ⟨cs,h1,rfl,_,rfl⟩
    rw [List.length_map,List.take_length] at h1
    intro e
    refine VCmp.eqNil W.cx (.there .here) (pyInts cs).1 (pyInts cs).2 .here ?_
    repeat' wtm_at "V"
    · refine VRaise.row (n:=n+3) pk W hX ?_
      unfold codesOf
      rw [h1]
      cases cs with
      | nil=>rfl
      | cons=>simp_all
    · refine ⟨_,own,.list (.there .here) (.done (by wtm_at "Ms")),h cs ?_⟩
      unfold codesOf
      rw [h1]
      cases cs with
      | nil=>simp_all
      | cons=>rfl
noncomputable def ddL (l:List UInt8):List (List UInt8):=betweenL l 2 0 (Builtin.Bytes.occurrences l.toArray #[46,46] 0 l.length)
theorem betweenL_len (l:List UInt8) (wd:Nat) (ps:List Nat):∀k,(betweenL l wd k ps).length=ps.length+1∧∀p∈betweenL l wd k ps,p.length≤l.length:=by
  induction ps with
  | nil=>exact fun k=>⟨rfl,fun p hp=>by cases List.mem_singleton.mp hp;rw [List.length_drop];exact Nat.sub_le ..⟩
  | cons q ps ih =>
    exact fun k=>⟨congrArg (·+1) (ih _).1,fun p hp=>(List.mem_cons.mp hp).elim (fun e=>by
      rw [e,List.length_take,List.length_drop];exact Nat.le_trans (Nat.min_le_right ..) (Nat.sub_le ..)) ((ih _).2 p)⟩
theorem occ_len (l:List UInt8):(Builtin.Bytes.occurrences l.toArray #[46,46] 0 l.length).length≤l.length:=by
  have key:∀(r:List Nat) (acc:List Nat×Nat),(r.foldl (stepB l.toArray #[46,46]) acc).1.length≤r.length+acc.1.length:=fun r=>by
    induction r with
    | nil=>exact fun acc=>Nat.le_add_left ..
    | cons x r ih =>
      intro acc
      refine Nat.le_trans (ih _) ?_
      rw [List.length_cons,Nat.succ_add_eq_add_succ]
      refine Nat.add_le_add_left ?_ _
      unfold stepB
      by_cases h:(decide (x ≥ acc.2) && l.toArray.extract x (x+(#[46,46]:Array UInt8).size) == #[46,46])=true
      · rw [if_pos h];exact Nat.le_refl _
      · rw [if_neg h];exact Nat.le_succ _
  unfold Builtin.Bytes.occurrences
  show ((((List.range (l.length+1-(0+2))).map (·+0)).foldl (stepB l.toArray #[46,46]) ([],0)).1).reverse.length≤_
  rw [List.length_reverse]
  refine Nat.le_trans (key _ _) ?_
  rw [List.length_map,List.length_range]
  exact Nat.sub_le l.length 1
theorem ddZ {l:List UInt8}{n:Nat}(h:l.length≤n):(ddL l).length≤n+1∧∀p∈ddL l,p.length≤n :=
  have e:=betweenL_len l 2 (Builtin.Bytes.occurrences l.toArray #[46,46] 0 l.length) 0
  ⟨Nat.le_trans (Nat.le_of_eq e.1) (Nat.succ_le_succ (Nat.le_trans (occ_len l) h)),fun p hp=>Nat.le_trans (e.2 p hp) h⟩
theorem Call.bSplitDD {l:List UInt8}(hz:l.length≤1048576) (h:∀a,Q (.ref a) ((a,.list ((ddL l).map .bytes))::own)):Call w B A (.builtin "bytes.split") [.bytes l,.bytes [46,46]] own Q X:=by
  have ol:=occ_len l
  refine splitG (ps:=ddL l) hz (by decide) (ddZ (Nat.le_refl _)).2 ?_ (leN (ddZ hz).1 rfl) h
  by_cases ho:Builtin.Bytes.occurrences l.toArray #[46,46] 0 l.length=[]
  · exact .inl ⟨ho,by rw [ddL,ho];rfl⟩
  · exact .inr ⟨ho,ol,between_eq ..⟩
noncomputable abbrev El:=Int×Int×Int×Bool
noncomputable abbrev elD (e:El):D:=.tup [.int e.1,.int e.2.1,.int e.2.2.1,.bool e.2.2.2]
noncomputable def pe:Nat→List UInt8→Option (List El)
  | 0,_=>none
  | n+1,rest=>if rest=[] then some [] else
    if sliceB rest none (some 1)≠[91]∨findL 93 rest<0 then none else
    if ¬ (sliceB rest (some 1) (some 2)=[46]∨sliceB rest (some 1) (some 2)=[42])∨¬ ((splitB 46 (sliceB rest (some 2) (some (findL 93 rest)))).length=3∨(splitB 46 (sliceB rest (some 2) (some (findL 93 rest)))).length=4) then none else
    match (splitB 46 (sliceB rest (some 2) (some (findL 93 rest)))).mapM numHex with
    | some (a::b::c::_)=>(pe n (trim (sliceB rest (some (findL 93 rest+1)) none))).map ((a,b,c,sliceB rest (some 1) (some 2) == [42])::·)
    | _=>none
noncomputable def elemsOf (l:List UInt8):Option (List El):=pe (l.length+1) (trim l)
theorem VComp.hex {n:Nat}{a:Addr}(W:Wk K f (n+6)) (pk:Parts K) {r:Int}{pr:Prop}{ws:List (List UInt8)}{F:Addr→Own→Prop}(hX:f.X=fun x o=>pr∧Thr 64 (.int r) [] false x o) (hz:ws.length≤16777216) (hzw:∀x∈ws,x.length≤16777216) (ha:Has own a (.list (ws.map .bytes))) (hc:Has own (f.cs 0) (.cell (some (.int r))))
    (hn:ws.mapM numHex=none→pr) (h:∀ns acc,ws.mapM numHex=some ns→F acc ((acc,.list (ns.map .int))::own)) :
    VComp f [".0", "weight"] (tgtS (.loc 1)) nilAnd (callP (.ref 427) (consL (loc 1) (consL (cellP 0) nilL))) v own (.ref a) F:=by
  refine VComp.st ws .bytes (fun k (x:List Int)=>(ws.take k).mapM numHex=some x) (fun x=>x.map .int) (fun q_=>own) [] pr 64 (.int r) (Iterable.list W.cx.handled (ax:=a)) (fun k x h o' hs=>ha.perm hs) rfl rfl rfl hz (fun k x h=>by rw [List.length_map,mapM_len h,List.length_take];exact Nat.min_le_left ..) (fun hp=>⟨W.fr1,fun x o t=>by rw [hX];exact ⟨hp,t.weak⟩⟩) (fun k wd x L env hw h1=>?_) fun acc x h1=>h x acc (by rwa [List.take_length] at h1)
  refine ⟨(fun h=>by cases h),fun q_=>⟨_,hc,?_⟩⟩
  have hv':∀q,numHex wd=q→(ws.take (k+1)).mapM numHex=q.map fun y=>x++[y]:=fun q hv=>by rw [takeS hw,mapM_snoc h1,hv]
  refine (c_coll_number (n:=n+2) pk W.cx W.gr (hzw wd (List.mem_of_getElem? hw)) (fun v hv=>VEnd.same ⟨x++[v],hv' _ hv,List.map_append ..,rfl⟩) fun hv x o t=>?_).call
  exact ⟨hn (by rw [← List.take_append_drop (k+1) ws,mapM_part (hv' _ hv)]),(t.weak).sub fun p hp=>List.mem_append_left _ hp,_,.of_mem (List.mem_append_right _ (.head _))⟩
theorem VCmp.notInI {n:Nat}(cx:Cx f.A n) {i a b:Int}{QB:Bool→Own→Prop}(h:QB (!decide (i=a∨i=b)) own):VCmp f v .NotIn (.int i) (.tup [.int a,.int b]) own QB:=by
  refine VCmp.notInP (ps:=[.int a,.int b]) (q:=.int i) rfl rfl rfl rfl ?_ ?_
  · have:=cx.line1
    simpa [PyData.depth] using this
  · have:([PyData.int a,PyData.int b].any fun y=>PyData.eqv y (.int i))=decide (i=a∨i=b):=by
      show ((a == i) || ((b == i) || false))=_
      rw [Bool.or_false,Bool.eq_iff_iff,Bool.or_eq_true,decide_eq_true_eq,beq_iff_eq,beq_iff_eq]
      lia
    rw [this];exact h
theorem Del.mid {p:Addr×O}{r:Own}:∀l:Own,Del (l++p::r) p (l++r)
  | []=>.here
  | _::l=>.there (Del.mid l)
theorem pe_nil {m:Nat}(h:0<m):pe m []=some []:=by
  cases m with
  | zero=>cases h
  | succ m=>rw [pe,if_pos rfl]
noncomputable abbrev peS (r:List UInt8):List UInt8:=sliceB r (some 1) (some 2)
noncomputable abbrev peW (r:List UInt8):List (List UInt8):=splitB 46 (sliceB r (some 2) (some (findL 93 r)))
theorem bne_t {α:Type}[BEq α] [LawfulBEq α] {a b:α}(h:(a != b)=true):a≠b:=bne_iff_ne.mp h
theorem bne_f {α:Type}[BEq α] [LawfulBEq α] {a b:α}(h:(a != b)=false):a=b:=by
  rw [bne_eq_false_iff_eq] at h;exact h
theorem pe_a {m:Nat}{r:List UInt8}(hr:r≠[]) (h:(sliceB r none (some 1) != [91])=true∨decide (findL 93 r<0)=true):pe (m+1) r=none:=by
  rw [pe,if_neg hr,if_pos (h.imp bne_t of_decide_eq_true)]
theorem pe_x {r:List UInt8}(h1:(sliceB r none (some 1) != [91])=false) (h2:decide (findL 93 r<0)=false):¬ (sliceB r none (some 1)≠[91]∨findL 93 r<0):=fun q=>q.elim (fun q=>q (bne_f h1)) (of_decide_eq_false h2)
theorem pe_b {m:Nat}{r:List UInt8}(hr:r≠[]) (h1:(sliceB r none (some 1) != [91])=false) (h2:decide (findL 93 r<0)=false) (h:(!decide (peS r=[46]∨peS r=[42]))=true∨(!decide (((peW r).length:Int)=3∨((peW r).length:Int)=4))=true):pe (m+1) r=none:=by
  rw [pe,if_neg hr,if_neg (pe_x h1 h2),if_pos (h.imp (fun h=>of_decide_eq_false (notB_t h)) fun h q=>of_decide_eq_false (notB_t h) (q.imp (congrArg (Nat.cast:Nat→Int)) (congrArg (Nat.cast:Nat→Int))))]
theorem pe_n {r:List UInt8}(h:(!decide (((peW r).length:Int)=3∨((peW r).length:Int)=4))=false):(peW r).length=3∨(peW r).length=4 :=
  (of_decide_eq_true (notB_f h)).imp (Int.ofNat_inj (n:=3)).mp (Int.ofNat_inj (n:=4)).mp
theorem pe_c {m:Nat}{r:List UInt8}(hr:r≠[]) (h1:(sliceB r none (some 1) != [91])=false) (h2:decide (findL 93 r<0)=false) (h3:(!decide (peS r=[46]∨peS r=[42]))=false) (h4:(!decide (((peW r).length:Int)=3∨((peW r).length:Int)=4))=false):pe (m+1) r=match (peW r).mapM numHex with
    | some (a::b::c::_)=>(pe m (trim (sliceB r (some (findL 93 r+1)) none))).map ((a,b,c,peS r == [42])::·)
    | _=>none:=by
  rw [pe,if_neg hr,if_neg (pe_x h1 h2),if_neg fun q=>q.elim (fun q=>q (of_decide_eq_true (notB_f h3))) fun q=>q (pe_n h4)]
inductive Four (ns:List Int):Prop
  | mk (a b c:Int) (r:List Int) (e:ns=a::b::c::r)
theorem four_of {ns:List Int}(h:ns.length=3∨ns.length=4):Four ns:=by
  rcases ns with _ | ⟨a,_ | ⟨b,_ | ⟨c,r⟩⟩⟩
  · rcases h with h | h <;> cases h
  · rcases h with h | h <;> cases h
  · rcases h with h | h <;> cases h
  · exact ⟨a,b,c,r,rfl⟩
structure PeZ (l r:List UInt8):Prop where
  z:r.length≤1048576
  n:(sliceB r (some 2) (some (findL 93 r))).length≤1048576
  c:(peW r).length≤16777216
  w:∀x∈peW r,x.length≤16777216
  t:(sliceB r (some (findL 93 r+1)) none).length≤1048576
theorem peZ {l r:List UInt8}(hz:l.length≤1048576) (h:r.length≤l.length):PeZ l r :=
  have hr:=Nat.le_trans h hz
  have h1:=Nat.le_trans (sliceB_le r (some 2) (some (findL 93 r))) hr
  ⟨hr,h1,leN (Nat.le_trans (splitB_count 46 _) (Nat.succ_le_succ h1)) rfl,fun x hx=>leN (Nat.le_trans (splitB_len 46 _ x hx) h1) rfl,Nat.le_trans (sliceB_le r (some (findL 93 r+1)) none) hr⟩
theorem pe_lt {r:List UInt8}(hr:r≠[]) (h:decide (findL 93 r<0)=false):(trim (sliceB r (some (findL 93 r+1)) none)).length<r.length:=by
  refine Nat.lt_of_le_of_lt (stripL_le (sliceB r (some (findL 93 r+1)) none) [32,9,13]) ?_
  show (r.drop (findL 93 r+1).toNat).length<_
  rw [List.length_drop]
  exact Nat.sub_lt (List.length_pos_iff.mpr hr) (Int.lt_toNat.mpr (Int.lt_add_one_of_le (Int.not_lt.mp (of_decide_eq_false h))))
structure CeI (l:List UInt8) (m:Nat) (x:List El×List UInt8×Option D×Option D×Option D×Option D):Prop where
  el:elemsOf l=(pe m x.2.1).map (x.1++·)
  lt:x.2.1.length<m
  le:m≤l.length+1
  z:x.1.length+x.2.1.length≤l.length
theorem CeI.next {l:List UInt8}{m:Nat}{x:List El×List UInt8×Option D×Option D×Option D×Option D}(h:CeI l (m+1) x) {e:El}{s:List UInt8}{z} (hs:s.length<x.2.1.length) (hp:pe (m+1) x.2.1=(pe m s).map (e::·)):CeI l m (x.1++[e],s,z) :=
  ⟨by rw [h.el,hp,Option.map_map];exact congrArg (Option.map · _) (funext fun y=>(List.append_assoc x.1 [e] y).symm),Nat.lt_of_lt_of_le hs (Nat.le_of_lt_succ h.lt),Nat.le_of_succ_le h.le,by
    rw [List.length_append,Nat.add_assoc,Nat.add_comm [e].length];exact Nat.le_trans (Nat.add_le_add_left hs _) h.z⟩
theorem c_coll_elements (pk:Parts K) {n:Nat}(cx:Cx A (n+8)) (g:Gr K B) {l:List UInt8}{r:Int}(hz:l.length≤1048576) (h:∀es,elemsOf l=some es→Q (.lst (es.map elD)) own) (hX:elemsOf l=none→∀x o,Thr 64 (.int r) [] true x o→X x o):CallC w B A (.ref 444) [.bytes l,.int r] own Q X:=by
  refine pk.fnX (elemsOf l=none) 64 (.int r) pk.f_coll_elements pk.b_coll_elements hX cx g fun f W hX=>?_
  repeat' wtm_at "V"
  intro c
  refine (c_coll_trimmed (n:=n+5) pk W.cx W.gr hz ?_).call
  refine VWhile.st (CeI l) (fun x=>[some (.bytes l),some (.ref c),some (.bytes x.2.1),x.2.2.1,x.2.2.2.1,x.2.2.2.2.1,x.2.2.2.2.2]) (fun x=>(c,.list (x.1.map elD))::(f.cs 0,.cell (some (.int r)))::own) (l.length+1) ([],trim l,none,none,none,none) ⟨by unfold elemsOf;exact Option.map_id'.symm,Nat.lt_succ_of_le (stripL_le ..),Nat.le_refl _,by rw [List.length_nil,Nat.zero_add];exact stripL_le ..⟩ rfl rfl (W.thr hX) fun m x hI=>?_
  refine ⟨fun hc=>?_,fun hc=>?_⟩
  · exact ⟨_,own,.list .here (.done (by wtm_at "Ms")),h x.1 (by rw [hI.el,bne_f hc,pe_nil (Nat.lt_of_le_of_lt (Nat.zero_le _) hI.lt)];exact congrArg some (List.append_nil _))⟩
  have hr:x.2.1≠[]:=bne_t hc
  have hle:x.2.1.length≤l.length:=Nat.le_trans (Nat.le_add_left ..) hI.z
  have Z:=peZ hz hle
  obtain ⟨m,rfl⟩:=Nat.exists_eq_succ_of_ne_zero (Nat.ne_of_gt (Nat.lt_of_le_of_lt (Nat.zero_le _) hI.lt))
  have bad:pe (m+1) x.2.1=none→elemsOf l=none:=fun q=>by rw [hI.el,q];rfl
  have hz':=Z.z
  repeat' wtm_at "V"
  · exact VRaise.row (n:=n+4) pk W hX (bad (pe_a hr (.inl (by assumption))))
  · exact VRaise.row (n:=n+4) pk W hX (bad (pe_a hr (.inr (by assumption))))
  have hA:(sliceB x.2.1 none (some 1) != [91])=false:=by assumption
  have hB:decide (findL 93 x.2.1<0)=false:=by assumption
  have hf:0≤findL 93 x.2.1:=Int.not_lt.mp (of_decide_eq_false hB)
  repeat' wtm_at "V"
  refine Call.bSplit Z.n fun a=>?_
  have hcount:(splitB 46 (sliceB x.2.1 (some 2) (some (findL 93 x.2.1)))).length≤16777216:=Z.c
  repeat' wtm_at "V"
  · exact VRaise.row (n:=n+4) pk W hX (bad (pe_b hr hA hB (.inl (by assumption))))
  refine VCmp.notInI W.cx ?_
  repeat' wtm_at "V"
  · exact VRaise.row (n:=n+4) pk W hX (bad (pe_b hr hA hB (.inr (by assumption))))
  have hS:(!decide (peS x.2.1=[46]∨peS x.2.1=[42]))=false:=by assumption
  have hN:(!decide (((peW x.2.1).length:Int)=3∨((peW x.2.1).length:Int)=4))=false:=by assumption
  have hpe:=pe_c (m:=m) hr hA hB hS hN
  refine VComp.hex (n:=n+1) W pk hX Z.c Z.w .here (.there (.there .here)) (fun hn=>bad (by rw [hpe,hn])) fun ns acc hns=>?_
  obtain ⟨n1,n2,n3,nr,en⟩:=four_of (by rw [mapM_len hns];exact pe_n hN)
  subst en
  repeat' wtm_at "V"
  refine Call.append (l:=x.1.map elD) (d:=elD (n1,n2,n3,peS x.2.1 == [42])) (.there (.there .here)) (leN (leMap (Nat.le_trans (Nat.le_add_right ..) (Nat.le_trans hI.z hz))) rfl) ?_
  repeat' wtm_at "V"
  refine (c_coll_trimmed (n:=n+5) pk W.cx W.gr Z.t ?_).call
  exact ⟨_,m,.cons _ (.cons _ (.refl _)),Nat.lt_succ_self m,(x.1++[(n1,n2,n3,peS x.2.1 == [42])],trim (sliceB x.2.1 (some (findL 93 x.2.1+1)) none),_,_,_,_),hI.next (pe_lt hr hB) (by rw [hpe,hns]),rfl,by rw [List.map_append];rfl⟩
noncomputable def endsOf (es:List (List UInt8)):Option (Int×Int):=match es with
  | [x]=>(codeHex x).bind fun a=>some (a,a)
  | [x,y]=>(codeHex x).bind fun a=>(codeHex y).bind fun b=>if b<a then none else some (a,b)
  | _=>none
noncomputable def on2 {α β:Type}(l:List α) (k:α→α→Option β):Option β:=match l with
  | [a,b]=>k a b
  | _=>none
theorem on2_no {α β:Type}{l:List α}{k:α→α→Option β}(h:((l.length:Int) != 2)=true):on2 l k=none:=by
  rcases l with _ | ⟨x,_ | ⟨y,_ | ⟨z,l⟩⟩⟩
  · rfl
  · rfl
  · exact absurd rfl (bne_t h)
  · rfl
theorem two_of {α:Type}{l:List α}(h:((l.length:Int) != 2)=false):∃x y,l=[x,y]:=by
  have h:=(Int.ofNat_inj (n:=2)).mp (bne_f h)
  rcases l with _ | ⟨x,_ | ⟨y,_ | ⟨z,l⟩⟩⟩
  · cases h
  · cases h
  · exact ⟨x,y,rfl⟩
  · cases h
theorem ends_no {es:List (List UInt8)}(h:(!decide ((es.length:Int)=1∨(es.length:Int)=2))=true):endsOf es=none:=by
  rcases es with _ | ⟨x,_ | ⟨y,_ | ⟨z,l⟩⟩⟩
  · rfl
  · exact absurd (.inl rfl) (of_decide_eq_false (notB_t h))
  · exact absurd (.inr rfl) (of_decide_eq_false (notB_t h))
  · rfl
inductive EndsR (es:List (List UInt8)):Prop
  | mk (e0 e1:List UInt8) (h0:(es.map D.bytes)[0]?=some (.bytes e0)) (h1:(es.map D.bytes)[(-1+((es.map D.bytes).length:Int)).toNat]?=some (.bytes e1)) (hp:-((es.map D.bytes).length:Int)≤-1) (he:endsOf es=(codeHex e0).bind fun a=>(codeHex e1).bind fun b=>if b<a then none else some (a,b)) (m0:e0∈es) (m1:e1∈es)
theorem ends_of {es:List (List UInt8)}(h:(!decide ((es.length:Int)=1∨(es.length:Int)=2))=false):EndsR es:=by
  have h:=(of_decide_eq_true (notB_f h)).imp (Int.ofNat_inj (n:=1)).mp (Int.ofNat_inj (n:=2)).mp
  rcases es with _ | ⟨u,_ | ⟨u2,_ | ⟨z,es⟩⟩⟩
  · rcases h with h | h <;> cases h
  · refine ⟨u,u,rfl,rfl,(by decide:(-1:Int)≤-1),?_,.head _,.head _⟩
    show (codeHex u).bind _=_
    cases codeHex u with
    | none=>rfl
    | some a=>exact (if_neg (Int.lt_irrefl a)).symm
  · exact ⟨u,u2,rfl,rfl,(by decide:(-2:Int)≤-1),rfl,.head _,.tail _ (.head _)⟩
  · rcases h with h | h <;> cases h
noncomputable def baseOf (l:List UInt8):Option (Int×Int×Int):=on2 (splitB 59 l) fun a b=>(endsOf (ddL (trim a))).bind fun e=>(numHex (trim b)).bind fun n=>some (e.1,e.2,n)
theorem c_coll_base_row (pk:Parts K) {n:Nat}(cx:Cx A (n+8)) (g:Gr K B) {l:List UInt8}{r:Int}(hz:l.length≤1048576) (h:∀a b m,baseOf l=some (a,b,m)→Q (.tup [.int a,.int b,.int m]) own) (hX:baseOf l=none→∀x o,Thr 64 (.int r) [] true x o→X x o):CallC w B A (.ref 451) [.bytes l,.int r] own Q X:=by
  refine pk.fnX (baseOf l=none) 64 (.int r) pk.f_coll_base_row pk.b_coll_base_row hX cx g fun f W hX=>?_
  have bad:∀{x:Addr}{o o':Own},baseOf l=none→Thr 64 (.int r) [] true x o→f.X x (o++o'):=fun hn t=>by
    rw [hX];exact ⟨hn,(t.weak).sub fun p hp=>List.mem_append_left _ hp⟩
  repeat' wtm_at "V"
  refine Call.bSplit hz fun a=>?_
  have hcount:=splitB_count 59 l
  have hlen:=splitB_len 59 l
  have hb:baseOf l=on2 (splitB 59 l) _:=rfl
  generalize splitB 59 l=fs at hcount hlen hb ⊢
  have hl0:fs.length≤16777216:=leN (Nat.le_trans hcount (Nat.succ_le_succ hz)) rfl
  repeat' wtm_at "V"
  · exact VRaise.row (n:=n+4) pk W hX (hb.trans (on2_no (by assumption)))
  obtain ⟨x,y,rfl⟩:=two_of (by assumption)
  have hx:=Nat.le_trans (hlen x (.head _)) hz
  have hy:=Nat.le_trans (hlen y (.tail _ (.head _))) hz
  clear hl0 hcount hlen
  repeat' wtm_at "V"
  refine (c_coll_trimmed (n:=n+5) pk W.cx W.gr hx ?_).call
  have htx:=Nat.le_trans (stripL_le x [32,9,13]) hx
  repeat' wtm_at "V"
  refine Call.bSplitDD htx fun b=>?_
  obtain ⟨hc,hel⟩:=ddZ htx
  have hb:baseOf l=(endsOf (ddL (trim x))).bind fun e=>(numHex (trim y)).bind fun n=>some (e.1,e.2,n):=hb
  replace hb:baseOf l=(endsOf (ddL (stripL x [32,9,13]))).bind fun e=>(numHex (trim y)).bind fun n=>some (e.1,e.2,n):=hb
  generalize ddL (stripL x [32,9,13])=es at hc hel hb ⊢
  have hl1:es.length≤16777216:=leN hc rfl
  repeat' wtm_at "V"
  refine VCmp.notInI W.cx ?_
  repeat' wtm_at "V"
  · exact VRaise.row (n:=n+4) pk W hX (by rw [hb,ends_no (by assumption)];rfl)
  obtain ⟨e0,e1,h0,h1,hp,hends,m0,m1⟩:=ends_of (by assumption)
  refine VSub.list .here (by decide) (by decide) h0 ?_
  repeat' wtm_at "V"
  refine (c_coll_code (n:=n+2) pk W.cx W.gr (leN (hel e0 m0) rfl) (fun v0 hv0=>?_) fun hv x o t=>bad (by rw [hb,hends,hv];rfl) t).call
  refine VSub.listNeg .here (by decide) hp (by decide) h1 ?_
  repeat' wtm_at "V"
  refine (c_coll_code (n:=n+2) pk W.cx W.gr (leN (hel e1 m1) rfl) (fun v1 hv1=>?_) fun hv x o t=>bad (by rw [hb,hends,hv0,hv];rfl) t).call
  have hends:endsOf es=if v1<v0 then none else some (v0,v1):=by rw [hends,hv0,hv1];rfl
  repeat' wtm_at "V"
  · exact VRaise.row (n:=n+4) pk W hX (by rw [hb,hends,if_pos (of_decide_eq_true (by assumption))];rfl)
  rw [if_neg (of_decide_eq_false (by assumption))] at hends
  have hb:baseOf l=(numHex (trim y)).bind fun n=>some (v0,v1,n):=by rw [hb,hends];rfl
  refine (c_coll_trimmed (n:=n+5) pk W.cx W.gr hy ?_).call
  repeat' wtm_at "V"
  refine (c_coll_number (n:=n+3) pk W.cx W.gr (l:=trim y) (leN (Nat.le_trans (stripL_le y _) hy) rfl) (fun v hv=>?_) fun hv x o t=>bad (by rw [hb,hv];rfl) t).call
  exact VEnd.sub (by wtm_at "Ms") (h _ _ _ (by rw [hb,hv];rfl))
theorem Call.lenTup {l:List D}(hz:l.length≤16777216) (h:Q (.int l.length) own):Call w B A (.builtin "len") [.tup l] own Q X:=Call.of1 fun s N a I rv=>by
  obtain ⟨c,n,items,rfl,_,e,r⟩:=rv
  have hz':items.length=l.length:=r.length
  refine len_tuple (items:=items.toArray) ⟨_,e,rfl,n,rfl⟩ (by simp [hz'];lia) ?_
  have e1:((items.toArray.size:Nat):Int)=l.length:=by simp [hz']
  rw [e1]
  exact Post.tok I (R:=RV) (b:=.int _) ⟨_,rfl⟩ h
theorem Call.still {fv:Value}{ds:List D}(h:Call w B A fv ds own (fun d o=>∃d' o',Yield d o d' o'∧Q d' o') X):Call w B A fv ds own Q X:=fun P vs hl=>Wp.still (h P vs hl)
theorem Wp.stillPin {α β:Type}{R:Rl β α}{P:Pins}{own':Own}{d d':D}{u:Value}{t:Sem α}{QR:β→Own→Prop}(y:Yield d own d' own') (h:Wp w B A R ((d',u)::P) own' t QR X) (hp:∀p∈P,p∈P):Wp w B A R ((d,u)::P) own t QR X:=fun s N I hpin=>by
  obtain ⟨N',I',S',r'⟩:=y.sound I (hpin _ (.head _))
  exact h.use I' (fun p hm=>by
    rcases List.mem_cons.mp hm with rfl | hm
    · exact r'
    · exact S'.relD I (hpin p (.tail _ hm))) S'
theorem Yield.perm {d d':D}{o o' m:Own}(y:Yield d o d' o') (hp:m.Perm o):∃m',Yield d m d' m'∧m'.Perm o':=by
  induction y generalizing m with
  | done s =>
    obtain ⟨l,h1,h2⟩:=List.exists_perm_sublist s hp.symm
    exact ⟨l,.done h2,h1⟩
  | list a _ ih =>
    obtain ⟨x,q,e1⟩:=List.append_of_mem (hp.mem_iff.mpr (a.perm.mem_iff.mpr (.head _)))
    subst e1
    obtain ⟨m',y',p'⟩:=ih ((List.perm_cons _).mp (List.perm_middle.symm.trans (hp.trans a.perm)))
    exact ⟨m',.list (Del.mid x) y',p'⟩
  | inst a b _ ih =>
    obtain ⟨x,q,e1⟩:=List.append_of_mem (hp.mem_iff.mpr (a.perm.mem_iff.mpr (.head _)))
    subst e1
    have p1:=(List.perm_cons _).mp (List.perm_middle.symm.trans (hp.trans a.perm))
    obtain ⟨x2,q2,e2⟩:=List.append_of_mem (p1.mem_iff.mpr (b.perm.mem_iff.mpr (.head _)))
    have p2:=p1
    rw [e2] at p2
    obtain ⟨m',y',p'⟩:=ih ((List.perm_cons _).mp (List.perm_middle.symm.trans (p2.trans b.perm)))
    refine ⟨m',.inst (Del.mid x) ?_ y',p'⟩
    rw [e2]
    exact Del.mid x2
theorem Yield.cons {d d':D}{o o':Own}{x:Addr×O}(h:Yield d o d' o'):Yield d (x::o) d' (x::o'):=by
  induction h with
  | done s=>exact .done (s.cons_cons x)
  | list a _ ih=>exact .list (.there a) ih
  | inst a b _ ih=>exact .inst (.there a) (.there b) ih
theorem VSetItem.still {x y d d':D}{Q:Own→Prop}(h:Yield d own d' own') (k:VSetItem f v x y d' own' Q):VSetItem f v x y d own Q:=fun P va vb u o hp=>by
  obtain ⟨m',y',p'⟩:=(h.cons (x:=f.ns v)).perm hp
  have key:=k P va vb u m' p'
  refine (Wp.stillPin (u:=u) (P:=(y,vb)::(x,va)::P) y' (key.pins fun p hm=>?_) fun q_ h=>h).pins fun p hm=>?_
  · rcases List.mem_cons.mp hm with rfl | hm
    · exact .tail _ (.head _)
    · rcases List.mem_cons.mp hm with rfl | hm
      · exact .tail _ (.tail _ (.head _))
      · rcases List.mem_cons.mp hm with rfl | hm
        · exact .head _
        · exact .tail _ (.tail _ (.tail _ hm))
  · rcases List.mem_cons.mp hm with rfl | hm
    · exact .tail _ (.tail _ (.head _))
    · rcases List.mem_cons.mp hm with rfl | hm
      · exact .head _
      · rcases List.mem_cons.mp hm with rfl | hm
        · exact .tail _ (.head _)
        · exact .tail _ (.tail _ (.tail _ hm))
noncomputable abbrev Base:=Int×Int×Int×Option Int
noncomputable abbrev baseD (b:Base):D:=.inst 265 ["first", "last", "base", "origin"] [.int b.1,.int b.2.1,.int b.2.2.1,optD b.2.2.2]
theorem c_CollBase_init (pk:Parts K) {n:Nat}(cx:Cx A (n+1)) (g:Gr K B) {x d:Addr}{a b c e:D}(h:Q .none ((x,.inst 265 d)::(d,.attrs ["first", "last", "base", "origin"] [a,b,c,e])::own)) {ds dd:List D}{dv:List Value}(hb:BindOk K 255 ["self", "first", "last", "base", "origin"] ds.length dv) (hdv:∀h N,RelDs h N dd dv) (hd:[.ref x,a,b,c,e]=ds++dd) :
    CallC w B A (.ref 255) ds ((x,.inst 265 d)::(d,.attrs [] [])::own) Q X:=by
  refine enter (pr:=False) (C:=0) (d:=.none) pk.f_CollBase_init__ hb hdv (fun q_ q_=>pk.gt) pk.ex hd False.elim cx g fun f W q_=>?_
  refine VSetAttr.obj W.gr.K pk.a_first .here (.there .here) .new (by decide) (by decide) ?_
  refine VSetAttr.obj W.gr.K pk.a_last .here (.there .here) (.there .new) (by decide) (by decide) ?_
  refine VSetAttr.obj W.gr.K pk.a_base .here (.there .here) (.there (.there .new)) (by decide) (by decide) ?_
  refine VSetAttr.obj W.gr.K pk.a_origin .here (.there .here) (.there (.there (.there .new))) (by decide) (by decide) ?_
  exact VEnd.same h
theorem c_CollBase (pk:Parts K) {n:Nat}(cx:Cx A (n+3)) (g:Gr K B) {a b c:Int}{e:Option Int}(h:Q (baseD (a,b,c,e)) own):Call w B A (.ref 265) [.int a,.int b,.int c,optD e] own Q X :=
  Call.still (Call.make (X₁:=fun q_ q_=>False) g.K pk.c_CollBase fun A' x d hf hcx=>c_CollBase_init (n:=n) pk (hcx _ cx) g ⟨rfl,_,own,.inst .here .here (.done (.refl _)),h⟩ (dd:=[]) (dv:=[]) pk.b_CollBase_init__0 (fun q_ q_=>rfl) rfl)
theorem c_CollBase0 (pk:Parts K) {n:Nat}(cx:Cx A (n+3)) (g:Gr K B) {a b c:Int}(h:Q (baseD (a,b,c,none)) own):Call w B A (.ref 265) [.int a,.int b,.int c] own Q X :=
  Call.still (Call.make (X₁:=fun q_ q_=>False) g.K pk.c_CollBase fun A' x d hf hcx=>c_CollBase_init (n:=n) pk (hcx _ cx) g ⟨rfl,_,own,.inst .here .here (.done (.refl _)),h⟩ (dd:=[.none]) (dv:=[.none]) pk.b_CollBase_init__1 (fun q_ q_=>RelDs.one rfl) rfl)
theorem plainI {i:Int}:Plain (.int i):=fun q_ h=>by cases h
theorem plainR {a:Addr}:Plain (.ref a):=fun q_ h=>by cases h
theorem plainO {o:Option Int}:Plain (optD o):=fun q_ h=>by cases o <;> cases h
theorem plainT {l:List D}:Plain (.tup l):=fun q_ h=>by cases h
noncomputable def implEls (b:Base) (code:Int):List El:=match b.2.2.2 with
  | none=>[(b.2.2.1+code.fdiv (2 ^ (15:Int).toNat),32,2,false),(Builtin.bitOr (Builtin.bitAnd code 32767) 32768,0,0,false)]
  | some o=>[(b.2.2.1,32,2,false),(Builtin.bitOr (code-o) 32768,0,0,false)]
theorem c_elements_of (pk:Parts K) {n:Nat}(cx:Cx A (n+1)) (g:Gr K B) {b:Base}{code:Int}(h:Q (.lst ((implEls b code).map elD)) own):CallC w B A (.ref 262) [baseD b,.int code] own Q X:=by
  refine pk.fn pk.f_CollBase_elements_of pk.b_CollBase_elements_of cx g fun f W=>?_
  have hK:=W.gr.K
  refine VAttr.inst hK pk.a_origin (.there (.there (.there .here))) plainO ?_
  rcases b with ⟨a,b,c,_ | o⟩
  · repeat' wtm_at "V"
    refine VAttr.inst hK pk.a_base (.there (.there .here)) plainI ?_
    repeat' wtm_at "V"
    intro r
    exact ⟨_,own,.list .here (.done (.refl _)),h⟩
  · repeat' wtm_at "V"
    refine VAttr.inst hK pk.a_base (.there (.there .here)) plainI ?_
    refine VAttr.inst hK pk.a_origin (.there (.there (.there .here))) plainI ?_
    repeat' wtm_at "V"
    intro r
    exact ⟨_,own,.list .here (.done (.refl _)),h⟩
theorem VComp.sel {α:Type}{ln:List Str}{t:TT}{elt:PT}{ifs:BT}{dx:D}{F:Addr→Own→Prop}{C:Own→Prop}(l:List α) (src dst:α→D) (p:α→Bool) (it:Iterable f.w f.B f.A dx (l.map src) C) (hC:∀o',(∀p∈own,p∈o')→C o') (hz:l.length≤16777216)
    (hb:∀a∈l,∀L env f',f'=f.comp env L ln (CompX False 0 .none ln L)→∀(G:Own→Prop) (T:D→Own→Prop),(p a=false→G own)→(p a=true→T (dst a) own) →
      t f' (nones ln) own (src a) fun v o=>ifs f' v o fun ok o=>(ok=false→G o)∧(ok=true→elt f' v o fun y o=>∃y' o',Yield y o y' o'∧T y' o'))
    (h:∀acc,F acc ((acc,.list ((l.filter p).map dst))::own)):VComp f ln t ifs elt v own dx F:=by
  refine VComp.mk (l.map src) C (fun k rs o=>rs=((l.take k).filter p).map dst∧rs.length≤k∧o=own) False 0 .none it (fun k rs o e o' hs=>hC o' (e.2.2▸hs)) ⟨rfl,Nat.le_refl _,rfl⟩ (by simpa using hz) (fun k rs o e=>e.2.1) False.elim ?_ ?_
  · rintro k e rs o L env hk ⟨rfl,hl,rfl⟩ f' hf
    rw [List.getElem?_map] at hk
    cases hq:l[k]? with
    | none=>rw [hq] at hk;cases hk
    | some a =>
      rw [hq] at hk
      cases hk
      have ht:l.take (k+1)=l.take k++[a]:=by rw [List.take_add_one,hq];rfl
      refine hb a (List.mem_of_getElem? hq) L env f' hf _ _ (fun hp=>⟨?_,Nat.le_succ_of_le hl,rfl⟩) fun hp=>⟨?_,?_,rfl⟩
      · rw [ht,List.filter_append];simp [hp]
      · rw [ht,List.filter_append];simp [hp]
      · rw [List.length_append];exact Nat.add_le_add_right hl 1
  · rintro acc rs o ⟨rfl,_,rfl⟩
    rw [List.length_map,List.take_length]
    exact h acc
theorem VComp.map {α:Type}{ln:List Str}{t:TT}{elt:PT}{ifs:BT}{dx:D}{F:Addr→Own→Prop}{C:Own→Prop}(l:List α) (src dst:α→D) (it:Iterable f.w f.B f.A dx (l.map src) C) (hC:∀o',(∀p∈own,p∈o')→C o') (hz:l.length≤16777216)
    (hb:∀a∈l,∀L env f',f'=f.comp env L ln (CompX False 0 .none ln L)→∀(G:Own→Prop) (T:D→Own→Prop),T (dst a) own →
      t f' (nones ln) own (src a) fun v o=>ifs f' v o fun ok o=>(ok=false→G o)∧(ok=true→elt f' v o fun y o=>∃y' o',Yield y o y' o'∧T y' o'))
    (h:∀acc,F acc ((acc,.list (l.map dst))::own)):VComp f ln t ifs elt v own dx F :=
  VComp.sel l src dst (fun q_=>true) it hC hz (fun a ha L env f' hf G T q_ hT=>hb a ha L env f' hf G T (hT rfl)) fun acc=>by
    rw [List.filter_eq_self.mpr fun q_ q_=>rfl];exact h acc
theorem c_coll_scaled (pk:Parts K) {n:Nat}(cx:Cx A (n+1)) (g:Gr K B) {es:List El}(hz:es.length≤16777216) (h:Q (.lst (es.map elD)) own):CallC w B A (.ref 274) [.lst (es.map elD),.tup [.int 1,.int 1,.int 1]] own Q X:=by
  refine pk.fn pk.f_coll_scaled pk.b_coll_scaled cx g fun f W=>?_
  repeat' wtm_at "V"
  refine VComp.map es elD elD (Iterable.lst W.cx.handled) (fun q_ q_=>trivial) hz (fun a ha L env f' hf G T hT=>?_) fun acc=>?_
  · subst hf
    repeat' wtm_at "V"
    refine VEnd.same ?_
    rw [Int.mul_one,Int.mul_one,Int.mul_one]
    exact hT
  · exact ⟨_,own,.list .here (.done (by wtm_at "Ms")),h⟩
noncomputable abbrev rowD (r:Int×Int×Int):D:=.tup [.int r.1,.int r.2.1,.int r.2.2]
theorem mapAt {α:Type}{l:List α}{g:α→D}{k:Nat}{d:D}(h:(l.map g)[k]?=some d):∃a,l[k]?=some a∧d=g a∧l.take (k+1)=l.take k++[a]:=by
  rw [List.getElem?_map] at h
  cases hq:l[k]? with
  | none=>rw [hq] at h;cases h
  | some a=>rw [hq] at h;cases h;exact ⟨a,rfl,rfl,by rw [List.take_add_one,hq];rfl⟩
theorem ideoLoop {n:Nat}(W:Wk K f (n+1)) {c:Addr}{y z:Option D}{Q:Fl→Vals→Own→Prop}(rs:List (Int×Int×Int)) (ps:List (Int×Int)) (hz:rs.length+ps.length≤1000) (h:∀y z,Q .next [some (.ref c),y,z] ((c,.list ((rs++ps.map fun (p:Int×Int)=>(p.1,p.2,(64384:Int))).map rowD))::own)) :
    VFor f (tgtT [.loc 1,.loc 2]) (seqS (exprS (methP (loc 0) "append" (consL (tupP (consL (loc 1) (consL (loc 2) (consL (kD (.int 64384)) nilL)))) nilL))) nilS) [some (.ref c),y,z] ((c,.list (rs.map rowD))::own) (.tup (ps.map fun p=>.tup [.int p.1,.int p.2])) Q:=by
  refine VFor.stQ ps (fun p=>.tup [.int p.1,.int p.2]) (fun k (x:List (Int×Int)×Option D×Option D)=>x.1=ps.take k) (fun x=>[some (.ref c),x.2.1,x.2.2]) (fun x=>(c,.list ((rs++x.1.map fun (p:Int×Int)=>(p.1,p.2,(64384:Int))).map rowD))::own) ([],y,z) (Iterable.tup W.cx.handled) (fun q_ q_ q_ q_ q_=>trivial) rfl rfl (by rw [List.map_nil,List.append_nil]) (fun k a x ha hI T hT=>?_) fun x hI=>?_
  · refine mAppend .here ?_
    refine Call.append (d:=rowD (a.1,a.2,64384)) .here (by
      rw [List.length_map,List.length_append,List.length_map,hI]
      exact Nat.le_trans (Nat.add_le_add_left (List.length_take_le' ..) _) (Nat.le_trans hz (by decide))) ?_
    exact hT ⟨_,.refl _,(x.1++[a],_,_),by rw [takeS ha,hI],rfl,by rw [List.map_append (l₁:=x.1),← List.append_assoc,List.map_append (l₁:=rs++_)];rfl⟩
  · rw [List.take_length] at hI
    rw [hI]
    exact h _ _
noncomputable def ideo1:List (Int×Int×Int):=[(19968,40959,64320),(64014,64015,64320),(64017,64017,64320)]++[(64019,64020,64320),(64031,64031,64320),(64033,64033,64320)]++[(64035,64036,64320),(64039,64041,64320)]
noncomputable def ideoRows:List (Int×Int×Int):=((ideo1++[((13312:Int),(19903:Int)),(131072,173791),(173824,177977),(177984,178205)].map fun p=>(p.1,p.2,(64384:Int)))++[((178208:Int),(183969:Int)),(183984,191456),(191472,192093)].map fun p=>(p.1,p.2,64384))++[((196608:Int),(201546:Int)),(201552,205743)].map fun p=>(p.1,p.2,64384)
theorem c_coll_ideographs (pk:Parts K) {n:Nat}(cx:Cx A (n+2)) (g:Gr K B) (h:Q (.lst (ideoRows.map rowD)) own):CallC w B A (.ref 240) [] own Q X:=by
  refine pk.fn pk.f_coll_ideographs pk.b_coll_ideographs cx g fun f W=>?_
  intro c1 c2
  refine VOp.list (.there .here) .here (by decide) fun c3=>?_
  intro c4
  refine VOp.list (.there .here) .here (by decide) fun c5=>?_
  refine .inl (ideoLoop (n:=n) W ideo1 [((13312:Int),(19903:Int)),(131072,173791),(173824,177977),(177984,178205)] (by decide) fun y z=>?_)
  refine .inl (ideoLoop (n:=n) W _ [((178208:Int),(183969:Int)),(183984,191456),(191472,192093)] (by decide) fun y z=>?_)
  refine .inl (ideoLoop (n:=n) W _ [((196608:Int),(201546:Int)),(201552,205743)] (by decide) fun y z=>?_)
  exact ⟨_,own,.list .here (.done (by wtm_at "Ms")),h⟩
noncomputable abbrev ElemO (e de t lg b:Addr) (tab:List (List Int×List El)) (lng:List (Int×Int)) (bs:List Base) (rest:Own):Own :=
  (e,.inst 397 de)::(de,.attrs ["table", "longest", "factors", "bases"] [.ref t,.ref lg,.tup [.int 1,.int 1,.int 1],.ref b])::(t,.td (tab.map fun p=>(p.1,.lst (p.2.map elD))))::(lg,.idict (lng.map fun p=>(p.1,.int p.2)))::(b,.list (bs.map baseD))::rest
theorem Meth.of (hK:K.In B) {C d x g:Addr}{name:Str}{ns:List Str}{l:List D}(ok:MethOk K C name g) (h1:Has own x (.inst C d)) (h2:Has own d (.attrs ns l)) (hn:name∉ns):Meth w B A (.ref x) own name (.ref g):=Meth.inst hK ok h1 h2 hn
theorem FnOk.keep (hK:K.In B) {g:List (Str×D)}{ex:List Addr}{a:Addr}{ir:FnIR}(F:FnOk K g ex a ir):KeepOk w B (.ref a):=KeepOk.K hK (by
  obtain ⟨fd,_,_,_,hf,_⟩:=F
  obtain ⟨⟨c1,c2,c3,c4⟩,ho,hd⟩:=fdOf_some hf
  cases hd
  unfold keepIn
  dsimp only
  rw [ho])
theorem c_put_implicit (pk:Parts K) {n:Nat}(cx:Cx A (n+4)) (g:Gr K B) {e de b:Addr}{o1 o2 o3:D}{bs:List Base}{a1 a2 a3:Int}{a4:Option Int}{ds dd:List D}{dv:List Value}(hb:BindOk K 358 ["self", "first", "last", "base", "origin"] ds.length dv) (hdv:∀h N,RelDs h N dd dv) (hd:[.ref e,.int a1,.int a2,.int a3,optD a4]=ds++dd)
    (h1:Has own e (.inst 397 de)) (h2:Has own de (.attrs ["table", "longest", "factors", "bases"] [o1,o2,o3,.ref b])) (h3:Put own b (.list (bs.map baseD)) (.list ((bs++[(a1,a2,a3,a4)]).map baseD)) own') (hz:bs.length≤1000) (h:Q .none own'):CallC w B A (.ref 358) ds own Q X:=by
  refine enter (pr:=False) (C:=0) (d:=.none) pk.f_Elements_put_implicit hb hdv (fun q_ q_=>pk.gt) pk.ex hd False.elim cx g fun f W q_=>?_
  have hK:=W.gr.K
  refine VAttr.obj hK pk.a_bases h1 h2 (.there (.there (.there .here))) plainR ?_
  refine mAppend (Has.of_mem h3.has) ?_
  refine c_CollBase pk W.cx W.gr ?_
  refine Call.append (l:=bs.map baseD) (d:=baseD (a1,a2,a3,a4)) (by rw [List.map_append] at h3;exact h3) (by simp;lia) ?_
  exact VEnd.same h
theorem Call.permPost {fv:Value}{ds:List D}(h:Call w B A fv ds own (fun d o=>∃o',o.Perm o'∧Q d o') X):Call w B A fv ds own Q X:=fun P vs hl=>Wp.permPost (h P vs hl)
theorem CallC.permPost {fv:Value}{ds:List D}(h:CallC w B A fv ds own (fun d o=>∃o',o.Perm o'∧Q d o') X):Call w B A fv ds own Q X:=Call.permPost h.call
noncomputable def bases0:List Base:=(0,1114111,64448,none)::ideoRows.map fun r=>(r.1,r.2.1,r.2.2,none)
noncomputable def putK {κ α:Type}[DecidableEq κ] (l:List (κ×α)) (k:κ) (d:α):List (κ×α):=if l.any (fun p=>p.1=k) then l.map (fun p=>if p.1=k then (p.1,d) else p) else l++[(k,d)]
theorem storeD_map {κ α:Type}[DecidableEq κ] (g:α→D) (k:κ) (d:α) (l:List (κ×α)):storeD (l.map fun p=>(p.1,g p.2)) k (g d)=(putK l k d).map fun p=>(p.1,g p.2):=by
  unfold storeD putK
  rw [List.any_map]
  have e:((fun (p:κ×D)=>decide (p.1=k)) ∘ fun (p:κ×α)=>(p.1,g p.2))=fun p=>decide (p.1=k):=rfl
  rw [e]
  split
  · rw [List.map_map,List.map_map]
    refine List.map_congr_left fun p q_=>?_
    show (if p.1=k then (p.1,g d) else (p.1,g p.2))=(((if p.1=k then (p.1,d) else p):κ×α).1,g ((if p.1=k then (p.1,d) else p):κ×α).2)
    by_cases e:p.1=k <;> simp [e]
  · simp
theorem c_Elements (pk:Parts K) {n:Nat}(cx:Cx A (n+8)) (g:Gr K B) (h:∀e de t lg b,Q (.ref e) (ElemO e de t lg b [] [] bases0 own)):Call w B A (.ref 397) [] own Q X:=by
  refine Call.permPost (Call.make (X₁:=fun q_ q_=>False) g.K pk.c_Elements fun A' x d hf hcx=>?_)
  refine pk.fnD (n:=n+5) (d:=.bool true) (u:=.bool true) pk.f_Elements_init__ pk.b_Elements_init__1 (fun q_ q_=>rfl) (hcx _ cx) g rfl fun f W=>?_
  have hK:=W.gr.K
  refine .inl fun t=>?_
  refine VSetAttr.obj hK pk.a_table (.there .here) (.there (.there .here)) .new (by decide) (by decide) ?_
  refine .inr fun lg=>?_
  refine VSetAttr.obj hK pk.a_longest (.there (.there .here)) (.there (.there (.there .here))) (.there .new) (by decide) (by decide) ?_
  refine VSetAttr.obj hK pk.a_factors (.there (.there .here)) (.there (.there (.there .here))) (.there (.there .new)) (by decide) (by decide) ?_
  refine c_CollBase0 (n:=n+2) pk W.cx W.gr ?_
  intro b
  refine VSetAttr.obj hK pk.a_bases (.there (.there (.there .here))) (.there (.there (.there (.there .here)))) (.there (.there (.there .new))) (by decide) (by decide) ?_
  refine ⟨true,rfl,fun q_=>?_,fun h=>by cases h⟩
  refine (c_coll_ideographs (n:=n+3) pk W.cx W.gr ?_).call
  refine .inl (VFor.stQ ideoRows rowD (fun k (y:List (Int×Int×Int)×Option D×Option D×Option D)=>y.1=ideoRows.take k) (fun y=>[some (.ref x),some (.bool true),y.2.1,y.2.2.1,y.2.2.2]) (fun y=>(b,.list (((0,1114111,64448,none)::y.1.map fun r=>(r.1,r.2.1,r.2.2,none)).map baseD))::(lg,.idict [])::(t,.td [])::(x,.inst 397 d)::(d,.attrs ["table", "longest", "factors", "bases"] [.ref t,.ref lg,.tup [.int 1,.int 1,.int 1],.ref b])::own) ([],_,_,_)
    (Iterable.lst W.cx.handled) (fun q_ q_ q_ q_ q_=>trivial) rfl rfl rfl (fun k a y ha hI T hT=>?_) fun y hI=>?_)
  · refine methI (Meth.of hK pk.m_put_implicit (.there (.there (.there .here))) (.there (.there (.there (.there .here)))) (by decide)) (pk.f_Elements_put_implicit.keep hK) ?_
    refine (c_put_implicit (n:=n+1) (ds:=[.ref x,.int a.1,.int a.2.1,.int a.2.2]) (dd:=[.none]) (dv:=[.none]) (a4:=none) pk W.cx W.gr pk.b_Elements_put_implicit1 (fun q_ q_=>RelDs.one rfl) rfl (.there (.there (.there .here))) (.there (.there (.there (.there .here)))) .here (by
      rw [List.length_cons,List.length_map,hI]
      exact Nat.le_trans (Nat.succ_le_succ (List.length_take_le' ..)) (Nat.le_of_ble_eq_true rfl)) ?_).call
    exact hT ⟨_,.refl _,(y.1++[a],_,_,_),by rw [takeS ha,hI],rfl,by rw [List.map_append];rfl⟩
  · rw [List.take_length] at hI
    rw [hI]
    exact VEnd.same ⟨rfl,_,Pick.perm (fp:=[_,_,_,_,_]) (r:=own) (by wtm_at "Mp"),h x d t lg b⟩
theorem seqIdx0 {n:Nat}:seqIndex? 0 (n+1)=some 0:=by
  unfold seqIndex?
  simp
theorem lngAt (lng:List (Int×Int)) (k:Int):∃r:Int,(k,D.int r)∈(lng.map fun p=>(p.1,D.int p.2))∨(k∉(lng.map fun p=>(p.1,D.int p.2)).map (·.1)∧D.int r=.int 0):=by
  by_cases h:k∈(lng.map fun p=>(p.1,D.int p.2)).map (·.1)
  · obtain ⟨p,hp,rfl⟩:=List.mem_map.mp h
    obtain ⟨q,hq,rfl⟩:=List.mem_map.mp hp
    exact ⟨q.2,.inl (List.mem_map.mpr ⟨q,hq,rfl⟩)⟩
  · exact ⟨0,.inr ⟨h,rfl⟩⟩
theorem putK_len {κ α:Type}[DecidableEq κ] (l:List (κ×α)) (k:κ) (d:α):(putK l k d).length≤l.length+1:=by
  unfold putK
  split <;> simp
theorem c_put (pk:Parts K) {n:Nat}(cx:Cx A (n+3)) (g:Gr K B) {e de t lg b:Addr}{tab:List (List Int×List El)}{lng:List (Int×Int)}{bs:List Base}{cs:List Int}{es:List El}(h0:cs≠[]) (hc:cs.length≤1000000) (he:es.length≤1000000) (ht:tab.length≤900) (hl:lng.length≤900)
    (h:∀lng',List.length lng'≤lng.length+1→Q .none (ElemO e de t lg b (putK tab cs es) lng' bs own)):CallC w B A (.ref 317) [.ref e,.lst (cs.map .int),.lst (es.map elD)] (ElemO e de t lg b tab lng bs own) Q X:=by
  refine pk.fn pk.f_Elements_put pk.b_Elements_put cx g fun f W=>?_
  have hK:=W.gr.K
  refine Call.tupleOfLst (leN (leMap hc) rfl) ?_
  refine Call.listOfLst (leN (leMap he) rfl) fun c=>?_
  refine VAttr.obj hK pk.a_table (.there .here) (.there (.there .here)) .here plainR ?_
  refine VSetItem.still (.list .here (.done (.refl _))) (VSetItem.td W.cx.line1 (.there (.there .here)) (leN (leMap ht) rfl) ?_)
  rw [storeD_map fun es:List El=>D.lst (es.map elD)]
  refine VAttr.obj hK pk.a_longest .here (.there .here) (.there .here) plainR ?_
  obtain ⟨c0,cr,rfl⟩:=List.exists_cons_of_ne_nil h0
  have hz:((c0::cr).map D.int).length≤16777216:=leN (leMap hc) rfl
  refine methB (Meth.idict (.there (.there (.there .here))) F.slot_dict_get F.type_dict_get) ?_
  refine VSub.tup (by decide) (by decide) (j:=0) seqIdx0 rfl ?_
  obtain ⟨r,hr⟩:=lngAt lng c0
  refine Call.idGet2 W.gr.lim (.there (.there (.there .here))) hr ?_
  refine Call.lenTup hz ?_
  repeat' wtm_at "V"
  · refine Call.lenTup hz ?_
    refine VAttr.obj hK pk.a_longest .here (.there .here) (.there .here) plainR ?_
    refine VSub.tup (by decide) (by decide) (j:=0) seqIdx0 rfl ?_
    refine VSetItem.id (.there (.there (.there .here))) (leN (leMap hl) rfl) ?_
    rw [storeD_map fun i:Int=>D.int i]
    exact VEnd.same (h _ (putK_len ..))
  · exact VEnd.same (h lng (Nat.le_succ _))
theorem c_get (pk:Parts K) {n:Nat}(cx:Cx A (n+3)) (g:Gr K B) {e de t lg b:Addr}{tab:List (List Int×List El)}{lng:List (Int×Int)}{bs:List Base}{cs:List Int}{r:D}{bt:Bool}(hr:(cs,r)∈(tab.map fun p=>(p.1,D.lst (p.2.map elD)))∨(cs∉tab.map (·.1)∧r=.none))
    (h:Q r (ElemO e de t lg b tab lng bs own)):CallC w B A (.ref 331) [.ref e,.tup (cs.map .int)] (ElemO e de t lg b tab lng bs own) Q X:=by
  refine pk.fn pk.f_Elements_get pk.b_Elements_get cx g fun f W=>?_
  have hK:=W.gr.K
  refine VAttr.obj hK pk.a_table .here (.there .here) .here plainR ?_
  refine methB (Meth.td (.there (.there .here)) F.slot_dict_get F.type_dict_get) ?_
  refine Call.tupleSame ?_
  exact Call.tdGet W.cx.line1 W.gr.lim (.there (.there .here)) (hr.imp id fun q=>⟨by rw [List.map_map];exact q.1,q.2⟩) (VEnd.same h)
theorem c_rows (pk:Parts K) {n:Nat}(cx:Cx A (n+3)) (g:Gr K B) {e de t lg b:Addr}{tab:List (List Int×List El)}{lng:List (Int×Int)}{bs:List Base}(hne:∀p∈tab,p.1≠[]) (h64:tab.length<64)
    (h:∀(r:List (List Int×List El)),(r.map (·.1)).Perm (tab.map (·.1))→(r.map (·.1)).Pairwise (fun x y=>ltL x y=true)→(∀p∈r,p∈tab)→Q (.lst (r.map fun p=>.tup [.tup (p.1.map .int),.lst (p.2.map elD)])) (ElemO e de t lg b tab lng bs own)) :
    CallC w B A (.ref 336) [.ref e] (ElemO e de t lg b tab lng bs own) Q X:=by
  refine pk.fn pk.f_Elements_rows pk.b_Elements_rows cx g fun f W=>?_
  have hK:=W.gr.K
  repeat' wtm_at "V"
  refine VAttr.obj hK pk.a_table (.there .here) (.there (.there .here)) .here plainR ?_
  have e1:(tab.map fun p=>(p.1,D.lst (p.2.map elD))).map (·.1)=tab.map (·.1):=by rw [List.map_map];rfl
  refine Call.sortedTd W.gr.lim W.cx.handled (.there (.there (.there .here))) (fun k hk=>?_) (by simpa using h64) fun r a hp hs=>?_
  · rw [e1] at hk
    obtain ⟨p,hp,rfl⟩:=List.mem_map.mp hk
    exact hne p hp
  rw [e1] at hp

  have pair:∀k:List Int,∃es:List El,k∈tab.map (·.1)→(k,es)∈tab:=fun k=>by
    by_cases hk:k∈tab.map (·.1)
    · obtain ⟨p,hm,rfl⟩:=List.mem_map.mp hk
      exact ⟨p.2,fun q_=>hm⟩
    · exact ⟨[],fun q=>absurd q hk⟩
  refine VComp.map r (fun k=>.tup (k.map .int)) (fun k=>.tup [.tup (k.map .int),.lst ((pair k).choose.map elD)]) (Iterable.list W.cx.handled (ax:=a)) (fun o' hs=>Has.of_mem (hs _ (.head _))) (by have:=hp.length_eq;simp at this;lia) (fun k hk L env f' hf G T hT=>?_) fun acc=>?_
  · subst hf
    have hm:=(pair k).choose_spec (hp.subset hk)
    repeat' wtm_at "V"
    refine VAttr.obj (by exact hK) pk.a_table (.there (.there .here)) (.there (.there (.there .here))) .here plainR ?_
    refine VSub.td W.cx.line1 (.there (.there (.there (.there .here)))) (List.mem_map.mpr ⟨_,hm,rfl⟩) ?_
    exact VEnd.same hT
  · refine ⟨_,ElemO e de t lg b tab lng bs own,.list .here (.done (by wtm_at "Ms")),?_⟩
    have:=h (r.map fun k=>(k,(pair k).choose)) (by rw [List.map_map];show (r.map id).Perm _;rw [List.map_id];exact hp) (by rw [List.map_map];show (r.map id).Pairwise _;rw [List.map_id];exact hs) fun p hm=>by
      obtain ⟨k,hk,rfl⟩:=List.mem_map.mp hm
      exact (pair k).choose_spec (hp.subset hk)
    rw [List.map_map] at this
    exact this
structure ImpI (bs:List Base) (j m x:Nat):Prop where
  e:x=m
  lo:j≤m
  hi:m<bs.length
inductive ImpT (bs:List Base) (j m:Nat):Prop
  | mk (k:Nat) (lt:k<m) (hI:ImpI bs j k k) (e:(m:Int)-1=k)
theorem impT {bs:List Base}{bb b':Base}{code:Int}{j m:Nat}(hI:ImpI bs j m m) (hj:bs[j]?=some bb) (hm:bs[m]?=some b') (hin:bb.1≤code∧code≤bb.2.1) (hn:¬ (b'.1≤code∧code≤b'.2.1)):ImpT bs j m:=by
  obtain ⟨_,lo,hi⟩:=hI
  rcases Nat.lt_or_eq_of_le lo with q | rfl
  · cases m with
    | zero=>exact absurd q (Nat.not_lt_zero _)
    | succ k=>exact ⟨k,Nat.lt_succ_self k,⟨rfl,Nat.le_of_lt_succ q,Nat.lt_of_succ_lt hi⟩,Int.add_sub_cancel (k:Int) 1⟩
  · cases hj.symm.trans hm
    exact absurd hin hn
theorem impE {bs:List Base}{bb b':Base}{code:Int}{j m:Nat}(lo:j≤m) (hj:bs[j]?=some bb) (hm:bs[m]?=some b') (hout:∀i b',j<i→bs[i]?=some b'→¬ (b'.1≤code∧code≤b'.2.1)) (hn:b'.1≤code∧code≤b'.2.1):b'=bb:=by
  rcases Nat.lt_or_eq_of_le lo with q | rfl
  · exact absurd hn (hout m b' q hm)
  · cases hj.symm.trans hm
    rfl
theorem implEls_len (bb:Base) (code:Int):(implEls bb code).length≤16777216:=by
  unfold implEls
  split <;> exact Nat.le_of_ble_eq_true rfl
theorem c_implicit_of (pk:Parts K) {n:Nat}(cx:Cx A (n+4)) (g:Gr K B) {e de t lg b:Addr}{tab:List (List Int×List El)}{lng:List (Int×Int)}{bs:List Base}{code:Int}{j:Nat}{bb:Base}(hz:bs.length≤1000) (hj:bs[j]?=some bb) (hin:bb.1≤code∧code≤bb.2.1) (hout:∀i b',j<i→bs[i]?=some b'→¬ (b'.1≤code∧code≤b'.2.1))
    (h:Q (.lst ((implEls bb code).map elD)) (ElemO e de t lg b tab lng bs own)):CallC w B A (.ref 365) [.ref e,.int code] (ElemO e de t lg b tab lng bs own) Q X:=by
  refine pk.fn pk.f_Elements_implicit_of pk.b_Elements_implicit_of cx g fun f W=>?_
  have hK:=W.gr.K
  have hlt:j<bs.length:=(List.getElem?_eq_some_iff.mp hj).1
  refine VAttr.obj hK pk.a_bases .here (.there .here) (.there (.there (.there .here))) plainR ?_
  refine Call.lenList (.there (.there (.there (.there .here)))) (by simp;omega) ?_
  rw [List.length_map]
  refine .mk (fun m=>NextV (ImpI bs j m) (fun (x:Nat)=>[some (.ref e),some (.int code),some (.int x)]) fun q_=>ElemO e de t lg b tab lng bs own) (bs.length-1) (fun q_ q_=>False) ⟨bs.length-1,⟨rfl,Nat.le_sub_one_of_lt hlt,Nat.sub_lt (Nat.lt_of_le_of_lt (Nat.zero_le _) hlt) (by decide)⟩,by rw [show ((bs.length-1:Nat):Int)=(bs.length:Int)-1 by omega],rfl⟩ Notes.no fun m v o hI=>?_
  obtain ⟨x,hI,rfl,rfl⟩:=hI
  cases hI.e
  obtain ⟨b',hm⟩:∃b',bs[m]?=some b':=⟨_,List.getElem?_eq_getElem hI.hi⟩
  have hb:(bs.map baseD)[(m:Int).toNat]?=some (baseD b'):=by rw [List.getElem?_map,Int.toNat_natCast,hm];rfl
  have at_:∀{f':Fm}{v:Vals}{Q:D→Own→Prop},f'.B=f.B→Q (baseD b') (ElemO e de t lg b tab lng bs own)→VAttr f' v "bases" (.ref e) (ElemO e de t lg b tab lng bs own) fun a o=>VSub f' v a (.int m) o Q:=fun hf q =>
    VAttr.obj (hf▸hK) pk.a_bases .here (.there .here) (.there (.there (.there .here))) plainR (VSub.list (.there (.there (.there (.there .here)))) (Int.natCast_nonneg _) (by have:=hI.hi;omega) hb q)
  refine at_ rfl (VAttr.inst (by exact hK) pk.a_first .here plainI ?_)
  refine ⟨fun hc=>?_,fun hc=>?_⟩
  · refine ⟨fun h=>Bool.noConfusion h,fun q_=>?_⟩
    obtain ⟨k,q1,q2,q3⟩:=impT hI hj hm hin fun q=>of_decide_eq_false hc q.1
    exact ⟨_,k,.refl _,q1,k,q2,by rw [q3],rfl⟩
  · refine at_ rfl (VAttr.inst (by exact hK) pk.a_last (.there .here) plainI ?_)
    refine ⟨fun hc'=>?_,fun hc'=>?_⟩
    · have hbb:=impE hI.lo hj hm hout ⟨of_decide_eq_true hc,of_decide_eq_true (notB_f hc')⟩
      refine at_ rfl ?_
      rw [hbb]
      refine methI (Meth.frozen hK pk.m_elements_of (by decide)) (pk.f_CollBase_elements_of.keep hK) ?_
      refine (c_elements_of (n:=n+2) pk W.cx W.gr ?_).call
      refine VAttr.obj hK pk.a_factors .here (.there .here) (.there (.there .here)) plainT ?_
      refine (c_coll_scaled (n:=n+2) pk W.cx W.gr (implEls_len bb code) ?_).call
      exact VEnd.same h
    · obtain ⟨k,q1,q2,q3⟩:=impT hI hj hm hin fun q=>of_decide_eq_false (notB_t hc') q.2
      exact ⟨_,k,.refl _,q1,k,q2,by rw [q3],rfl⟩
theorem mem_stripL {l c:List UInt8}{x:UInt8}(h:x∈stripL l c):x∈l:=by
  unfold stripL at h
  rw [List.mem_reverse] at h
  have h:=(List.dropWhile_sublist _).subset h
  rw [List.mem_reverse] at h
  exact (List.dropWhile_sublist _).subset h
theorem mem_splitB {c x:UInt8}{l:List UInt8}{p:List UInt8}(hp:p∈splitB c l) (hx:x∈p):x∈l:=by
  obtain ⟨h,t,e,m⟩:=splitB_ind (c:=c) (M:=fun l h t=>∀p∈h::t,∀x∈p,x∈l) (fun p hp x hx=>by cases List.mem_singleton.mp hp;exact hx)
    (fun r h t m p hp x hx=>(List.mem_cons.mp hp).elim (fun e=>by subst e;cases hx) fun hp=>.tail _ (m p hp x hx))
    (fun y r h t q_ m p hp x hx=>(List.mem_cons.mp hp).elim (fun e=>by subst e;exact (List.mem_cons.mp hx).elim (fun e=>e▸.head _) fun hx=>.tail _ (m h (.head _) x hx)) fun hp=>.tail _ (m p (.tail _ hp) x hx)) l
  exact m p (e▸hp) x hx
inductive Eff where
  | no | put (cs:List Int) (es:List El) | rng (a b m:Int) | ver (x:List UInt8)
noncomputable abbrev wVersion:List UInt8:=[64,118,101,114,115,105,111,110]
noncomputable abbrev wWeights:List UInt8:=[64,105,109,112,108,105,99,105,116,119,101,105,103,104,116,115]
noncomputable def ordOf (vn:Bool) (l:List UInt8):Option Eff :=
  if (partL 32 l).1=wVersion∧vn=true∧trim (partL 32 l).2.2≠[] then some (.ver (trim (partL 32 l).2.2)) else
  if (partL 32 l).1=wWeights then (baseOf (partL 32 l).2.2).map fun t=>.rng t.1 t.2.1 t.2.2 else none
noncomputable def keyRow (l:List UInt8):Option Eff:=match splitB 59 l with
  | [a,b]=>(elemsOf b).bind fun es=>if es=[] then none else (codesOf (trim a)).map fun cs=>.put cs es
  | _=>none
noncomputable def effOf (vn:Bool) (l:List UInt8):Option Eff:=if l=[] then some .no else if sliceB l none (some 1)=[64] then ordOf vn l else keyRow l
structure St where
  tab:List (List Int×List El)
  rgs:List (Int×Int×Int)
  ver:Option (List UInt8)
noncomputable def St.put (s:St):Eff→St
  | .no=>s
  | .put cs es=>{s with tab:=putK s.tab cs es }
  | .rng a b m=>{s with rgs:=s.rgs++[(a,b,m)] }
  | .ver x=>{s with ver:=some x }
@[reducible] noncomputable def optB:Option (List UInt8)→D
  | none=>.none
  | some l=>.bytes l
noncomputable abbrev ReadO (r dr rg e de t lg b:Addr) (s:St) (lng:List (Int×Int)) (bs:List Base) (rest:Own):Own :=
  (r,.inst 489 dr)::(dr,.attrs ["elements", "version", "ranges"] [.ref e,optB s.ver,.ref rg])::(rg,.list (s.rgs.map rowD))::ElemO e de t lg b s.tab lng bs rest
theorem partL_le (c:UInt8) (l:List UInt8):(partL c l).1.length≤l.length∧(partL c l).2.2.length≤l.length:=by
  unfold partL
  split
  · simp;lia
  · simp
theorem c_put_order (pk:Parts K) {n:Nat}(cx:Cx A (n+9)) (g:Gr K B) {r dr rg e de t lg b:Addr}{s:St}{lng:List (Int×Int)}{bs:List Base}{l:List UInt8}{row:Int}(hz:l.length≤1048576) (h9:(9:UInt8)∉l) (hr:s.rgs.length≤900)
    (h:∀ef,ordOf s.ver.isNone l=some ef→Q .none (ReadO r dr rg e de t lg b (s.put ef) lng bs own)) (hX:ordOf s.ver.isNone l=none→∀x o,Thr 64 (.int row) [] true x o→X x o):CallC w B A (.ref 479) [.ref r,.bytes l,.int row] (ReadO r dr rg e de t lg b s lng bs own) Q X:=by
  refine pk.fnX (ordOf s.ver.isNone l=none) 64 (.int row) pk.f_CollReader_put_order pk.b_CollReader_put_order hX cx g fun f W hX=>?_
  have hK:=W.gr.K
  obtain ⟨tab,rgs,ver⟩:=s
  repeat' wtm_at "V"
  refine Call.bReplace0 h9 ?_
  repeat' wtm_at "V"
  refine Call.bPart hz ?_
  have hp:=partL_le 32 l
  have hd:ordOf ver.isNone l=if (partL 32 l).1=wVersion∧ver.isNone=true∧trim (partL 32 l).2.2≠[] then some (.ver (trim (partL 32 l).2.2)) else if (partL 32 l).1=wWeights then (baseOf (partL 32 l).2.2).map fun t=>.rng t.1 t.2.1 t.2.2 else none:=rfl
  generalize partL 32 l=q at hp hd ⊢
  obtain ⟨wd,bl,rest⟩:=q
  have hp2:rest.length≤l.length:=hp.2

  have other:¬ (wd=wVersion∧ver.isNone=true∧trim rest≠[])→seqS (ifS (cmp .Eq (loc 3) (kD (.bytes wWeights))) (seqS (exprS (methP (attrP (loc 0) "ranges") "append" (consL (callP (.ref 451) (consL (loc 5) (consL (loc 2) nilL))) nilL))) nilS) (seqS (raiseS 64 (callP (.ref 64) (consL (loc 2) nilL))) nilS)) nilS
      f [some (.ref r),some (.bytes l),some (.int row),some (.bytes wd),some (.bytes bl),some (.bytes rest)] (ReadO r dr rg e de t lg b ⟨tab,rgs,ver⟩ lng bs own) (thenS (fun v o=>nilS f v o (VEnd Q)) (VEnd Q)):=fun hn=>by
    rw [if_neg hn] at hd
    refine ⟨fun hc=>?_,fun hc=>?_⟩
    · rw [if_pos (by simpa using hc)] at hd
      refine VAttr.obj hK pk.a_ranges .here (.there .here) (.there (.there .here)) plainR ?_
      refine mAppend (.there (.there .here)) ?_
      refine (c_coll_base_row (n:=n) pk W.cx W.gr (l:=rest) (by lia) (fun a b' m hb=>?_) fun hb x o t=>by rw [hX];exact ⟨by rw [hd,hb];rfl,(t.weak).sub fun p hp=>List.mem_append_left _ hp⟩).call
      refine Call.append (d:=rowD (a,b',m)) (.there (.there .here)) (by simp at hr ⊢;lia) ?_
      refine VEnd.same ?_
      have:=h (.rng a b' m) (by rw [hd,hb];rfl)
      dsimp only [St.put,ReadO] at this
      rw [List.map_append] at this
      exact this
    · rw [if_neg (by simpa using hc)] at hd
      exact VRaise.row (n:=n+5) pk W hX hd
  refine ⟨fun hc=>⟨fun h=>Bool.noConfusion h,fun q_=>other fun q=>by simp [q.1] at hc⟩,fun hc=>?_⟩
  have hw:wd=wVersion:=by simpa using hc
  refine VAttr.obj hK pk.a_version .here (.there .here) (.there .here) (by cases ver <;> exact fun q_ h=>by cases h) ?_
  cases ver with
  | some x=>exact ⟨fun q_=>⟨fun h=>Bool.noConfusion h,fun q_=>other fun q=>by simp at q⟩,fun h=>by cases h⟩
  | none =>
    refine ⟨fun h=>Bool.noConfusion h,fun q_=>?_⟩
    refine (c_coll_trimmed (n:=n+6) pk W.cx W.gr (l:=rest) (by lia) ?_).call
    refine ⟨fun hc=>⟨fun h=>Bool.noConfusion h,fun q_=>other fun q=>by simp_all⟩,fun hc=>⟨fun q_=>?_,fun h=>by cases h⟩⟩
    have hv:wd=wVersion∧(none:Option (List UInt8)).isNone=true∧trim rest≠[]:=⟨hw,rfl,by simpa using hc⟩
    rw [if_pos hv] at hd
    refine (c_coll_trimmed (n:=n+6) pk W.cx W.gr (l:=rest) (by lia) ?_).call
    refine VSetAttr.obj hK pk.a_version .here (.there .here) (.there .here) (by decide) (by decide) ?_
    exact VEnd.same (h (.ver (trim rest)) hd)
theorem k_put (pk:Parts K) {n:Nat}(cx:Cx A (n+3)) (g:Gr K B) {rest:Own}{e de t lg b:Addr}{tab:List (List Int×List El)}{lng:List (Int×Int)}{bs:List Base}{cs:List Int}{es:List El}(hp:Pick own (ElemO e de t lg b tab lng bs []) rest) (h0:cs≠[]) (hc:cs.length≤1000000) (he:es.length≤1000000) (ht:tab.length≤900) (hl:lng.length≤900)
    (h:∀lng',List.length lng'≤lng.length+1→Q .none (ElemO e de t lg b (putK tab cs es) lng' bs rest)):Call w B A (.ref 317) [.ref e,.lst (cs.map .int),.lst (es.map elD)] own Q X :=
  (c_put pk cx g (own:=[]) (Q:=fun d o=>d=.none∧∃lng',List.length lng'≤lng.length+1∧o=ElemO e de t lg b (putK tab cs es) lng' bs []) (X:=fun q_ q_=>False) h0 hc he ht hl fun lng' q=>⟨rfl,lng',q,rfl⟩).call.pick hp
    (fun d o hq=>by obtain ⟨rfl,lng',q,rfl⟩:=hq;exact h lng' q) fun q_ q_ x=>x.elim
theorem pyEls:∀es:List El,∃ps,pyDs (es.map elD)=some ps∧PyData.canLayAll0 ps=true
  | []=>⟨[],rfl,rfl⟩
  | e::es=>by
    obtain ⟨ps,h1,h2⟩:=pyEls es
    refine ⟨.tuple [.int e.1,.int e.2.1,.int e.2.2.1,.bool e.2.2.2]::ps,?_,?_⟩
    · show (pyDs (es.map elD)).map (PyData.tuple [.int e.1,.int e.2.1,.int e.2.2.1,.bool e.2.2.2]::·)=_
      rw [h1];rfl
    · exact h2
theorem codesOf_ne {l:List UInt8}{cs:List Int}(h:codesOf l=some cs):cs≠[]∧cs.length≤l.length+1:=by
  unfold codesOf at h
  cases hm:((splitB 32 l).filter (· != [])).mapM codeHex with
  | none=>rw [hm] at h;cases h
  | some r =>
    rw [hm] at h
    cases r with
    | nil=>cases h
    | cons x r =>
      cases h
      refine ⟨List.cons_ne_nil _ _,?_⟩
      rw [mapM_len hm]
      exact Nat.le_trans (List.length_filter_le ..) (splitB_count 32 l)
theorem pe_len:∀{n:Nat}{l:List UInt8}{es:List El},pe n l=some es→es.length≤n
  | 0,_,_,h=>by cases h
  | n+1,l,es,h=>by
    unfold pe at h
    split at h
    · cases h;exact Nat.zero_le _
    · split at h
      · cases h
      · split at h
        · cases h
        · split at h
          · cases hq:pe n (trim (sliceB l (some (findL 93 l+1)) none)) with
            | none=>rw [hq] at h;cases h
            | some zs=>rw [hq] at h;cases h;exact Nat.succ_le_succ (pe_len hq)
          · cases h
theorem c_put_row (pk:Parts K) {n:Nat}(cx:Cx A (n+11)) (g:Gr K B) {r dr rg e de t lg b:Addr}{s:St}{lng:List (Int×Int)}{bs:List Base}{l:List UInt8}{row:Int}(hz:l.length≤500000) (h9:(9:UInt8)∉l) (hr:s.rgs.length≤900) (ht:s.tab.length≤900) (hl:lng.length≤900)
    (h:∀ef lng',effOf s.ver.isNone l=some ef→List.length lng'≤lng.length+1→Q .none (ReadO r dr rg e de t lg b (s.put ef) lng' bs own)) (hX:effOf s.ver.isNone l=none→∀x o,Thr 64 (.int row) [] true x o→X x o):Call w B A (.ref 472) [.ref r,.bytes l,.int row] (ReadO r dr rg e de t lg b s lng bs own) Q X:=by
  refine CallC.permPost (pk.fnX (effOf s.ver.isNone l=none) 64 (.int row) pk.f_CollReader_put_row pk.b_CollReader_put_row hX cx g fun f W hX=>?_)
  have hK:=W.gr.K
  have up:∀{p:Prop}{x:Addr}{o o':Own},(p→effOf s.ver.isNone l=none)→p→Thr 64 (.int row) [] true x o→f.X x (o++o'):=fun q hp t=>by rw [hX];exact ⟨q hp,(t.weak).sub fun p hp=>List.mem_append_left _ hp⟩
  refine ⟨fun hc=>?_,fun hc=>?_⟩
  · have e:l=[]:=by simpa using hc
    exact VEnd.same ⟨_,.refl _,h .no lng (by rw [e];rfl) (Nat.le_succ _)⟩
  have hne:l≠[]:=by simpa using hc
  refine VSlice.hi (by decide) (by omega) ?_
  refine ⟨fun hc=>?_,fun hc=>?_⟩
  · have he:effOf s.ver.isNone l=ordOf s.ver.isNone l:=by unfold effOf;rw [if_neg hne,if_pos (by simpa using hc)]
    refine methI (Meth.of hK pk.m_put_order .here (.there .here) (by decide)) (pk.f_CollReader_put_order.keep hK) ?_
    refine (c_put_order (n:=n+1) pk W.cx W.gr (by omega) h9 hr (fun ef hef=>?_) fun hn x o t=>up (fun q_=>by rw [he,hn]) True.intro t).call
    exact VEnd.same ⟨_,.refl _,h ef lng (by rw [he,hef]) (Nat.le_succ _)⟩
  have hk:effOf s.ver.isNone l=keyRow l:=by unfold effOf;rw [if_neg hne,if_neg (by simpa using hc)]
  repeat' wtm_at "V"
  refine Call.bSplit (by omega) fun a=>?_
  have hcount:=splitB_count 59 l
  have hlen:=splitB_len 59 l
  have hmem:∀p∈splitB 59 l,(9:UInt8)∉p:=fun p hp hx=>h9 (mem_splitB hp hx)
  have hkr:keyRow l=match splitB 59 l with
    | [a,b]=>(elemsOf b).bind fun es=>if es=[] then none else (codesOf (trim a)).map fun cs=>.put cs es
    | _=>none:=rfl
  generalize splitB 59 l=fs at hcount hlen hmem hkr ⊢
  have hl0:((fs.map D.bytes).length)≤16777216:=by simp;omega
  repeat' wtm_at "V"
  · refine VRaise.row (n:=n+7) pk W hX ?_
    rw [hk,hkr]
    rcases fs with _ | ⟨x,_ | ⟨y,_ | ⟨z,fs⟩⟩⟩ <;> first | rfl | simp_all
  obtain ⟨x,y,rfl⟩:∃x y,fs=[x,y]:=by
    rcases fs with _ | ⟨x,_ | ⟨y,_ | ⟨z,fs⟩⟩⟩
    · simp_all
    · simp_all
    · exact ⟨x,y,rfl⟩
    · simp_all;omega
  have hkr:effOf s.ver.isNone l=(elemsOf y).bind fun es=>if es=[] then none else (codesOf (trim x)).map fun cs=>.put cs es:=hk.trans hkr
  have hx:=hlen x (.head _)
  have hy:=hlen y (.tail _ (.head _))
  repeat' wtm_at "V"
  refine (c_coll_elements (n:=n+2) pk W.cx W.gr (by omega) (fun es hes=>?_) fun hn x o t=>up (fun q_=>by rw [hkr,hn];rfl) True.intro t).call
  intro c0
  obtain ⟨ps,p1,p2⟩:=pyEls es
  refine VCmp.eqLst W.cx p1 p2 .here ?_
  have hesl:=pe_len hes
  repeat' wtm_at "V"
  · refine VRaise.row (n:=n+7) pk W hX ?_
    rw [hkr,hes]
    exact if_pos (by simpa using (by assumption:(List.map elD es).isEmpty=true))
  have hes0:es≠[]:=by simpa using (by assumption:(List.map elD es).isEmpty=false)
  refine VAttr.obj hK pk.a_elements (.there (.there .here)) (.there (.there (.there .here))) .here plainR ?_
  refine methI (Meth.of hK pk.m_put (.there (.there (.there (.there (.there .here))))) (.there (.there (.there (.there (.there (.there .here)))))) (by decide)) (pk.f_Elements_put.keep hK) ?_
  repeat' wtm_at "V"
  refine (c_coll_trimmed (n:=n+8) pk W.cx W.gr (by omega) ?_).call
  have htx:(trim x).length≤x.length:=stripL_le ..
  refine (c_coll_codes (n:=n+3) pk W.cx W.gr (l:=trim x) (by omega) (fun q=>hmem x (.head _) (mem_stripL q)) (fun cs hcs=>?_) fun hn x o t=>up (fun q_=>by rw [hkr,hes];show (if es=[] then none else _)=_;rw [if_neg hes0,hn];rfl) True.intro t).call
  obtain ⟨q1,q2⟩:=codesOf_ne hcs
  refine k_put (n:=n+7) pk W.cx W.gr (by wtm_at "Mp") q1 (by omega) (by omega) ht hl fun lng' hlng=>?_
  have he:effOf s.ver.isNone l=some (.put cs es):=by rw [hkr,hes];show (if es=[] then none else _)=_;rw [if_neg hes0,hcs];rfl
  refine VEnd.sub (own':=ElemO e de t lg b (putK s.tab cs es) lng' bs ((r,.inst 489 dr)::(dr,.attrs ["elements", "version", "ranges"] [.ref e,optB s.ver,.ref rg])::(rg,.list (s.rgs.map rowD))::own)) (by wtm_at "Ms") ⟨_,?_,h _ lng' he hlng⟩
  exact Pick.perm (fp:=[_,_,_,_,_,_,_,_]) (r:=own) (by wtm_at "Mp")
theorem c_CollReader (pk:Parts K) {n:Nat}(cx:Cx A (n+11)) (g:Gr K B) (h:∀r dr rg e de t lg b,Q (.ref r) (ReadO r dr rg e de t lg b ⟨[],[],none⟩ [] bases0 own)):Call w B A (.ref 489) [] own Q X:=by
  refine Call.permPost (Call.make (X₁:=fun q_ q_=>False) g.K pk.c_CollReader fun A' x d hf hcx=>?_)
  refine pk.fn (n:=n+8) pk.f_CollReader_init__ pk.b_CollReader_init__ (hcx _ cx) g fun f W=>?_
  have hK:=W.gr.K
  refine c_Elements (n:=n) pk W.cx W.gr fun e de t lg b=>?_
  refine VSetAttr.obj hK pk.a_elements (.there (.there (.there (.there (.there .here))))) (.there (.there (.there (.there (.there (.there .here)))))) .new (by decide) (by decide) ?_
  refine VSetAttr.obj hK pk.a_version (.there (.there (.there (.there (.there .here))))) (.there (.there (.there (.there (.there (.there .here)))))) (.there .new) (by decide) (by decide) ?_
  intro rg
  refine VSetAttr.obj hK pk.a_ranges (.there (.there (.there (.there (.there (.there .here)))))) (.there (.there (.there (.there (.there (.there (.there .here))))))) (.there (.there .new)) (by decide) (by decide) ?_
  exact VEnd.same ⟨rfl,_,Pick.perm (fp:=[_,_,_,_,_,_,_,_]) (r:=own) (by wtm_at "Mp"),h x d rg e de t lg b⟩
noncomputable def IsMin (ns:List Int) (v:Int):Prop:=v∈ns∧∀a∈ns,v≤a
noncomputable def Org (rgs:List (Int×Int×Int)) (m v:Int):Prop:=IsMin ((rgs.filter fun r=>r.2.2 == m).map (·.1)) v
theorem IsMin.uniq {ns:List Int}{u v:Int}(a:IsMin ns u) (b:IsMin ns v):u=v:=by
  have:=a.2 v b.1
  have:=b.2 u a.1
  lia
structure OrgM (rgs:List (Int×Int×Int)) (om:List (Int×Int)):Prop where
  is:∀p∈om,Org rgs p.1 p.2
  all:∀r∈rgs,∃v,(r.2.2,v)∈om
  len:om.length≤rgs.length
theorem mem_putK {κ α:Type}[DecidableEq κ] {l:List (κ×α)}{k:κ}{d:α}{p:κ×α}(h:p∈putK l k d):p=(k,d)∨(p∈l∧p.1≠k):=by
  unfold putK at h
  split at h
  · obtain ⟨q,hq,rfl⟩:=List.mem_map.mp h
    by_cases e:q.1=k
    · rw [if_pos e];exact .inl (by rw [e])
    · rw [if_neg e];exact .inr ⟨hq,e⟩
  · rename_i hn
    rcases List.mem_append.mp h with h | h
    · refine .inr ⟨h,fun e=>hn ?_⟩
      exact List.any_eq_true.mpr ⟨p,h,by simpa using e⟩
    · exact .inl (List.mem_singleton.mp h)
theorem putK_has {κ α:Type}[DecidableEq κ] (l:List (κ×α)) (k:κ) (d:α):(k,d)∈putK l k d:=by
  unfold putK
  split
  · rename_i h
    obtain ⟨p,hp,e⟩:=List.any_eq_true.mp h
    exact List.mem_map.mpr ⟨p,hp,by rw [if_pos (by simpa using e)];simp at e;rw [← e]⟩
  · exact List.mem_append_right _ (.head _)
theorem putK_keeps {κ α:Type}[DecidableEq κ] {l:List (κ×α)}{k:κ}{d:α}{p:κ×α}(h:p∈l) (hn:p.1≠k):p∈putK l k d:=by
  unfold putK
  split
  · exact List.mem_map.mpr ⟨p,h,by rw [if_neg hn]⟩
  · exact List.mem_append_left _ h
theorem OrgM.next {rgs:List (Int×Int×Int)}{om:List (Int×Int)}(M:OrgM rgs om) (r:Int×Int×Int) {v:Int}(hv:(r.2.2,v)∈om∨(r.2.2∉om.map (·.1)∧v=r.1)):OrgM (rgs++[r]) (putK om r.2.2 (min r.1 v)):=by
  have fl:∀m:Int,((rgs++[r]).filter fun r=>r.2.2 == m).map (·.1)=(rgs.filter fun r=>r.2.2 == m).map (·.1)++if r.2.2=m then [r.1] else []:=fun m=>by
    rw [List.filter_append,List.map_append]
    by_cases e:r.2.2=m <;> simp [e]
  refine ⟨fun p hp=>?_,fun q hq=>?_,?_⟩
  · rcases mem_putK hp with rfl | ⟨hp,hn⟩
    · show IsMin _ (min r.1 v)
      rw [fl,if_pos rfl]
      rcases hv with hv | ⟨hn,rfl⟩
      · have i:=M.is _ hv
        refine ⟨?_,fun a ha=>?_⟩
        · rcases Int.le_total r.1 v with q | q
          · rw [Int.min_eq_left q];exact List.mem_append_right _ (.head _)
          · rw [Int.min_eq_right q];exact List.mem_append_left _ i.1
        · rcases List.mem_append.mp ha with ha | ha
          · have:=i.2 a ha;lia
          · rw [List.mem_singleton] at ha;lia
      · rw [Int.min_self]
        refine ⟨List.mem_append_right _ (.head _),fun a ha=>?_⟩
        rcases List.mem_append.mp ha with ha | ha
        · obtain ⟨q,hq,rfl⟩:=List.mem_map.mp ha
          obtain ⟨h1,h2⟩:=List.mem_filter.mp hq
          obtain ⟨u,hu⟩:=M.all q h1
          exact absurd (List.mem_map.mpr ⟨_,hu,by simpa using h2⟩) hn
        · rw [List.mem_singleton] at ha;lia
    · show IsMin _ p.2
      rw [fl,if_neg fun e=>hn e.symm,List.append_nil]
      exact M.is p hp
  · rcases List.mem_append.mp hq with hq | hq
    · obtain ⟨u,hu⟩:=M.all q hq
      by_cases e:q.2.2=r.2.2
      · exact ⟨min r.1 v,by rw [e];exact putK_has ..⟩
      · exact ⟨u,putK_keeps hu e⟩
    · rw [List.mem_singleton] at hq
      subst hq
      exact ⟨_,putK_has ..⟩
  · have:=putK_len om r.2.2 (min r.1 v)
    have:=M.len
    simp;lia
noncomputable abbrev iO (om:List (Int×Int)):List (Int×D):=om.map fun p=>(p.1,D.int p.2)
inductive GetOr (om:List (Int×Int)) (m d:Int):Prop
  | mk (v:Int) (hv:(m,D.int v)∈iO om∨(m∉(iO om).map (·.1)∧D.int v=.int d)) (hv':(m,v)∈om∨(m∉om.map (·.1)∧v=d))
theorem getOr (om:List (Int×Int)) (m d:Int):GetOr om m d:=by
  have e:(iO om).map (·.1)=om.map (·.1):=by rw [List.map_map];rfl
  by_cases hm:m∈om.map (·.1)
  · obtain ⟨p,hp,rfl⟩:=List.mem_map.mp hm
    exact ⟨p.2,.inl (List.mem_map.mpr ⟨p,hp,rfl⟩),.inl hp⟩
  · exact ⟨d,.inr ⟨by rw [e];exact hm,rfl⟩,.inr ⟨hm,rfl⟩⟩
theorem orgs {rgs:List (Int×Int×Int)}{om:List (Int×Int)}(M:OrgM rgs om):∃og:Int→Int,∀r∈rgs,(r.2.2,og r.2.2)∈om:=by
  have og:∀m:Int,∃v,(∃r∈rgs,r.2.2=m)→(m,v)∈om:=fun m=>by
    by_cases q:∃r∈rgs,r.2.2=m
    · obtain ⟨r,hr,rfl⟩:=q
      obtain ⟨v,hv⟩:=M.all r hr
      exact ⟨v,fun q_=>hv⟩
    · exact ⟨0,fun p=>absurd p q⟩
  exact ⟨fun m=>(og m).choose,fun r hr=>(og r.2.2).choose_spec ⟨r,hr,rfl⟩⟩
theorem orgM0 (om:List (Int×Int×Int)):OrgM (om.take 0) []:=⟨(fun p hp=>by cases hp),(fun p hp=>by cases hp),Nat.le_refl _⟩
theorem c_close (pk:Parts K) {n:Nat}(cx:Cx A (n+6)) (g:Gr K B) {r dr rg e de t lg b:Addr}{s:St}{lng:List (Int×Int)}(hr:s.rgs.length≤900)
    (h:∀og:Int→Int,(∀r∈s.rgs,Org s.rgs r.2.2 (og r.2.2))→Q (.ref e) (ElemO e de t lg b s.tab lng (bases0++s.rgs.map fun r=>(r.1,r.2.1,r.2.2,some (og r.2.2))) own)):CallC w B A (.ref 486) [.ref r] (ReadO r dr rg e de t lg b s lng bases0 own) Q X:=by
  refine pk.fn pk.f_CollReader_close pk.b_CollReader_close cx g fun f W=>?_
  have hK:=W.gr.K
  refine .inr fun o=>?_
  refine VAttr.obj hK pk.a_ranges (.there .here) (.there (.there .here)) (.there (.there .here)) plainR ?_
  refine .inl (VFor.stQ s.rgs rowD (fun k (x:List (Int×Int)×Option D×Option D×Option D)=>OrgM (s.rgs.take k) x.1) (fun x=>[some (.ref r),some (.ref o),x.2.1,x.2.2.1,x.2.2.2]) (fun x=>(o,.idict (iO x.1))::ReadO r dr rg e de t lg b s lng bases0 own) ([],_,_,_) (Iterable.list W.cx.handled (ax:=rg) (ds:=s.rgs.map rowD)) (fun q_ q_ q_ o' hs=>Has.of_mem (hs _ (.tail _ (.tail _ (.tail _ (.head _)))))) (orgM0 _) rfl rfl (fun k a x ha M T hT=>?_) fun x M=>?_)
  · obtain ⟨v,hv,hv'⟩:=getOr x.1 a.2.2 a.1
    refine methB (Meth.idict .here F.slot_dict_get F.type_dict_get) ?_
    refine Call.idGet2 W.gr.lim .here hv ?_
    refine Call.min2 W.cx.handled ?_
    refine VSetItem.id .here (by rw [List.length_map];exact Nat.le_trans M.len (Nat.le_trans (List.length_take_le' ..) (Nat.le_trans hr (by decide)))) ?_
    rw [storeD_map fun i:Int=>D.int i]
    exact hT ⟨_,.refl _,(_,_,_,_),takeS ha▸M.next a hv',rfl,rfl⟩
  rw [List.take_length] at M
  obtain ⟨og,hog⟩:=orgs M
  refine VAttr.obj hK pk.a_ranges (.there .here) (.there (.there .here)) (.there (.there .here)) plainR ?_
  refine .inl (VFor.stQ s.rgs rowD (fun k (x:List (Int×Int×Int)×Option D×Option D×Option D)=>x.1=s.rgs.take k) (fun x=>[some (.ref r),some (.ref o),x.2.1,x.2.2.1,x.2.2.2]) (fun y=>(o,.idict (iO x.1))::ReadO r dr rg e de t lg b s lng (bases0++y.1.map fun r=>(r.1,r.2.1,r.2.2,some (og r.2.2))) own) ([],_,_,_) (Iterable.list W.cx.handled (ax:=rg) (ds:=s.rgs.map rowD)) (fun q_ q_ q_ o' hs=>Has.of_mem (hs _ (.tail _ (.tail _ (.tail _ (.head _)))))) rfl rfl (by rw [List.map_nil,List.append_nil]) (fun k a y ha hI T hT=>?_) fun y hI=>?_)
  · have hz:(bases0++y.1.map fun r=>((r.1,r.2.1,r.2.2,some (og r.2.2)):Base)).length≤1000:=by
      rw [List.length_append,List.length_map,hI]
      exact Nat.le_trans (Nat.add_le_add_left (Nat.le_trans (List.length_take_le' ..) hr) 18) (by decide)
    refine VAttr.obj (by exact hK) pk.a_elements (.there .here) (.there (.there .here)) .here plainR ?_
    refine methI (Meth.of hK pk.m_put_implicit (.there (.there (.there (.there .here)))) (.there (.there (.there (.there (.there .here))))) (by decide)) (pk.f_Elements_put_implicit.keep hK) ?_
    refine VSub.id .here (List.mem_map.mpr ⟨_,hog a (List.mem_of_getElem? ha),rfl⟩) ?_
    refine (c_put_implicit (n:=n+1) (ds:=[.ref e,.int a.1,.int a.2.1,.int a.2.2,.int (og a.2.2)]) (dd:=[]) (dv:=[]) (a4:=some (og a.2.2)) pk W.cx W.gr pk.b_Elements_put_implicit0 (fun q_ q_=>rfl) rfl (.there (.there (.there (.there .here)))) (.there (.there (.there (.there (.there .here)))))
      (.there (.there (.there (.there (.there (.there (.there (.there .here)))))))) (Nat.le_trans hz (by decide)) ?_).call
    exact hT ⟨_,.refl _,(y.1++[a],_,_,_),by rw [takeS ha,hI],rfl,by rw [List.map_append,← List.append_assoc];rfl⟩
  · rw [List.take_length] at hI
    rw [hI]
    refine VAttr.obj hK pk.a_elements (.there .here) (.there (.there .here)) .here plainR ?_
    exact VEnd.sub (by wtm_at "Ms") (h og fun r hr=>M.is _ (hog r hr))
theorem k_put_row (pk:Parts K) {n:Nat}(cx:Cx A (n+11)) (g:Gr K B) {rest:Own}{r dr rg e de t lg b:Addr}{s:St}{lng:List (Int×Int)}{bs:List Base}{l:List UInt8}{row:Int}(hp:Pick own (ReadO r dr rg e de t lg b s lng bs []) rest) (hz:l.length≤500000) (h9:(9:UInt8)∉l) (hr:s.rgs.length≤900) (ht:s.tab.length≤900) (hl:lng.length≤900)
    (h:∀ef lng',effOf s.ver.isNone l=some ef→List.length lng'≤lng.length+1→Q .none (ReadO r dr rg e de t lg b (s.put ef) lng' bs rest)) (hX:effOf s.ver.isNone l=none→∀x o,Thr 64 (.int row) [] true x o→X x (o++rest)):Call w B A (.ref 472) [.ref r,.bytes l,.int row] own Q X :=
  (c_put_row pk cx g (own:=[]) (Q:=fun d o=>d=.none∧∃ef lng',effOf s.ver.isNone l=some ef∧List.length lng'≤lng.length+1∧o=ReadO r dr rg e de t lg b (s.put ef) lng' bs []) (X:=fun x o=>effOf s.ver.isNone l=none∧Thr 64 (.int row) [] true x o) hz h9 hr ht hl (fun ef lng' h1 h2=>⟨rfl,ef,lng',h1,h2,rfl⟩) fun h1 x o t=>⟨h1,t⟩).pick hp
    (fun d o hq=>by obtain ⟨rfl,ef,lng',h1,h2,rfl⟩:=hq;exact h ef lng' h1 h2) fun x o hq=>hX hq.1 x o hq.2
noncomputable def rowB (l:List UInt8):List UInt8:=trim (partL 35 l).1
noncomputable def readAll:St→List (List UInt8)→Option St
  | s,[]=>some s
  | s,l::ls=>(effOf s.ver.isNone (rowB l)).bind fun ef=>readAll (s.put ef) ls
noncomputable def badAt:St→List (List UInt8)→Option Nat
  | _,[]=>none
  | s,l::ls=>match effOf s.ver.isNone (rowB l) with
    | none=>some 0
    | some ef=>(badAt (s.put ef) ls).map (·+1)
theorem readAll_app:∀{ls:List (List UInt8)}{s s':St}{l:List UInt8},readAll s ls=some s'→readAll s (ls++[l])=(effOf s'.ver.isNone (rowB l)).bind fun ef=>some (s'.put ef)
  | [],s,s',l,h=>by cases h;rfl
  | x::ls,s,s',l,h=>by
    unfold readAll at h
    show (effOf s.ver.isNone (rowB x)).bind _=_
    cases hx:effOf s.ver.isNone (rowB x) with
    | none=>rw [hx] at h;cases h
    | some ef=>rw [hx] at h;exact readAll_app h
theorem badAt_app:∀{ls:List (List UInt8)}{s s':St}{l:List UInt8}{r:List (List UInt8)},readAll s ls=some s'→effOf s'.ver.isNone (rowB l)=none→badAt s (ls++l::r)=some ls.length
  | [],s,s',l,r,h,hn=>by
    cases h
    show (match effOf s.ver.isNone (rowB l) with | none=>some 0 | some ef=>(badAt (s.put ef) r).map (·+1))=_
    rw [hn];rfl
  | x::ls,s,s',l,r,h,hn=>by
    unfold readAll at h
    show (match effOf s.ver.isNone (rowB x) with | none=>some 0 | some ef=>(badAt (s.put ef) (ls++l::r)).map (·+1))=_
    cases hx:effOf s.ver.isNone (rowB x) with
    | none=>rw [hx] at h;cases h
    | some ef =>
      rw [hx] at h
      show (badAt (s.put ef) (ls++l::r)).map (·+1)=_
      rw [badAt_app h hn];rfl
theorem St.put_len (s:St) (ef:Eff):(s.put ef).tab.length≤s.tab.length+1∧(s.put ef).rgs.length≤s.rgs.length+1:=by
  cases ef with
  | put cs es=>exact ⟨putK_len ..,Nat.le_succ _⟩
  | rng a b m=>exact ⟨Nat.le_succ _,by show (s.rgs++[(a,b,m)]).length≤_;simp⟩
  | _=>exact ⟨Nat.le_succ _,Nat.le_succ _⟩
noncomputable abbrev st0:St:=⟨[],[],none⟩
theorem VEnum.st {α σ:Type}{ss:List Sl}{body:ST}{Q:Fl→Vals→Own→Prop}{e it a:Addr}(xs:List α) (g:α→D) (I:Nat→σ→Prop) (vl:σ→Vals) (ow:σ→Own) (x₀:σ) (XB:Addr→Own→Prop) (hh:f.A.handled=none) (hC:∀x,Has (ow x) a (.list (xs.map g))) (h0:I 0 x₀) (ev:vl x₀=v) (eo:own=enumO e it a 0++ow x₀) (hx:Notes f.w f.B f.A f.env XB f.X)
    (hb:∀k a x,xs[k]?=some a→I k x→∀T:Fl→Vals→Own→Prop,(∀{fl v o},turnV (NextV (I (k+1)) vl ow) Q fl v o→T fl v o)→tgtT ss (f.x XB) (vl x) (ow x) (.tup [.int k,g a]) fun v o=>body (f.x XB) v o T) (he:∀x,I xs.length x→Q .next (vl x) (ow x)):VEnum f ss body v own (.ref e) Q :=
  .mk e it a (xs.map g) (ow x₀) (fun k=>NextV (I k) vl ow) XB rfl eo hh (fun k v o q=>by
    obtain ⟨x,h,rfl,rfl⟩:=q
    exact hC x) ⟨x₀,h0,ev,rfl⟩ hx (fun k d v o hd q=>by
    obtain ⟨x,h,rfl,rfl⟩:=q
    obtain ⟨a,ha,rfl⟩:=mapGet hd
    exact hb k a x ha h _ fun q=>q) fun v o q=>by
    obtain ⟨x,h,rfl,rfl⟩:=q
    rw [List.length_map] at h
    exact he x h
structure RdI (ls:List (List UInt8)) (k:Nat) (x:St×List (Int×Int)×Option D×Option D):Prop where
  all:readAll st0 (ls.take k)=some x.1
  t:x.1.tab.length≤k
  r:x.1.rgs.length≤k
  l:x.2.1.length≤k
theorem RdI.more {ls:List (List UInt8)}{k:Nat}{x} {y:List UInt8}{ef:Eff}{lng':List (Int×Int)}(I:RdI ls k x) (hy:ls[k]?=some y) (hef:effOf x.1.ver.isNone (rowB y)=some ef) (hl:lng'.length≤x.2.1.length+1) {z}:RdI ls (k+1) (x.1.put ef,lng',z) :=
  ⟨by rw [takeS hy,readAll_app I.all,hef];rfl,Nat.le_trans (St.put_len x.1 ef).1 (Nat.succ_le_succ I.t),Nat.le_trans (St.put_len x.1 ef).2 (Nat.succ_le_succ I.r),Nat.le_trans hl (Nat.succ_le_succ I.l)⟩
theorem RdI.bad {ls:List (List UInt8)}{k:Nat}{x} {y:List UInt8}(I:RdI ls k x) (hy:ls[k]?=some y) (hbad:effOf x.1.ver.isNone (rowB y)=none):badAt st0 ls=some k:=by
  have hkl:=(List.getElem?_eq_some_iff.mp hy).1
  have e:ls=ls.take k++y::ls.drop (k+1):=(List.take_append_drop (k+1) ls).symm.trans (by rw [takeS hy,List.append_assoc];rfl)
  rw [e,badAt_app I.all hbad,List.length_take]
  exact congrArg some (Nat.min_eq_left (Nat.le_of_lt hkl))
structure LnZ (x:List UInt8):Prop where
  a:x.length≤1048576
  b:(partL 35 x).1.length≤1048576
  c:(rowB x).length≤500000
theorem lnZ {x:List UInt8}(h:x.length≤500000):LnZ x :=
  have hp:=Nat.le_trans (partL_le 35 x).1 h
  ⟨Nat.le_trans h (by decide),Nat.le_trans hp (by decide),Nat.le_trans (stripL_le ..) hp⟩
inductive ClsR (e de t lg b:Addr) (s:St) (lng:List (Int×Int)) (d:D) (o:Own):Prop
  | mk (og:Int→Int) (q:∀r∈s.rgs,Org s.rgs r.2.2 (og r.2.2)) (ed:d=.ref e) (eo:o=ElemO e de t lg b s.tab lng (bases0++s.rgs.map fun r=>(r.1,r.2.1,r.2.2,some (og r.2.2))) [])
theorem c_read_allkeys (pk:Parts K) {n:Nat}(cx:Cx A (n+13)) (g:Gr K B) {l:List UInt8}(hz:l.length≤500000) (hn:(splitB 10 l).length≤900) (h9:∀x∈splitB 10 l,(9:UInt8)∉rowB x)
    (h:∀s e de t lg b lng,readAll st0 (splitB 10 l)=some s→∀og:Int→Int,(∀r∈s.rgs,Org s.rgs r.2.2 (og r.2.2))→Q (.ref e) (ElemO e de t lg b s.tab lng (bases0++s.rgs.map fun r=>(r.1,r.2.1,r.2.2,some (og r.2.2))) own))
    (hX:∀k,badAt st0 (splitB 10 l)=some k→∀x o,Thr 64 (.int ((k:Int)+1)) [] true x o→X x o):CallC w B A (.ref 500) [.bytes l] own Q X:=by
  refine pk.fnX (badAt st0 (splitB 10 l)≠none) 64 (.int (((badAt st0 (splitB 10 l)).getD 0:Nat)+1:Int)) pk.f_read_allkeys pk.b_read_allkeys (fun hp x o t=>?_) cx g fun f W hX=>?_
  · obtain ⟨k,hk⟩:=Option.ne_none_iff_exists'.mp hp
    rw [hk] at t
    exact hX k hk x o t
  have hK:=W.gr.K
  refine c_CollReader (n:=n+1) pk W.cx W.gr fun r dr rg e de t lg b=>?_
  repeat' wtm_at "V"
  refine Call.bSplit (by lia) fun a=>?_
  have hlen:=splitB_len 10 l
  generalize hls:splitB 10 l=ls at hn h9 h hX hlen ⊢
  refine Call.enumerate .here fun e' it=>?_
  refine .inr (VEnum.st ls .bytes (RdI ls) (fun x=>[some (.bytes l),some (.ref r),x.2.2.1,x.2.2.2]) (fun x=>(a,.list (ls.map .bytes))::ReadO r dr rg e de t lg b x.1 x.2.1 bases0 own) (st0,[],_,_) f.X W.cx.handled (fun q_=>.here) ⟨rfl,Nat.le_refl _,Nat.le_refl _,Nat.le_refl _⟩ rfl rfl (W.thr hX) (fun k y x hy hI T hT=>?_) fun x hI=>?_)
  · have hm:=List.mem_of_getElem? hy
    have Z:=lnZ (Nat.le_trans (hlen y hm) hz)
    have hk:k≤900:=Nat.le_trans (Nat.le_of_lt (List.getElem?_eq_some_iff.mp hy).1) hn
    refine methI (Meth.of (by exact hK) pk.m_put_row (.there .here) (.there (.there .here)) (by decide)) (pk.f_CollReader_put_row.keep hK) ?_
    repeat' wtm_at "V"
    refine Call.bPart Z.a ?_
    repeat' wtm_at "V"
    refine (c_coll_trimmed (n:=n+10) pk W.cx W.gr Z.b ?_).call
    repeat' wtm_at "V"
    refine k_put_row (n:=n+1) (l:=rowB y) (row:=(k:Int)+1) pk W.cx W.gr (by wtm_at "Mp") Z.c (h9 y hm) (Nat.le_trans hI.r hk) (Nat.le_trans hI.t hk) (Nat.le_trans hI.l hk) (fun ef lng' hef hl=>?_) fun hbad x' o' t=>?_
    · exact hT ⟨_,.perm (Pick.perm (fp:=[_]) (by wtm_at "Mp")),(x.1.put ef,lng',_,_),hI.more hy hef hl,rfl,rfl⟩
    · show f.X x' _
      rw [hX,hI.bad hy hbad]
      exact ⟨Option.some_ne_none _,t.weak.sub fun p hp=>List.mem_append_left _ (List.mem_append_left _ hp)⟩
  · have hI':=hI.all
    rw [List.take_length] at hI'
    refine methI (Meth.of hK pk.m_close (.there .here) (.there (.there .here)) (by decide)) (pk.f_CollReader_close.keep hK) ?_
    refine (CallC.call (c_close (n:=n+6) pk W.cx W.gr (own:=[]) (Q:=ClsR e de t lg b x.1 x.2.1) (X:=fun q_ q_=>False) (Nat.le_trans hI.r hn) fun og q=>⟨og,q,rfl,rfl⟩)).pick (by wtm_at "Mp") (fun d o hh=>?_) fun q_ q_ x=>x.elim
    obtain ⟨og,q,rfl,rfl⟩:=hh
    exact VEnd.sub (by wtm_at "Ms") (h x.1 e de t lg b x.2.1 hI' og q)
inductive All2 {α β:Type}(R:α→β→Prop):List α→List β→Prop
  | nil:All2 R [] []
  | cons {a b l m}:R a b→All2 R l m→All2 R (a::l) (b::m)
theorem All2.snoc {α β:Type}{R:α→β→Prop}{a:α}{b:β}{l:List α}{m:List β}(x:All2 R l m) (h:R a b):All2 R (l++[a]) (m++[b]):=by
  induction x with
  | nil=>exact .cons h .nil
  | cons x _ ih=>exact .cons x ih
theorem All2.length {α β:Type}{R:α→β→Prop}{l:List α}{m:List β}(x:All2 R l m):m.length=l.length:=by
  induction x with
  | nil=>rfl
  | cons _ _ ih=>exact congrArg (·+1) ih
theorem joinG_le {α:Type}(sep:List α) (b:Nat) (hs:sep.length≤1) (ls:List (List α)) (h:∀x∈ls,x.length≤b):(joinG sep ls).length≤(b+1)*ls.length:=by
  induction ls with
  | nil=>exact Nat.zero_le _
  | cons x r ih=>cases r with
    | nil=>show x.length≤(b+1)*1;rw [Nat.mul_one];exact Nat.le_succ_of_le (h x (.head _))
    | cons y r =>
      show (x++sep++joinG sep (y::r)).length≤(b+1)*((y::r).length+1)
      rw [List.length_append,List.length_append,Nat.mul_succ,Nat.add_comm]
      exact Nat.add_le_add (ih fun z hz=>h z (.tail _ hz)) (Nat.add_le_add (h x (.head _)) hs)
noncomputable abbrev Code (i:Int):Prop:=0≤i∧i<16777216
inductive RgLine (b:Base) (x:List UInt8):Prop
  | mk (h1:List UInt8) (h2:List UInt8) (h3:List UInt8) (a0:HexOf b.1 h1) (a1:HexOf b.2.1 h2) (a2:HexOf b.2.2.1 h3) (a3:x=(([64,105,109,112,108,105,99,105,116,119,101,105,103,104,116,115,32]++((h1++[46,46])++h2))++[59,32])++h3)
inductive Piece (e:El) (x:List UInt8):Prop
  | mk (h1:List UInt8) (h2:List UInt8) (h3:List UInt8) (a0:HexOf e.1 h1) (a1:HexOf e.2.1 h2) (a2:HexOf e.2.2.1 h3) (a3:x=((if e.2.2.2 then [91,42] else [91,46])++((((h1++[46])++h2)++[46])++h3))++[93])
inductive KeyLine (p:List Int×List El) (x:List UInt8):Prop
  | mk (hs:List (List UInt8)) (ps:List (List UInt8)) (a0:All2 HexOf p.1 hs) (a1:All2 Piece p.2 ps) (a2:x=(joinG [32] hs++[32,59,32])++joinG [] ps)
theorem RgLine.len {b:Base}{x:List UInt8}(h:RgLine b x):x.length≤50:=by
  obtain ⟨h1,h2,h3,a,b,c,rfl⟩:=h
  exact leN (leApp (leApp (leApp (Nat.le_refl 17) (leApp (leApp a.hi (Nat.le_refl 2)) b.hi)) (Nat.le_refl 2)) c.hi) rfl
theorem Piece.len {e:El}{x:List UInt8}(h:Piece e x):x.length≤30:=by
  obtain ⟨h1,h2,h3,a,b,c,rfl⟩:=h
  have hl:(if e.2.2.2 then [(91:UInt8),42] else [91,46]).length≤2:=by cases e.2.2.2 <;> exact Nat.le_refl 2
  exact leN (leApp (leApp hl (leApp (leApp (leApp (leApp a.hi (Nat.le_refl 1)) b.hi) (Nat.le_refl 1)) c.hi)) (Nat.le_refl 1)) rfl
theorem All2.mem {α β:Type}{R:α→β→Prop}{l:List α}{m:List β}(x:All2 R l m):∀b∈m,∃a∈l,R a b:=by
  induction x with
  | nil=>exact fun b h=>absurd h List.not_mem_nil
  | cons x r ih =>
    intro b h
    cases h with
    | head=>exact ⟨_,.head _,x⟩
    | tail _ h =>
      obtain ⟨a,ha,q⟩:=ih b h
      exact ⟨a,.tail _ ha,q⟩
theorem KeyLine.len {p:List Int×List El}{x:List UInt8}(h:KeyLine p x) (h1:p.1.length≤100) (h2:p.2.length≤100):x.length≤4000:=by
  obtain ⟨hs,ps,a,b,rfl⟩:=h
  have e1:=joinG_le [32] 6 (Nat.le_refl _) hs fun x hx=>let ⟨_,_,q⟩:=a.mem x hx;q.hi
  have e2:=joinG_le ([]:List UInt8) 30 (Nat.zero_le _) ps fun x hx=>let ⟨_,_,q⟩:=b.mem x hx;q.len
  rw [a.length] at e1
  rw [b.length] at e2
  exact leN (leApp (leApp (Nat.le_trans e1 (Nat.mul_le_mul_left 7 h1)) (Nat.le_refl 3)) (Nat.le_trans e2 (Nat.mul_le_mul_left 31 h2))) rfl
theorem k_rows (pk:Parts K) {n:Nat}(cx:Cx A (n+3)) (g:Gr K B) {rest:Own}{e de t lg b:Addr}{tab:List (List Int×List El)}{lng:List (Int×Int)}{bs:List Base}(hp:Pick own (ElemO e de t lg b tab lng bs []) rest) (hne:∀p∈tab,p.1≠[]) (h64:tab.length<64)
    (h:∀(r:List (List Int×List El)),(r.map (·.1)).Perm (tab.map (·.1))→(r.map (·.1)).Pairwise (fun x y=>ltL x y=true)→(∀p∈r,p∈tab)→Q (.lst (r.map fun p=>.tup [.tup (p.1.map .int),.lst (p.2.map elD)])) (ElemO e de t lg b tab lng bs rest)):Call w B A (.ref 336) [.ref e] own Q X :=
  (c_rows pk cx g (own:=[]) (Q:=fun d o=>∃r:List (List Int×List El),(r.map (·.1)).Perm (tab.map (·.1))∧(r.map (·.1)).Pairwise (fun x y=>ltL x y=true)∧(∀p∈r,p∈tab)∧d=(.lst (r.map fun p=>.tup [.tup (p.1.map .int),.lst (p.2.map elD)]))∧o=ElemO e de t lg b tab lng bs []) (X:=fun q_ q_=>False) hne h64 fun r h1 h2 h3=>⟨r,h1,h2,h3,rfl,rfl⟩).call.pick hp
    (fun d o hq=>by obtain ⟨r,h1,h2,h3,rfl,rfl⟩:=hq;exact h r h1 h2 h3) fun q_ q_ x=>x.elim
theorem hexComp (pk:Parts K) {n:Nat}(W:Wk K f (n+2)) {cs:List Int}{F:Addr→Own→Prop}(hz:cs.length≤100) (hc:∀c∈cs,Code c) (h:∀hs acc,All2 HexOf cs hs→F acc ((acc,.list (hs.map .bytes))::own)) :
    VComp f [".0", "code"] (tgtS (.loc 1)) nilAnd (callP (.ref 85) (consL (loc 1) nilL)) v own (.tup (cs.map .int)) F:=by
  refine VComp.st cs .int (fun k x=>All2 HexOf (cs.take k) x) (fun x=>x.map .bytes) (fun q_=>own) [] False 0 .none (Iterable.tup W.cx.handled) (fun q_ q_ q_ q_ q_=>trivial) rfl rfl .nil (Nat.le_trans hz (by decide)) (fun k x hI=>by rw [List.length_map,hI.length];exact List.length_take_le ..) False.elim (fun k c x L env hk hI=>?_) fun acc x hI=>?_
  · have hcd:=hc c (List.mem_of_getElem? hk)
    refine ⟨(fun h=>by cases h),fun q_=>?_⟩
    refine (c_hex_code (n:=n) pk W.cx W.gr hcd.1 hcd.2 fun bs hb=>?_).call
    exact VEnd.same ⟨x++[bs],by rw [takeS hk];exact hI.snoc hb,by rw [List.map_append];rfl,rfl⟩
  · rw [List.take_length] at hI
    exact h x acc hI
theorem elAt {es:List El}{k:Nat}{d:D}(h:(es.map elD)[k]?=some d):∃a,es[k]?=some a∧d=elD a∧es.take (k+1)=es.take k++[a]:=mapAt h
noncomputable def PcI (es:List El) (k:Nat) (x:List (List UInt8)×Option D×Option D×Option D×Option D×Option D):Prop:=All2 Piece (es.take k) x.1
theorem PcI.len {es:List El}{k x} (h:PcI es k x) (hz:es.length≤100):x.1.length≤100:=by
  have:=All2.length h
  rw [List.length_take] at this
  exact this▸Nat.le_trans (Nat.min_le_right ..) hz
theorem PcI.more {es:List El}{k x a y} (h:PcI es k x) (ha:es[k]?=some a) (hy:Piece a y) {z}:PcI es (k+1) (x.1++[y],z):=by
  rw [PcI,takeS ha]
  exact All2.snoc h hy
theorem pieceLoop (pk:Parts K) {n:Nat}(W:Wk K f (n+2)) {es:List El}{pc:Addr}{d0 d1 d2 d3 d4 d5 d7 d8 d9 d10 d11:Option D}{Q:Fl→Vals→Own→Prop}(hz:es.length≤100) (hc:∀e∈es,Code e.1∧Code e.2.1∧Code e.2.2.1)
    (h:∀ps d7 d8 d9 d10 d11,All2 Piece es ps→Q .next [d0,d1,d2,d3,d4,d5,some (.ref pc),d7,d8,d9,d10,d11] ((pc,.list (ps.map .bytes))::own)) :
    VFor f (tgtT [.loc 7,.loc 8,.loc 9,.loc 10]) (seqS (asgS (bin .Add (bin .Add (bin .Add (bin .Add (callP (.ref 85) (consL (loc 7) nilL)) (kD (.bytes [46]))) (callP (.ref 85) (consL (loc 8) nilL))) (kD (.bytes [46]))) (callP (.ref 85) (consL (loc 9) nilL))) (tgtS (.loc 11))) (seqS (exprS (methP (loc 6) "append" (consL (bin .Add (bin .Add (ite (tv (loc 10)) (kD (.bytes [91,42])) (kD (.bytes [91,46]))) (loc 11)) (kD (.bytes [93]))) nilL))) nilS))
      [d0,d1,d2,d3,d4,d5,some (.ref pc),d7,d8,d9,d10,d11] ((pc,.list [])::own) (.lst (es.map elD)) Q:=by
  refine VFor.stQ es (fun a=>.tup [.int a.1,.int a.2.1,.int a.2.2.1,.bool a.2.2.2]) (PcI es) (fun x=>[d0,d1,d2,d3,d4,d5,some (.ref pc),x.2.1,x.2.2.1,x.2.2.2.1,x.2.2.2.2.1,x.2.2.2.2.2]) (fun x=>(pc,.list (x.1.map .bytes))::own) ([],d7,d8,d9,d10,d11) (Iterable.lst W.cx.handled) (fun q_ q_ q_ q_ q_=>trivial) .nil rfl rfl (fun k a x ha hI T hT=>?_) fun x hI=>h x.1 _ _ _ _ _ (by rw [PcI,List.take_length] at hI;exact hI)
  obtain ⟨q1,q2,q3⟩:=hc _ (List.mem_of_getElem? ha)
  have hl:=hI.len hz
  refine (c_hex_code (n:=n) (code:=a.1) pk W.cx W.gr q1.1 q1.2 fun b1 hb1=>?_).call
  have l1:=hb1.hi
  repeat' wtm_at "V"
  refine (c_hex_code (n:=n) (code:=a.2.1) pk W.cx W.gr q2.1 q2.2 fun b2 hb2=>?_).call
  have l2:=hb2.hi
  repeat' wtm_at "V"
  refine (c_hex_code (n:=n) (code:=a.2.2.1) pk W.cx W.gr q3.1 q3.2 fun b3 hb3=>?_).call
  have l3:=hb3.hi
  repeat' wtm_at "V"
  have hn:Piece a _:=⟨b1,b2,b3,hb1,hb2,hb3,rfl⟩
  refine ⟨a.2.2.2,rfl,fun hb=>?_,fun hb=>?_⟩
  · rw [hb,if_pos rfl] at hn
    repeat' wtm_at "V"
    exact Call.append .here (leN (leMap hl) rfl) (hT ⟨_,.refl _,(_,_,_,_,_,_),hI.more ha hn,rfl,by rw [List.map_append];rfl⟩)
  · rw [hb,if_neg Bool.false_ne_true] at hn
    repeat' wtm_at "V"
    exact Call.append .here (leN (leMap hl) rfl) (hT ⟨_,.refl _,(_,_,_,_,_,_),hI.more ha hn,rfl,by rw [List.map_append];rfl⟩)
noncomputable def RgI (bs:List Base) (k:Nat) (x:List (List UInt8)×Option D×Option D):Prop:=All2 RgLine ((bs.take k).filter fun b=>b.2.2.2.isSome) x.1
theorem RgI.len {bs:List Base}{k x} (h:RgI bs k x) (hz:bs.length≤100):x.1.length≤100:=by
  rw [All2.length h]
  exact Nat.le_trans (List.length_filter_le ..) (Nat.le_trans (List.length_take_le' ..) hz)
theorem RgI.more {bs:List Base}{k x a y} (h:RgI bs k x) (ha:bs[k]?=some a) (h4:a.2.2.2.isSome=true) (hy:RgLine a y) {z}:RgI bs (k+1) (x.1++[y],z):=by
  rw [RgI,takeS ha,List.filter_append,List.filter_cons_of_pos (p:=fun b:Base=>b.2.2.2.isSome) h4]
  exact All2.snoc h hy
theorem RgI.skip {bs:List Base}{k x a} (h:RgI bs k x) (ha:bs[k]?=some a) (h4:a.2.2.2=none) {z}:RgI bs (k+1) (x.1,z):=by
  rw [RgI,takeS ha,List.filter_append,List.filter_cons_of_neg (p:=fun b:Base=>b.2.2.2.isSome) (by rw [h4];exact Bool.false_ne_true),List.filter_nil,List.append_nil]
  exact h
theorem rgLoop (pk:Parts K) {n:Nat}(W:Wk K f (n+2)) {e de t lg b c:Addr}{tab:List (List Int×List El)}{lng:List (Int×Int)}{bs:List Base}{d4 d5 d6 d7 d8 d9 d10 d11:Option D}{Q:Fl→Vals→Own→Prop}(hz:bs.length≤100) (hc:∀b∈bs,Code b.1∧Code b.2.1∧Code b.2.2.1)
    (h:∀rl d2 d3,All2 RgLine (bs.filter fun b=>b.2.2.2.isSome) rl→Q .next [some (.ref e),some (.ref c),d2,d3,d4,d5,d6,d7,d8,d9,d10,d11] ((c,.list (rl.map .bytes))::ElemO e de t lg b tab lng bs own)) :
    VFor f (tgtS (.loc 2)) (seqS (ifS (cmp .IsNot (attrP (loc 2) "origin") (kD .none)) (seqS (asgS (bin .Add (bin .Add (callP (.ref 85) (consL (attrP (loc 2) "first") nilL)) (kD (.bytes [46,46]))) (callP (.ref 85) (consL (attrP (loc 2) "last") nilL))) (tgtS (.loc 3))) (seqS (exprS (methP (loc 1) "append" (consL (bin .Add (bin .Add (bin .Add (kD (.bytes [64,105,109,112,108,105,99,105,116,119,101,105,103,104,116,115,32])) (loc 3)) (kD (.bytes [59,32]))) (callP (.ref 85) (consL (attrP (loc 2) "base") nilL))) nilL))) nilS)) nilS) nilS)
      [some (.ref e),some (.ref c),none,none,d4,d5,d6,d7,d8,d9,d10,d11] ((c,.list [])::ElemO e de t lg b tab lng bs own) (.ref b) Q:=by
  refine VFor.stQ bs baseD (RgI bs) (fun x=>[some (.ref e),some (.ref c),x.2.1,x.2.2,d4,d5,d6,d7,d8,d9,d10,d11]) (fun x=>(c,.list (x.1.map .bytes))::ElemO e de t lg b tab lng bs own) ([],none,none) (Iterable.list W.cx.handled (ax:=b) (ds:=bs.map baseD)) (fun q_ x q_ o' hs=>Has.of_mem (hs _ (.tail _ (.tail _ (.tail _ (.tail _ (.tail _ (.head _)))))))) .nil rfl rfl (fun k a x ha hI T hT=>?_) fun x hI=>h x.1 _ _ (by rw [RgI,List.take_length] at hI;exact hI)
  obtain ⟨q1,q2,q3⟩:=hc _ (List.mem_of_getElem? ha)
  have hl:=hI.len hz
  have hK:K.In f.B:=W.gr.K
  refine VAttr.inst (by exact hK) pk.a_origin (.there (.there (.there .here))) plainO ?_
  cases h4:a.2.2.2 with
  | none=>exact ⟨fun h=>Bool.noConfusion h,fun q_=>hT ⟨_,.refl _,(_,_,_),hI.skip ha h4,rfl,rfl⟩⟩
  | some og =>
    refine ⟨fun q_=>?_,fun h=>Bool.noConfusion h⟩
    refine VAttr.inst (by exact hK) pk.a_first .here plainI ?_
    refine (c_hex_code (n:=n) (code:=a.1) pk W.cx W.gr q1.1 q1.2 fun b1 hb1=>?_).call
    have l1:=hb1.hi
    repeat' wtm_at "V"
    refine VAttr.inst (by exact hK) pk.a_last (.there .here) plainI ?_
    refine (c_hex_code (n:=n) (code:=a.2.1) pk W.cx W.gr q2.1 q2.2 fun b2 hb2=>?_).call
    have l2:=hb2.hi
    repeat' wtm_at "V"
    refine VAttr.inst (by exact hK) pk.a_base (.there (.there .here)) plainI ?_
    refine (c_hex_code (n:=n) (code:=a.2.2.1) pk W.cx W.gr q3.1 q3.2 fun b3 hb3=>?_).call
    have l3:=hb3.hi
    repeat' wtm_at "V"
    exact Call.append .here (leN (leMap hl) rfl) (hT ⟨_,.refl _,(_,_,_),hI.more ha (by rw [h4];rfl) ⟨b1,b2,b3,hb1,hb2,hb3,rfl⟩,rfl,by rw [List.map_append];rfl⟩)
structure Told (tab:List (List Int×List El)) (bs:List Base) (r:List (List Int×List El)) (rl kl:List (List UInt8)):Prop where
  perm:(r.map (·.1)).Perm (tab.map (·.1))
  asc:(r.map (·.1)).Pairwise (fun x y=>ltL x y=true)
  of:∀p∈r,p∈tab
  rgs:All2 RgLine (bs.filter fun b=>b.2.2.2.isSome) rl
  keys:All2 KeyLine r kl
theorem lineComp {n:Nat}(W:Wk K f n) {ls:List (List UInt8)}{c:Addr}{F:Addr→Own→Prop}(hz:ls.length≤1000) (hl:∀x∈ls,x.length≤4000) (ho:Has own c (.list (ls.map .bytes))) (h:∀acc,F acc ((acc,.list ((ls.map (·++[10])).map .bytes))::own)) :
    VComp f [".0", "row"] (tgtS (.loc 1)) nilAnd (bin .Add (loc 1) (kD (.bytes [10]))) v own (.ref c) F:=by
  refine VComp.map ls .bytes (fun x=>.bytes (x++[10])) (Iterable.list W.cx.handled (ax:=c)) (fun o' hs=>ho.perm hs) (by omega) (fun a ha L env f' hf G T hT=>?_) fun acc=>?_
  · subst hf
    have:=hl a ha
    refine ⟨(fun h=>by cases h),fun q_=>⟨by simp;omega,?_⟩⟩
    exact VEnd.same hT
  · have:=h acc
    rw [List.map_map] at this
    exact this
noncomputable abbrev D8:=Option D×Option D×Option D×Option D×Option D×Option D×Option D×Option D
noncomputable def KlI (r:List (List Int×List El)) (k:Nat) (kl:List (List UInt8)):Prop:=All2 KeyLine (r.take k) kl
theorem KlI.len {r:List (List Int×List El)}{k kl} (h:KlI r k kl) (hz:r.length<64):kl.length<64:=by
  rw [All2.length h]
  exact Nat.lt_of_le_of_lt (List.length_take_le' ..) hz
theorem KlI.more {r:List (List Int×List El)}{k kl p y} (h:KlI r k kl) (hp:r[k]?=some p) (hy:KeyLine p y):KlI r (k+1) (kl++[y]):=by
  rw [KlI,takeS hp]
  exact All2.snoc h hy
theorem KlI.all {r:List (List Int×List El)}{kl} (h:KlI r r.length kl):All2 KeyLine r kl:=by
  rw [KlI,List.take_length] at h
  exact h
theorem pieces_len {es:List El}{ps:List (List UInt8)}(h:All2 Piece es ps) (hz:es.length≤100):(joinG [] ps).length≤3100:=by
  have hj:=joinG_le ([]:List UInt8) 30 (Nat.zero_le _) ps fun x hx=>let ⟨_,_,q⟩:=h.mem x hx;q.len
  rw [h.length] at hj
  omega
theorem hexs_len {cs:List Int}{hs:List (List UInt8)}(h:All2 HexOf cs hs) (hz:cs.length≤100):(joinG [32] hs).length≤700:=by
  have hj:=joinG_le [32] 6 (Nat.le_refl _) hs fun x hx=>let ⟨_,_,q⟩:=h.mem x hx;q.hi
  rw [h.length] at hj
  omega
theorem line_a {x:List UInt8}(h:x.length≤700):x.length+[(32:UInt8),59,32].length≤16777216:=by
  exact Nat.le_trans (Nat.add_le_add_right h _) (by decide)
theorem line_b {x y:List UInt8}(h:x.length≤700) (h':y.length≤3100):(x++[32,59,32]).length+y.length≤16777216:=by
  rw [List.length_append]
  exact Nat.le_trans (Nat.add_le_add (Nat.add_le_add_right h _) h') (by decide)
structure LinesZ (ls:List (List UInt8)):Prop where
  n:ls.length≤1000
  l:∀x∈ls,x.length≤4000
  j:(joinG [] (ls.map (·++[10]))).length≤1048576
theorem linesZ {bs:List Base}{r:List (List Int×List El)}{rl kl:List (List UInt8)}(hrl:All2 RgLine bs rl) (ha:All2 KeyLine r kl) (h1:rl.length≤100) (h2:r.length<64) (hk:∀p∈r,p.1.length≤100∧p.2.length≤100):LinesZ (rl++kl):=by
  have hkl:=ha.length
  have hll:∀x∈rl++kl,x.length≤4000:=fun x hx=>by
    rcases List.mem_append.mp hx with hx | hx
    · obtain ⟨_,_,q⟩:=hrl.mem x hx
      exact Nat.le_trans q.len (by decide)
    · obtain ⟨p,hp,q⟩:=ha.mem x hx
      exact q.len (hk p hp).1 (hk p hp).2
  have hn:(rl++kl).length≤164:=by rw [List.length_append];omega
  have hj:=joinG_le ([]:List UInt8) 4001 (Nat.zero_le _) ((rl++kl).map (·++[10])) fun x hx=>by
    obtain ⟨y,hy,rfl⟩:=List.mem_map.mp hx
    rw [List.length_append]
    exact Nat.add_le_add_right (hll y hy) 1
  rw [List.length_map] at hj
  exact ⟨Nat.le_trans hn (by decide),hll,by omega⟩
theorem c_allkeys (pk:Parts K) {n:Nat}(cx:Cx A (n+6)) (g:Gr K B) {e de t lg b:Addr}{tab:List (List Int×List El)}{lng:List (Int×Int)}{bs:List Base}(hb:bs.length≤100) (hbc:∀b∈bs,Code b.1∧Code b.2.1∧Code b.2.2.1) (h64:tab.length<64)
    (hk:∀p∈tab,p.1≠[]∧p.1.length≤100∧p.2.length≤100∧(∀c∈p.1,Code c)∧∀e∈p.2,Code e.1∧Code e.2.1∧Code e.2.2.1)
    (h:∀r rl kl,Told tab bs r rl kl→Q (.bytes (joinG [] ((rl++kl).map (·++[10])))) (ElemO e de t lg b tab lng bs own)):Call w B A (.ref 505) [.ref e] (ElemO e de t lg b tab lng bs own) Q X:=by
  refine CallC.permPost (pk.fn pk.f_allkeys_octets pk.b_allkeys_octets cx g fun f W=>?_)
  have hK:K.In f.B:=W.gr.K
  intro c
  refine VAttr.obj hK pk.a_bases (.there .here) (.there (.there .here)) (.there (.there (.there .here))) plainR ?_
  refine rgLoop (n:=n+3) pk W hb hbc fun rl d2 d3 hrl=>?_
  have hrll:rl.length≤100:=by
    have:=hrl.length
    have:=List.length_filter_le (fun b:Base=>b.2.2.2.isSome) bs
    omega
  refine methI (Meth.of hK pk.m_rows (.there .here) (.there (.there .here)) (by decide)) (pk.f_Elements_rows.keep hK) ?_
  refine k_rows (n:=n+2) pk W.cx W.gr (by wtm_at "Mp") (fun p hp=>(hk p hp).1) h64 fun r hr1 hr2 hr3=>?_
  have hrlen:r.length<64:=by have:=hr1.length_eq;simp at this;omega
  refine .inl (VFor.stQ r (fun p=>.tup [.tup (p.1.map .int),.lst (p.2.map elD)]) (fun k (x:List (List UInt8)×D8)=>KlI r k x.1) (fun x=>[some (.ref e),some (.ref c),d2,d3,x.2.1,x.2.2.1,x.2.2.2.1,x.2.2.2.2.1,x.2.2.2.2.2.1,x.2.2.2.2.2.2.1,x.2.2.2.2.2.2.2.1,x.2.2.2.2.2.2.2.2]) (fun x=>ElemO e de t lg b tab lng bs ((c,.list ((rl++x.1).map .bytes))::own)) ([],_,_,_,_,_,_,_,_) (Iterable.lst W.cx.handled) (fun q_ q_ q_ q_ q_=>trivial) .nil rfl (by rw [List.append_nil]) (fun k a x ha hI T hT=>?_) fun x hI=>?_)
  · have Z:=hk _ (hr3 _ (List.mem_of_getElem? ha))
    have hkl:=hI.len hrlen
    intro pc
    refine .inl (pieceLoop (n:=n+3) (f:=(f.x fun q_ q_=>False)) pk ⟨W.cx,W.gr,W.fr⟩ Z.2.2.1 Z.2.2.2.2 fun ps e7 e8 e9 e10 e11 hps=>?_)
    have hj1:=pieces_len hps Z.2.2.1
    refine methB (Meth.list (.there (.there (.there (.there (.there (.there .here)))))) F.slot_list_append F.type_list_append) ?_
    refine mJoinB ?_
    refine hexComp (n:=n+3) (f:=(f.x fun q_ q_=>False)) pk ⟨W.cx,W.gr,W.fr⟩ Z.2.1 Z.2.2.2.1 fun hs acc hhs=>?_
    have hj2:=hexs_len hhs Z.2.1
    refine Call.bJoin .here (Nat.le_trans hj2 (by decide)) ?_
    refine ⟨line_a hj2,?_⟩
    refine mJoinB ?_
    refine Call.bJoin (.there .here) (Nat.le_trans hj1 (by decide)) ?_
    refine ⟨line_b hj2 hj1,?_⟩
    refine Call.append (.there (.there (.there (.there (.there (.there (.there .here))))))) (by rw [List.length_map,List.length_append];omega) ?_
    exact hT ⟨_,.cons _ (.cons _ (.refl _)),(_,_,_,_,_,_,_,_,_),KlI.more hI ha ⟨hs,ps,hhs,hps,rfl⟩,rfl,by rw [← List.append_assoc,List.map_append];rfl⟩
  · have ha:=KlI.all hI
    have Z:=linesZ hrl ha hrll hrlen fun p hp=>⟨(hk p (hr3 p hp)).2.1,(hk p (hr3 p hp)).2.2.1⟩
    refine mJoinB ?_
    refine lineComp W (ls:=rl++x.1) Z.n Z.l (.there (.there (.there (.there (.there .here))))) fun acc=>?_
    refine Call.bJoin .here Z.j ?_
    exact VEnd.sub (own':=ElemO e de t lg b tab lng bs own) (by wtm_at "Ms") ⟨_,.refl _,h r rl x.1 ⟨hr1,hr2,hr3,hrl,ha⟩⟩
theorem intsRel {h:Heap}{N:Addr→Prop}{vs:List Value}{ns:List Int}(x:IntsAre vs ns):RelDs h N (ns.map .int) vs:=by
  induction x with
  | nil=>rfl
  | cons n t r ih=>exact ⟨_,_,rfl,⟨t,rfl⟩,ih⟩
theorem Sliced.old {value slice:Expr}{c:Addr}{vs:List Value}{ns:List Int}{l':List D}{lo hi st:Option Int}(hB:B.IsList c vs.toArray) (hn:IntsAre vs ns) (e:sliceL (ns.map D.int) lo hi st=some l') (hz:ns.length≤16777216) (h0:st≠some 0) {ops:Value→Value→List Value}(hs:∀o i,subscripted slice false o i=operate (ops o i) (getItem o i))
    (h:∀a,Q (.ref a) ((a,.list l')::own)):Sliced w B A value slice (.cst (.ref c)) lo hi st own Q X:=fun s N a vl vu vs' sl I ea pl pu ps hsl=>by
  have ea:a=.ref c:=ea
  subst ea
  obtain ⟨ob,g1,g2,g3⟩:=hB
  have hl:s.heap.IsList c vs.toArray:=⟨ob,I.stays _ _ g1,g2,g3⟩
  have r:=intsRel (h:=s.heap) (N:=N) hn
  obtain ⟨is,e1,r1⟩:=slicePick_L e r
  refine tail_any hl.typeIs slot_list_getitem.lookup (wpAny_getItem_list_slice hl hsl pl pu ps h0 ?_ (by have:=r.length;rw [List.length_map] at this;rw [sizeLine_eq];simp [this];omega)) (hs _ _)
  rw [e1]
  exact Post.newList (k:=s.toks) I r1 h
theorem VSlice.old {cc:Addr}{vs:List Value}{ns:List Int}{l':List D}{lo hi st:Option Int}(hB:f.B.IsList cc vs.toArray) (hn:IntsAre vs ns) (e:sliceL (ns.map D.int) lo hi st=some l') (hz:ns.length≤16777216) (h0:st≠some 0) (h:∀a,Q (.ref a) ((a,.list l')::own)):VSlice f v (.cst (.ref cc)) lo hi st own Q:=fun value slice ops hs o hp=>Sliced.old hB hn e hz h0 hs fun a=>.new hp (h a)
theorem c_law_deck (pk:Parts K) {n:Nat}(cx:Cx A (n+2)) (g:Gr K B) {sc:Addr}{vs:List Value}{ns:List Int}(hB:B.IsList sc vs.toArray) (hi:IntsAre vs ns) (hz:ns.length≤1000) (h:∀c cl cells mixed,List.length cells≤20→Q (.ref c) (DeckO c cl cells mixed 0 own)):Call w B A (.ref 510) [.cst (.ref sc)] own Q X:=by
  refine CallC.permPost (pk.fnB pk.f_law_deck pk.b_law_deck cx g fun f W hfB=>?_)
  refine VSlice.old (l':=(ns.take 20).map .int) (hfB▸hB) hi (by show some _=some _;rw [← List.map_take];rfl) (by lia) (by decide) fun a=>?_
  refine VComp.map (ns.take 20) .int .int (Iterable.list W.cx.handled (ax:=a)) (fun o' hs=>Has.of_mem (hs _ (.head _))) (by simp;lia) (fun i hi L env f' hf G T hT=>?_) fun acc=>?_
  · subst hf
    refine ⟨(fun h=>by cases h),fun q_=>?_⟩
    exact Call.intOf (VEnd.same hT)
  refine VFor.quiet (fun k v o=>∃mixed y,v=[some (.cst (.ref sc)),y,some (.ref acc),some (.int mixed)]∧o=(acc,.list ((ns.take 20).map .int))::(a,.list ((ns.take 20).map .int))::own) (Iterable.list W.cx.handled (ax:=acc) (ds:=(ns.take 20).map .int)) (fun k v o ⟨_,_,_,q⟩ o' hs=>by subst q;exact Has.of_mem (hs _ (.head _))) ⟨5801,_,rfl,rfl⟩ ?_ ?_
  · rintro k d v o hk ⟨mixed,y,rfl,rfl⟩
    obtain ⟨i,hi,rfl,ht⟩:=mapAt hk
    repeat' wtm_at "V"
    exact ⟨_,.refl _,_,_,rfl,rfl⟩
  · rintro v o ⟨mixed,y,rfl,rfl⟩
    intro c
    refine VSlice.list (l':=(ns.take 20).reverse.map .int) (.there .here) (by show some _=some _;rw [List.map_reverse]) (by simp;lia) (by decide) fun cl=>?_
    refine ⟨_,.there .here,?_⟩
    exact VEnd.sub (own':=(cl,.list ((ns.take 20).reverse.map .int))::(c,.sd [(Str.ofString "cells", .ref cl),(Str.ofString "mixed", .int mixed),(Str.ofString "turn", .int 0)])::own) (by wtm_at "Ms") ⟨_,.swap ..,h c cl _ mixed (by simp;lia)⟩
noncomputable abbrev bOf (l:List Nat):List UInt8:=l.map Nat.toUInt8
theorem c_law_octets (pk:Parts K) {n:Nat}(cx:Cx A (n+2)) (g:Gr K B) {l:List Nat}(hl:∀c∈l,c<128) (hz:l.length≤1000000) (h:Q (.bytes (bOf l)) own):CallC w B A (.ref 529) [.str l] own Q X:=by
  refine pk.fn pk.f_law_octets pk.b_law_octets cx g fun f W=>?_
  refine VComp.map l (fun c=>.str [c]) (fun c=>.int c) (Iterable.str W.cx.handled hl) (fun q_ q_=>trivial) (by lia) (fun c hc L env f' hf G T hT=>?_) fun acc=>?_
  · subst hf
    refine ⟨(fun h=>by cases h),fun q_=>?_⟩
    exact Call.ordOf (VEnd.same hT)
  have e:(l.map fun c:Nat=>D.int c)=(l.map fun c:Nat=>(c:Int)).map .int:=by rw [List.map_map];rfl
  rw [e]
  refine Call.bytesOf W.cx.handled .here (fun i hi=>?_) (by simp;lia) ?_
  · obtain ⟨c,hc,rfl⟩:=List.mem_map.mp hi
    have:=hl c hc
    lia
  · have e2:((l.map fun c:Nat=>(c:Int)).map fun n=>n.toNat.toUInt8)=bOf l:=by rw [List.map_map];rfl
    rw [e2]
    exact VEnd.sub (by wtm_at "Ms") h
inductive ElText (e:El) (t:List Nat):Prop
  | mk (h1:List UInt8) (h2:List UInt8) (h3:List UInt8) (x:List Nat) (a0:HexOf e.1 h1) (a1:HexOf e.2.1 h2) (a2:HexOf e.2.2.1 h3) (a3:(x=[]∨x=[46,48,48,54,49])) (a4:t=(([91]++(if e.2.2.2 then [42] else [46]))++((((sOf h1++[46])++sOf h2)++[46])++sOf h3++x))++[93])
structure ElOk (e:El):Prop where
  a:0≤e.1∧e.1<65536
  b:0≤e.2.1∧e.2.1<400
  c:0≤e.2.2.1∧e.2.2.1<32
structure DkOk (cells:List Int) (turn:Int) (m:Nat):Prop where
  l:cells.length≤63
  t0:0≤turn
  t1:turn+m≤900000
theorem DkOk.next {cells cells':List Int}{turn:Int}{m:Nat}(D:DkOk cells turn (m+1)) (h:List.length cells'≤cells.length):DkOk cells' (turn+1) m:=⟨Nat.le_trans h D.l,Int.add_nonneg D.t0 (Int.zero_le_ofNat 1),by rw [Int.add_assoc,Int.add_comm 1];exact D.t1⟩
theorem DkOk.lt {cells:List Int}{turn:Int}{m:Nat}(D:DkOk cells turn m):turn<1000000:=Int.lt_of_le_of_lt (Int.le_trans (Int.le_add_of_nonneg_right (Int.natCast_nonneg _)) D.t1) (by decide)
theorem DkOk.low {cells:List Int}{turn:Int}{m k:Nat}(D:DkOk cells turn m) (h:k≤m):DkOk cells turn k:=⟨D.l,D.t0,Int.le_trans (Int.add_le_add_left (Int.ofNat_le.mpr h) turn) D.t1⟩
theorem Call.pre {o:Own}{fv:Value}{ds:List D}(h:Call w B A fv ds own Q X) (hp:o.Perm own):Call w B A fv ds o Q X:=fun P vs hl=>Wp.frm (rest:=[]) (h P vs hl) (by rw [List.append_nil];exact hp) (fun b o q=>by rw [List.append_nil];exact q) fun b o q=>by rw [List.append_nil];exact q
theorem Call.subPost {fv:Value}{ds:List D}(h:Call w B A fv ds own (fun b=>SubP (Q b)) X):Call w B A fv ds own Q X:=fun P vs hl=>Wp.subPost (h P vs hl)
section
variable (pk:Parts K) {n:Nat}{rest rest':Own}{c cl a:Addr}{α:Type}{e:α→D}{ls:List α}{cells:List Int}{mixed turn:Int}{m:Nat}(D:DkOk cells turn (m+1))
include pk D
theorem d_draw (cx:Cx A (n+3)) (g:Gr K B) {below:Int}(hp:Pick own (DeckO c cl cells mixed turn []) rest) (hb:0<below) (hb':below<1000000)
    (h:∀d cells' turn',0≤d→d<below→DkOk cells' turn' m→Q (.int d) (DeckO c cl cells' mixed turn' rest)):Call w B A (.ref 517) [.ref c,.int below] own Q X :=
  k_draw pk cx g hp hb hb' D.t0 D.lt D.l fun d cells' h1 h2 h3=>h d cells' (turn+1) h1 h2 (D.next h3)
theorem d_drawN (cx:Cx A (n+3)) (g:Gr K B) {below:Int}(hp:Pick own (DeckO c cl cells mixed turn []) rest) (hb:0<below) (hb':below<1000000)
    (h:∀(d:Nat) cells' turn',(d:Int)<below→DkOk cells' turn' m→Q (.int d) (DeckO c cl cells' mixed turn' rest)):Call w B A (.ref 517) [.ref c,.int below] own Q X :=
  d_draw pk D cx g hp hb hb' fun d cells' turn' h0 h1 D=>by
    obtain ⟨m,rfl⟩:=Int.eq_ofNat_of_zero_le h0
    exact h m cells' turn' h1 D
theorem d_pickP (cx:Cx A (n+4)) (g:Gr K B) (hp:own.Perm (DeckO c cl cells mixed turn ((a,.list (ls.map e))::rest))) (hs:List.Sublist rest' rest) (hd:(Nat.blt 0 ls.length && Nat.blt ls.length 1000)=true)
    (h:∀b cells' turn',b∈ls→DkOk cells' turn' m→Q (e b) (DeckO c cl cells' mixed turn' rest')):Call w B A (.ref 524) [.ref c,.ref a] own Q X:=by
  have hd:=Bool.and_eq_true_iff.mp hd
  have hl:=List.length_map e (as:=ls)
  refine Call.subPost (Call.pre (CallC.call (c_pick pk cx g (X:=X) D.t0 D.lt D.l (hl▸Nat.le_of_ble_eq_true hd.1) (hl▸Nat.le_of_ble_eq_true hd.2) fun k d cs h1 h2=>?_)) hp)
  obtain ⟨b,hb,rfl⟩:=List.mem_map.mp (List.mem_of_getElem? h1)
  exact ⟨_,_,.cons_cons _ (.cons_cons _ (.cons _ hs)),.refl _,h b cs (turn+1) hb (D.next h2)⟩
theorem d_pickM (cx:Cx A (n+4)) (g:Gr K B) (hp:Pick own (DeckO c cl cells mixed turn [(a,.list (ls.map e))]) rest) (hs:List.Sublist rest' rest) (hd:(Nat.blt 0 ls.length && Nat.blt ls.length 1000)=true)
    (h:∀b cells' turn',b∈ls→DkOk cells' turn' m→Q (e b) (DeckO c cl cells' mixed turn' rest')):Call w B A (.ref 524) [.ref c,.ref a] own Q X :=
  d_pickP pk D cx g (Pick.perm hp) hs hd h
end
theorem Code.lt {c b:Int}(h0:0≤c) (h:c<b) (e:decide (b≤16777216)=true):Code c:=⟨h0,Int.lt_of_lt_of_le h (of_decide_eq_true e)⟩
theorem sOf_len (l:List UInt8):(sOf l).length=l.length:=List.length_map _
theorem leS {l:List UInt8}{a:Nat}(h:l.length≤a):(sOf l).length≤a:=by rw [sOf_len];exact h
inductive Three {α β:Type}(R:α→β→Prop) (a b c:α) (l:List β):Prop
  | mk (x y z:β) (e:l=[x,y,z]) (h1:R a x) (h2:R b y) (h3:R c z)
theorem All2.three {α β:Type}{R:α→β→Prop}{a b c:α}{l:List β}(h:All2 R [a,b,c] l):Three R a b c l:=by
  cases h with
  | cons h1 t=>cases t with
    | cons h2 t=>cases t with
      | cons h3 t=>cases t with
        | nil=>exact ⟨_,_,_,rfl,h1,h2,h3⟩
structure ElI (ws:List Int) (m k:Nat) (x:List (List UInt8)×List Int×Int):Prop where
  A:All2 HexOf (ws.take k) x.1
  k3:k≤ws.length
  D:∀r,k+r=ws.length→DkOk x.2.1 x.2.2 (m+1+r)
theorem ElI.next {ws:List Int}{m k:Nat}{x:List (List UInt8)×List Int×Int}(h:ElI ws m k x) {i:Int}(hi:ws[k]?=some i):∃r,DkOk x.2.1 x.2.2 (m+1+r+1)∧∀bs cells turn,HexOf i bs→DkOk cells turn (m+1+r)→ElI ws m (k+1) (x.1++[bs],cells,turn):=by
  have hk:=(List.getElem?_eq_some_iff.mp hi).1
  have hr:k+1+(ws.length-(k+1))=ws.length:=Nat.add_sub_cancel' hk
  exact ⟨_,h.D _ ((Nat.succ_add_eq_add_succ k _).symm.trans hr),fun bs cells turn hb D=>⟨by rw [takeS hi];exact h.A.snoc hb,hk,fun r' e=>Nat.add_left_cancel (hr.trans e.symm)▸D⟩⟩
theorem elFin {d1 d2 d3:D}{b:Bool}{t:List Nat}{o:Own}(hs:List.Sublist own o) (hl:t.length≤25) (h:Q (.tup [.tup [d1,d2,d3,.bool b],.str ((([91]++(if b then [42] else [46]))++t)++[93])]) own) :
    retS (tupP (consL (bin .Add (loc 1) (tupP (consL (loc 0) nilL))) (consL (bin .Add (bin .Add (bin .Add (kD (.str [91])) (ite (tv (loc 0)) (kD (.str [42])) (kD (.str [46])))) (sliceP (loc 2) (kD (.int 1)) noPart noPart)) (kD (.str [93]))) nilL)))
      f [some (.bool b),some (.tup [d1,d2,d3]),some (.str (46::t))] o (VEnd Q):=by
  refine VOp.tup (fun h=>by cases h) (fun h=>by cases h) (Nat.le_of_ble_eq_true rfl) ?_
  cases b with
  | true =>
    refine ⟨_,rfl,br3 ?_⟩
    refine ⟨by decide,VSlice.str (l':=t) (sliceS_from (n:=1) (Nat.succ_pos _)) (leN (leCons hl) rfl) ?_⟩
    exact ⟨leSum (Nat.le_refl 2) hl rfl,leSum (leApp (Nat.le_refl 2) hl) (Nat.le_refl 1) rfl,VEnd.sub hs h⟩
  | false =>
    refine ⟨_,rfl,br1 ?_⟩
    refine ⟨by decide,VSlice.str (l':=t) (sliceS_from (n:=1) (Nat.succ_pos _)) (leN (leCons hl) rfl) ?_⟩
    exact ⟨leSum (Nat.le_refl 2) hl rfl,leSum (leApp (Nat.le_refl 2) hl) (Nat.le_refl 1) rfl,VEnd.sub hs h⟩
theorem c_law_element (pk:Parts K) {n:Nat}(cx:Cx A (n+6)) (g:Gr K B) {c cl:Addr}{cells:List Int}{mixed turn:Int}{m:Nat}(D:DkOk cells turn (m+8))
    (h:∀e t cells' turn',ElOk e→ElText e t→DkOk cells' turn' m→Q (.tup [elD e,.str t]) (DeckO c cl cells' mixed turn' own)):CallC w B A (.ref 541) [.ref c] (DeckO c cl cells mixed turn own) Q X:=by
  refine pk.fn pk.f_law_element pk.b_law_element cx g fun f W=>?_
  repeat' wtm_at "V"
  refine d_draw pk D (n:=n+2) W.cx W.gr (by wtm_at "Mp") (by decide) (by decide) fun v0 cells turn p0 p1 D=>?_
  repeat' wtm_at "V"
  refine d_draw pk D (n:=n+2) W.cx W.gr (by wtm_at "Mp") (by decide) (by decide) fun v1 cells turn q0 q1 D=>?_
  repeat' wtm_at "V"
  refine d_draw pk D (n:=n+2) W.cx W.gr (by wtm_at "Mp") (by decide) (by decide) fun v2 cells turn r0 r1 D=>?_
  repeat' wtm_at "V"
  refine d_draw pk D (n:=n+2) W.cx W.gr (by wtm_at "Mp") (by decide) (by decide) fun v3 cells turn s0 s1 D=>?_
  repeat' wtm_at "V"
  refine mJoin ?_
  have e2:0≤32+v2∧32+v2<400:=⟨Int.add_nonneg (by decide) r0,Int.lt_trans (Int.add_lt_add_left r1 32) (by decide)⟩
  generalize 32+v2=w2 at e2 ⊢
  have hcd:∀i∈[v1,w2,v3],Code i:=List.forall_mem_cons.mpr ⟨.lt q0 q1 rfl,List.forall_mem_cons.mpr ⟨.lt e2.1 e2.2 rfl,List.forall_mem_singleton.mpr (.lt s0 s1 rfl)⟩⟩
  refine VComp.st [v1,w2,v3] .int (ElI [v1,w2,v3] m) (fun x=>x.1.map fun h=>.str (46::sOf h)) (fun x=>DeckO c cl x.2.1 mixed x.2.2 ((f.cs 0,.cell (some (.ref c)))::own)) ([],cells,turn) False 0 .none (Iterable.tup W.cx.handled) (fun q_ q_ q_ q_ q_=>trivial)
    rfl rfl ⟨.nil,Nat.zero_le _,fun r e=>by cases (Nat.zero_add r).symm.trans e;exact D⟩ (Nat.le_of_ble_eq_true rfl) (fun k x h=>by rw [List.length_map,h.A.length,List.length_take];exact Nat.min_le_left ..) False.elim (fun k i x L env hi h=>?_) fun acc x h=>?_
  · refine br2 (cellI (.there (.there .here)) ?_)
    obtain ⟨r,D,hn⟩:=h.next hi
    refine d_draw pk D (n:=n+2) W.cx W.gr (by wtm_at "Mp") (by decide) (by decide) fun z cells turn z0 z1 D=>?_
    have hc:=hcd i (List.mem_of_getElem? hi)
    refine (c_law_hex (n:=n+3) pk W.cx W.gr hc.1 hc.2 fun bs hb=>?_).call
    exact ⟨leSum (Nat.le_refl 1) (leS hb.hi) rfl,VEnd.same ⟨(x.1++[bs],cells,turn),hn bs cells turn hb D,List.map_append ..,rfl⟩⟩
  obtain ⟨hs,cells,turn⟩:=x
  have D:DkOk cells turn (m+1):=h.D 0 rfl
  obtain ⟨h1,h2,h3,rfl,a1,a2,a3⟩:=All2.three (show All2 HexOf [v1,w2,v3] hs from h.A)
  clear h
  have l1:=a1.hi;have l2:=a2.hi;have l3:=a3.hi
  refine Call.sJoin (ls:=[46::sOf h1,46::sOf h2,46::sOf h3]) .here (by decide) (leSum (Nat.add_le_add (leCons (leS l1)) (Nat.add_le_add (leCons (leS l2)) (Nat.add_le_add (leCons (leS l3)) (Nat.le_refl 0)))) (Nat.le_refl 3) rfl) ?_
  have ej:joinG [] [46::sOf h1,46::sOf h2,46::sOf h3]=46::((((sOf h1++[46])++sOf h2)++[46])++sOf h3):=by simp [joinG]
  have lt:((((sOf h1++[46])++sOf h2)++[46])++sOf h3).length≤20:=leN (leApp (leApp (leApp (leApp (leS l1) (Nat.le_refl 1)) (leS l2)) (Nat.le_refl 1)) (leS l3)) rfl
  rw [ej]
  repeat' wtm_at "V"
  refine d_draw pk D (n:=n+2) W.cx W.gr (by wtm_at "Mp") (by decide) (by decide) fun x cells turn z0 z1 D=>?_
  have hq:∀y,y=[]∨y=[46,48,48,54,49]→Q _ (DeckO c cl cells mixed turn own):=fun y hy=>h (v1,w2,v3,v0 == 0) _ cells turn ⟨⟨q0,q1⟩,e2,⟨s0,s1⟩⟩ ⟨h1,h2,h3,y,a1,a2,a3,hy,rfl⟩ D
  refine ⟨fun hc=>?_,fun hc=>?_⟩
  · refine ⟨leSum (leCons lt) (Nat.le_refl 5) rfl,?_⟩
    exact elFin (.cons_cons _ (.cons_cons _ (.cons _ (.cons _ (.refl _))))) (leN (leApp lt (Nat.le_refl 5)) rfl) (hq [46,48,48,54,49] (.inr rfl))
  · have:=hq [] (.inl rfl)
    rw [List.append_nil] at this
    exact elFin (.cons_cons _ (.cons_cons _ (.cons _ (.cons _ (.refl _))))) (leN lt rfl) this
structure Tld where
  rows:List (List Int×List El)
  rgs:List (Int×Int×Int)
  ver:Bool
  firsts:List Int
noncomputable abbrev toldR (t:Tld):O:=.td (t.rows.map fun p=>(p.1,.lst (p.2.map elD)))
noncomputable abbrev ToldO (td tr tg tf:Addr) (t:Tld) (rest:Own):Own:=(td,.sd [("rows", .ref tr),("ranges", .ref tg),("version", .bool t.ver),("firsts", .ref tf)])::(tr,toldR t)::(tg,.list (t.rgs.map rowD))::(tf,.list (t.firsts.map .int))::rest
structure TldOk (t:Tld) (k:Nat):Prop where
  rows:t.rows.length≤k
  rgs:t.rgs.length≤k
  firsts:t.firsts.length≤3
  codes:∀a∈t.firsts,0≤a∧a<1000000
noncomputable abbrev pBlank:List (List Nat):=[[],[35,32,97,32,114,101,109,97,114,107,32,59,32,91],[32,32],[9,35,32,120],[35]]
noncomputable abbrev pVer:List Nat:=[64,118,101,114,115,105,111,110,32,49,53,46,49,46,48]
noncomputable abbrev pImp:List Nat:=[64,105,109,112,108,105,99,105,116,119,101,105,103,104,116,115,32]
noncomputable abbrev keyTails:List (List Nat):=[[],[32,35,32,65],[35],[13]]
inductive RowOk (t:Tld):List Nat→Tld→Prop
  | blank {p} (h:p∈pBlank):RowOk t p t
  | ver (h:t.ver=false):RowOk t pVer {t with ver:=true }
  | rng {k:Nat}{a b d:Int}{ha hl hb:List UInt8}{e:List Nat}(h1:t.firsts[k]?=some a) (h2:b=64256∨b=64257) (h3:d∈[(0:Int),1,7,39]) (h4:HexOf a ha) (h5:HexOf (a+d) hl) (h6:HexOf b hb) (h7:e∈[[],[32,35,32,98,97,115,101]]) :
      RowOk t ((((pImp++(sOf ha++if 0<d then [46,46]++sOf hl else []))++[59,32])++sOf hb)++e) {t with rgs:=t.rgs++[(a,a+d,b)],firsts:=t.firsts.eraseIdx k }
  | keys {cs:List Int}{l:List (El×List Nat)}{hs:List (List UInt8)}{bl tl:List Nat}(h1:∀c∈cs,c∈[(97:Int),98,769,128512]) (h2:0<cs.length∧cs.length≤3) (h3:0<l.length∧l.length≤2) (h4:All2 HexOf cs hs) (h5:∀p∈l,ElOk p.1∧ElText p.1 p.2) (h7:bl∈[[32],[],[32,32]]) (h8:tl∈keyTails) :
      RowOk t (((((joinG [32] (hs.map sOf)++bl)++[59])++bl)++joinG [] (l.map (·.2)))++tl) {t with rows:=putK t.rows cs (l.map (·.1)) }
theorem slice1 (p:List Nat):Txt.slice ⟨p.toArray⟩ none (some 1)=⟨(p.take 1).toArray⟩:=by
  cases p with
  | nil=>rfl
  | cons x r=>exact sliceS_upto (n:=1) (by simp)
@[reducible] noncomputable def rowTail:ST:=(seqS (asgS (callP  (.type "tuple") (consL (compP [".0", "k"] (tgtS (.loc 1)) nilAnd (callP  (.ref 524) (consL (cellP 0) (consL (listP (consL (kD (.int 97)) (consL (kD (.int 98)) (consL (kD (.int 769)) (consL (kD (.int 128512)) nilL))))) nilL))) (callP  (.type "range") (consL (callP  (.ref 524) (consL (cellP 0) (consL (listP (consL (kD (.int 1)) (consL (kD (.int 1)) (consL (kD (.int 2)) (consL (kD (.int 3)) nilL))))) nilL))) nilL))) nilL)) (tgtS (.loc 6))) (seqS (asgC [".0", "k"] (tgtS (.loc 1)) nilAnd (callP  (.ref 541) (consL (cellP 0) nilL)) (callP  (.type "range") (consL (callP  (.ref 524) (consL (cellP 0) (consL (listP (consL (kD (.int 1)) (consL (kD (.int 1)) (consL (kD (.int 2)) nilL)))) nilL))) nilL)) (.loc 7)) (seqS (asgI (compP [".0", "one"] (tgtS (.loc 1)) nilAnd (subP (loc 1) (kD (.int 0))) (loc 7)) (subP (loc 0) (kD (.str (Str.ofString "rows").cps.toList))) (loc 6)) (seqS (asgS (methP (kD (.str [32])) "join" (consL (compP [".0", "code"] (tgtS (.loc 1)) nilAnd (callP  (.ref 536) (consL (loc 1) (consL (kD (.int 4)) (consL (ofB (cmp .Eq (callP  (.ref 517) (consL (cellP 0) (consL (kD (.int 2)) nilL))) (kD (.int 0)))) nilL)))) (loc 6)) nilL)) (tgtS (.loc 2))) (seqS (asgS (callP  (.ref 524) (consL (cellP 0) (consL (listP (consL (kD (.str [32])) (consL (kD (.str [])) (consL (kD (.str [32,32])) nilL)))) nilL))) (tgtS (.loc 8))) (seqS (retS (bin .Add (bin .Add (bin .Add (bin .Add (bin .Add (loc 2) (loc 8)) (kD (.str [59]))) (loc 8)) (methP (kD (.str [])) "join" (consL (compP [".0", "one"] (tgtS (.loc 1)) nilAnd (subP (loc 1) (kD (.int 1))) (loc 7)) nilL))) (callP  (.ref 524) (consL (cellP 0) (consL (listP (consL (kD (.str [])) (consL (kD (.str [32,35,32,65])) (consL (kD (.str [35])) (consL (kD (.str [13])) nilL))))) nilL))))) nilS))))))
theorem roll {α:Type}{p q1 q2:α}{l:List α}:(p::q1::q2::l).Perm (q1::q2::p::l):=(List.Perm.swap ..).trans (.cons _ (.swap ..))
theorem ElText.len {e:El}{t:List Nat}(h:ElText e t):t.length≤40:=by
  obtain ⟨h1,h2,h3,x,a1,a2,a3,hx,rfl⟩:=h
  have lx:x.length≤5:=by rcases hx with rfl | rfl <;> decide
  have ly:(if e.2.2.2 then [(42:Nat)] else [46]).length≤1:=by cases e.2.2.2 <;> exact Nat.le_refl 1
  exact leN (leApp (leApp (leApp (Nat.le_refl 1) ly) (leApp (leApp (leApp (leApp (leApp (leS a1.hi) (Nat.le_refl 1)) (leS a2.hi)) (Nat.le_refl 1)) (leS a3.hi)) lx)) (Nat.le_refl 1)) rfl
theorem sum_le {α:Type}{l:List (List α)}{b:Nat}(h:∀x∈l,x.length≤b):(l.map List.length).sum≤b*l.length:=by
  induction l with
  | nil=>exact Nat.zero_le _
  | cons x r ih =>
    rw [List.map_cons,List.sum_cons,List.length_cons,Nat.mul_succ,Nat.add_comm]
    exact Nat.add_le_add (ih fun y hy=>h y (.tail _ hy)) (h x (.head _))
theorem All2.right {α β:Type}{R:α→β→Prop}{l:List α}{m:List β}(h:All2 R l m):∀b∈m,∃a∈l,R a b:=by
  induction h with
  | nil=>intro b hb;cases hb
  | cons h t ih =>
    intro b hb
    rcases List.mem_cons.mp hb with rfl | hb
    · exact ⟨_,.head _,h⟩
    · obtain ⟨a,ha,hr⟩:=ih b hb
      exact ⟨a,.tail _ ha,hr⟩
theorem All2.len {α β:Type}{R:α→β→Prop}{l:List α}{m:List β}(h:All2 R l m):m.length=l.length:=by
  induction h with
  | nil=>rfl
  | cons h t ih=>exact congrArg (·+1) ih
structure Inn (f f':Fm):Prop where
  A:f'.A=f.A
  B:f'.B=f.B
  cs:f'.cs=f.cs
theorem Inn.cx {f f':Fm}{n:Nat}(h:Inn f f') (W:Wk K f n):Cx f'.A n:=h.A.symm▸W.cx
theorem Inn.gr {f f':Fm}{n:Nat}(h:Inn f f') (W:Wk K f n):Gr K f'.B:=h.B.symm▸W.gr
theorem Inn.cell {f f':Fm}{i:Nat}{d:D}(h:Inn f f') (hh:Has own (f.cs i) (.cell (some d))) (q:Q d own):∃d,Has own (f'.cs i) (.cell (some d))∧Q d own:=⟨d,h.cs.symm▸hh,q⟩
theorem deckComp {α β:Type}{ln:List Str}{tt:TT}{elt:PT}{dx:D}{F:Addr→Own→Prop}{C:Own→Prop}{c cl:Addr}{cells:List Int}{mixed turn:Int}{m b:Nat}{rest:Own}(pre:Own) (s t:Nat) (l:List α) (src:α→D) (dst:β→D) (R:α→β→Prop) (it:Iterable f.w f.B f.A dx (l.map src) C) (hC:∀o',(∀p∈rest,p∈o')→C o') (hz:l.length≤b) (hb':Nat.ble b 1000=true) (ht:Nat.ble (s*b) t=true) (D:DkOk cells turn (m+t))
    (hb:∀a∈l,∀f',Inn f f'→∀(cells:List Int) (turn:Int) (m:Nat),DkOk cells turn (m+s)→∀(G:Own→Prop) (Tq:Mine.D→Own→Prop),(∀b cells turn,R a b→DkOk cells turn m→Tq (dst b) (pre++DeckO c cl cells mixed turn rest)) →
      tt f' (nones ln) (pre++DeckO c cl cells mixed turn rest) (src a) fun v o=>nilAnd f' v o fun ok o=>(ok=false→G o)∧(ok=true→elt f' v o fun y o=>∃y' o',Yield y o y' o'∧Tq y' o'))
    (h':∀ms cells turn acc,All2 R l ms→DkOk cells turn m→F acc ((acc,.list (ms.map dst))::(pre++DeckO c cl cells mixed turn rest))):VComp f ln tt nilAnd elt v (pre++DeckO c cl cells mixed turn rest) dx F:=by
  refine VComp.mk (l.map src) C (fun k=>NextS (fun (x:List β×List Int×Int)=>All2 R (l.take k) x.1∧∀r,k+r=l.length→DkOk x.2.1 x.2.2 (m+s*r)) (fun x=>x.1.map dst) (fun x=>pre++DeckO c cl x.2.1 mixed x.2.2 rest)) False 0 .none it (fun k r o q o' ho=>?_) ⟨([],cells,turn),⟨.nil,fun r e=>?_⟩,rfl,rfl⟩ (by rw [List.length_map];exact Nat.le_trans hz (leN (Nat.le_of_ble_eq_true hb') rfl)) (fun k r o q=>?_) False.elim (fun k e r o L env hk q f' hf=>?_) fun acc r o q=>?_
  · obtain ⟨x,h,rfl,rfl⟩:=q
    exact hC o' fun p hp=>ho p (List.mem_append_right _ (.tail _ (.tail _ hp)))
  · cases (Nat.zero_add r).symm.trans e
    exact D.low (Nat.add_le_add_left (Nat.le_trans (Nat.mul_le_mul_left s hz) (Nat.le_of_ble_eq_true ht)) m)
  · obtain ⟨x,h,rfl,rfl⟩:=q
    rw [List.length_map,h.1.len,List.length_take]
    exact Nat.min_le_left ..
  · obtain ⟨x,h,rfl,rfl⟩:=q
    obtain ⟨a,ha,rfl⟩:=mapGet hk
    have hr:k+1+(l.length-(k+1))=l.length:=Nat.add_sub_cancel' (List.getElem?_eq_some_iff.mp ha).1
    have D:=h.2 _ ((Nat.succ_add_eq_add_succ k _).symm.trans hr)
    rw [Nat.mul_succ,← Nat.add_assoc] at D
    exact hb a (List.mem_of_getElem? ha) f' ⟨by rw [hf],by rw [hf],by rw [hf]⟩ x.2.1 x.2.2 _ D _ _ fun b cells turn hR D=>⟨(x.1++[b],cells,turn),⟨by rw [takeS ha];exact h.1.snoc hR,fun r' e=>Nat.add_left_cancel (hr.trans e.symm)▸D⟩,List.map_append ..,rfl⟩
  · obtain ⟨x,h,rfl,rfl⟩:=q
    rw [List.length_map] at h
    have h1:=h.1
    rw [List.take_length] at h1
    exact h' x.1 x.2.1 x.2.2 acc h1 (h.2 0 rfl)
theorem rangeComp {β:Type}{ln:List Str}{tt:TT}{elt:PT}{F:Addr→Own→Prop}{c cl:Addr}{cells:List Int}{mixed turn:Int}{k m b:Nat}{rest:Own}(hh:f.A.handled=none) (s t:Nat) (dst:β→D) (R:β→Prop) (hz:k≤b) (hb':Nat.ble b 1000=true) (ht:Nat.ble (s*b) t=true) (D:DkOk cells turn (m+t))
    (hb:∀(z:Addr×O) (i:Nat) f',Inn f f'→∀(cells:List Int) (turn:Int) (m:Nat),DkOk cells turn (m+s)→∀(G:Own→Prop) (Tq:Mine.D→Own→Prop),(∀b cells turn,R b→DkOk cells turn m→Tq (dst b) (DeckO c cl cells mixed turn (z::rest))) →
      tt f' (nones ln) (DeckO c cl cells mixed turn (z::rest)) (.int i) fun v o=>nilAnd f' v o fun ok o=>(ok=false→G o)∧(ok=true→elt f' v o fun y o=>∃y' o',Yield y o y' o'∧Tq y' o'))
    (h':∀z ms cells turn acc,List.length ms=k→(∀x∈ms,R x)→DkOk cells turn m→F acc ((acc,.list (ms.map dst))::DeckO c cl cells mixed turn (z::rest))):VCall f v (.type "range") [.int k] (DeckO c cl cells mixed turn rest) fun dx o=>VComp f ln tt nilAnd elt v o dx F :=
  Call.permPost (Call.range fun r t1 t2 t3=>⟨_,roll,deckComp [] s t (List.range k) (fun (i:Nat)=>.int i) dst (fun q_=>R) (Iterable.range hh (Nat.le_trans hz (Nat.le_of_ble_eq_true hb')) (r:=r) (t:=t1) (u:=t2) (v:=t3)) (fun o' hs=>Has.of_mem (hs _ (.head _))) (by rw [List.length_range];exact hz) hb' ht D
    (fun a q_=>hb _ a) fun ms cells turn acc hm=>h' _ ms cells turn acc (hm.len.trans List.length_range) fun x hx=>by obtain ⟨_,_,q⟩:=hm.right x hx;exact q⟩)
theorem sJoinM {β:Type}{c:Addr}{sep:List Nat}{l:List β}(g:β→List Nat) (ho:Has own c (.list (l.map fun b=>.str (g b)))) (hs:sep.length≤16) (hw:((l.map g).map List.length).sum+(l.map g).length≤1048576) (h:Q (.str (joinG sep (l.map g))) own):Call w B A (.builtin "str.join") [.str sep,.ref c] own Q X :=
  Call.sJoin (ls:=l.map g) (ho.eqL (by rw [List.map_map];rfl)) hs hw h
theorem of3:∀m∈[1,1,2,3],0<m∧m≤3:=by decide
theorem of2:∀m∈[1,1,2],0<m∧m≤2:=by decide
theorem lenBl:∀b∈[[32],[],[(32:Nat),32]],b.length≤2:=by decide
theorem lenTl:∀b∈keyTails,b.length≤4:=by decide
theorem code4:∀c∈[(97:Int),98,769,128512],Code c:=by decide
structure RowZ (hs:List (List UInt8)) (l:List (El×List Nat)):Prop where
  s1:((hs.map sOf).map List.length).sum+(hs.map sOf).length≤1048576
  jl:(joinG [32] (hs.map sOf)).length≤21
  s2:((l.map (·.2)).map List.length).sum+(l.map (·.2)).length≤1048576
  tl:(joinG [] (l.map (·.2))).length≤82
theorem rowZ {cs:List Int}{hs:List (List UInt8)}{l:List (El×List Nat)}(hhs:All2 HexOf cs hs) (hc:cs.length≤3) (hlm:∀p∈l,ElOk p.1∧ElText p.1 p.2) (hl:l.length≤2):RowZ hs l:=by
  have hhl:=hhs.len
  have h6:∀x∈hs.map sOf,x.length≤6:=fun x hx=>by
    obtain ⟨y,hy,rfl⟩:=List.mem_map.mp hx
    obtain ⟨_,_,q⟩:=hhs.right y hy
    rw [sOf_len];exact q.hi
  have h40:∀x∈l.map (·.2),x.length≤40:=fun x hx=>by
    obtain ⟨y,hy,rfl⟩:=List.mem_map.mp hx
    exact (hlm y hy).2.len
  have hjs:=sum_le h6
  have hjl:=joinG_le [32] 6 (Nat.le_refl _) _ h6
  have htl:=joinG_le [] 40 (Nat.zero_le _) _ h40
  have hts:=sum_le h40
  rw [List.length_map] at hjs hjl htl hts
  have n1:=Nat.le_trans (Nat.le_of_eq hhl) hc
  exact ⟨leSum (Nat.le_trans hjs (Nat.mul_le_mul_left 6 n1)) (leMap n1) rfl,Nat.le_trans hjl (Nat.mul_le_mul_left 7 n1),leSum (Nat.le_trans hts (Nat.mul_le_mul_left 40 hl)) (leMap hl) rfl,Nat.le_trans htl (Nat.mul_le_mul_left 41 hl)⟩
theorem c_rowTail (pk:Parts K) {n:Nat}(W:Wk K f (n+7)) {c cl td tr tg tf:Addr}{cells:List Int}{mixed turn:Int}{m:Nat}{t:Tld}{k:Nat}{way:Int}{o jk:Own}(D:DkOk cells turn (m+40)) (to:TldOk t k) (hk:k≤900)
    (hc:Has o (f.cs 0) (.cell (some (.ref c)))) (hp:o.Perm (DeckO c cl cells mixed turn ((f.cs 0,.cell (some (.ref c)))::ToldO td tr tg tf t (jk++own))))
    (h:∀p t' cells' turn',RowOk t p t'→DkOk cells' turn' m→Q (.str p) (DeckO c cl cells' mixed turn' (ToldO td tr tg tf t' own))):rowTail f [some (.ref td),some (.int way),none,none,none,none,none,none,none] o (VEnd Q):=by
  refine cellI hc ?_
  intro a
  refine d_pickP pk D (n:=n+3) (e:=fun (i:Nat)=>.int i) (ls:=[1,1,2,3]) W.cx W.gr ((hp.cons _).trans roll) (.cons_cons _ (.cons_cons _ (.cons_cons _ (.cons_cons _ (.cons_cons _ (List.sublist_append_right jk own)))))) rfl fun k1 cells turn hm D=>?_
  replace hm:=of3 k1 hm
  repeat' wtm_at "V"
  refine rangeComp W.cx.handled 1 3 .int (·∈[(97:Int),98,769,128512]) hm.2 rfl rfl D (fun z i f' hf cells turn k D G Tq hq=>?_) fun z cs cells turn acc hcl hcm D=>?_
  · refine br2 (hf.cell (.there (.there (.there .here))) ?_)
    intro a'
    refine d_pickM pk D (n:=n+3) (e:=.int) (ls:=[(97:Int),98,769,128512]) (hf.cx W) (hf.gr W) (by wtm_at "Mp") (.refl _) rfl fun i cells turn hi D=>?_
    exact VEnd.same (hq i _ _ hi D)
  have hc3:cs.length≤3:=hcl▸hm.2
  refine Call.tupleOfList .here (leN (leMap hc3) rfl) ?_
  repeat' wtm_at "V"
  intro a2
  refine d_pickM pk D (n:=n+3) (e:=fun (i:Nat)=>.int i) (ls:=[1,1,2]) W.cx W.gr (by wtm_at "Mp") (.cons _ (.cons _ (.refl _))) rfl fun k2 cells turn hm2 D=>?_
  replace hm2:=of2 k2 hm2
  repeat' wtm_at "V"
  refine rangeComp W.cx.handled 8 16 (fun (p:El×List Nat)=>.tup [elD p.1,.str p.2]) (fun p=>ElOk p.1∧ElText p.1 p.2) hm2.2 rfl rfl D (fun z i f' hf cells turn k D G Tq hq=>?_) fun z l cells turn acc2 hll hlm D=>?_
  · refine br2 (hf.cell (.there (.there (.there .here))) ?_)
    exact (c_law_element (n:=n+1) pk (hf.cx W) (hf.gr W) D fun e t cells turn h1 h2 D=>VEnd.same (hq (e,t) _ _ ⟨h1,h2⟩ D)).call
  have hl2:l.length≤2:=hll▸hm2.2
  repeat' wtm_at "V"
  refine VComp.map l (fun p=>.tup [elD p.1,.str p.2]) (fun p=>elD p.1) (Iterable.list W.cx.handled (ax:=acc2)) (fun o' hs=>Has.of_mem (hs _ (.head _))) (leN hl2 rfl) (fun p hp L env f' hf G Tq hq=>?_) fun acc3=>?_
  · clear hf
    repeat' wtm_at "V"
    exact VEnd.same hq
  repeat' wtm_at "V"
  rw [show l.map (fun p=>elD p.1)=(l.map (·.1)).map elD by rw [List.map_map];rfl]
  refine VSetItem.still (.list .here (.done (.refl _))) (VSetItem.td (l:=t.rows.map fun p=>(p.1,Mine.D.lst (p.2.map elD))) W.cx.line1 (by wtm_at "M") (leN (leMap (Nat.le_trans to.rows hk)) rfl) ?_)
  rw [storeD_map fun es:List El=>Mine.D.lst (es.map elD)]
  repeat' wtm_at "V"
  refine mJoin ?_
  refine deckComp [_] 1 3 cs .int (fun bs=>.str (sOf bs)) HexOf (Iterable.tup W.cx.handled) (fun q_ q_=>trivial) hc3 rfl rfl D (fun co hco f' hf cells turn k D G Tq hq=>?_) fun hs cells turn acc4 hhs D=>?_
  · have hcd:=code4 co (hcm co hco)
    refine br2 (hf.cell (.there (.there (.there (.there .here)))) ?_)
    refine Call.permPost (d_draw pk D (n:=n+4) (hf.cx W) (hf.gr W) (by wtm_at "Mp") (by decide) (by decide) fun x cells turn z0 z1 D=>⟨_,roll.symm,?_⟩)
    exact (c_law_hex (n:=n+5) pk (hf.cx W) (hf.gr W) hcd.1 hcd.2 fun bs hb=>VEnd.same (hq bs _ _ hb D)).call
  repeat' wtm_at "V"
  have Z:=rowZ hhs hc3 hlm hl2
  refine sJoinM sOf .here (by decide) Z.s1 ?_
  have hjl:=Z.jl
  have htl:=Z.tl
  repeat' wtm_at "V"
  intro a5
  refine d_pickM pk D (n:=n+3) (e:=.str) (ls:=[[32],[],[32,32]]) W.cx W.gr (by wtm_at "Mp") (.cons _ (.cons_cons _ (.cons _ (.refl _)))) rfl fun bl cells turn hk7 D=>?_
  have lbl:=lenBl bl hk7
  repeat' wtm_at "V"
  refine mJoin ?_
  refine VComp.map l (fun p=>.tup [elD p.1,.str p.2]) (fun p=>.str p.2) (Iterable.list W.cx.handled (ax:=acc2)) (fun o' hs=>Has.of_mem (hs _ (.tail _ (.tail _ (.head _))))) (leN hl2 rfl) (fun p hp L env f' hf G Tq hq=>?_) fun acc5=>?_
  · clear hf
    repeat' wtm_at "V"
    exact VEnd.same hq
  refine sJoinM (fun p:El×List Nat=>p.2) .here (by decide) Z.s2 ?_
  repeat' wtm_at "V"
  intro a6
  refine d_pickM pk D (n:=n+3) (e:=.str) (ls:=keyTails) W.cx W.gr (by wtm_at "Mp") (.cons _ (.cons _ (.cons _ (.refl _)))) rfl fun tl cells turn hk8 D=>?_
  have ltl:=lenTl tl hk8
  repeat' wtm_at "V"
  exact VEnd.same (h _ _ cells turn (RowOk.keys hcm ⟨hcl▸hm.1,hc3⟩ ⟨hll▸hm2.1,hl2⟩ hhs hlm hk7 hk8) (D.low (Nat.le_add_right ..)))
theorem eraseIdx_map' {α β:Type}(g:α→β):∀(l:List α) (k:Nat),(l.map g).eraseIdx k=(l.eraseIdx k).map g
  | [],_=>rfl
  | _::_,0=>rfl
  | x::l,k+1=>congrArg (g x::·) (eraseIdx_map' g l k)
noncomputable abbrev pRem:List (List Nat):=[[],[35,32,97,32,114,101,109,97,114,107,32,59,32,91],[32,32],pVer,[9,35,32,120]]
theorem lenRem:∀p∈pRem,p.length≤1048576:=by decide
theorem remBlank:∀p∈pRem,(p.take 1 == [64])=false→p∈pBlank:=by decide
theorem remVer:∀p∈pRem,(p.take 1 == [64])=true→pVer=p:=by decide
theorem two64:∀b∈[(64256:Int),64257],b=64256∨b=64257:=by decide
theorem four39:∀d∈[(0:Int),1,7,39],0≤d∧d≤39:=by decide
theorem lenEnd:∀b∈[[],[(32:Nat),35,32,98,97,115,101]],b.length≤7:=by decide
theorem Call.popMap {α:Type}{l:List α}{g:α→D}{a:α}{k:Nat}{c:Addr}(hd:l[k]?=some a) (ho:Put own c (.list (l.map g)) (.list ((l.eraseIdx k).map g)) own') (hz:l.length≤16777216) (h:Q (g a) own'):Call w B A (.builtin "list.pop") [.ref c,.int (k:Int)] own Q X :=
  Call.popAt (Int.natCast_nonneg k) (by rw [Int.toNat_natCast,eraseIdx_map'];exact ho) (by rw [Int.toNat_natCast,List.getElem?_map,hd];rfl) (leMap hz) h
theorem Call.appendMap {α:Type}{l:List α}(g:α→D) (a:α) {c:Addr}(ho:Put own c (.list (l.map g)) (.list ((l++[a]).map g)) own') (hz:l.length≤16777216) (h:Q .none own'):Call w B A (.builtin "list.append") [.ref c,g a] own Q X :=
  Call.append (by rw [List.map_append] at ho;exact ho) (leMap hz) h
@[reducible] noncomputable def rangeEndS:ST:=(seqS (retS (bin .Add (bin .Add (bin .Add (bin .Add (kD (.str [64,105,109,112,108,105,99,105,116,119,101,105,103,104,116,115,32])) (loc 2)) (kD (.str [59,32]))) (callP  (.ref 536) (consL (loc 4) (consL (kD (.int 4)) (consL (kD (.bool true)) nilL))))) (callP  (.ref 524) (consL (cellP 0) (consL (listP (consL (kD (.str [])) (consL (kD (.str [32,35,32,98,97,115,101])) nilL))) nilL))))) nilS)
theorem rangeEnd (pk:Parts K) {n:Nat}(W:Wk K f (n+7)) {c cl:Addr}{cells:List Int}{mixed turn b:Int}{m:Nat}{pg:List Nat}{d0 d1 d3 d5 d6 d7 d8:Option D}{Q':Fl→Vals→Own→Prop}(D:DkOk cells turn (m+1)) (hb:Code b) (lp:pg.length≤14)
    (h:∀hl e cells' turn' v,HexOf b hl→e∈[[],[(32:Nat),35,32,98,97,115,101]]→DkOk cells' turn' m→Q' (.ret (.str ((((pImp++pg)++[59,32])++sOf hl)++e))) v (DeckO c cl cells' mixed turn' own)) :
    rangeEndS f [d0,d1,some (.str pg),d3,some (.int b),d5,d6,d7,d8] (DeckO c cl cells mixed turn ((f.cs 0,.cell (some (.ref c)))::own)) Q':=by
  have li:pImp.length≤17:=Nat.le_refl 17
  repeat' wtm_at "V"
  refine (c_law_hex (n:=n+5) pk W.cx W.gr hb.1 hb.2 fun hb' hhb=>?_).call
  have l2:=hhb.hi
  repeat' wtm_at "V"
  intro a3
  refine d_pickM pk D (n:=n+3) (e:=.str) (ls:=[[],[32,35,32,98,97,115,101]]) W.cx W.gr (by wtm_at "Mp") (.cons _ (.refl _)) rfl fun e' cells turn he2 D=>?_
  have le:=lenEnd e' he2
  repeat' wtm_at "V"
  exact h hb' e' cells turn _ hhb he2 D
@[reducible] noncomputable def rowRange:ST:=(seqS (asgS (methP (subP (loc 0) (kD (.str (Str.ofString "firsts").cps.toList))) "pop" (consL (callP  (.ref 517) (consL (cellP 0) (consL (callP  (.builtin "len") (consL (subP (loc 0) (kD (.str (Str.ofString "firsts").cps.toList))) nilL)) nilL))) nilL)) (tgtS (.loc 3))) (seqS (asgS (callP  (.ref 524) (consL (cellP 0) (consL (listP (consL (kD (.int 64256)) (consL (kD (.int 64257)) nilL))) nilL))) (tgtS (.loc 4))) (seqS (asgS (bin .Add (loc 3) (callP  (.ref 524) (consL (cellP 0) (consL (listP (consL (kD (.int 0)) (consL (kD (.int 1)) (consL (kD (.int 7)) (consL (kD (.int 39)) nilL))))) nilL)))) (tgtS (.loc 5))) (seqS (exprS (methP (subP (loc 0) (kD (.str (Str.ofString "ranges").cps.toList))) "append" (consL (tupP (consL (loc 3) (consL (loc 5) (consL (loc 4) nilL)))) nilL))) (seqS (asgS (bin .Add (callP  (.ref 536) (consL (loc 3) (consL (kD (.int 4)) (consL (kD (.bool true)) nilL)))) (ite (cmp .Gt (loc 5) (loc 3)) (bin .Add (kD (.str [46,46])) (callP  (.ref 536) (consL (loc 5) (consL (kD (.int 4)) (consL (kD (.bool true)) nilL))))) (kD (.str [])))) (tgtS (.loc 2))) (seqS (retS (bin .Add (bin .Add (bin .Add (bin .Add (kD (.str [64,105,109,112,108,105,99,105,116,119,101,105,103,104,116,115,32])) (loc 2)) (kD (.str [59,32]))) (callP  (.ref 536) (consL (loc 4) (consL (kD (.int 4)) (consL (kD (.bool true)) nilL))))) (callP  (.ref 524) (consL (cellP 0) (consL (listP (consL (kD (.str [])) (consL (kD (.str [32,35,32,98,97,115,101])) nilL))) nilL))))) nilS))))))
theorem c_rowRange (pk:Parts K) {n:Nat}(W:Wk K f (n+7)) {c cl td tr tg tf:Addr}{cells:List Int}{mixed turn:Int}{m:Nat}{t:Tld}{k:Nat}{way:Option D}{j:Addr×O}{Q':Fl→Vals→Own→Prop}(D:DkOk cells turn (m+4)) (to:TldOk t k) (hk:k≤900) (hf0:0<t.firsts.length)
    (h:∀p t' cells' turn' v,RowOk t p t'→DkOk cells' turn' m→Q' (.ret (.str p)) v (DeckO c cl cells' mixed turn' (ToldO td tr tg tf t' own))) :
    rowRange f [some (.ref td),way,none,none,none,none,none,none,none] (j::DeckO c cl cells mixed turn ((f.cs 0,.cell (some (.ref c)))::ToldO td tr tg tf t own)) Q':=by
  have hfl:=to.firsts
  have hfz:t.firsts.length≤16777216:=leN hfl rfl
  repeat' wtm_at "V"
  refine d_drawN pk D (n:=n+4) W.cx W.gr (by wtm_at "Mp") (Int.ofNat_lt.mpr hf0) (Int.lt_of_le_of_lt (Int.ofNat_le.mpr hfl) (by decide)) fun at' cells turn z1 D=>?_
  have hget:=List.getElem?_eq_getElem (Int.ofNat_lt.mp z1)
  have hac:=to.codes _ (List.getElem_mem (Int.ofNat_lt.mp z1))
  generalize t.firsts[at']=a at hget hac
  refine Call.popMap hget (by wtm_at "M") hfz ?_
  repeat' wtm_at "V"
  intro a1
  refine d_pickM pk D (n:=n+3) (e:=.int) (ls:=[(64256:Int),64257]) W.cx W.gr (by wtm_at "Mp") (.cons _ (.refl _)) rfl fun b cells turn hb D=>?_
  have hb2:=two64 b hb
  repeat' wtm_at "V"
  intro a2
  refine d_pickM pk D (n:=n+3) (e:=.int) (ls:=[(0:Int),1,7,39]) W.cx W.gr (by wtm_at "Mp") (.refl _) rfl fun d cells turn hd2 D=>?_
  obtain ⟨d0,d1⟩:=four39 d hd2
  repeat' wtm_at "V"
  refine Call.appendMap rowD (a,a+d,b) (by wtm_at "M") (leN (Nat.le_trans to.rgs hk) rfl) ?_
  repeat' wtm_at "V"
  refine (c_law_hex (n:=n+5) pk W.cx W.gr hac.1 (Int.lt_trans hac.2 (by decide)) fun ha hha=>?_).call
  have l1:=hha.hi
  have hcd:Code (a+d):=.lt (Int.add_nonneg hac.1 d0) (Int.add_lt_add_of_lt_of_le hac.2 d1) rfl
  have hcb:Code b:=hb2.elim (fun e=>e▸by decide) fun e=>e▸by decide
  have fin:∀hl,HexOf (a+d) hl→∀hb' e' cells' turn' v,HexOf b hb'→e'∈[[],[(32:Nat),35,32,98,97,115,101]]→DkOk cells' turn' m→Q' _ v _:=fun hl hhl hb' e' cells' turn' v hhb he2 D=>h _ _ cells' turn' v (RowOk.rng hget hb2 hd2 hha hhl hhb he2) D
  refine ⟨fun hc=>?_,fun hc=>?_⟩
  · refine (c_law_hex (n:=n+5) pk W.cx W.gr hcd.1 hcd.2 fun hl hhl=>?_).call
    have fin:=fin hl hhl
    rw [if_pos (show 0<d from Int.le_of_add_le_add_left (a:=a) (of_decide_eq_true hc:a+1≤a+d))] at fin
    have l3:=hhl.hi
    exact ⟨leSum (Nat.le_refl 2) (leS l3) rfl,leSum (leS l1) (leApp (Nat.le_refl 2) (leS l3)) rfl,rangeEnd (n:=n) pk W D hcb (leN (leApp (leS l1) (leApp (Nat.le_refl 2) (leS l3))) rfl) fin⟩
  · have e0:d=0:=Int.le_antisymm (Int.le_of_add_le_add_left (a:=a) (by rw [Int.add_zero];exact Int.not_lt.mp (of_decide_eq_false hc))) d0
    have fin:=fin ha (by rw [e0,Int.add_zero];exact hha)
    rw [if_neg (by rw [e0];decide)] at fin
    exact ⟨leSum (leS l1) (Nat.le_refl 0) rfl,rangeEnd (n:=n) pk W D hcb (leN (leApp (leS l1) (Nat.le_refl 0)) rfl) fin⟩
theorem c_law_row (pk:Parts K) {n:Nat}(cx:Cx A (n+8)) (g:Gr K B) {c cl td tr tg tf:Addr}{cells:List Int}{mixed turn:Int}{m:Nat}{t:Tld}{k:Nat}(D:DkOk cells turn (m+50)) (to:TldOk t k) (hk:k≤900)
    (h:∀p t' cells' turn',RowOk t p t'→DkOk cells' turn' m→Q (.str p) (DeckO c cl cells' mixed turn' (ToldO td tr tg tf t' own))):CallC w B A (.ref 546) [.ref c,.ref td] (DeckO c cl cells mixed turn (ToldO td tr tg tf t own)) Q X:=by
  refine pk.fn pk.f_law_row pk.b_law_row cx g fun f W=>?_
  repeat' wtm_at "V"
  refine d_draw pk D (n:=n+4) W.cx W.gr (by wtm_at "Mp") (by decide) (by decide) fun way cells turn w0 w1 D=>?_
  refine ⟨fun hc0=>?_,fun hc0=>?_⟩
  · repeat' wtm_at "V"
    intro a
    refine d_pickM pk D (n:=n+3) (e:=.str) (ls:=pRem) W.cx W.gr (by wtm_at "Mp") (.cons _ (.refl _)) rfl fun p cells turn hp D=>?_
    have lp:=lenRem p hp
    have D:=D.low (Nat.le_add_right m 48)
    obtain ⟨rws,rgs,ver,firsts⟩:=t
    repeat' wtm_at "V"
    refine VSlice.str (slice1 p) lp ?_
    repeat' wtm_at "V"
    · have hb:=remBlank p hp hc
      cases ver with
      | true =>
        refine ⟨_,rfl,br3 ?_⟩
        repeat' wtm_at "V"
        exact VEnd.same (h p _ _ _ (.blank hb) D)
      | false =>
        refine ⟨_,rfl,br1 (VSlice.str (slice1 p) lp ?_)⟩
        repeat' wtm_at "V"
        rw [hc]
        exact VEnd.same (h p _ _ _ (.blank hb) D)
    · cases ver with
      | false =>
        have hb:=remVer p hp hc
        subst hb
        refine ⟨_,rfl,br4 ?_⟩
        repeat' wtm_at "V"
        refine ⟨_,rfl,br1 (VSlice.str (slice1 pVer) lp ?_)⟩
        repeat' wtm_at "V"
        exact VEnd.same (h pVer _ _ _ (.ver rfl) D)
      | true =>
        refine ⟨_,rfl,br2 ?_⟩
        repeat' wtm_at "V"
        refine ⟨_,rfl,br3 ?_⟩
        repeat' wtm_at "V"
        exact VEnd.same (h [35] _ _ _ (.blank (by decide)) D)
  refine ⟨fun hc1=>?_,fun hc1=>?_⟩
  · refine br1 ?_
    exact c_rowTail (n:=n) (jk:=[]) pk W D to hk (.there (.there .here)) (.refl _) fun p t' cells' turn' q1 q2=>h p t' cells' turn' q1 (q2.low (Nat.le_add_right m 9))
  repeat' wtm_at "V"
  intro e
  refine VCmp.neNil W.cx (by wtm_at "M") .here ⟨fun hne=>?_,fun hne=>?_⟩
  · refine br1 ?_
    exact c_rowTail (n:=n) (jk:=[(e,.list [])]) pk W D to hk (.there (.there (.there .here))) (List.perm_middle (l₁:=[_,_,_,_,_,_,_]) (l₂:=own)).symm fun p t' cells' turn' q1 q2=>h p t' cells' turn' q1 (q2.low (Nat.le_add_right m 9))
  have hf0:0<t.firsts.length:=by
    rcases hq:t.firsts with _ | ⟨x,r⟩
    · rw [hq] at hne;cases hne
    · exact Nat.succ_pos _
  refine br3 ?_
  refine c_rowRange (n:=n) pk W D to hk hf0 fun p t' cells' turn' v q1 q2=>?_
  exact VEnd.same (h p t' cells' turn' q1 (q2.low (Nat.le_add_right m 45)))
inductive LawImpl (rgs:List (Int×Int×Int)) (code:Int):List El→Prop
  | inn {k:Nat}{r:Int×Int×Int}{v:Int}(h1:rgs[k]?=some r) (h2:r.1≤code∧code≤r.2.1) (h3:∀q∈rgs.take k,¬ (q.1≤code∧code≤q.2.1)) (h4:Org rgs r.2.2 v):LawImpl rgs code [(r.2.2,32,2,false),(32768+(code-v).fmod 32768,0,0,false)]
  | out (h:∀q∈rgs,¬ (q.1≤code∧code≤q.2.1)):LawImpl rgs code [(64448+code.fdiv 32768,32,2,false),(32768+code.fmod 32768,0,0,false)]
noncomputable def ImI (rgs:List (Int×Int×Int)) (code:Int) (k:Nat):Prop:=∀q∈rgs.take k,¬ (q.1≤code∧code≤q.2.1)
theorem ImI.more {rgs:List (Int×Int×Int)}{code:Int}{k:Nat}{r:Int×Int×Int}(h:ImI rgs code k) (hr:rgs[k]?=some r) (hn:¬ (r.1≤code∧code≤r.2.1)):ImI rgs code (k+1):=by
  intro q hq
  rw [takeS hr] at hq
  rcases List.mem_append.mp hq with hq | hq
  · exact h q hq
  · rw [List.mem_singleton.mp hq];exact hn
theorem firsts_map (rgs:List (Int×Int×Int)) (m:Int):((rgs.filter fun q=>q.2.2 == m).map fun r=>D.int r.1)=((rgs.filter fun q=>q.2.2 == m).map (·.1)).map .int:=by rw [List.map_map];rfl
theorem firsts_pos {rgs:List (Int×Int×Int)}{r:Int×Int×Int}(hr:r∈rgs):0<((rgs.filter fun q=>q.2.2 == r.2.2).map (·.1)).length :=
  List.length_pos_of_mem (List.mem_map.mpr ⟨r,List.mem_filter.mpr ⟨hr,BEq.rfl⟩,rfl⟩)
theorem c_law_implicit (pk:Parts K) {n:Nat}(cx:Cx A (n+3)) (g:Gr K B) {td tr tg tf:Addr}{t:Tld}{k:Nat}(to:TldOk t k) (hk:k≤900) {code:Int}
    (h:∀es,LawImpl t.rgs code es→Q (.lst (es.map elD)) (ToldO td tr tg tf t own)):CallC w B A (.ref 551) [.ref td,.int code] (ToldO td tr tg tf t own) Q X:=by
  refine pk.fn pk.f_law_implicit pk.b_law_implicit cx g fun f W=>?_
  repeat' wtm_at "V"
  refine .inl (VFor.stQ t.rgs rowD (fun k (_:Option D×Option D×Option D×Option D)=>ImI t.rgs code k) (fun x=>[some (.ref td),some (.int code),x.1,x.2.1,x.2.2.1]) (fun x=>(f.cs 0,.cell x.2.2.2)::ToldO td tr tg tf t own) (_,_,_,_) (Iterable.list W.cx.handled (ax:=tg) (ds:=t.rgs.map rowD)) (fun q_ q_ q_ o' hs=>Has.of_mem (hs _ (.tail _ (.tail _ (.tail _ (.head _)))))) (fun q hq=>absurd hq List.not_mem_nil) rfl rfl (fun k r x h1 hb T hT=>?_) fun x hb=>?_)
  · repeat' wtm_at "V"
    · have hr:r∈t.rgs:=List.mem_of_getElem? h1
      refine VComp.sel t.rgs rowD (fun r=>.int r.1) (fun q=>q.2.2 == r.2.2) (Iterable.list W.cx.handled (ax:=tg)) (fun o' hs=>Has.of_mem (hs _ (.tail _ (.tail _ (.tail _ (.head _)))))) (Nat.le_trans to.rgs (Nat.le_trans hk (by decide))) (fun q hq L env f' hf G T hf0 hf1=>?_) fun acc=>?_
      · subst hf
        repeat' wtm_at "V"
        · exact hf0 hc
        · exact VEnd.same (hf1 hc)
      rw [firsts_map]
      refine Call.minList W.cx.handled .here (firsts_pos hr) fun M hM hM'=>?_
      repeat' wtm_at "V"
      intro c
      exact hT ⟨_,_,.list .here (.done (by wtm_at "Ms")),h [(r.2.2,32,2,false),(32768+(code-M).fmod 32768,0,0,false)] (.inn h1 (and_le.mp hc) hb ⟨hM,hM'⟩)⟩
    · exact hT ⟨_,.refl _,(_,_,_,some (.int r.2.2)),hb.more h1 (and_le_f hc),rfl,rfl⟩
  · rw [ImI,List.take_length] at hb
    repeat' wtm_at "V"
    intro c
    exact ⟨_,_,.list .here (.done (by wtm_at "Ms")),h [(64448+code.fdiv 32768,32,2,false),(32768+code.fmod 32768,0,0,false)] (.out hb)⟩
structure Py (xs:List D) (m:Nat) (ps:List PyData):Prop where
  e:pyDs xs=some ps
  c:PyData.canLayAll0 ps=true
  d:PyData.depthAll ps≤m
theorem pyMap {α:Type}{g:α→D}{q:α→PyData}{m:Nat}(h:∀a,pyD (g a)=some (q a)∧(q a).canLay0=true∧(q a).depth≤m):∀l:List α,Py (l.map g) m (l.map q)
  | []=>⟨rfl,rfl,Nat.zero_le _⟩
  | a::l=>by
    obtain ⟨h1,h2,h3⟩:=h a
    obtain ⟨e,c,d⟩:=pyMap h l
    refine ⟨?_,?_,?_⟩
    · show (pyD (g a)).bind (fun a=>(pyDs (l.map g)).map (a::·))=_
      rw [h1,e];rfl
    · show ((q a).canLay0 && PyData.canLayAll0 (l.map q))=true
      rw [h2,c];rfl
    · exact Nat.max_le.mpr ⟨h3,d⟩
theorem pyI (l:List Int):Py (l.map .int) 0 (l.map .int):=pyMap (q:=.int) (fun q_=>⟨rfl,rfl,Nat.zero_le _⟩) l
theorem pyK (l:List (List Int)):Py (l.map fun k=>.tup (k.map .int)) 1 (l.map fun k=>.tuple (k.map .int)):=pyMap (fun k=>by
  have h:=pyI k
  exact ⟨by show (pyDs (k.map .int)).map _=_;rw [h.e];rfl,h.c,Nat.succ_le_succ h.d⟩) l
theorem pyE (l:List El):Py (l.map elD) 1 (l.map fun e=>.tuple [.int e.1,.int e.2.1,.int e.2.2.1,.bool e.2.2.2]):=pyMap (q:=fun e=>.tuple [.int e.1,.int e.2.1,.int e.2.2.1,.bool e.2.2.2]) (fun q_=>⟨rfl,rfl,Nat.le_refl 1⟩) l
theorem VCmp.neSame {n m:Nat}{x:Addr}{xs:List D}{e:D}{ps:List PyData}{QB:Bool→Own→Prop}(cx:Cx f.A (n+1)) (p:Py xs m ps) (hm:m≤1) (h1:Has own x (.list xs)) (h2:e=.lst xs∨∃y,e=.ref y∧Has own y (.list xs)) (h:QB false own):VCmp f v .NotEq (.ref x) e own QB:=by
  have r2:Readable own e (.list ps):=by
    rcases h2 with rfl | ⟨y,rfl,hy⟩
    · exact .inl (by show (pyDs xs).map _=_;rw [p.e];rfl)
    · exact .inr ⟨y,xs,ps,rfl,hy,p.e,rfl⟩
  refine VCmp.neP (.inr ⟨x,xs,ps,rfl,h1,p.e,rfl⟩) r2 p.c p.c ?_ ?_
  · have h0:=cx.units
    have h1:=p.d
    show f.A.units+min (PyData.depthAll ps+1) (PyData.depthAll ps+1)<cLine
    unfold cLine
    omega
  · rw [PySem.SeqAt.eqv_refl (.list ps) p.c];exact h
theorem sorted_uniq:∀{l m:List (List Int)},l.Perm m→l.Pairwise (fun x y=>ltL x y=true)→m.Pairwise (fun x y=>ltL x y=true)→l=m:=fun p h1 h2=>p.eq_of_pairwise (fun a b q_ q_ q q'=>by
  have:=ltL_tr a b a q q'
  rw [ltL_irr] at this
  cases this) h1 h2
noncomputable def probes (rgs:List (Int×Int×Int)):List Int:=[888,327680]++rgs.flatMap fun r=>[r.1-1,r.1,(r.1+r.2.1).fdiv 2,r.2.1,r.2.1+1]
theorem probes_snoc (l:List (Int×Int×Int)) (r:Int×Int×Int):probes (l++[r])=probes l++[r.1-1,r.1,(r.1+r.2.1).fdiv 2,r.2.1,r.2.1+1]:=by
  unfold probes
  rw [List.flatMap_append,← List.append_assoc]
  rfl
theorem probes_len (l:List (Int×Int×Int)):(probes l).length=2+5*l.length:=by
  induction l with
  | nil=>rfl
  | cons r l ih =>
    unfold probes at ih ⊢
    rw [List.flatMap_cons]
    simp at ih ⊢
    omega
structure Match (tab:List (List Int×List El)) (bs:List Base) (t:Tld):Prop where
  perm:(tab.map (·.1)).Perm (t.rows.map (·.1))
  els:∀p∈tab,p∈t.rows
  ne:∀p∈tab,p.1≠[]
  z:[122]∉tab.map (·.1)
  small:tab.length<64
  elen:∀p∈tab,p.2.length≤16777216
  len:bs.length≤1000
  impl:∀code∈probes t.rgs,∃(j:Nat) (bb:Base),bs[j]?=some bb∧(bb.1≤code∧code≤bb.2.1)∧(∀i b',j<i→bs[i]?=some b'→¬ (b'.1≤code∧code≤b'.2.1))∧∀es,LawImpl t.rgs code es→implEls bb code=es
theorem k_get (pk:Parts K) {n:Nat}(cx:Cx A (n+3)) (g:Gr K B) {rest:Own}{e de t lg b:Addr}{tab:List (List Int×List El)}{lng:List (Int×Int)}{bs:List Base}{cs:List Int}{r:D}(hp:own.Perm (ElemO e de t lg b tab lng bs rest)) (hr:(cs,r)∈(tab.map fun p=>(p.1,D.lst (p.2.map elD)))∨(cs∉tab.map (·.1)∧r=.none))
    (h:Q r (ElemO e de t lg b tab lng bs rest)):Call w B A (.ref 331) [.ref e,.tup (cs.map .int)] own Q X:=((c_get (bt:=true) pk cx g hr h).call).pre hp
noncomputable abbrev LookO (e de ta lg b td tr tg tf:Addr) (tab:List (List Int×List El)) (lng:List (Int×Int)) (bs:List Base) (t:Tld) (c0 c1 a:Addr) (r:List (List Int)) (z:Own):Own :=
  ElemO e de ta lg b tab lng bs (ToldO td tr tg tf t ((c0,.cell (some (.ref e)))::(c1,.cell (some (.ref td)))::(a,.list (r.map fun k=>.tup (k.map .int)))::z))
theorem hasP {o l:Own}{x:Addr}{ob:O}(hp:o.Perm l) (h:Has l x ob):Has o x ob:=h.perm fun p hpm=>hp.mem_iff.mpr hpm
inductive LkI (z0:Own) (fp:Own→Own) (o:Own):Prop
  | mk (z:Own) (hz:List.Sublist z0 z) (hp:o.Perm (fp z))
theorem LkI.has {z0:Own}{fp:Own→Own}{o o':Own}{x:Addr}{ob:O}(h:LkI z0 fp o) (hh:∀z,Has (fp z) x ob) (hs:∀p∈o,p∈o'):Has o' x ob:=by
  obtain ⟨z,_,hp⟩:=h
  exact Has.of_mem (hs _ (hp.mem_iff.mpr (Has.mem (hh z))))
structure NextJ (J:Own→Prop) (rs:List D) (o:Own):Prop where
  e:rs=[]
  h:J o
theorem VComp.nothing {α:Type}{ln:List Str}{t:TT}{elt:PT}{ifs:BT}{dx:D}{F:Addr→Own→Prop}{C:Own→Prop}(xs:List α) (g:α→D) (J:Own→Prop) (it:Iterable f.w f.B f.A dx (xs.map g) C) (hC:∀o,J o→∀o',(∀p∈o,p∈o')→C o') (h0:J own) (hz:xs.length≤16777216)
    (hb:∀a o L env,a∈xs→J o→∀T:Vals→Bool→Own→Prop,(∀v o,J o→T v false o)→t (f.comp env L ln (CompX False 0 .none ln L)) (nones ln) o (g a) fun v o=>ifs (f.comp env L ln (CompX False 0 .none ln L)) v o (T v))
    (he:∀acc o,J o→F acc ((acc,.list [])::o)):VComp f ln t ifs elt v own dx F:=by
  refine VComp.mk (xs.map g) C (fun q_=>NextJ J) False 0 .none it (fun k r o q=>hC o q.h) ⟨rfl,h0⟩ (by rw [List.length_map];exact hz) (fun k r o q=>by rw [q.e];exact Nat.zero_le _) False.elim (fun k e r o L env hk q f' hf=>?_) fun acc r o q=>?_
  · obtain ⟨a,ha,rfl⟩:=mapGet hk
    obtain ⟨rfl,q⟩:=q
    subst hf
    refine hb a o L env (List.mem_of_getElem? ha) q _ fun v o h=>?_
    exact ⟨fun q_=>⟨rfl,h⟩,fun h=>Bool.noConfusion h⟩
  · obtain ⟨rfl,q⟩:=q
    exact he acc o q
theorem VComp.tuples (hh:f.A.handled=none) {l:List El}{F:Addr→Own→Prop}(hz:l.length≤16777216) (h:∀acc,F acc ((acc,.list (l.map elD))::own)):VComp f [".0", "one"] (tgtS (.loc 1)) nilAnd (callP (.type "tuple") (consL (loc 1) nilL)) v own (.lst (l.map elD)) F:=by
  refine VComp.map l elD elD (Iterable.lst hh) (fun q_ q_=>trivial) hz (fun p hp L env f' hf G Tq hq=>?_) h
  subst hf
  repeat' wtm_at "V"
  exact Call.tupleSame (VEnd.same hq)
theorem probes_le {l:List (Int×Int×Int)}(h:l.length≤1000) (k:Nat):(probes (l.take k)).length≤5002:=by
  rw [probes_len,List.length_take]
  omega
theorem has_rows (pk:Parts K) {n:Nat}(W:Wk K f (n+5)) {e de ta lg b td tr tg tf a:Addr}{tab:List (List Int×List El)}{lng:List (Int×Int)}{bs:List Base}{t:Tld}{r:List (List Int)}{z0:Own}{F:Addr→Own→Prop}(M:Match tab bs t) (hr:∀k∈r,k∈t.rows.map (·.1)) (hz:r.length≤16777216)
    (h0:LkI z0 (LookO e de ta lg b td tr tg tf tab lng bs t (f.cs 0) (f.cs 1) a r) own) (he:∀acc o,LkI z0 (LookO e de ta lg b td tr tg tf tab lng bs t (f.cs 0) (f.cs 1) a r) o→F acc ((acc,.list [])::o)) :
    VComp f [".0", "row"] (tgtS (.loc 1)) (cmp .NotEq (compP [".0", "one"] (tgtS (.loc 1)) nilAnd (callP (.type "tuple") (consL (loc 1) nilL)) (methP (cellP 0) "get" (consL (loc 1) nilL))) (subP (subP (cellP 1) (kD (.str (Str.ofString "rows").cps.toList))) (loc 1))) (loc 1) v own (.ref a) F:=by
  refine VComp.nothing r (fun k=>.tup (k.map .int)) (LkI z0 (LookO e de ta lg b td tr tg tf tab lng bs t (f.cs 0) (f.cs 1) a r)) (Iterable.list W.cx.handled (ax:=a)) (fun o h o' hs=>h.has (fun z=>by wtm_at "M") hs) h0 hz (fun key o L env hk hJ T hT=>?_) he
  have hK:=W.gr.K
  obtain ⟨z,hz,hp⟩:=hJ
  obtain ⟨p,hin,hke⟩:=List.mem_map.mp (M.perm.mem_iff.mpr (hr key hk))
  subst hke
  refine cellX (hasP hp (by wtm_at "M")) ?_
  refine methI (Meth.of (by exact hK) pk.m_get (hasP hp (by wtm_at "M")) (hasP hp (by wtm_at "M")) (by decide)) (pk.f_Elements_get.keep hK) ?_
  refine k_get (n:=n+2) (cs:=p.1) pk W.cx W.gr hp (.inl (List.mem_map.mpr ⟨_,hin,rfl⟩)) ?_
  refine VComp.tuples (by exact W.cx.handled) (M.elen _ hin) fun acc2=>?_
  repeat' wtm_at "V"
  refine VSub.td (l:=t.rows.map fun p=>(p.1,D.lst (p.2.map elD))) W.cx.line1 (by wtm_at "M") (List.mem_map.mpr ⟨_,M.els _ hin,rfl⟩) ?_
  refine VCmp.neSame (n:=n+4) W.cx (pyE p.2) (Nat.le_refl _) .here (.inl rfl) ?_
  exact hT _ _ ⟨_,.cons (acc2,.list (p.2.map elD)) hz,Pick.perm (fp:=[_,_,_,_,_,_,_,_,_,_,_,_]) (by wtm_at "Mp")⟩
theorem has_codes (pk:Parts K) {n:Nat}(W:Wk K f (n+5)) {e de ta lg b td tr tg tf a cc:Addr}{tab:List (List Int×List El)}{lng:List (Int×Int)}{bs:List Base}{t:Tld}{k:Nat}{r:List (List Int)}{z0:Own}{F:Addr→Own→Prop}(M:Match tab bs t) (to:TldOk t k) (hk:k≤60)
    (h0:LkI z0 (fun z=>LookO e de ta lg b td tr tg tf tab lng bs t (f.cs 0) (f.cs 1) a r ((cc,.list ((probes t.rgs).map .int))::z)) own) (he:∀acc o,LkI z0 (fun z=>LookO e de ta lg b td tr tg tf tab lng bs t (f.cs 0) (f.cs 1) a r ((cc,.list ((probes t.rgs).map .int))::z)) o→F acc ((acc,.list [])::o)) :
    VComp f [".0", "code"] (tgtS (.loc 1)) (cmp .NotEq (compP [".0", "one"] (tgtS (.loc 1)) nilAnd (callP (.type "tuple") (consL (loc 1) nilL)) (methP (cellP 0) "implicit_of" (consL (loc 1) nilL))) (callP (.ref 551) (consL (cellP 1) (consL (loc 1) nilL)))) (loc 1) v own (.ref cc) F:=by
  refine VComp.nothing (probes t.rgs) .int _ (Iterable.list W.cx.handled (ax:=cc)) (fun o h o' hs=>h.has (fun z=>by wtm_at "M") hs) h0 (by rw [probes_len];have:=to.rgs;omega) (fun code o L env hcode hJ T hT=>?_) he
  have hK:=W.gr.K
  obtain ⟨z,hz,hp⟩:=hJ
  obtain ⟨j,bb,q1,q2,q3,q4⟩:=M.impl code hcode
  refine cellX (hasP hp (by wtm_at "M")) ?_
  refine methI (Meth.of (by exact hK) pk.m_implicit_of (hasP hp (by wtm_at "M")) (hasP hp (by wtm_at "M")) (by decide)) (pk.f_Elements_implicit_of.keep hK) ?_
  refine Call.pre ((c_implicit_of (n:=n+1) pk W.cx W.gr M.len q1 q2 q3 ?_).call) hp
  refine VComp.tuples (by exact W.cx.handled) (implEls_len bb code) fun acc3=>?_
  refine cellX (by wtm_at "M") ?_
  refine Call.pre ((c_law_implicit (n:=n+2) pk W.cx W.gr to (by omega) fun es hes=>?_).call) (Pick.perm (fp:=ToldO td tr tg tf t []) (by wtm_at "Mp"))
  rw [q4 es hes]
  refine VCmp.neSame (n:=n+4) W.cx (pyE es) (Nat.le_refl _) (by wtm_at "M") (.inl rfl) ?_
  exact hT _ _ ⟨_,.cons (acc3,.list (es.map elD)) hz,Pick.perm (fp:=[_,_,_,_,_,_,_,_,_,_,_,_,_]) (by wtm_at "Mp")⟩
inductive PrI (a:Addr) (z0:Own) (fp:Own→Own) (rgs:List (Int×Int×Int)) (k:Nat) (v:Vals) (o:Own):Prop
  | mk (y z' u:Option D) (cc:Addr) (ev:v=[some (.ref a),some (.ref cc),y,z',u]) (h:LkI z0 (fun z=>fp ((cc,.list ((probes (rgs.take k)).map .int))::z)) o)
theorem c_law_has (pk:Parts K) {n:Nat}(cx:Cx A (n+6)) (g:Gr K B) {e de ta lg b td tr tg tf:Addr}{tab:List (List Int×List El)}{lng:List (Int×Int)}{bs:List Base}{t:Tld}{k:Nat}(M:Match tab bs t) (to:TldOk t k) (hk6:k≤60)
    (h:Q (.bool true) (ElemO e de ta lg b tab lng bs (ToldO td tr tg tf t own))):Call w B A (.ref 556) [.ref e,.ref td] (ElemO e de ta lg b tab lng bs (ToldO td tr tg tf t own)) Q X:=by
  refine CallC.permPost (pk.fn pk.f_law_has pk.b_law_has cx g fun f W=>?_)
  have hK:=W.gr.K
  repeat' wtm_at "V"
  have e1:(t.rows.map fun p=>(p.1,D.lst (p.2.map elD))).map (·.1)=t.rows.map (·.1):=by rw [List.map_map];rfl
  have hpl:=M.perm.length_eq
  rw [List.length_map,List.length_map] at hpl
  refine Call.sortedTd (l:=t.rows.map fun p=>(p.1,D.lst (p.2.map elD))) W.gr.lim W.cx.handled (by wtm_at "M") (fun k hk=>?_) (by have:=to.rows;simp;omega) fun r a hpr hs=>?_
  · rw [e1] at hk
    obtain ⟨p,hp,rfl⟩:=List.mem_map.mp (M.perm.mem_iff.mpr hk)
    exact M.ne p hp
  rw [e1] at hpr
  repeat' wtm_at "V"
  refine methI (Meth.of hK pk.m_rows (by wtm_at "M") (by wtm_at "M") (by decide)) (pk.f_Elements_rows.keep hK) ?_
  refine k_rows (n:=n+2) pk W.cx W.gr (by wtm_at "Mp") M.ne M.small fun r2 hp2 hs2 hm2=>?_
  have hr:r2.map (·.1)=r:=sorted_uniq (hp2.trans (M.perm.trans hpr.symm)) hs2 hs
  refine VComp.map r2 (fun p=>.tup [.tup (p.1.map .int),.lst (p.2.map elD)]) (fun p=>.tup (p.1.map .int)) (Iterable.lst W.cx.handled) (fun q_ q_=>trivial) (by have:=hp2.length_eq;have:=M.small;simp at *;omega) (fun p hp L env f' hf G Tq hq=>?_) fun acc=>?_
  · subst hf
    repeat' wtm_at "V"
    exact Call.tupleSame (VEnd.same hq)
  rw [show r2.map (fun p=>D.tup (p.1.map .int))=r.map fun k=>D.tup (k.map .int) by rw [← hr,List.map_map];rfl]
  refine VCmp.neSame (n:=n+4) W.cx (pyK r) (Nat.le_refl _) .here (.inr ⟨a,rfl,by wtm_at "M"⟩) ?_
  repeat' wtm_at "V"
  refine methI (Meth.of hK pk.m_get (by wtm_at "M") (by wtm_at "M") (by decide)) (pk.f_Elements_get.keep hK) ?_
  refine k_get (n:=n+2) (cs:=[122]) pk W.cx W.gr (Pick.perm (fp:=ElemO e de ta lg b tab lng bs []) (by wtm_at "Mp")) (.inr ⟨M.z,rfl⟩) ?_
  repeat' wtm_at "V"
  refine has_rows (n:=n) (z0:=own) pk W M (fun k hk=>hpr.subset hk) (by have:=hpr.length_eq;rw [List.length_map] at this;have:=to.rows;omega) ⟨_,.cons _ (.refl _),Pick.perm (fp:=[_,_,_,_,_,_,_,_,_,_,_,_]) (by wtm_at "Mp")⟩ fun acc2 o hJ=>?_
  intro nl
  refine VCmp.neNil (xs:=[]) W.cx (.there .here) .here ?_
  refine ⟨fun h=>Bool.noConfusion h,fun q_=>?_⟩
  obtain ⟨z,hz,hp⟩:=hJ
  repeat' wtm_at "V"
  intro c0
  refine ⟨_,.there (.there (.there (hasP hp (by wtm_at "M")))),?_⟩
  refine VSub.sd rfl (.there (.there (.there (hasP hp (by wtm_at "M"))))) (by wtm_at "M") ?_
  refine .inl (VFor.quiet (PrI a own (LookO e de ta lg b td tr tg tf tab lng bs t (f.cs 0) (f.cs 1) a r) t.rgs) (Iterable.list W.cx.handled (ax:=tg) (ds:=t.rgs.map rowD)) (fun k v o hI o' hs=>by
      obtain ⟨_,_,_,_,_,q⟩:=hI
      exact q.has (fun z=>by wtm_at "M") hs)
    ⟨_,_,_,c0,rfl,_,.cons (nl,.list []) (.cons (acc2,.list []) hz),((hp.cons _).cons _).cons _ |>.trans (Pick.perm (fp:=[_,_,_,_,_,_,_,_,_,_,_,_]) (by wtm_at "Mp"))⟩ ?_ ?_)
  · intro k d v o hk hI
    obtain ⟨y,z',u,cc,rfl,z,hz,hp⟩:=hI
    obtain ⟨rg,h1,rfl⟩:=mapGet hk
    have hlp:=probes_le (Nat.le_trans to.rgs (Nat.le_trans hk6 (by decide))) k
    repeat' wtm_at "V"
    intro n5
    refine VOp.list (.there (hasP hp (by wtm_at "M"))) .here (by rw [List.length_map];exact Nat.le_trans (Nat.add_le_add_right hlp 5) (by decide)) fun cc'=>?_
    refine ⟨_,.refl _,_,_,_,cc',rfl,(n5,.list [.int (rg.1-1),.int rg.1,.int ((rg.1+rg.2.1).fdiv 2),.int rg.2.1,.int (rg.2.1+1)])::(cc,.list ((probes (t.rgs.take k)).map .int))::z,.cons _ (.cons _ hz),?_⟩
    rw [takeS h1,probes_snoc,List.map_append]
    exact ((hp.cons _).cons _).trans (Pick.perm (fp:=[_,_,_,_,_,_,_,_,_,_,_,_]) (by wtm_at "Mp"))
  intro v o hI
  obtain ⟨y,z',u,cc,rfl,z,hz,hp⟩:=hI
  rw [List.length_map,List.take_length] at hp
  repeat' wtm_at "V"
  refine has_codes (n:=n) (z0:=own) pk W M to hk6 ⟨z,hz,hp⟩ fun acc3 o hJ=>?_
  obtain ⟨z,hz,hp⟩:=hJ
  intro nl2
  refine VCmp.eqNil (xs:=[]) (ps:=[]) W.cx (.there .here) rfl rfl .here ?_
  obtain ⟨l',h1,h2⟩:=List.exists_perm_sublist (l₁:=ElemO e de ta lg b tab lng bs (ToldO td tr tg tf t own)) (.cons_cons _ (.cons_cons _ (.cons_cons _ (.cons_cons _ (.cons_cons _ (.cons_cons _ (.cons_cons _ (.cons_cons _ (.cons_cons _ (.cons _ (.cons _ (.cons _ (.cons _ hz))))))))))))) hp.symm
  exact ⟨_,_,.done (.cons _ (.cons _ h2)),_,h1,h⟩
theorem idx_none {c:UInt8}{a:List UInt8}(h:c∉a):a.findIdx? (· == c)=none:=List.findIdx?_eq_none_iff.mpr fun x hx=>by
  cases e:(x == c) with
  | false=>rfl
  | true=>rw [eq_of_beq e] at hx;exact absurd hx h
theorem idx_hit {c:UInt8}{a r:List UInt8}(h:c∉a):(a++c::r).findIdx? (· == c)=some a.length:=by
  rw [List.findIdx?_append,idx_none h]
  simp [List.findIdx?_cons]
theorem part_hit {c:UInt8}{a r:List UInt8}(h:c∉a):partL c (a++c::r)=(a,[c],r):=by
  unfold partL
  rw [idx_hit h]
  simp
theorem part_no {c:UInt8}{a:List UInt8}(h:c∉a):partL c a=(a,[],[]):=by
  unfold partL
  rw [idx_none h]
theorem find_hit {c:UInt8}{a r:List UInt8}(h:c∉a):findL c (a++c::r)=a.length:=by
  unfold findL
  rw [idx_hit h]
theorem split_no {c:UInt8}{a:List UInt8}:c∉a→splitB c a=[a]:=by
  induction a with
  | nil=>exact fun q_=>rfl
  | cons x a ih=>exact fun h=>splitB_miss (fun e=>h (e▸.head _)) (ih fun hm=>h (.tail _ hm))
theorem split_hit {c:UInt8}{a r:List UInt8}:c∉a→splitB c (a++c::r)=a::splitB c r:=by
  induction a with
  | nil=>exact fun q_=>splitB_hit
  | cons x a ih=>exact fun h=>splitB_miss (fun e=>h (e▸.head _)) (ih fun hm=>h (.tail _ hm))
theorem split_join {c:UInt8}:∀{l:List (List UInt8)},l≠[]→(∀x∈l,c∉x)→splitB c (joinG [c] l)=l
  | [],h,_=>absurd rfl h
  | [x],_,h=>split_no (h x (.head _))
  | x::y::l,_,h=>by
    show splitB c (x++[c]++joinG [c] (y::l))=_
    rw [List.append_assoc]
    show splitB c (x++c::joinG [c] (y::l))=_
    rw [split_hit (h x (.head _)),split_join (by simp) fun z hz=>h z (.tail _ hz)]
theorem drop_all {p:UInt8→Bool}:∀{s a:List UInt8},(∀x∈s,p x=true)→(s++a).dropWhile p=a.dropWhile p
  | [],_,_=>rfl
  | x::s,a,h=>by
    show (match p x with | true=>(s++a).dropWhile p | false=>_)=_
    rw [h x (.head _)]
    exact drop_all fun y hy=>h y (.tail _ hy)
structure Firm (a:List UInt8):Prop where
  hd:∀x,a.head?=some x→x≠32∧x≠9∧x≠13
  tl:∀x,a.getLast?=some x→x≠32∧x≠9∧x≠13
theorem drop_firm {a:List UInt8}(h:∀x,a.head?=some x→x≠32∧x≠9∧x≠13):a.dropWhile ([32,9,13]:List UInt8).contains=a:=by
  cases a with
  | nil=>rfl
  | cons x a =>
    have:=h x rfl
    have e:([32,9,13]:List UInt8).contains x=false:=by simp [this]
    show (match ([32,9,13]:List UInt8).contains x with | true=>_ | false=>x::a)=_
    rw [e]
theorem trim_firm {s a t:List UInt8}(hs:∀x∈s,x=32∨x=9∨x=13) (ht:∀x∈t,x=32∨x=9∨x=13) (f:Firm a) (hn:a≠[]):trim (s++a++t)=a:=by
  have mem:∀{s:List UInt8},(∀x∈s,x=32∨x=9∨x=13)→∀x∈s,([32,9,13]:List UInt8).contains x=true:=fun h x hx=>by
    rcases h x hx with rfl | rfl | rfl <;> rfl
  show ((((s++a++t).dropWhile _).reverse).dropWhile _).reverse=a
  have hd:∀x,(a++t).head?=some x→x≠32∧x≠9∧x≠13:=fun x hx=>by
    cases a with
    | nil=>exact absurd rfl hn
    | cons y a=>exact f.hd x hx
  rw [List.append_assoc,drop_all (mem hs),drop_firm hd,List.reverse_append,drop_all fun x hx=>mem ht x (List.mem_reverse.mp hx),drop_firm,List.reverse_reverse]
  intro x hx
  rw [List.head?_reverse] at hx
  exact f.tl x hx
theorem trim_id {a:List UInt8}(f:Firm a):trim a=a:=by
  by_cases hn:a=[]
  · subst hn;rfl
  · have:=trim_firm (s:=[]) (t:=[]) (fun q_ h=>by cases h) (fun q_ h=>by cases h) f hn
    rwa [List.append_nil,List.nil_append] at this
theorem HexIs.ne {c:UInt8}(h:HexIs c):c≠32∧c≠9∧c≠13∧c≠10∧c≠35∧c≠46∧c≠59∧c≠64∧c≠91∧c≠93∧c<128:=by
  refine ⟨?_,?_,?_,?_,?_,?_,?_,?_,?_,?_,?_⟩
  all_goals first | (rintro rfl;exact absurd h (by decide)) | (rcases h with h | h | h <;> exact Nat.lt_of_le_of_lt h.2 (by decide))
theorem HexOf.no {v:Int}{h:List UInt8}(a:HexOf v h) {c:UInt8}(hc:¬ HexIs c):c∉h:=fun hm=>hc (a.is c hm)
theorem HexOf.code {v:Int}{h:List UInt8}(a:HexOf v h) (hv:v≤1114111):codeHex h=some v:=by
  have:=a.lo;have:=a.hi
  unfold codeHex
  rw [if_pos ⟨by lia,by lia⟩,a.val]
  exact if_pos hv
theorem HexOf.num {v:Int}{h:List UInt8}(a:HexOf v h):numHex h=some v:=by
  have:=a.lo;have:=a.hi
  unfold numHex
  rw [if_neg,a.val]
  rintro (rfl | q)
  · exact absurd this (by simp at *)
  · lia
theorem HexOf.ne {v:Int}{h:List UInt8}(a:HexOf v h):h≠[]:=by
  rintro rfl
  exact absurd a.lo (by decide)
theorem HexOf.firm {v:Int}{h:List UInt8}(a:HexOf v h):Firm h:=⟨fun x hx=>by
  have:=(a.is x (List.mem_of_mem_head? hx)).ne
  exact ⟨this.1,this.2.1,this.2.2.1⟩,fun x hx=>by
  have:=(a.is x (List.mem_of_getLast? hx)).ne
  exact ⟨this.1,this.2.1,this.2.2.1⟩⟩
theorem step_no {l:List UInt8}:∀{r:List Nat}{acc:List Nat×Nat},(∀i∈r,i<acc.2∨l[i]?≠some 46)→r.foldl (stepB l.toArray #[46,46]) acc=acc
  | [],_,_=>rfl
  | i::r,acc,h=>by
    have e:stepB l.toArray #[46,46] acc i=acc:=by
      unfold stepB
      refine if_neg fun q=>?_
      rw [Bool.and_eq_true] at q
      rcases h i (.head _) with a | a
      · have:=of_decide_eq_true q.1;omega
      · have:=congrArg (·[0]?) (eq_of_beq q.2)
        simp at this
        exact a this
    rw [List.foldl_cons,e]
    exact step_no fun j hj=>h j (.tail _ hj)
theorem dd_no {l:List UInt8}(h:(46:UInt8)∉l):ddL l=[l]:=by
  unfold ddL
  have:Builtin.Bytes.occurrences l.toArray #[46,46] 0 l.length=[]:=by
    show ((((List.range (l.length+1-(0+2))).map (·+0)).foldl (stepB l.toArray #[46,46]) ([],0)).1).reverse=[]
    rw [step_no fun i q_=>.inr fun e=>h (List.mem_of_getElem? e)]
    rfl
  rw [this]
  rfl
theorem dd_hit {a b:List UInt8}(ha:(46:UInt8)∉a) (hb:(46:UInt8)∉b):ddL (a++46::46::b)=[a,b]:=by
  unfold ddL
  have hl:(a++46::46::b).length=a.length+2+b.length:=by simp;lia
  have:Builtin.Bytes.occurrences (a++46::46::b).toArray #[46,46] 0 (a++46::46::b).length=[a.length]:=by
    show ((((List.range ((a++46::46::b).length+1-(0+2))).map (·+0)).foldl (stepB (a++46::46::b).toArray #[46,46]) ([],0)).1).reverse=_
    rw [hl,show a.length+2+b.length+1-(0+2)=a.length+(1+b.length) by lia,List.range_add,show ((fun x=>x+0:Nat→Nat))=id from rfl,List.map_id,List.foldl_append,step_no (r:=List.range a.length) fun i hi=>.inr fun e=>?_]
    · rw [Nat.add_comm,List.range_succ_eq_map,List.map_cons,List.foldl_cons]
      have e:stepB (a++46::46::b).toArray #[46,46] ([],0) (a.length+0)=([a.length],a.length+2):=by
        unfold stepB
        refine if_pos ?_
        rw [Bool.and_eq_true]
        refine ⟨by simp,?_⟩
        simp [List.extract]
      rw [e,step_no fun i hi=>?_]
      · rfl
      · obtain ⟨j,hj,rfl⟩:=List.mem_map.mp hi
        obtain ⟨m,hm,rfl⟩:=List.mem_map.mp hj
        cases m with
        | zero=>exact .inl (by show a.length+(0+1)<a.length+2;lia)
        | succ m =>
          refine .inr fun e=>hb (List.mem_of_getElem? (i:=m) ?_)
          rw [List.getElem?_append_right (by lia)] at e
          rw [show a.length+(m+1).succ-a.length=m+2 by lia] at e
          exact e
    · rw [List.mem_range] at hi
      rw [List.getElem?_append_left hi] at e
      exact ha (List.mem_of_getElem? e)
  rw [this]
  show [((a++46::46::b).drop 0).take (a.length-0),(a++46::46::b).drop (a.length+2)]=_
  rw [List.drop_append_of_le_length (by lia)] <;> simp
inductive PieceX (e:El) (x:List UInt8):Prop
  | mk (h1:List UInt8) (h2:List UInt8) (h3:List UInt8) (y:List UInt8) (a0:HexOf e.1 h1) (a1:HexOf e.2.1 h2) (a2:HexOf e.2.2.1 h3) (a3:(y=[]∨y=[46,48,48,54,49])) (a4:x=91::(if e.2.2.2 then 42 else 46)::(h1++46::(h2++46::(h3++y)))++[93])
theorem pe_piece {e:El}{x r:List UInt8}{n:Nat}(p:PieceX e x):pe (n+1) (x++r)=(pe n (trim r)).map (e::·):=by
  obtain ⟨h1,h2,h3,y,a1,a2,a3,hy,rfl⟩:=p
  have hs:∃z,splitB 46 (h1++46::(h2++46::(h3++y)))=h1::h2::h3::z∧(z=[]∨z=[[48,48,54,49]]):=by
    rw [split_hit (a1.no (by decide)),split_hit (a2.no (by decide))]
    rcases hy with rfl | rfl
    · rw [List.append_nil,split_no (a3.no (by decide))]
      exact ⟨[],rfl,.inl rfl⟩
    · rw [split_hit (a3.no (by decide))]
      exact ⟨_,rfl,.inr rfl⟩
  have hm:∀z:List (List UInt8),(z=[]∨z=[[48,48,54,49]])→∃w,(h1::h2::h3::z).mapM numHex=some (e.1::e.2.1::e.2.2.1::w):=fun z hz=>by
    rcases hz with rfl | rfl
    · exact ⟨[],by simp [List.mapM_cons,a1.num,a2.num,a3.num]⟩
    · exact ⟨[97],by simp [List.mapM_cons,a1.num,a2.num,a3.num,show numHex [48,48,54,49]=some 97 by decide]⟩
  have h93:(93:UInt8)∉(91::(if e.2.2.2 then (42:UInt8) else 46)::(h1++46::(h2++46::(h3++y)))):=by
    have q1:=a1.no (c:=93) (by decide)
    have q2:=a2.no (c:=93) (by decide)
    have q3:=a3.no (c:=93) (by decide)
    have q4:(93:UInt8)∉y:=by rcases hy with rfl | rfl <;> decide
    have q5:(93:UInt8)≠(if e.2.2.2 then (42:UInt8) else 46):=by split <;> decide
    simp only [List.mem_cons,List.mem_append,not_or]
    exact ⟨by decide,q5,q1,by decide,q2,by decide,q3,q4⟩
  obtain ⟨z,hs,hz⟩:=hs
  obtain ⟨w,hw⟩:=hm z hz
  generalize hmm:h1++46::(h2++46::(h3++y))=m at *
  have hf:findL 93 (91::(if e.2.2.2 then (42:UInt8) else 46)::m++[93]++r)=(m.length+2:Nat):=by
    rw [List.append_assoc]
    exact find_hit h93
  conv=>lhs;unfold pe
  rw [hf]
  have s1:sliceB (91::(if e.2.2.2 then (42:UInt8) else 46)::m++[93]++r) (some 2) (some ((m.length+2:Nat):Int))=m:=by
    show ((91::(if e.2.2.2 then (42:UInt8) else 46)::m++[93]++r).take (m.length+2)).drop 2=m
    simp
  have s2:sliceB (91::(if e.2.2.2 then (42:UInt8) else 46)::m++[93]++r) (some (((m.length+2:Nat):Int)+1)) none=r:=by
    show (91::(if e.2.2.2 then (42:UInt8) else 46)::m++[93]++r).drop (m.length+3)=r
    simp
  have s3:sliceB (91::(if e.2.2.2 then (42:UInt8) else 46)::m++[93]++r) (some 1) (some 2)=[if e.2.2.2 then (42:UInt8) else 46]:=rfl
  have s4:sliceB (91::(if e.2.2.2 then (42:UInt8) else 46)::m++[93]++r) none (some 1)=[91]:=rfl
  rw [s1,s2,s3,s4,hs,hw]
  rw [if_neg (by simp),if_neg (by simp;lia),if_neg]
  · show (pe n (trim r)).map _=_
    congr 1
    funext l
    congr 1
    obtain ⟨e1,e2,e3,e4⟩:=e
    cases e4 <;> rfl
  · rintro (q | q)
    · exact q (by split <;> simp)
    · refine q ?_
      rcases hz with rfl | rfl
      · exact .inl rfl
      · exact .inr rfl
theorem PieceX.firm {e:El}{x:List UInt8}(p:PieceX e x):∃m,x=91::(m++[93]):=by
  obtain ⟨h1,h2,h3,y,_,_,_,_,rfl⟩:=p
  exact ⟨_,rfl⟩
theorem pieces_firm {es:List El}{ps:List (List UInt8)}(h:All2 PieceX es ps):ps=[]∨∃m,joinG [] ps=91::(m++[93]):=by
  induction h with
  | nil=>exact .inl rfl
  | cons p t ih =>
    obtain ⟨m,rfl⟩:=p.firm
    cases t with
    | nil=>exact .inr ⟨m,rfl⟩
    | @cons _ y _ l q t =>
      rcases ih with h | ⟨m',h⟩
      · cases h
      · exact .inr ⟨m++[93]++(91::m'),by show 91::(m++[93])++[]++joinG [] (y::l)=_;rw [h];simp⟩
theorem firm_of {m:List UInt8}:Firm (91::(m++[93])):=⟨fun x h=>by cases h;decide,fun x h=>by
  rw [List.getLast?_cons,List.getLast?_append] at h
  simp at h
  subst h;decide⟩
theorem pe_all:∀{es:List El}{ps:List (List UInt8)}{n:Nat},All2 PieceX es ps→ps.length<n→pe n (joinG [] ps)=some es
  | _,_,0,_,h=>absurd h (Nat.not_lt_zero _)
  | _,_,n+1,.nil,_=>rfl
  | _,_,n+1,.cons (b:=x) (m:=ps) p t,h=>by
    have e:joinG [] (x::ps)=x++joinG [] ps:=by
      cases ps with
      | nil=>exact (List.append_nil x).symm
      | cons y l=>show x++[]++joinG [] (y::l)=_;rw [List.append_nil]
    have f:trim (joinG [] ps)=joinG [] ps:=by
      rcases pieces_firm t with rfl | ⟨m,hm⟩
      · rfl
      · rw [hm];exact trim_id firm_of
    rw [e,pe_piece p,f,pe_all t (by simp at h;omega)]
    rfl
theorem rowB_firm {a sp t:List UInt8}(h35:(35:UInt8)∉a) (f:Firm a) (hn:a≠[]) (hsp:∀x∈sp,x=32∨x=9∨x=13) (ht:t=sp∨∃r,t=sp++35::r):rowB (a++t)=a:=by
  have h2:(35:UInt8)∉a++sp:=fun h=>by
    rcases List.mem_append.mp h with h | h
    · exact h35 h
    · rcases hsp 35 h with h | h | h <;> exact absurd h (by decide)
  have h3:trim (a++sp)=a:=by
    have:=trim_firm (s:=[]) (fun q_ h=>by cases h) hsp f hn
    rwa [List.nil_append] at this
  unfold rowB
  rcases ht with rfl | ⟨r,rfl⟩
  · rw [part_no h2];exact h3
  · rw [← List.append_assoc,part_hit h2];exact h3
theorem join_mem {α:Type}{sep:List α}:∀{l:List (List α)}{x:α},x∈joinG sep l→x∈sep∨∃y∈l,x∈y
  | [],_,h=>by cases h
  | [y],x,h=>.inr ⟨y,.head _,h⟩
  | y::z::l,x,h=>by
    have h:x∈y++sep++joinG sep (z::l):=h
    rcases List.mem_append.mp h with h | h
    · rcases List.mem_append.mp h with h | h
      · exact .inr ⟨y,.head _,h⟩
      · exact .inl h
    · rcases join_mem h with h | ⟨w,hw,hx⟩
      · exact .inl h
      · exact .inr ⟨w,.tail _ hw,hx⟩
theorem Firm.app {a b:List UInt8}(ha:Firm a) (hb:Firm b) (na:a≠[]) (nb:b≠[]) (c:List UInt8):Firm (a++c++b):=⟨fun x h=>by
    cases a with
    | nil=>exact absurd rfl na
    | cons y a=>exact ha.hd x h,fun x h=>by
    rw [List.getLast?_append] at h
    cases e:b.getLast? with
    | none=>exact absurd (List.getLast?_eq_none_iff.mp e) nb
    | some y=>rw [e] at h;exact hb.tl x (e.trans h)⟩
theorem join_firm:∀{hs:List (List UInt8)},hs≠[]→(∀h∈hs,Firm h∧h≠[])→Firm (joinG [32] hs)∧joinG [32] hs≠[]
  | [],h,_=>absurd rfl h
  | [x],_,h=>h x (.head _)
  | x::y::l,_,h=>by
    have i:=join_firm (hs:=y::l) (by simp) fun z hz=>h z (.tail _ hz)
    have j:=h x (.head _)
    exact ⟨j.1.app i.1 j.2 i.2 [32],fun e=>i.2 (List.append_eq_nil_iff.mp e).2⟩
theorem join_len {ps:List (List UInt8)}(h:∀p∈ps,p≠[]):ps.length≤(joinG [] ps).length:=by
  induction ps with
  | nil=>exact Nat.zero_le _
  | cons p l ih =>
    have h1:=List.length_pos_iff.mpr (h p (.head _))
    have h2:=ih fun q hq=>h q (.tail _ hq)
    cases l with
    | nil=>exact h1
    | cons q l =>
      show l.length+1+1≤(p++[]++joinG [] (q::l)).length
      rw [List.length_append,List.append_nil]
      simp only [List.length_cons] at h2
      lia
theorem All2.ne {α β:Type}{R:α→β→Prop}{l:List α}{m:List β}(h:All2 R l m) (hl:l≠[]):m≠[]:=by
  cases h with
  | nil=>exact absurd rfl hl
  | cons=>simp
theorem hex_mapM {cs:List Int}{hs:List (List UInt8)}(x:All2 HexOf cs hs) (h:∀c∈cs,c≤1114111):hs.mapM codeHex=some cs:=by
  induction x with
  | nil=>rfl
  | cons a t ih =>
    rw [List.mapM_cons,a.code (h _ (.head _)),ih fun c hc=>h c (.tail _ hc)]
    rfl
noncomputable abbrev RowIs (c:UInt8):Prop:=HexIs c∨c=32∨c=59∨c=91∨c=93∨c=46∨c=42
theorem PieceX.is {e:El}{x:List UInt8}(p:PieceX e x):∀c∈x,HexIs c∨c=91∨c=93∨c=46∨c=42:=by
  obtain ⟨h1,h2,h3,y,a1,a2,a3,hy,rfl⟩:=p
  intro c hc
  simp only [List.mem_append,List.mem_cons,List.not_mem_nil,or_false] at hc
  rcases hc with (h | h | h | h | h | h | h | h) | h
  · exact .inr (.inl h)
  · subst h;split
    · exact .inr (.inr (.inr (.inr rfl)))
    · exact .inr (.inr (.inr (.inl rfl)))
  · exact .inl (a1.is c h)
  · exact .inr (.inr (.inr (.inl h)))
  · exact .inl (a2.is c h)
  · exact .inr (.inr (.inr (.inl h)))
  · exact .inl (a3.is c h)
  · rcases hy with rfl | rfl
    · cases h
    · simp at h
      rcases h with rfl | rfl | rfl | rfl
      · exact .inr (.inr (.inr (.inl rfl)))
      · exact .inl (by decide)
      · exact .inl (by decide)
      · exact .inl (by decide)
  · exact .inr (.inr (.inl h))
structure KeyBody (cs:List Int) (es:List El) (b:List UInt8):Prop where
  is:∀c∈b,RowIs c
  firm:Firm b
  ne:b≠[]
  eff:∀vn,effOf vn b=some (.put cs es)
theorem eff_keys {cs:List Int}{hs:List (List UInt8)}{es:List El}{ps:List (List UInt8)}{bl:List UInt8}(H:All2 HexOf cs hs) (hc:∀c∈cs,c≤1114111) (nc:cs≠[]) (P:All2 PieceX es ps) (ne:es≠[]) (hbl:∀x∈bl,x=32):KeyBody cs es (joinG [32] hs++(bl++59::bl)++joinG [] ps):=by
  have nh:=H.ne nc
  have hex:∀h∈hs,∃v,HexOf v h:=fun h hh=>by obtain ⟨v,_,q⟩:=H.right h hh;exact ⟨v,q⟩
  have fa:=join_firm nh fun h hh=>by obtain ⟨v,q⟩:=hex h hh;exact ⟨q.firm,q.ne⟩
  have isA:∀c∈joinG [32] hs,HexIs c∨c=32:=fun c hm=>by
    rcases join_mem hm with h | ⟨y,hy,hx⟩
    · rw [List.mem_singleton] at h;exact .inr h
    · obtain ⟨v,q⟩:=hex y hy;exact .inl (q.is c hx)
  have isE:∀c∈joinG [] ps,HexIs c∨c=91∨c=93∨c=46∨c=42:=fun c hm=>by
    rcases join_mem hm with h | ⟨y,hy,hx⟩
    · cases h
    · obtain ⟨v,_,q⟩:=P.right y hy;exact q.is c hx
  obtain ⟨m,hm⟩:=(pieces_firm P).resolve_left (P.ne ne)
  have fe:Firm (joinG [] ps):=by rw [hm];exact firm_of
  have nE:joinG [] ps≠[]:=by rw [hm];simp
  have sp:∀x∈bl,x=32∨x=9∨x=13:=fun x hx=>.inl (hbl x hx)
  have t1:trim (joinG [32] hs++bl)=joinG [32] hs:=by
    have:=trim_firm (s:=[]) (fun q_ h=>by cases h) sp fa.1 fa.2
    rwa [List.nil_append] at this
  have t2:trim (bl++joinG [] ps)=joinG [] ps:=by
    have:=trim_firm (t:=[]) sp (fun q_ h=>by cases h) fe nE
    rwa [List.append_nil] at this
  have n1:(59:UInt8)∉joinG [32] hs++bl:=fun h=>by
    rcases List.mem_append.mp h with h | h
    · rcases isA _ h with h | h <;> exact absurd h (by decide)
    · exact absurd (hbl _ h) (by decide)
  have n2:(59:UInt8)∉bl++joinG [] ps:=fun h=>by
    rcases List.mem_append.mp h with h | h
    · exact absurd (hbl _ h) (by decide)
    · rcases isE _ h with h | h | h | h | h <;> exact absurd h (by decide)
  have shape:joinG [32] hs++(bl++59::bl)++joinG [] ps=(joinG [32] hs++bl)++59::(bl++joinG [] ps):=by simp
  refine ⟨fun c hm=>?_,fa.1.app fe fa.2 nE _,fun e=>fa.2 (List.append_eq_nil_iff.mp (List.append_eq_nil_iff.mp e).1).1,fun vn=>?_⟩
  · rcases List.mem_append.mp hm with h | h
    · rcases List.mem_append.mp h with h | h
      · exact (isA c h).imp_right .inl
      · rcases List.mem_append.mp h with h | h
        · exact .inr (.inl (hbl c h))
        · rcases List.mem_cons.mp h with h | h
          · exact .inr (.inr (.inl h))
          · exact .inr (.inl (hbl c h))
    · rcases isE c h with h | h
      · exact .inl h
      · exact .inr (.inr (.inr h))
  · obtain ⟨x,A,hA⟩:=List.exists_cons_of_ne_nil fa.2
    have hx:x≠64:=by
      rcases isA x (by rw [hA];exact .head _) with h | h
      · exact h.ne.2.2.2.2.2.2.2.1
      · rw [h];decide
    unfold effOf
    rw [if_neg fun e=>fa.2 (List.append_eq_nil_iff.mp (List.append_eq_nil_iff.mp e).1).1,if_neg]
    · rw [shape]
      unfold keyRow
      rw [split_hit n1,split_no n2]
      show (elemsOf (bl++joinG [] ps)).bind _=_
      unfold elemsOf
      rw [t2,pe_all P]
      · show (if es=[] then none else (codesOf (trim (joinG [32] hs++bl))).map _)=_
        rw [if_neg ne,t1]
        unfold codesOf
        rw [split_join nh fun h hh=>by obtain ⟨v,q⟩:=hex h hh;exact q.no (by decide),List.filter_eq_self.mpr,hex_mapM H hc]
        · cases cs with
          | nil=>exact absurd rfl nc
          | cons=>rfl
        · intro h hh
          obtain ⟨v,q⟩:=hex h hh
          have:=q.ne
          simpa using this
      · have:=join_len (ps:=ps) fun p hp=>by obtain ⟨e,_,q⟩:=P.right p hp;obtain ⟨m,rfl⟩:=q.firm;simp
        simp
        lia
    · rw [hA]
      show ¬ [x]=[64]
      simpa using hx
structure Body (ef:Eff) (b:List UInt8):Prop where
  is:∀c∈b,c≠35∧c≠9∧c≠10
  firm:Firm b
  ne:b≠[]
  eff:∀vn,effOf vn b=some ef
theorem KeyBody.body {cs:List Int}{es:List El}{b:List UInt8}(k:KeyBody cs es b):Body (.put cs es) b:=⟨fun c hc=>by
  rcases k.is c hc with h | h | h | h | h | h | h
  · have:=h.ne;exact ⟨this.2.2.2.2.1,this.2.1,this.2.2.2.1⟩
  all_goals (subst h;decide),k.firm,k.ne,k.eff⟩
theorem eff_rng {a b m:Int}{ha hl hm ends:List UInt8}(A:HexOf a ha) (L:HexOf b hl) (M:HexOf m hm) (h1:a≤b) (h2:b≤1114111) (he:(ends=ha∧b=a)∨ends=ha++46::46::hl):Body (.rng a b m) (wWeights++32::(ends++59::32::hm)):=by
  have isE:∀c∈ends,HexIs c∨c=46:=fun c hc=>by
    rcases he with ⟨rfl,_⟩ | rfl
    · exact .inl (A.is c hc)
    · rcases List.mem_append.mp hc with h | h
      · exact .inl (A.is c h)
      · rcases List.mem_cons.mp h with h | h
        · exact .inr h
        · rcases List.mem_cons.mp h with h | h
          · exact .inr h
          · exact .inl (L.is c h)
  have fE:Firm ends:=by
    rcases he with ⟨rfl,_⟩ | rfl
    · exact A.firm
    · have:=A.firm.app L.firm A.ne L.ne [46,46]
      rwa [List.append_assoc] at this
  have nE:(59:UInt8)∉ends:=fun h=>by rcases isE _ h with h | h <;> exact absurd h (by decide)
  have dd:endsOf (ddL ends)=some (a,b):=by
    rcases he with ⟨rfl,rfl⟩ | rfl
    · rw [dd_no (A.no (by decide))]
      show (codeHex ends).bind _=_
      rw [A.code h2];rfl
    · rw [dd_hit (A.no (by decide)) (L.no (by decide))]
      show (codeHex ha).bind _=_
      rw [A.code (by lia)]
      show (codeHex hl).bind _=_
      rw [L.code h2]
      exact if_neg (by lia)
  have tM:trim (32::hm)=hm:=by
    have:=trim_firm (s:=[32]) (t:=[]) (fun x h=>by rw [List.mem_singleton] at h;exact .inl h) (fun q_ h=>by cases h) M.firm M.ne
    rwa [List.append_nil] at this
  refine ⟨fun c hc=>?_,?_,by simp,fun vn=>?_⟩
  · have hx:∀{c:UInt8},HexIs c→c≠35∧c≠9∧c≠10:=fun h=>⟨h.ne.2.2.2.2.1,h.ne.2.1,h.ne.2.2.2.1⟩
    rcases List.mem_append.mp hc with h | h
    · exact (show ∀c∈wWeights,c≠35∧c≠9∧c≠10 by decide) c h
    · rcases List.mem_cons.mp h with rfl | h
      · decide
      · rcases List.mem_append.mp h with h | h
        · rcases isE c h with h | h
          · exact hx h
          · subst h;decide
        · rcases List.mem_cons.mp h with rfl | h
          · decide
          · rcases List.mem_cons.mp h with rfl | h
            · decide
            · exact hx (M.is c h)
  · have:=Firm.app (a:=wWeights) (b:=hm) ⟨fun x h=>by cases h;decide,fun x h=>by cases h;decide⟩ M.firm (by decide) M.ne (32::(ends++[59,32]))
    rw [List.append_assoc] at this
    simpa using this
  · unfold effOf
    rw [if_neg (by simp),if_pos (by rfl)]
    unfold ordOf
    rw [part_hit (by decide)]
    rw [if_neg (by rintro ⟨h,_⟩;exact absurd (show wWeights=wVersion from h) (by decide)),if_pos rfl]
    unfold baseOf
    rw [split_hit nE,split_no (a:=32::hm) (fun h=>by rcases List.mem_cons.mp h with h | h;exact absurd h (by decide);exact M.no (by decide) h)]
    show (((endsOf (ddL (trim ends))).bind fun e=>(numHex (trim (32::hm))).bind fun n=>some (e.1,e.2,n)).map fun t=>Eff.rng t.1 t.2.1 t.2.2)=_
    rw [trim_id fE,dd,tM]
    show (((numHex hm).bind _).map _)=_
    rw [M.num]
    rfl
theorem Body.row {ef:Eff}{b sp t:List UInt8}(B:Body ef b) (hsp:∀x∈sp,x=32∨x=9∨x=13) (ht:t=sp∨∃r,t=sp++35::r):rowB (b++t)=b∧(9:UInt8)∉rowB (b++t):=by
  have:=rowB_firm (fun h=>(B.is _ h).1 rfl) B.firm B.ne hsp ht
  rw [this]
  exact ⟨rfl,fun h=>(B.is _ h).2.1 rfl⟩
theorem bOf_sOf (h:List UInt8):bOf (sOf h)=h:=by
  show (h.map _).map _=h
  rw [List.map_map]
  have:(Nat.toUInt8 ∘ UInt8.toNat)=id:=by funext x;simp
  rw [this,List.map_id]
theorem bOf_app (a b:List Nat):bOf (a++b)=bOf a++bOf b:=List.map_append
theorem join_map {α β:Type}(g:α→β) (sep:List α):∀l:List (List α),(joinG sep l).map g=joinG (sep.map g) (l.map (·.map g))
  | []=>rfl
  | [_]=>rfl
  | x::y::l=>by
    show (x++sep++joinG sep (y::l)).map g=x.map g++sep.map g++joinG _ ((y::l).map (·.map g))
    rw [← join_map g sep (y::l),List.map_append,List.map_append]
theorem ElText.piece {e:El}{t:List Nat}(h:ElText e t):PieceX e (bOf t):=by
  obtain ⟨h1,h2,h3,x,a1,a2,a3,hx,rfl⟩:=h
  refine ⟨h1,h2,h3,bOf x,a1,a2,a3,?_,?_⟩
  · rcases hx with rfl | rfl
    · exact .inl rfl
    · exact .inr rfl
  · simp only [bOf_app,bOf_sOf]
    cases e.2.2.2 <;> simp
theorem Piece.x {e:El}{t:List UInt8}(h:Piece e t):PieceX e t:=by
  obtain ⟨h1,h2,h3,a1,a2,a3,rfl⟩:=h
  refine ⟨h1,h2,h3,[],a1,a2,a3,.inl rfl,?_⟩
  cases e.2.2.2 <;> simp
theorem RgLine.body {b:Base}{x:List UInt8}(h:RgLine b x) (h1:b.1≤b.2.1) (h2:b.2.1≤1114111):Body (.rng b.1 b.2.1 b.2.2.1) x:=by
  obtain ⟨g1,g2,g3,a1,a2,a3,rfl⟩:=h
  have:=eff_rng a1 a2 a3 h1 h2 (.inr rfl)
  simpa using this
theorem All2.imp {α β:Type}{R S:α→β→Prop}(h:∀a b,R a b→S a b) {l:List α}{m:List β}(a:All2 R l m):All2 S l m:=by
  induction a with
  | nil=>exact .nil
  | cons r t ih=>exact .cons (h _ _ r) ih
theorem KeyLine.body {p:List Int×List El}{x:List UInt8}(h:KeyLine p x) (n1:p.1≠[]) (n2:p.2≠[]) (hc:∀c∈p.1,c≤1114111):Body (.put p.1 p.2) x:=by
  obtain ⟨hs,ps,H,P,rfl⟩:=h
  exact (eff_keys (bl:=[32]) H hc n1 (P.imp fun q_ q_=>Piece.x) n2 (fun x h=>List.mem_singleton.mp h)).body
structure Agree (s:St) (t:Tld):Prop where
  rows:s.tab=t.rows
  rgs:s.rgs=t.rgs
  ver:s.ver.isNone=!t.ver
structure RowFact (t:Tld) (p:List Nat) (t':Tld):Prop where
  eff:∃ef,effOf (!t.ver) (rowB (bOf p))=some ef∧∀s,Agree s t→Agree (s.put ef) t'
  no9:(9:UInt8)∉rowB (bOf p)
  ch:∀c∈p,c<128∧c≠10
  len:p.length≤200
theorem HexIs.nat {c:UInt8}(h:HexIs c):c.toNat<128∧c.toNat≠10:=⟨h.ne.2.2.2.2.2.2.2.2.2.2,fun e=>h.ne.2.2.2.1 (UInt8.toNat_inj.mp e)⟩
theorem HexOf.nat {v:Int}{h:List UInt8}(a:HexOf v h):∀c∈sOf h,c<128∧c≠10:=fun c hc=>by
  obtain ⟨x,hx,rfl⟩:=List.mem_map.mp hc
  exact (a.is x hx).nat
theorem chs {P:Nat→Prop}{a b:List Nat}(h1:∀c∈a,P c) (h2:∀c∈b,P c):∀c∈a++b,P c:=fun c h=>(List.mem_append.mp h).elim (h1 c) (h2 c)
theorem ElText.nat {e:El}{t:List Nat}(h:ElText e t):∀c∈t,c<128∧c≠10:=by
  obtain ⟨h1,h2,h3,x,a1,a2,a3,hx,rfl⟩:=h
  refine chs (chs (chs (by decide) (by split <;> decide)) (chs (chs (chs (chs (chs a1.nat (by decide)) a2.nat) (by decide)) a3.nat) ?_)) (by decide)
  rcases hx with rfl | rfl <;> decide
theorem pairs2 {l:List (El×List Nat)}(h:∀p∈l,ElOk p.1∧ElText p.1 p.2):All2 PieceX (l.map (·.1)) (l.map fun p=>bOf p.2):=by
  induction l with
  | nil=>exact .nil
  | cons p l ih=>exact .cons (h p (.head _)).2.piece (ih fun q hq=>h q (.tail _ hq))
theorem bOf_keys {hs:List (List UInt8)}{l:List (El×List Nat)}{bl tl:List Nat}:bOf (((((joinG [32] (hs.map sOf)++bl)++[59])++bl)++joinG [] (l.map (·.2)))++tl)=(joinG [32] hs++(bOf bl++59::bOf bl)++joinG [] (l.map fun p=>bOf p.2))++bOf tl:=by
  have e1:bOf (joinG [32] (hs.map sOf))=joinG [32] hs:=by
    refine (join_map Nat.toUInt8 [32] _).trans ?_
    rw [List.map_map]
    show joinG [32] (hs.map fun h=>bOf (sOf h))=_
    rw [List.map_congr_left fun h q_=>bOf_sOf h,List.map_id']
  have e2:bOf (joinG [] (l.map (·.2)))=joinG [] (l.map fun p=>bOf p.2):=by
    refine (join_map Nat.toUInt8 [] _).trans ?_
    rw [List.map_map]
    rfl
  simp only [bOf_app,e1,e2]
  simp
theorem row_fact {t t':Tld}{p:List Nat}(r:RowOk t p t') (hf:∀a∈t.firsts,0≤a∧a<1000000):RowFact t p t':=by
  cases r with
  | blank h =>
    have key:∀q∈pBlank,rowB (bOf q)=[]∧(∀c∈q,c<128∧c≠10)∧q.length≤200:=by decide
    obtain ⟨h1,h2,h3⟩:=key p h
    exact ⟨⟨.no,by rw [h1];exact if_pos rfl,fun s a=>a⟩,by rw [h1];exact fun h=>(by cases h),h2,h3⟩
  | ver h =>
    refine ⟨⟨.ver [49,53,46,49,46,48],by rw [h];rfl,fun s a=>⟨a.rows,a.rgs,rfl⟩⟩,by decide,by decide,by decide⟩
  | @rng k a b d ha hl hb e h1 h2 h3 h4 h5 h6 h7 =>
    have ha':=hf a (List.mem_of_getElem? h1)
    have hd:0≤d∧d≤39:=by simp at h3;lia
    have B:Body (.rng a (a+d) b) (wWeights++32::((ha++if 0<d then 46::46::hl else [])++59::32::hb)):=eff_rng h4 h5 h6 (by lia) (by lia) (by
      by_cases q:0<d
      · rw [if_pos q];exact .inr rfl
      · rw [if_neg q,List.append_nil];exact .inl ⟨rfl,by lia⟩)
    have sh:bOf ((((pImp++(sOf ha++if 0<d then [46,46]++sOf hl else []))++[59,32])++sOf hb)++e)=(wWeights++32::((ha++if 0<d then 46::46::hl else [])++59::32::hb))++bOf e:=by
      have e1:bOf (if 0<d then [46,46]++sOf hl else [])=if 0<d then 46::46::hl else []:=by
        split
        · rw [bOf_app,bOf_sOf];rfl
        · rfl
      simp only [bOf_app,e1,bOf_sOf]
      simp
    have R:=B.row (sp:=if e=[] then [] else [32]) (t:=bOf e) (by split <;> simp) (by
      simp at h7
      rcases h7 with rfl | rfl
      · exact .inl rfl
      · exact .inr ⟨[32,98,97,115,101],rfl⟩)
    refine ⟨⟨.rng a (a+d) b,by rw [sh,R.1];exact B.eff _,fun s q=>⟨q.rows,by show s.rgs++[_]=_;rw [q.rgs],q.ver⟩⟩,by rw [sh];exact R.2,?_,?_⟩
    · refine chs (chs (chs (chs (by decide) (chs h4.nat ?_)) (by decide)) h6.nat) ?_
      · split
        · exact chs (by decide) h5.nat
        · decide
      · simp at h7;rcases h7 with rfl | rfl <;> decide
    · have:=h4.hi;have:=h5.hi;have:=h6.hi
      have le:e.length≤7:=by simp at h7;rcases h7 with rfl | rfl <;> decide
      have:(if 0<d then [46,46]++sOf hl else []).length≤8:=by split <;> simp;lia
      simp only [List.length_append,sOf_len,List.length_cons,List.length_nil] at *
      lia
  | @keys cs l hs bl tl h1 h2 h3 h4 h5 h7 h8 =>
    have hc:∀c∈cs,c≤1114111:=fun c hc=>by have:=h1 c hc;simp at this;lia
    have hbl:∀x∈bOf bl,x=32:=by simp at h7;rcases h7 with rfl | rfl | rfl <;> decide
    have B:Body (.put cs (l.map (·.1))) (joinG [32] hs++(bOf bl++59::bOf bl)++joinG [] (l.map fun p=>bOf p.2)):=(eff_keys h4 hc (List.length_pos_iff.mp h2.1) (pairs2 h5) (by have:=List.length_pos_iff.mp h3.1;simpa using this) hbl).body
    have R:=B.row (sp:=if tl=[13] then [13] else if tl=[32,35,32,65] then [32] else []) (t:=bOf tl) (by split;simp;split <;> simp) (by
      simp at h8
      rcases h8 with rfl | rfl | rfl | rfl
      · exact .inl rfl
      · exact .inr ⟨[32,65],rfl⟩
      · exact .inr ⟨[],rfl⟩
      · exact .inl rfl)
    refine ⟨⟨.put cs (l.map (·.1)),by rw [bOf_keys,R.1];exact B.eff _,fun s q=>⟨by show putK s.tab _ _=_;rw [q.rows],q.rgs,q.ver⟩⟩,by rw [bOf_keys];exact R.2,?_,?_⟩
    · refine chs (chs (chs (chs (chs ?_ ?_) (by decide)) ?_) ?_) ?_
      · intro c hm
        rcases join_mem hm with h | ⟨y,hy,hx⟩
        · rw [List.mem_singleton] at h;subst h;decide
        · obtain ⟨z,hz,rfl⟩:=List.mem_map.mp hy
          obtain ⟨v,_,q⟩:=h4.right z hz
          exact q.nat c hx
      · simp at h7;rcases h7 with rfl | rfl | rfl <;> decide
      · simp at h7;rcases h7 with rfl | rfl | rfl <;> decide
      · intro c hm
        rcases join_mem hm with h | ⟨y,hy,hx⟩
        · cases h
        · obtain ⟨z,hz,rfl⟩:=List.mem_map.mp hy
          exact (h5 z hz).2.nat c hx
      · simp at h8;rcases h8 with rfl | rfl | rfl | rfl <;> decide
    · have hjl:(joinG [32] (hs.map sOf)).length≤7*(hs.map sOf).length:=joinG_le [32] 6 (Nat.le_refl _) _ fun x hx=>by
        obtain ⟨y,hy,rfl⟩:=List.mem_map.mp hx
        obtain ⟨_,_,q⟩:=h4.right y hy
        rw [sOf_len];exact q.hi
      have htl:(joinG [] (l.map (·.2))).length≤41*(l.map (·.2)).length:=joinG_le [] 40 (Nat.zero_le _) _ fun x hx=>by
        obtain ⟨y,hy,rfl⟩:=List.mem_map.mp hx
        exact (h5 y hy).2.len
      have:=h4.len
      have lb:bl.length≤2:=by simp at h7;rcases h7 with rfl | rfl | rfl <;> decide
      have lt:tl.length≤4:=by simp at h8;rcases h8 with rfl | rfl | rfl | rfl <;> decide
      simp only [List.length_append,List.length_map,List.length_cons,List.length_nil] at *
      lia
inductive Rows:Tld→List (List Nat)→Tld→Prop
  | nil {t}:Rows t [] t
  | snoc {t t' t'' ps p} (h:Rows t ps t') (r:RowOk t' p t'') (f:RowFact t' p t''):Rows t (ps++[p]) t''
theorem rows_read {t t':Tld}{ps:List (List Nat)}(R:Rows t ps t') {s:St}(a:Agree s t):∃s',readAll s (ps.map bOf)=some s'∧Agree s' t':=by
  induction R with
  | nil=>exact ⟨s,rfl,a⟩
  | snoc h r f ih =>
    obtain ⟨s',h1,h2⟩:=ih
    obtain ⟨ef,e1,e2⟩:=f.eff
    rw [List.map_append,List.map_singleton,readAll_app h1,h2.ver,e1]
    exact ⟨_,rfl,e2 _ h2⟩
structure PageOk (p:List Nat):Prop where
  no9:(9:UInt8)∉rowB (bOf p)
  ch:∀c∈p,c<128∧c≠10
  len:p.length≤200
theorem rows_ok {t t':Tld}{ps:List (List Nat)}(R:Rows t ps t'):∀p∈ps,PageOk p:=by
  induction R with
  | nil=>intro p h;cases h
  | snoc h r f ih =>
    intro p hp
    rcases List.mem_append.mp hp with h | h
    · exact ih p h
    · rw [List.mem_singleton] at h;subst h;exact ⟨f.no9,f.ch,f.len⟩
theorem split_joinE {c:UInt8}:∀{l:List (List UInt8)},l≠[]→(∀x∈l,c∉x)→splitB c (joinG [c] l++[c])=l++[[]]
  | [],h,_=>absurd rfl h
  | [x],_,h=>split_hit (h x (.head _))
  | x::y::l,_,h=>by
    show splitB c (x++[c]++joinG [c] (y::l)++[c])=_
    rw [List.append_assoc,List.append_assoc]
    show splitB c (x++c::(joinG [c] (y::l)++[c]))=_
    rw [split_hit (h x (.head _)),split_joinE (by simp) fun z hz=>h z (.tail _ hz)]
    rfl
theorem split_lines {c:UInt8}:∀{l:List (List UInt8)},(∀x∈l,c∉x)→splitB c (joinG [] (l.map (·++[c])))=l++[[]]
  | [],_=>rfl
  | [x],h=>split_hit (h x (.head _))
  | x::y::l,h=>by
    show splitB c (x++[c]++[]++joinG [] ((y::l).map (·++[c])))=_
    rw [List.append_nil,List.append_assoc]
    show splitB c (x++c::joinG [] ((y::l).map (·++[c])))=_
    rw [split_hit (h x (.head _)),split_lines fun z hz=>h z (.tail _ hz)]
    rfl
noncomputable def linesOf (ps:List (List Nat)):List (List UInt8):=if ps=[] then [[],[]] else ps.map bOf++[[]]
theorem page_split {ps:List (List Nat)}(h:∀p∈ps,PageOk p):splitB 10 (bOf (joinG [10] ps++[10]))=linesOf ps:=by
  unfold linesOf
  by_cases e:ps=[]
  · subst e;rfl
  · rw [if_neg e,bOf_app,show bOf (joinG [10] ps)=joinG [10] (ps.map bOf) from join_map Nat.toUInt8 [10] ps]
    refine split_joinE (by simpa using e) fun x hx hm=>?_
    obtain ⟨p,hp,rfl⟩:=List.mem_map.mp hx
    obtain ⟨c,hc,e⟩:=List.mem_map.mp hm
    have:=(h p hp).ch c hc
    have e2:=congrArg UInt8.toNat e
    rw [show (Nat.toUInt8 c).toNat=c % 256 from UInt8.toNat_ofNat ..] at e2
    have:(10:UInt8).toNat=10:=rfl
    lia
theorem linesOf_len (ps:List (List Nat)):(linesOf ps).length≤ps.length+2:=by
  unfold linesOf
  split <;> simp
theorem page_no9 {ps:List (List Nat)}(h:∀p∈ps,PageOk p):∀x∈linesOf ps,(9:UInt8)∉rowB x:=by
  intro x hx
  unfold linesOf at hx
  split at hx
  · simp at hx;subst hx;decide
  · rcases List.mem_append.mp hx with hx | hx
    · obtain ⟨p,hp,rfl⟩:=List.mem_map.mp hx
      exact (h p hp).no9
    · simp at hx;subst hx;decide
theorem page_bytes {ps:List (List Nat)}(h:∀p∈ps,PageOk p) (hl:ps.length≤60):(∀c∈joinG [10] ps++[10],c<128)∧(joinG [10] ps++[10]).length≤201*60+1:=by
  refine ⟨chs (fun c hc=>?_) (by decide),?_⟩
  · rcases join_mem hc with hc | ⟨y,hy,hx⟩
    · simp at hc;subst hc;decide
    · exact ((h y hy).ch c hx).1
  · have:=joinG_le [10] 200 (Nat.le_refl _) ps fun x hx=>(h x hx).len
    rw [List.length_append]
    show _+1≤_
    have:(200+1)*ps.length≤201*60:=Nat.mul_le_mul_left _ hl
    lia
theorem blank_eff (vn:Bool):effOf vn (rowB [])=some .no:=if_pos rfl
theorem read_page {ps:List (List Nat)}{s:St}(h:readAll st0 (ps.map bOf)=some s):readAll st0 (linesOf ps)=some s:=by
  unfold linesOf
  split
  · next e=>subst e;cases h;rfl
  · rw [readAll_app h,blank_eff];rfl
noncomputable def bads:List (List Nat):=[[48,48,54,49],[59,32,91,46,48,48,48,49,46,48,48,50,48,46,48,48,48,50,93],[49,49,48,48,48,48,32,59,32,91,46,48,48,48,49,46,48,48,50,48,46,48,48,48,50,93],[48,48,71,49,32,59,32,91,46,48,48,48,49,46,48,48,50,48,46,48,48,48,50,93],[64,119,104,97,116,32,49],
  [48,48,54,49,32,59,32,91,46,48,48,48,49,46,48,48,50,48],[48,48,54,49,32,59,32,46,48,48,48,49,46,48,48,50,48,46,48,48,48,50,93],[48,48,54,49,32,59,32,91,46,48,48,48,49,46,48,48,50,48,93],[48,48,54,49,32,59,32,91,48,48,48,49,46,48,48,50,48,46,48,48,48,50,93],
  [48,48,54,49,32,59],[64,118,101,114,115,105,111,110],[48,48,54,49,32,59,32,91,46,48,48,48,49,46,48,48,50,48,46,48,48,48,50,46,48,48,48,49,46,48,48,48,49,93],
  [64,105,109,112,108,105,99,105,116,119,101,105,103,104,116,115,32,49,55,48,48,48,46,46,49,56,65,70,70],[64,105,109,112,108,105,99,105,116,119,101,105,103,104,116,115,32,49,56,65,70,70,46,46,49,55,48,48,48,59,32,70,66,48,48]]
theorem bads_none:∀b∈bads,∀vn,(effOf vn (rowB (bOf b))).isNone=true:=by decide +kernel
theorem bads_ok:∀b∈bads,PageOk b:=by
  have:∀b∈bads,(9:UInt8)∉rowB (bOf b)∧(∀c∈b,c<128∧c≠10)∧b.length≤200:=by decide +kernel
  exact fun b hb=>⟨(this b hb).1,(this b hb).2.1,(this b hb).2.2⟩
theorem bad_page {ps qs:List (List Nat)}{b:List Nat}{s:St}(h:readAll st0 (ps.map bOf)=some s) (hb:b∈bads):badAt st0 (linesOf (ps++b::qs))=some ps.length:=by
  have e:linesOf (ps++b::qs)=ps.map bOf++bOf b::(qs.map bOf++[[]]):=by
    unfold linesOf
    rw [if_neg (by simp)]
    simp
  rw [e]
  have:=badAt_app (l:=bOf b) (r:=qs.map bOf++[[]]) h (Option.isNone_iff_eq_none.mp (bads_none b hb _))
  rwa [List.length_map] at this
theorem bad_read {ls:List (List UInt8)}{k:Nat}:∀{s:St},badAt s ls=some k→readAll s ls=none:=by
  induction ls generalizing k with
  | nil=>intro s h;cases h
  | cons l ls ih =>
    intro s h
    unfold badAt at h
    show (effOf s.ver.isNone (rowB l)).bind _=none
    cases e:effOf s.ver.isNone (rowB l) with
    | none=>rfl
    | some ef =>
      rw [e] at h
      cases q:badAt (s.put ef) ls with
      | none =>
        have h:(badAt (s.put ef) ls).map (·+1)=some k:=h
        rw [q] at h
        cases h
      | some j=>exact ih q
structure TldI (t:Tld) (k:Nat):Prop where
  rows:t.rows.length≤k
  rgs:t.rgs.length≤k
  firsts:(t.rgs.map (·.1)++t.firsts).Perm [94208,101632,110960]
  rg:∀r∈t.rgs,(r.2.2=64256∨r.2.2=64257)∧r.1≤r.2.1∧r.2.1≤r.1+39
  key:∀p∈t.rows,p.1≠[]∧p.1.length≤3∧(∀c∈p.1,c∈[(97:Int),98,769,128512])∧p.2≠[]∧p.2.length≤2∧∀e∈p.2,ElOk e
theorem TldI.ok {t:Tld}{k:Nat}(I:TldI t k):TldOk t k:=⟨I.rows,I.rgs,by have:=I.firsts.length_eq;simp at this;lia,fun a ha=>by
  have:=I.firsts.subset (List.mem_append_right _ ha)
  simp at this;lia⟩
theorem erase_perm {a:Int}:∀{l:List Int}{k:Nat},l[k]?=some a→l.Perm (a::l.eraseIdx k)
  | [],_,h=>by cases h
  | x::l,0,h=>by cases h;exact .refl _
  | x::l,k+1,h=>((erase_perm (l:=l) (k:=k) h).cons x).trans (.swap ..)
theorem TldI.next {t t':Tld}{k:Nat}{p:List Nat}(I:TldI t k) (r:RowOk t p t'):TldI t' (k+1):=by
  cases r with
  | blank=>exact ⟨Nat.le_succ_of_le I.rows,Nat.le_succ_of_le I.rgs,I.firsts,I.rg,I.key⟩
  | ver=>exact ⟨Nat.le_succ_of_le I.rows,Nat.le_succ_of_le I.rgs,I.firsts,I.rg,I.key⟩
  | @rng k' a b d ha hl hb e h1 h2 h3 h4 h5 h6 h7 =>
    refine ⟨Nat.le_succ_of_le I.rows,by have:=I.rgs;simp;lia,?_,fun r hr=>?_,I.key⟩
    · show ((t.rgs++[(a,a+d,b)]).map (·.1)++t.firsts.eraseIdx k').Perm _
      rw [List.map_append,List.append_assoc]
      exact ((erase_perm h1).symm.append_left _).trans I.firsts
    · rcases List.mem_append.mp hr with hr | hr
      · exact I.rg r hr
      · rw [List.mem_singleton] at hr;subst hr
        exact ⟨h2,by simp at h3;show a≤a+d∧a+d≤a+39;lia⟩
  | @keys cs l hs bl tl h1 h2 h3 h4 h5 h7 h8 =>
    refine ⟨by have:=I.rows;have:=putK_len t.rows cs (l.map (·.1));show (putK t.rows cs (l.map (·.1))).length≤_;lia,Nat.le_succ_of_le I.rgs,I.firsts,I.rg,fun p hp=>?_⟩
    rcases mem_putK hp with rfl | hp
    · exact ⟨List.length_pos_iff.mp h2.1,h2.2,h1,by have:=List.length_pos_iff.mp h3.1;simpa using this,by simpa using h3.2,fun e he=>by
        obtain ⟨q,hq,rfl⟩:=List.mem_map.mp he
        exact (h5 q hq).1⟩
    · exact I.key p hp.1
theorem bit15 {x:Int}(h0:0≤x) (h1:x<32768):Builtin.bitOr x 32768=32768+x:=by
  obtain ⟨n,rfl⟩:=Int.eq_ofNat_of_zero_le h0
  have key:Builtin.bitOr (n:Int) 32768=((n ||| 32768:Nat):Int):=by
    have nn:∀y:Int,Builtin.bitNot (Builtin.bitNot y)=y:=fun y=>by show -(-y-1)-1=y;lia
    have neg:∀m:Nat,decide (0≤Builtin.bitNot (m:Int))=false:=fun m=>decide_eq_false (by show ¬ 0≤-(m:Int)-1;lia)
    unfold Builtin.bitOr Builtin.bitAnd
    rw [neg n,show (32768:Int)=((32768:Nat):Int) from rfl,neg 32768]
    show Builtin.bitNot (Builtin.bitNot (((Builtin.bitNot (Builtin.bitNot (n:Int))).toNat ||| (Builtin.bitNot (Builtin.bitNot ((32768:Nat):Int))).toNat:Nat):Int))=_
    rw [nn,nn,nn]
    rfl
  rw [key,Nat.or_comm]
  have:=Nat.two_pow_add_eq_or_of_lt (i:=15) (b:=n) (by lia) 1
  have e2:(32768 ||| n)=32768+n:=by simpa using this.symm
  rw [e2];rfl
theorem low15 {x:Int}(h0:0≤x):Builtin.bitAnd x 32767=x.fmod 32768:=by
  obtain ⟨n,rfl⟩:=Int.eq_ofNat_of_zero_le h0
  have e:Builtin.bitAnd (n:Int) 32767=((n &&& 32767:Nat):Int):=by
    unfold Builtin.bitAnd
    rw [decide_eq_true (Int.natCast_nonneg n)]
    rfl
  rw [e,show (32767:Nat)=2 ^ 15-1 from rfl,Nat.and_two_pow_sub_one_eq_mod,Int.fmod_eq_emod_of_nonneg _ (by decide)]
  rfl
noncomputable abbrev F3:List Int:=[94208,101632,110960]
noncomputable def askedL:List Int:=[888,327680]++F3.flatMap fun a=>(List.range 42).map fun (n:Nat)=>a-1+(n:Int)
theorem first3 {t:Tld}{k:Nat}(I:TldI t k) {r:Int×Int×Int}(hr:r∈t.rgs):r.1∈F3:=I.firsts.subset (List.mem_append_left _ (List.mem_map.mpr ⟨r,hr,rfl⟩))
theorem asked5:∀a∈F3,∀(d:Nat),d<40→∀c∈[a-1,a,(a+(a+(d:Int))).fdiv 2,a+(d:Int),a+(d:Int)+1],c∈askedL:=by decide +kernel
theorem near3:∀a∈F3,∀b∈F3,a≤b+39→b≤a+39→a=b:=by decide +kernel
theorem far3:∀a∈F3,∀b∈F3,a+39<b+32768:=by decide +kernel
theorem asked_lo:∀c∈askedL,0≤c∧c≤1114111:=by decide +kernel
theorem asked_ideo:∀c∈askedL,∀r∈ideoRows,¬ (r.1≤c∧c≤r.2.1):=by decide +kernel
theorem asked {t:Tld}{k:Nat}(I:TldI t k) {code:Int}(h:code∈probes t.rgs):code∈askedL:=by
  rcases List.mem_append.mp h with h | h
  · exact List.mem_append_left _ h
  · obtain ⟨r,hr,hc⟩:=List.mem_flatMap.mp h
    obtain ⟨_,h2,h3⟩:=I.rg r hr
    obtain ⟨d,hd⟩:=Int.le.dest h2
    rw [← hd] at hc h3
    exact asked5 _ (first3 I hr) d (Int.ofNat_lt.mp (Int.lt_of_le_of_lt (Int.le_of_add_le_add_left h3) (by decide))) _ hc
theorem one_range {t:Tld}{k:Nat}(I:TldI t k) {code:Int}{i j:Nat}{r q:Int×Int×Int}(hi:t.rgs[i]?=some r) (hj:t.rgs[j]?=some q) (h1:r.1≤code∧code≤r.2.1) (h2:q.1≤code∧code≤q.2.1):i=j:=by
  have nd:(t.rgs.map (·.1)).Nodup:=by
    have:(t.rgs.map (·.1)++t.firsts).Nodup:=I.firsts.nodup_iff.mpr (by decide)
    exact (List.nodup_append.mp this).1
  have e1:=first3 I (List.mem_of_getElem? hi)
  have e2:=first3 I (List.mem_of_getElem? hj)
  have e3:=(I.rg r (List.mem_of_getElem? hi)).2
  have e4:=(I.rg q (List.mem_of_getElem? hj)).2
  have e:r.1=q.1:=near3 _ e1 _ e2 (Int.le_trans h1.1 (Int.le_trans h2.2 e4.2)) (Int.le_trans h2.1 (Int.le_trans h1.2 e3.2))
  have a1:(t.rgs.map (·.1))[i]?=some r.1:=by rw [List.getElem?_map,hi];rfl
  have a2:(t.rgs.map (·.1))[j]?=some r.1:=by rw [List.getElem?_map,hj,e];rfl
  exact (List.getElem?_inj (List.getElem?_eq_some_iff.mp a1).1 nd).mp (a1.trans a2.symm)
noncomputable abbrev basesOf (rgs:List (Int×Int×Int)) (og:Int→Int):List Base:=bases0++rgs.map fun r=>(r.1,r.2.1,r.2.2,some (og r.2.2))
theorem bases0_len:bases0.length=18:=rfl
theorem base_at {rgs:List (Int×Int×Int)}{og:Int→Int}{i:Nat}{b:Base}(h:(basesOf rgs og)[i]?=some b):(i=0∧b=(0,1114111,64448,none))∨(0<i∧i<18∧∃r∈ideoRows,b=(r.1,r.2.1,r.2.2,none))∨(∃k r,i=18+k∧rgs[k]?=some r∧b=(r.1,r.2.1,r.2.2,some (og r.2.2))):=by
  rcases Nat.lt_or_ge i 18 with hi | hi
  · rw [List.getElem?_append_left (by rw [bases0_len];exact hi)] at h
    cases i with
    | zero=>cases h;exact .inl ⟨rfl,rfl⟩
    | succ i =>
      have h:(ideoRows.map fun r=>((r.1,r.2.1,r.2.2,none):Base))[i]?=some b:=h
      obtain ⟨r,hr,rfl⟩:=List.mem_map.mp (List.mem_of_getElem? h)
      exact .inr (.inl ⟨Nat.succ_pos i,hi,r,hr,rfl⟩)
  · rw [List.getElem?_append_right (by rw [bases0_len];exact hi),bases0_len,List.getElem?_map] at h
    cases e:rgs[i-18]? with
    | none=>rw [e] at h;cases h
    | some r=>rw [e] at h;cases h;exact .inr (.inr ⟨i-18,r,(Nat.add_sub_cancel' hi).symm,e,rfl⟩)
theorem impl_ok {t:Tld}{k:Nat}(I:TldI t k) {og:Int→Int}(hog:∀r∈t.rgs,Org t.rgs r.2.2 (og r.2.2)) {code:Int}(hc:code∈probes t.rgs):∃(j:Nat) (bb:Base),(basesOf t.rgs og)[j]?=some bb∧(bb.1≤code∧code≤bb.2.1)∧(∀i b',j<i→(basesOf t.rgs og)[i]?=some b'→¬ (b'.1≤code∧code≤b'.2.1))∧∀es,LawImpl t.rgs code es→implEls bb code=es:=by
  have A:=asked I hc
  by_cases q:∃(k:Nat) (r:Int×Int×Int),t.rgs[k]?=some r∧r.1≤code∧code≤r.2.1
  · obtain ⟨k',r,h1,h2⟩:=q
    have hr:=List.mem_of_getElem? h1
    refine ⟨18+k',(r.1,r.2.1,r.2.2,some (og r.2.2)),?_,h2,fun i b' hi hb hin=>?_,fun es L=>?_⟩
    · rw [List.getElem?_append_right (by rw [bases0_len];exact Nat.le_add_right 18 k'),bases0_len,List.getElem?_map,Nat.add_sub_cancel_left,h1];rfl
    · rcases base_at hb with ⟨e,_⟩ | ⟨_,e,_⟩ | ⟨m,u,e,hu,rfl⟩
      · exact absurd hi (e▸Nat.not_lt_zero _)
      · exact absurd (Nat.lt_of_le_of_lt (Nat.le_add_right 18 k') (Nat.lt_trans hi e)) (Nat.lt_irrefl _)
      · exact absurd hi (by rw [e,one_range I h1 hu h2 hin];exact Nat.lt_irrefl _)
    · cases L with
      | @inn m u v g1 g2 g3 g4 =>
        have e:=one_range I h1 g1 h2 g2
        subst e
        rw [h1] at g1
        cases g1
        have ev:og r.2.2=v:=IsMin.uniq (hog r hr) g4
        have hv:v≤r.1:=g4.2 _ (List.mem_map.mpr ⟨r,List.mem_filter.mpr ⟨hr,by simp⟩,rfl⟩)
        obtain ⟨w,hw,hwv⟩:=List.mem_map.mp g4.1
        have q0:0≤code-v:=Int.sub_nonneg.mpr (Int.le_trans hv h2.1)
        have q1:code-v<32768:=Int.sub_left_lt_of_lt_add (Int.lt_of_le_of_lt (Int.le_trans h2.2 (I.rg r hr).2.2) (hwv▸far3 _ (first3 I hr) _ (first3 I (List.mem_filter.mp hw).1)))
        show [((r.2.2:Int),(32:Int),(2:Int),false),(Builtin.bitOr (code-og r.2.2) 32768,0,0,false)]=_
        rw [ev,bit15 q0 q1,Int.fmod_eq_emod_of_nonneg _ (by decide),Int.emod_eq_of_lt q0 q1]
      | out g=>exact absurd h2 (g r hr)
  · have hn:∀r∈t.rgs,¬ (r.1≤code∧code≤r.2.1):=fun r hr h=>by
      obtain ⟨m,hm⟩:=List.mem_iff_getElem?.mp hr
      exact q ⟨m,r,hm,h⟩
    refine ⟨0,(0,1114111,64448,none),rfl,asked_lo _ A,fun i b' hi hb hin=>?_,fun es L=>?_⟩
    · rcases base_at hb with ⟨e,_⟩ | ⟨_,_,u,hu,rfl⟩ | ⟨m,u,e,hu,rfl⟩
      · lia
      · exact asked_ideo _ A u hu hin
      · exact hn u (List.mem_of_getElem? hu) hin
    · cases L with
      | inn g1 g2 g3 g4=>exact absurd g2 (hn _ (List.mem_of_getElem? g1))
      | out g =>
        have h0:0≤code:=(asked_lo _ A).1
        show [(((64448:Int)+code.fdiv (2 ^ (15:Int).toNat)),(32:Int),(2:Int),false),(Builtin.bitOr (Builtin.bitAnd code 32767) 32768,0,0,false)]=_
        have e15:((2:Int) ^ (15:Int).toNat)=32768:=by decide
        rw [low15 h0,bit15 (Int.fmod_nonneg_of_pos code (by decide)) (Int.fmod_lt_of_pos code (by decide)),e15]
theorem match_ok {t:Tld}{k:Nat}(I:TldI t k) (hk:k≤60) {og:Int→Int}(hog:∀r∈t.rgs,Org t.rgs r.2.2 (og r.2.2)) {tab:List (List Int×List El)}(hp:(tab.map (·.1)).Perm (t.rows.map (·.1))) (hm:∀p∈tab,p∈t.rows):Match tab (basesOf t.rgs og) t where
  perm:=hp
  els:=hm
  ne:=fun p h=>(I.key p (hm p h)).1
  z:=fun h=>by
    obtain ⟨p,hp,e⟩:=List.mem_map.mp h
    have:=(I.key p (hm p hp)).2.2.1 122 (by rw [e];exact .head _)
    exact absurd this (by decide)
  small:=by have:=hp.length_eq;have:=I.rows;simp at *;lia
  elen:=fun p h=>by have:=(I.key p (hm p h)).2.2.2.2.1;lia
  len:=by rw [List.length_append,bases0_len,List.length_map];have:=I.rgs;lia
  impl:=fun code hc=>impl_ok I hog hc
theorem read_effs:∀{efs:List Eff}{ls tl:List (List UInt8)}{s:St},All2 (fun ef l=>∀vn,effOf vn (rowB l)=some ef) efs ls→readAll s (ls++tl)=readAll (efs.foldl St.put s) tl
  | _,_,_,_,.nil=>rfl
  | ef::efs,l::ls,tl,s,.cons h t=>by
    show (effOf s.ver.isNone (rowB l)).bind (fun ef=>readAll (s.put ef) (ls++tl))=_
    rw [h]
    exact read_effs (s:=s.put ef) t
theorem fold_rngs:∀{rs:List (Int×Int×Int)}{s:St},(rs.map fun r=>Eff.rng r.1 r.2.1 r.2.2).foldl St.put s={s with rgs:=s.rgs++rs }
  | [],s=>by
    show s=_
    rw [List.append_nil]
  | r::rs,s=>by
    rw [List.map_cons,List.foldl_cons,fold_rngs]
    show ({s with rgs:=(s.rgs++[(r.1,r.2.1,r.2.2)])++rs }:St)=_
    rw [List.append_assoc]
    rfl
theorem fold_puts:∀{rs:List (List Int×List El)}{s:St},((s.tab++rs).map (·.1)).Nodup→(rs.map fun p=>Eff.put p.1 p.2).foldl St.put s={s with tab:=s.tab++rs }
  | [],s,_=>by
    show s=_
    rw [List.append_nil]
  | p::rs,s,h=>by
    have hn:s.tab.any (fun q=>q.1=p.1)=false:=by
      rw [List.any_eq_false]
      intro q hq e
      rw [List.map_append,List.map_cons] at h
      have:=(List.nodup_append.mp h).2.2 q.1 (List.mem_map.mpr ⟨q,hq,rfl⟩) p.1 (.head _)
      exact this (of_decide_eq_true e)
    have hp:putK s.tab p.1 p.2=s.tab++[p]:=by
      unfold putK
      rw [if_neg (by rw [hn];simp)]
    rw [List.map_cons,List.foldl_cons]
    show (rs.map fun p=>Eff.put p.1 p.2).foldl St.put {s with tab:=putK s.tab p.1 p.2 }=_
    rw [hp,fold_puts]
    · show ({s with tab:=(s.tab++[p])++rs }:St)=_
      rw [List.append_assoc]
      rfl
    · show ((s.tab++[p]++rs).map (·.1)).Nodup
      rw [List.append_assoc]
      exact h
theorem All2.app {α β:Type}{R:α→β→Prop}{l l':List α}{m m':List β}(h:All2 R l m) (h':All2 R l' m'):All2 R (l++l') (m++m'):=by
  induction h with
  | nil=>exact h'
  | cons a _ ih=>exact .cons a ih
theorem All2.mapL {α α' β:Type}{R:α→β→Prop}{S:α'→β→Prop}{g:α→α'}(hi:∀a b,R a b→S (g a) b) {l:List α}{m:List β}(h:All2 R l m):All2 S (l.map g) m:=by
  induction h with
  | nil=>exact .nil
  | cons a _ ih=>exact .cons (hi _ _ a) ih
theorem All2.impM {α β:Type}{R S:α→β→Prop}{l:List α}{m:List β}(h:All2 R l m) (hi:∀a∈l,∀b,R a b→S a b):All2 S l m:=by
  induction h with
  | nil=>exact .nil
  | cons a _ ih=>exact .cons (hi _ (.head _) _ a) (ih fun a ha=>hi a (.tail _ ha))
theorem bases_some {rgs:List (Int×Int×Int)}{og:Int→Int}:(basesOf rgs og).filter (fun b=>b.2.2.2.isSome)=rgs.map fun r=>(r.1,r.2.1,r.2.2,some (og r.2.2)):=by
  rw [List.filter_append]
  have e1:bases0.filter (fun b=>b.2.2.2.isSome)=[]:=by decide +kernel
  rw [e1,List.nil_append]
  exact List.filter_eq_self.mpr fun b hb=>by
    obtain ⟨r,_,rfl⟩:=List.mem_map.mp hb
    rfl
structure Second (l:List UInt8) (s:St):Prop where
  read:readAll st0 (splitB 10 l)=some s
  no9:∀x∈splitB 10 l,(9:UInt8)∉rowB x
  count:(splitB 10 l).length≤900
  len:l.length≤500000
theorem f3_hi:∀a∈F3,a+39≤1114111:=by decide
theorem second {t:Tld}{k:Nat}(I:TldI t k) (hk:k≤55) {og:Int→Int}{r:List (List Int×List El)}{rl kl:List (List UInt8)}(T:Told t.rows (basesOf t.rgs og) r rl kl):Second (joinG [] ((rl++kl).map (·++[10]))) ⟨r,t.rgs,none⟩:=by
  have hR:=T.rgs
  rw [bases_some] at hR
  have hr3:=fun (q:Int×Int×Int) (hq:q∈t.rgs)=>first3 I hq
  have b1:All2 (fun ef l=>∃b,l=b∧Body ef b) (t.rgs.map fun r=>Eff.rng r.1 r.2.1 r.2.2) rl:=by
    have key:∀{rs:List (Int×Int×Int)}{ls:List (List UInt8)},(∀q∈rs,q∈t.rgs)→All2 RgLine (rs.map fun r=>((r.1,r.2.1,r.2.2,some (og r.2.2)):Base)) ls→All2 (fun ef l=>∃b,l=b∧Body ef b) (rs.map fun r=>Eff.rng r.1 r.2.1 r.2.2) ls:=fun {rs}=>by
      induction rs with
      | nil=>intro ls _ h;cases h;exact .nil
      | cons q rs ih =>
        intro ls hs h
        cases h with
        | cons a t =>
          have h3:=hr3 q (hs q (.head _))
          have h4:=(I.rg q (hs q (.head _))).2
          exact .cons ⟨_,rfl,a.body h4.1 (Int.le_trans h4.2 (f3_hi _ h3))⟩ (ih (fun x hx=>hs x (.tail _ hx)) t)
    exact key (fun q_ h=>h) hR
  have b2:All2 (fun ef l=>∃b,l=b∧Body ef b) (r.map fun p=>Eff.put p.1 p.2) kl:=All2.mapL (R:=fun p l=>∃b,l=b∧Body (.put p.1 p.2) b) (fun q_ q_ h=>h) (T.keys.impM fun p hp x h=>by
    have q:=I.key p (T.of p hp)
    exact ⟨x,rfl,h.body q.1 q.2.2.2.1 fun c hc=>(show ∀c∈[(97:Int),98,769,128512],c≤1114111 by decide) c (q.2.2.1 c hc)⟩)
  have b:=b1.app b2
  have hb:∀x∈rl++kl,∃ef,Body ef x:=fun x hx=>by
    obtain ⟨ef,_,_,rfl,B⟩:=b.right x hx
    exact ⟨ef,B⟩
  have sp:splitB 10 (joinG [] ((rl++kl).map (·++[10])))=(rl++kl)++[[]]:=split_lines fun x hx h=>by
    obtain ⟨ef,B⟩:=hb x hx
    exact (B.is 10 h).2.2 rfl
  have ro:∀{ef:Eff}{x:List UInt8},Body ef x→rowB x=x:=fun B=>by
    have:=(B.row (sp:=[]) (t:=[]) (fun q_ h=>by cases h) (.inl rfl)).1
    rwa [List.append_nil] at this
  have hz:(rl++kl).length≤110:=by
    have hrl:=T.perm.length_eq
    rw [List.length_map,List.length_map] at hrl
    rw [b.len,List.length_append,List.length_map,List.length_map,hrl]
    exact leSum (Nat.le_trans I.rgs hk) (Nat.le_trans I.rows hk) rfl
  refine ⟨?_,?_,?_,?_⟩
  · rw [sp,read_effs (b.imp fun ef l ⟨b,e,B⟩ vn=>by subst e;rw [ro B];exact B.eff vn),List.foldl_append,fold_rngs,fold_puts]
    · show (effOf true (rowB [])).bind _=_
      rw [blank_eff]
      rfl
    · show ((([]:List (List Int×List El))++r).map (·.1)).Nodup
      rw [List.nil_append]
      exact T.asc.imp fun h e=>by rw [e,ltL_irr] at h;cases h
  · rw [sp]
    intro x hx
    rcases List.mem_append.mp hx with hx | hx
    · obtain ⟨ef,B⟩:=hb x hx
      rw [ro B]
      exact fun h=>(B.is 9 h).2.1 rfl
    · rw [List.mem_singleton] at hx;subst hx;decide
  · rw [sp]
    exact leN (leApp hz (Nat.le_refl 1)) rfl
  · have hm:∀x∈(rl++kl).map (·++[10]),x.length≤4001:=fun x hx=>by
      obtain ⟨y,hy,rfl⟩:=List.mem_map.mp hx
      refine leN (leApp (a:=4000) ?_ (Nat.le_refl 1)) rfl
      rcases List.mem_append.mp hy with hy | hy
      · obtain ⟨_,_,q⟩:=hR.right y hy
        exact leN q.len rfl
      · obtain ⟨p,hp,q⟩:=T.keys.right y hy
        have h:=I.key p (T.of p hp)
        exact q.len (leN h.2.1 rfl) (leN h.2.2.2.2.1 rfl)
    exact Nat.le_trans (joinG_le [] 4001 (Nat.zero_le _) _ hm) (by rw [List.length_map];exact leN (Nat.mul_le_mul_left 4002 hz) rfl)
noncomputable abbrev told0:Tld:=⟨[],[],false,[94208,101632,110960]⟩
theorem told0_ok:TldI told0 0:=⟨Nat.le_refl _,Nat.le_refl _,.refl _,fun q_ h=>(by cases h),fun q_ h=>(by cases h)⟩
theorem keys_code {t:Tld}{k:Nat}(I:TldI t k):∀p∈t.rows,p.1≠[]∧p.1.length≤100∧p.2.length≤100∧(∀c∈p.1,Code c)∧∀e∈p.2,Code e.1∧Code e.2.1∧Code e.2.2.1:=fun p hp=>by
  obtain ⟨h1,h2,h3,h4,h5,h6⟩:=I.key p hp
  exact ⟨h1,leN h2 rfl,leN h5 rfl,fun c hc=>code4 c (h3 c hc),fun e he=>⟨.lt (h6 e he).a.1 (h6 e he).a.2 rfl,.lt (h6 e he).b.1 (h6 e he).b.2 rfl,.lt (h6 e he).c.1 (h6 e he).c.2 rfl⟩⟩
theorem f3_code:∀a∈F3,0≤a∧a<1000000:=by decide
theorem two64' {b:Int}(h:b=64256∨b=64257):Code b:=h.elim (fun e=>e▸by decide) fun e=>e▸by decide
theorem bases_code {t:Tld}{k:Nat}(I:TldI t k) {og:Int→Int}(hog:∀r∈t.rgs,Org t.rgs r.2.2 (og r.2.2)):∀b∈basesOf t.rgs og,Code b.1∧Code b.2.1∧Code b.2.2.1:=fun b hb=>by
  rcases List.mem_append.mp hb with hb | hb
  · exact (show ∀b∈bases0,Code b.1∧Code b.2.1∧Code b.2.2.1 by decide +kernel) b hb
  · obtain ⟨r,hr,rfl⟩:=List.mem_map.mp hb
    obtain ⟨q1,q2,q3⟩:=I.rg r hr
    have q0:=f3_code _ (first3 I hr)
    exact ⟨.lt q0.1 (Int.lt_trans (Int.lt_add_one_of_le (Int.le_refl _)) (Int.add_lt_add_right q0.2 1)) rfl,.lt (Int.le_trans q0.1 q2) (Int.lt_of_le_of_lt q3 (Int.add_lt_add_right q0.2 39)) rfl,two64' q1⟩
theorem read_pre {b:List (List UInt8)}{s':St}:∀{a:List (List UInt8)}{s:St},readAll s (a++b)=some s'→∃s1,readAll s a=some s1
  | [],s,_=>⟨s,rfl⟩
  | l::a,s,h=>by
    have h:(effOf s.ver.isNone (rowB l)).bind (fun ef=>readAll (s.put ef) (a++b))=some s':=h
    show ∃s1,(effOf s.ver.isNone (rowB l)).bind (fun ef=>readAll (s.put ef) a)=some s1
    cases e:effOf s.ver.isNone (rowB l) with
    | none=>rw [e] at h;cases h
    | some ef=>rw [e] at h;exact read_pre h
theorem dict0T {o:Own}{Q:D→Own→Prop}(h:∀t,Q (.ref t) ((t,.td [])::o)):dict0 f v o Q:=.inl h
structure PageZ (qs:List (List Nat)):Prop where
  s:(qs.map List.length).sum+qs.length≤1048576
  j:(joinG [10] qs).length+[10].length≤16777216
  ch:∀c∈joinG [10] qs++[10],c<128
  z:(joinG [10] qs++[10]).length≤1000000
  b:(bOf (joinG [10] qs++[10])).length≤500000
  c:(splitB 10 (bOf (joinG [10] qs++[10]))).length≤900
  n9:∀x∈splitB 10 (bOf (joinG [10] qs++[10])),(9:UInt8)∉rowB x
theorem pageZ {qs:List (List Nat)}(h:∀p∈qs,PageOk p) (hl:qs.length≤60):PageZ qs:=by
  have hB:=page_bytes h hl
  have hz1:(qs.map List.length).sum≤200*qs.length:=sum_le fun x hx=>(h x hx).len
  have hz2:=hB.2
  have hN:=linesOf_len qs
  rw [List.length_append] at hz2
  exact ⟨by lia,by lia,hB.1,Nat.le_trans hB.2 (by decide),by rw [List.length_map];exact Nat.le_trans hB.2 (by decide),by rw [page_split h];lia,by rw [page_split h];exact page_no9 h⟩
theorem badZ {t:Tld}{ps:List (List Nat)}{bad:List Nat}{k:Nat}(hR:Rows told0 ps t) (hl:ps.length≤8) (hb:bad∈bads) (hk:k≤ps.length):PageZ (ps.take k++bad::ps.drop k)∧badAt st0 (splitB 10 (bOf (joinG [10] (ps.take k++bad::ps.drop k)++[10])))=some k:=by
  have hP:=rows_ok hR
  obtain ⟨s0,hrd0,_⟩:=rows_read hR (s:=st0) ⟨rfl,rfl,rfl⟩
  obtain ⟨s1,hrd⟩:=read_pre (a:=(ps.take k).map bOf) (b:=(ps.drop k).map bOf) (by rw [← List.map_append,List.take_append_drop];exact hrd0)
  have hQ:∀p∈ps.take k++bad::ps.drop k,PageOk p:=fun p hp=>by
    rcases List.mem_append.mp hp with hp | hp
    · exact hP p (List.mem_of_mem_take hp)
    · rcases List.mem_cons.mp hp with rfl | hp
      · exact bads_ok _ hb
      · exact hP p (List.mem_of_mem_drop hp)
  have hbad:=bad_page (qs:=ps.drop k) hrd hb
  rw [List.length_take,Nat.min_eq_left hk] at hbad
  exact ⟨pageZ hQ (by simp;lia),by rw [page_split hQ];exact hbad⟩
theorem goodZ {t:Tld}{ps:List (List Nat)}(hR:Rows told0 ps t) (hl:ps.length≤8):PageZ ps∧∃s,readAll st0 (splitB 10 (bOf (joinG [10] ps++[10])))=some s∧Agree s t:=by
  obtain ⟨s,hread,hag⟩:=rows_read hR (s:=st0) ⟨rfl,rfl,rfl⟩
  exact ⟨pageZ (rows_ok hR) (by lia),s,by rw [page_split (rows_ok hR)];exact read_page hread,hag⟩
theorem sliceTo {α:Type}{l:List α}(k:Nat):sliceL l none (some (k:Int)) none=some (l.take k):=by
  show (if 0≤(k:Int) then some _ else none)=_
  rw [if_pos (Int.natCast_nonneg k)];rfl
theorem sliceFrom {α:Type}{l:List α}(k:Nat):sliceL l (some (k:Int)) none none=some (l.drop k):=by
  show (if 0≤(k:Int) then some _ else none)=_
  rw [if_pos (Int.natCast_nonneg k)];rfl
structure LawI (k:Nat) (x:List (List Nat)×Tld×List Int×Int):Prop where
  R:Rows told0 x.1 x.2.1
  I:TldI x.2.1 k
  l:x.1.length=k
  D:∀r,k+r=8→DkOk x.2.2.1 x.2.2.2 (10+50*r)
theorem LawI.turn {k:Nat}{x:List (List Nat)×Tld×List Int×Int}(h:LawI k x) (hk:k<8):∃m,DkOk x.2.2.1 x.2.2.2 (m+50)∧∀p t' cells turn,RowOk x.2.1 p t'→DkOk cells turn m→LawI (k+1) (x.1++[p],t',cells,turn):=by
  have hr:k+1+(8-(k+1))=8:=Nat.add_sub_cancel' hk
  have D:=h.D _ ((Nat.succ_add_eq_add_succ k _).symm.trans hr)
  rw [Nat.mul_succ,← Nat.add_assoc] at D
  exact ⟨_,D,fun p t' cells turn hR D=>⟨.snoc h.R hR (row_fact hR h.I.ok.codes),h.I.next hR,by rw [List.length_append,h.l];rfl,fun r' e=>Nat.add_left_cancel (hr.trans e.symm)▸D⟩⟩
@[reducible] noncomputable def lawBadS:ST:=(seqS (asgS (callP  (.ref 517) (consL (cellP 0) (consL (bin .Add (callP  (.builtin "len") (consL (loc 1) nilL)) (kD (.int 1))) nilL))) (tgtS (.loc 2))) (seqS (asgS (listP (consL (kD (.str [48,48,54,49])) (consL (kD (.str [59,32,91,46,48,48,48,49,46,48,48,50,48,46,48,48,48,50,93])) (consL (kD (.str [49,49,48,48,48,48,32,59,32,91,46,48,48,48,49,46,48,48,50,48,46,48,48,48,50,93])) (consL (kD (.str [48,48,71,49,32,59,32,91,46,48,48,48,49,46,48,48,50,48,46,48,48,48,50,93])) (consL (kD (.str [64,119,104,97,116,32,49])) nilL)))))) (tgtS (.loc 3))) (seqS (asgS (bin .Add (loc 3) (listP (consL (kD (.str [48,48,54,49,32,59,32,91,46,48,48,48,49,46,48,48,50,48])) (consL (kD (.str [48,48,54,49,32,59,32,46,48,48,48,49,46,48,48,50,48,46,48,48,48,50,93])) (consL (kD (.str [48,48,54,49,32,59,32,91,46,48,48,48,49,46,48,48,50,48,93])) (consL (kD (.str [48,48,54,49,32,59,32,91,48,48,48,49,46,48,48,50,48,46,48,48,48,50,93])) nilL)))))) (tgtS (.loc 3))) (seqS (asgS (bin .Add (loc 3) (listP (consL (kD (.str [48,48,54,49,32,59])) (consL (kD (.str [64,118,101,114,115,105,111,110])) (consL (kD (.str [48,48,54,49,32,59,32,91,46,48,48,48,49,46,48,48,50,48,46,48,48,48,50,46,48,48,48,49,46,48,48,48,49,93])) nilL))))) (tgtS (.loc 3))) (seqS (asgS (callP  (.ref 524) (consL (cellP 0) (consL (bin .Add (loc 3) (listP (consL (kD (.str [64,105,109,112,108,105,99,105,116,119,101,105,103,104,116,115,32,49,55,48,48,48,46,46,49,56,65,70,70])) (consL (kD (.str [64,105,109,112,108,105,99,105,116,119,101,105,103,104,116,115,32,49,56,65,70,70,46,46,49,55,48,48,48,59,32,70,66,48,48])) nilL)))) nilL))) (tgtS (.loc 4))) (seqS (tryAsS 64 5 (seqS (exprS (callP  (.ref 500) (consL (callP  (.ref 529) (consL (bin .Add (methP (kD (.str [10])) "join" (consL (bin .Add (bin .Add (sliceP (loc 1) noPart (loc 2) noPart) (listP (consL (loc 4) nilL))) (sliceP (loc 1) (loc 2) noPart noPart)) nilL)) (kD (.str [10]))) nilL)) nilL))) nilS) (seqS (retS (ofB (cmp .Eq (attrP (loc 5) "told") (bin .Add (loc 2) (kD (.int 1)))))) nilS)) (seqS (retS (kD (.bool false))) nilS)))))))
theorem c_lawBad (pk:Parts K) {n:Nat}(W:Wk K f (n+15)) {c cl rl:Addr}{cells:List Int}{mixed turn:Int}{t:Tld}{ps:List (List Nat)}{z:Own}{d0 d2 d3 d4 d5 d6:Option D}{Q':Fl→Vals→Own→Prop}(hR:Rows told0 ps t) (hl:ps.length≤8) (D:DkOk cells turn 2) (hc0:Has z (f.cs 0) (.cell (some (.ref c)))) (hQ:∀v o,Q' (.ret (.bool true)) v o) :
    lawBadS f [d0,some (.ref rl),d2,d3,d4,d5,d6] (DeckO c cl cells mixed turn ((rl,.list (ps.map .str))::z)) Q':=by
  repeat' wtm_at "V"
  refine d_drawN pk D (n:=n+12) W.cx W.gr (by wtm_at "Mp") (Int.lt_add_one_of_le (Int.natCast_nonneg _)) (Int.lt_of_le_of_lt (Int.add_le_add_right (Int.ofNat_le.mpr hl) 1) (by decide)) fun k cells turn a1 D=>?_
  have hk:k≤ps.length:=Int.ofNat_le.mp (Int.le_of_lt_add_one a1)
  clear a1
  repeat' wtm_at "V"
  intro l1
  repeat' wtm_at "V"
  intro l2
  refine VOp.list (.there .here) .here (by decide) fun l3=>?_
  repeat' wtm_at "V"
  intro l4
  refine VOp.list (.there .here) .here (by decide) fun l5=>?_
  repeat' wtm_at "V"
  intro l6
  refine VOp.list (.there .here) .here (by decide) fun l7=>?_
  refine d_pickM pk D (n:=n+11) (e:=.str) (ls:=bads) (rest':=(rl,.list (ps.map .str))::z) W.cx W.gr (by wtm_at "Mp") (by wtm_at "Ms") rfl fun bad cells turn hb D=>?_
  repeat' wtm_at "V"
  have Z:=badZ hR hl hb hk
  have hz0:ps.length≤16777216:=leN hl rfl
  refine VTryAs.mk True (.int ((k:Int)+1)) [] W.fr1 ?_ ?_
  · refine mJoin ?_
    refine VSlice.list (l':=(ps.take k).map .str) (.there (.there .here)) (by rw [List.map_take];exact sliceTo k) (leMap hz0) (by decide) fun s1=>?_
    intro s2
    refine VOp.list (l':=[.str bad]) (.there .here) .here (leSum (leMap (Nat.le_trans (List.length_take_le ..) (Nat.le_trans hk hl))) (Nat.le_refl 1) rfl) fun s3=>?_
    refine VSlice.list (l':=(ps.drop k).map .str) (.there (.there (.there (.there (.there .here))))) (by rw [List.map_drop];exact sliceFrom k) (leMap hz0) (by decide) fun s4=>?_
    refine VOp.list (l:=(ps.take k).map .str++[.str bad]) (.there .here) .here (leSum (leApp (leMap (Nat.le_trans (List.length_take_le ..) (Nat.le_trans hk hl))) (Nat.le_refl 1)) (leMap (Nat.le_trans (by rw [List.length_drop];exact Nat.sub_le ..) hl)) rfl) fun s5=>?_
    refine Call.sJoin (ls:=ps.take k++bad::ps.drop k) (Has.here.eqL (by rw [List.map_append,List.append_assoc];rfl)) (by decide) Z.1.s ?_
    refine ⟨Z.1.j,?_⟩
    refine (c_law_octets (n:=n+13) pk W.cx W.gr Z.1.ch Z.1.z ?_).call
    refine (c_read_allkeys (n:=n+2) pk W.cx W.gr Z.1.b Z.1.c Z.1.n9 (fun s' e de ta lg b lng hs' og hog=>?_) (fun k' hk' x o t=>?_)).call
    · rw [bad_read Z.2] at hs'
      cases hs'
    · rw [Z.2] at hk'
      cases hk'
      refine ⟨trivial,t.grow fun p hp=>?_⟩
      rw [List.mem_singleton] at hp
      subst hp
      exact ⟨.head _,trivial⟩
  · intro _ e o t
    obtain ⟨dd,tb,h1,h2,_⟩:=t
    have h1:Has o e (.exc 64 dd tb):=by
      cases h1 with
      | there h=>exact h
    have h2:Has o dd (.attrs ["told"] [.int ((k:Int)+1)]):=by
      cases h2 with
      | there h=>exact h
    refine VAttr.exc (by exact W.gr.K) pk.x_64 h1 h2 plainI ?_
    have hQc:∀(c:Bool) v o,c=true→Q' (.ret (.bool c)) v o:=fun c v o e=>e▸hQ v o
    exact hQc (((k:Int)+1) == ((k:Int)+1)) _ _ (beq_self_eq_true _)
@[reducible] noncomputable def lawGoodS:ST:=(seqS (asgS (callP  (.ref 500) (consL (callP  (.ref 529) (consL (bin .Add (methP (kD (.str [10])) "join" (consL (loc 1) nilL)) (kD (.str [10]))) nilL)) nilL)) (tgtS (.loc 6))) (seqS (retS (andV (callP  (.ref 556) (consL (loc 6) (consL (cellP 1) nilL))) (callP  (.ref 556) (consL (callP  (.ref 500) (consL (callP  (.ref 505) (consL (loc 6) nilL)) nilL)) (consL (cellP 1) nilL))))) nilS))
theorem c_lawGood (pk:Parts K) {n:Nat}(W:Wk K f (n+15)) {td tr tg tf rl:Addr}{t:Tld}{ps:List (List Nat)}{z:Own}{j1 j2:Addr×O}{k:Nat}{d0 d2 d3 d4 d5 d6:Option D}{Q':Fl→Vals→Own→Prop}(hR:Rows told0 ps t) (hI:TldI t k) (hk:k≤8) (hl:ps.length≤8) (hc1:Has z (f.cs 1) (.cell (some (.ref td)))) (hQ:∀v o,Q' (.ret (.bool true)) v o) :
    lawGoodS f [d0,some (.ref rl),d2,d3,d4,d5,d6] (j1::j2::(rl,.list (ps.map .str))::ToldO td tr tg tf t z) Q':=by
  have hk60:k≤60:=leN hk rfl
  refine mJoin ?_
  obtain ⟨Z,s,hread,hag⟩:=goodZ hR hl
  refine Call.sJoin (ls:=ps) (.there (.there .here)) (by decide) Z.s ?_
  refine ⟨Z.j,?_⟩
  refine (c_law_octets (n:=n+13) pk W.cx W.gr Z.ch Z.z ?_).call
  refine (c_read_allkeys (n:=n+2) pk W.cx W.gr Z.b Z.c Z.n9 (fun s' e de ta lg b lng hs' og hog=>?_) (fun k hk=>by
    rw [bad_read hk] at hread
    cases hread)).call
  rw [hread] at hs'
  cases hs'
  rw [hag.rows]
  rw [hag.rgs] at hog ⊢
  repeat' wtm_at "V"
  refine Call.pre (c_law_has (n:=n+9) pk W.cx W.gr (match_ok hI hk60 hog (.refl _) (fun p h=>h)) hI.ok hk60 ?_) (Pick.perm (fp:=ElemO e de ta lg b t.rows lng (basesOf t.rgs og) (ToldO td tr tg tf t [])) (by wtm_at "Mp"))
  repeat' wtm_at "V"
  refine ⟨_,rfl,br2 ?_⟩
  refine c_allkeys (n:=n+9) pk W.cx W.gr (by rw [List.length_append,bases0_len,List.length_map];exact leSum (Nat.le_refl 18) (Nat.le_trans hI.rgs hk) rfl) (bases_code hI hog) (ltN (Nat.le_trans hI.rows hk) rfl) (keys_code hI) fun r2 rl2 kl2 T2=>?_
  have S2:=second hI (leN hk rfl) T2
  refine (c_read_allkeys (n:=n+2) pk W.cx W.gr S2.len S2.count S2.no9 (fun s' e2 de2 ta2 lg2 b2 lng2 hs' og2 hog2=>?_) (fun k hk=>by
    have:=S2.read
    rw [bad_read hk] at this
    cases this)).call
  rw [S2.read] at hs'
  cases hs'
  repeat' wtm_at "V"
  refine Call.pre (c_law_has (n:=n+9) pk W.cx W.gr (match_ok hI hk60 hog2 T2.perm T2.of) hI.ok hk60 ?_) (Pick.perm (fp:=ElemO e2 de2 ta2 lg2 b2 r2 lng2 (basesOf t.rgs og2) (ToldO td tr tg tf t [])) (by wtm_at "Mp"))
  exact hQ _ _
theorem c_law (pk:Parts K) {n:Nat}(cx:Cx A (n+16)) (g:Gr K B) {sc:Addr}{vs:List Value}{ns:List Int}(hB:B.IsList sc vs.toArray) (hi:IntsAre vs ns) (hz:ns.length≤1000):CallC w B A (.ref 561) [.cst (.ref sc)] own (fun d q_=>d=.bool true) X:=by
  refine pk.fnB pk.f_law pk.b_law cx g fun f W hfB=>?_
  repeat' wtm_at "V"
  refine c_law_deck (n:=n+13) pk W.cx W.gr (hfB▸hB) hi hz fun c cl cells mixed hcl=>?_
  repeat' wtm_at "V"
  intro td
  refine dict0T fun tr=>?_
  intro tg
  repeat' wtm_at "V"
  intro tf
  refine ⟨_,by wtm_at "M", ?_⟩
  repeat' wtm_at "V"
  have D:DkOk cells 0 411:=⟨leN hcl rfl,Int.le_refl _,by decide⟩
  refine Call.permPost (d_drawN pk D (n:=n+12) W.cx W.gr (by wtm_at "Mp") (by decide) (by decide) fun m cells turn m1 D=>⟨_,Pick.perm (fp:=DeckO c cl cells mixed turn (ToldO td tr tg tf told0 [])) (by wtm_at "Mp"),?_⟩)
  have hm8:m≤8:=Nat.le_of_lt (Int.ofNat_lt.mp m1)
  repeat' wtm_at "V"
  refine Call.permPost (Call.range fun r t1 t2 t3=>⟨_,Pick.perm (fp:=DeckO c cl cells mixed turn (ToldO td tr tg tf told0 [])) (by wtm_at "Mp"),?_⟩)
  refine VComp.st (List.range m) (fun (i:Nat)=>.int i) LawI (fun x=>x.1.map .str) (fun x=>DeckO c cl x.2.2.1 mixed x.2.2.2 (ToldO td tr tg tf x.2.1 ((r,.exact (rangeObj m t1 t2 t3))::(f.cs 0,.cell (some (.ref c)))::(f.cs 1,.cell (some (.ref td)))::own))) ([],told0,cells,turn) False 0 .none (Iterable.range W.cx.handled (leN hm8 rfl) (r:=r) (t:=t1) (u:=t2) (v:=t3)) (fun k x h o' hs=>Has.of_mem (hs _ (.tail _ (.tail _ (.tail _ (.tail _ (.tail _ (.tail _ (.head _)))))))))
    rfl rfl ⟨.nil,told0_ok,rfl,fun r e=>by cases (Nat.zero_add r).symm.trans e;exact D⟩ (by rw [List.length_range];exact leN hm8 rfl) (fun k x h=>by rw [List.length_map,h.l];exact Nat.le_refl _) False.elim (fun k i x L env hi h=>?_) fun rl x h=>?_
  · have hk:k<8:=Nat.lt_of_lt_of_le (by have:=(List.getElem?_eq_some_iff.mp hi).1;rwa [List.length_range] at this) hm8
    obtain ⟨fuel,D,hn⟩:=h.turn hk
    refine br2 (cellX (by wtm_at "M") ?_)
    refine cellX (by wtm_at "M") ?_
    refine (c_law_row (n:=n+7) pk W.cx W.gr D h.I.ok (leN (Nat.le_of_lt hk) rfl) fun p t' cells turn hr D=>?_).call
    exact VEnd.same ⟨(x.1++[p],t',cells,turn),hn p t' cells turn hr D,List.map_append ..,rfl⟩
  rw [List.length_range] at h
  obtain ⟨ps,t,cells,turn⟩:=x
  obtain ⟨hR,hI,hl,D⟩:=h
  have D:DkOk cells turn 10:=(D (8-m) (Nat.add_sub_cancel' hm8)).low (Nat.le_add_right ..)
  have hl8:ps.length≤8:=Nat.le_trans (Nat.le_of_eq hl) hm8
  repeat' wtm_at "V"
  refine d_draw pk D (n:=n+12) W.cx W.gr (by wtm_at "Mp") (by decide) (by decide) fun z cells turn z0 z1 D=>?_
  exact ⟨fun q_=>c_lawBad (n:=n) pk W hR hl8 (D.low (Nat.le_of_ble_eq_true rfl)) (.there (.there (.there (.there (.there .here))))) fun q_ q_=>VEnd.same rfl,fun q_=>c_lawGood (n:=n) pk W hR hI hm8 hl8 (.there (.there .here)) fun q_ q_=>VEnd.same rfl⟩
theorem atLast {w:World}{s₁:Shared}{K:Frag}{mg mb:Str→Option Value}{a:Addr}{vs:List Value}{ns:List Int}{cl:Str→Option Addr}{mean:ExcName→Option Value}{fa:Addr}
    (pk:Parts K) (KX:K.In s₁.heap) (hl:s₁.heap.NoLimit) (g:s₁.heap.Ns mainGlobals mg) (b:s₁.heap.Ns builtinsNs mb) (hb:∀x:Str,x ≠ "__name__" → mb x=bootBuiltins x)
    (hn:nsIn K mainGlobals "law" = some (some (.ref 561))) (hm:mg "law" = some (.ref fa)) (hg:s₁.gens=#[]) (hL:s₁.heap.IsList a vs.toArray) (hI:IntsAre vs ns) (hz:¬ ((63:Nat):Int)<(ns.length:Int)) :
    wpAny (model PG w) callerA (call (.ref fa) [.ref a]) (fun v s'=>GoodWG PySem.Challenge.rw_nt0052_01.row.claim cl mean [ofPy (.list (ns.map .int))] s₁ (.ok (.ret v)) s') (fun e s'=>GoodWG PySem.Challenge.rw_nt0052_01.row.claim cl mean [ofPy (.list (ns.map .int))] s₁ (.error e) s') s₁:=by
  cases (mg_of KX g hn).symm.trans hm
  have gr:Gr K s₁.heap:=⟨KX,hl,⟨mg,mb,g,b,hb⟩⟩
  have c:=(c_law (w:=w) (A:=callerA) (own:=[]) (X:=fun q_ q_=>False) pk (n:=0) ⟨⟨_,rfl⟩,rfl,by decide,by decide⟩ gr hL hI (by omega)).call [] [.ref a] rfl s₁ (fun q_=>False)
    ⟨fun q_ q_ h=>h,fun q_ h=>h.elim,fun q_ h=>h.elim,fun q_ h=>(List.not_mem_nil h).elim,.nil,trivial,hg⟩ (pc rfl pc0)
  refine wpAny_mono c (fun v s' ⟨N,o,d,S,I,r,q⟩=>?_) fun e s' h=>?_
  · cases q
    cases (show v=_ from r)
    refine GoodW.toG ⟨.inl ⟨_,.bool true,[],rfl,fun cls=>?_,?_,?_,?_⟩,I.stays,S.os,I.gens⟩
    · rfl
    · exact .bool true
    · kernel_rfl
    · exact fun q_=>⟨.nil,fun q_ h=>(List.not_mem_nil h).elim⟩
  · obtain ⟨_,_,_,_,_,_,h⟩:=h
    exact h.elim
end
theorem top.tw9928715349825290689:True:=trivial
theorem top.tw16541100652227675460:True:=trivial
theorem top.tw9403446381161628825:True:=trivial
theorem top.tw11620815646739571071:True:=trivial
theorem top.tw1617082727099693868:True:=trivial
theorem top.tw16975562568813534335:True:=trivial
theorem top.tw18064794426631996164:True:=trivial
theorem top.tw13656020575341623325:True:=trivial
theorem top.tw4547283496358047369:True:=trivial
theorem top.tw2745572283795976233:True:=trivial
theorem top.tw15470379304558344453:True:=trivial
theorem top.tw5327730231235587845:True:=trivial
theorem top.tw637196487639823708:True:=trivial
theorem top.tw6076761115306665922:True:=trivial
theorem top.tw14890274524958701917:True:=trivial
theorem top.tw13305523845174962083:True:=trivial
theorem top.tw4076874860590878102:True:=trivial
theorem top.tw3705258643556999731:True:=trivial
theorem top.tw1697544655201012999:True:=trivial
theorem top.tw17030962893124633753:True:=trivial
theorem top.tw15819921549079746931:True:=trivial
theorem top.tw12273664047150464655:True:=trivial
theorem top.tw3422688185749166683:True:=trivial
theorem top.tw17565814175750979855:True:=trivial
theorem top.tw11762496359356365647:True:=trivial
theorem top.tw668136137496459709:True:=trivial
theorem top.tw661290744650703789:True:=trivial
theorem top.tw83393220934416808:True:=trivial
theorem top.tw13370185576492129568:True:=trivial
theorem top.tw3210909881063332861:True:=trivial
theorem top.tw6370870915552960936:True:=trivial
theorem top.tw15362295582089109014:True:=trivial
theorem top.tw15131181735567767105:True:=trivial
theorem top.tw8148004212497801138:True:=trivial
theorem top.tw10079171474624433434:True:=trivial
theorem top.tw9086228944894876722:True:=trivial
theorem top.tw7273676953221729872:True:=trivial
theorem top.tw53344730913325255:True:=trivial
theorem top.tw17828378304095215089:True:=trivial
theorem top.tw13134186033006778460:True:=trivial
theorem top.tw4695670854781333657:True:=trivial
theorem top.tw10226039269515513512:True:=trivial
theorem top.tw4058662728301269685:True:=trivial
theorem top.tw7260941619817147077:True:=trivial
theorem top.tw7313339093194340965:True:=trivial
theorem top.tw13359135706311490777:True:=trivial
theorem top.tw13864677062968915208:True:=trivial
theorem top.tw9739860059890490050:True:=trivial
theorem top.tw16004416686337608138:True:=trivial
theorem top.tw10574840078274726829:True:=trivial
theorem top.tw15286249088069653756:True:=trivial
theorem top.tw13345470168829271861:True:=trivial
theorem top.tw9590735534726013551:True:=trivial
theorem top.tw12545222027267286695:True:=trivial
theorem top.tw9108098604805947806:True:=trivial
theorem top.tw12783364522390391256:True:=trivial
theorem top.tw2601905985415302144:True:=trivial
theorem top.tw14826035006057030972:True:=trivial
theorem top.tw8833053369097974544:True:=trivial
theorem top.tw4331257952254489624:True:=trivial
theorem top.tw13928562000808390012:True:=trivial
theorem top.tw11116745826364501430:True:=trivial
theorem top.tw10774637447528242797:True:=trivial
theorem top.tw1124271682379634556:True:=trivial
theorem top.tw12415523145999629524:True:=trivial
theorem top.tw5839659824258004927:True:=trivial
theorem top.tw2683898200743741643:True:=trivial
theorem top.tw16174758807025615021:True:=trivial
theorem top.tw2267912224990424062:True:=trivial
theorem top.tw3776753064480771068:True:=trivial
theorem top.tw7990429038631628895:True:=trivial
theorem top.tw9442318146202087700:True:=trivial
theorem top.tw6883741973766446791:True:=trivial
theorem top.tw8025738503920905074:True:=trivial
theorem top.tw6431110157172167083:True:=trivial
theorem top.tw5728218623943512802:True:=trivial
theorem top.tw11199710921928265848:True:=trivial
theorem top.tw2145171640123136144:True:=trivial
theorem top.tw775762912060472103:True:=trivial
theorem top.tw4134505453457115739:True:=trivial
theorem top.tw8107277231737898597:True:=trivial
theorem top.tw13261893007816960818:True:=trivial
theorem top.tw9152664641465651067:True:=trivial
theorem top.tw13889484949932952446:True:=trivial
theorem top.tw6756868429301003459:True:=trivial
theorem top.tw8694864300669457046:True:=trivial
theorem top.tw2741389259953327712:True:=trivial
theorem top.tw9272544492142499777:True:=trivial
theorem top.tw7160873610591055699:True:=trivial
theorem top.tw10017263926548143515:True:=trivial
theorem top.tw8598144960395782539:True:=trivial
theorem top.tw2029088862249889922:True:=trivial
theorem top.tw14762295962024373759:True:=trivial
theorem top.tw9666326922614434849:True:=trivial
theorem top.tw14263998999751124003:True:=trivial
theorem top.tw342308947776675178:True:=trivial
theorem top.tw1400011881503588481:True:=trivial
theorem top.tw10187264123177260123:True:=trivial
theorem top.tw18237780215024852062:True:=trivial
theorem top.tw14372152842798730730:True:=trivial
theorem top.tw16713831800681072344:True:=trivial
theorem top.tw3140898538269762758:True:=trivial
theorem top.tw84136930442132756:True:=trivial
theorem top.tw2249405535684624136:True:=trivial
theorem top.tw6187478851450931391:True:=trivial
theorem top.tw9382581127745807760:True:=trivial
theorem top.tw11334350811105764591:True:=trivial
theorem top.tw11582926029173025856:True:=trivial
theorem top.tw2722852734226103192:True:=trivial
theorem top.tw11546936639936008217:True:=trivial
theorem top.tw3217022616335106338:True:=trivial
theorem top.tw9759319705405543751:True:=trivial
theorem top.tw2312856594315299383:True:=trivial
theorem top.tw13799840507378627052:True:=trivial
theorem top.tw6176384092110617959:True:=trivial
theorem top.tw956089473029861405:True:=trivial
theorem top.tw1275901062530889299:True:=trivial
theorem top.tw2985252069258134486:True:=trivial
theorem top.tw2770239361232196585:True:=trivial
theorem top.tw16123964013534891561:True:=trivial
theorem top.tw6761616313442571491:True:=trivial
theorem top.tw7600245330811189008:True:=trivial
theorem top.tw7855079511596107753:True:=trivial
theorem top.tw6211089042160764376:True:=trivial
theorem top.tw8054331753737935190:True:=trivial
theorem top.tw13272337422414781067:True:=trivial
theorem top.tw1483126911874232274:True:=trivial
theorem top.tw11960245374511038805:True:=trivial
theorem top.tw13303987763403120937:True:=trivial
theorem top.tw9149571693438533347:True:=trivial
theorem top.tw6749217079512962374:True:=trivial
theorem top.tw4840481374290595910:True:=trivial
theorem top.tw47109162367338493:True:=trivial
theorem top.tw13177472732611162249:True:=trivial
theorem top.tw8265191368974092141:True:=trivial
theorem top.tw12535971307161669396:True:=trivial
theorem top.tw16352630495959832749:True:=trivial
theorem top.tw5983031951866500094:True:=trivial
theorem top.tw8874702517807110003:True:=trivial
theorem top.tw1016984595167383106:True:=trivial
theorem top.tw4773702212245658779:True:=trivial
theorem top.tw14724332232928298890:True:=trivial
theorem top.tw14168018189251442112:True:=trivial
theorem top.tw14450715343900746980:True:=trivial
theorem top.tw15877122091014420850:True:=trivial
theorem top.tw6240723676877644813:True:=trivial
theorem top.tw15878805988109762761:True:=trivial
theorem top.tw7325726471975496349:True:=trivial
theorem top.tw14142502885225118848:True:=trivial
theorem top.tw17781115878593249900:True:=trivial
theorem top.tw5513142621748847562:True:=trivial
theorem top.tw427269002284569659:True:=trivial
theorem top.tw16900427199656544559:True:=trivial
theorem top.tw17323899518341599180:True:=trivial
theorem top.tw9768079942903668216:True:=trivial
theorem top.tw11542710104232473196:True:=trivial
theorem top.tw12094960947251128927:True:=trivial
theorem top.tw15349318334595610263:True:=trivial
theorem top.tw8140125068956082859:True:=trivial
theorem top.tw15092371282622821202:True:=trivial
theorem top.tw1195175773429642966:True:=trivial
theorem top.tw8435561252592420358:True:=trivial
theorem top.tw5244899138074338376:True:=trivial
theorem top.tw7657828476027519975:True:=trivial
theorem top.tw17810072253543177317:True:=trivial
theorem top.tw12718909917080609646:True:=trivial
theorem top.tw8321918168302905379:True:=trivial
theorem top.tw9843447840031818808:True:=trivial
theorem top.tw4671429814451907529:True:=trivial
theorem top.tw14823308797102314842:True:=trivial
theorem top.tw4392038535549328194:True:=trivial
theorem top.tw352232786441526191:True:=trivial
theorem top.tw10567129059001840431:True:=trivial
theorem top.tw16453443671601555132:True:=trivial
theorem top.tw8139039716903228087:True:=trivial
theorem top.tw15254643099363442306:True:=trivial
theorem top.tw16580785732701462914:True:=trivial
theorem top.tw7681529838311687354:True:=trivial
theorem top.tw1736530178072539846:True:=trivial
theorem top.tw10773188271377071773:True:=trivial
theorem top.tw17315540178315561739:True:=trivial
theorem top.tw9165953624949470791:True:=trivial
theorem top.tw14502225709538309166:True:=trivial
theorem top.tw11457754044182789617:True:=trivial
theorem top.tw3796891538752321733:True:=trivial
theorem top.tw3479634599624807885:True:=trivial
theorem top.tw705360758644809490:True:=trivial
theorem top.tw7671549972530922468:True:=trivial
theorem top.tw1601500998369573665:True:=trivial
theorem top.tw11334415319851112604:True:=trivial
theorem top.tw8107780213005350392:True:=trivial
theorem top.tw8143265674769528471:True:=trivial
theorem top.tw6520327441239513222:True:=trivial
theorem top.tw453181688931711583:True:=trivial
theorem top.tw10194810499950245846:True:=trivial
theorem top.tw427420600052151026:True:=trivial
theorem top.tw7458633546980236471:True:=trivial
theorem top.tw9229161468869434483:True:=trivial
theorem top.tw2835187731363253809:True:=trivial
theorem top.tw2544169868661182894:True:=trivial
theorem top.tw14608685727046917156:True:=trivial
theorem top.tw5105846836358774362:True:=trivial
theorem top.tw9631074621892390191:True:=trivial
theorem top.tw10404823597219466188:True:=trivial
theorem top.tw6572447435987645144:True:=trivial
theorem top.tw2665807947273092163:True:=trivial
theorem top.tw16550210197400561554:True:=trivial
theorem top.tw8560541052185303311:True:=trivial
theorem top.tw6885214360128481674:True:=trivial
theorem top.tw4159251561096739476:True:=trivial
theorem top.tw3696473221133414273:True:=trivial
theorem top.tw3195968871104189447:True:=trivial
theorem top.tw12012865196380796599:True:=trivial
theorem top.tw17492772389151264855:True:=trivial
theorem top.tw14371913498598963198:True:=trivial
theorem top.tw6124053682588569230:True:=trivial
theorem top.tw18186074749648716422:True:=trivial
theorem top.tw10996937224433265937:True:=trivial
theorem top.tw6694047246710070196:True:=trivial
theorem top.tw4571971715460732019:True:=trivial
theorem top.tw16054190913257422852:True:=trivial
theorem top.tw9378254376102152143:True:=trivial
theorem top.tw9063741608606530840:True:=trivial
theorem top.tw17741875731164886585:True:=trivial
theorem top.tw2847958352784047137:True:=trivial
theorem top.tw17050326753033342646:True:=trivial
theorem top.tw1297684725254868899:True:=trivial
theorem top.tw10562855833978642645:True:=trivial
theorem top.tw16420938139371093754:True:=trivial
theorem top.tw10915162052029792233:True:=trivial
theorem top.tw9335426496214029073:True:=trivial
theorem top.tw7847650389618582240:True:=trivial
theorem top.tw7673058066778466091:True:=trivial
theorem top.tw2988451766255067171:True:=trivial
theorem top.tw2924597203103170677:True:=trivial
theorem top.tw16034636559557993077:True:=trivial
theorem top.tw13706816188851595723:True:=trivial
theorem top.tw12392516345856041104:True:=trivial
theorem top.tw12256363837256957063:True:=trivial
theorem top.tw672699306608606093:True:=trivial
theorem top.tw14402358008270493973:True:=trivial
theorem top.tw7444641836354208208:True:=trivial
theorem top.tw5155950481276406077:True:=trivial
theorem top.tw17355269125676882429:True:=trivial
theorem top.tw9059832203979395877:True:=trivial
theorem top.tw17089494485692210459:True:=trivial
theorem top.tw4699463449715708850:True:=trivial
theorem top.tw5507162329139097715:True:=trivial
theorem top.tw2581206410525282061:True:=trivial
theorem top.tw12787338502077490372:True:=trivial
theorem top.tw6930518751129746686:True:=trivial
theorem top.tw6265701101103706036:True:=trivial
theorem top.tw5915399644114372684:True:=trivial
theorem top.tw16415559393655328363:True:=trivial
theorem top.tw14145802354927516647:True:=trivial
theorem top.tw9366391650621772374:True:=trivial
theorem top.tw7386116660499605909:True:=trivial
theorem top.tw4555866861457887817:True:=trivial
theorem top.tw2758071753971750899:True:=trivial
theorem top.tw216529984938456764:True:=trivial
theorem top.tw17953984050398360512:True:=trivial
theorem top.tw16821654228018055803:True:=trivial
theorem top.tw15976228082101565994:True:=trivial
theorem top.tw14789260269991461300:True:=trivial
theorem top.tw12425085872883035938:True:=trivial
theorem top.tw10548783162686979305:True:=trivial
theorem top.tw10006222313960134694:True:=trivial
theorem top.tw2464713573024523455:True:=trivial
theorem top.tw681777741448182936:True:=trivial
theorem top.tw10987319290404115282:True:=trivial
theorem top.tw9961057766049560675:True:=trivial
theorem top.tw995497684801637723:True:=trivial
theorem top.tw5088376156974544275:True:=trivial
theorem top.tw13370750898655102155:True:=trivial
theorem top.tw12622177474791663080:True:=trivial
theorem top.tw708234853630380328:True:=trivial
theorem top.tw5702910450625016506:True:=trivial
theorem top.tw15177526630643400193:True:=trivial
theorem top.tw2907113945770861938:True:=trivial
theorem top.tw1617357707322924660:True:=trivial
theorem top.tw13889309363888878346:True:=trivial
theorem top.tw72247145696351765:True:=trivial
theorem top.tw14349089067433371257:True:=trivial
theorem top.tw1139600151236580504:True:=trivial
theorem top.tw9227541089923242437:True:=trivial
theorem top.tw8281120267493503204:True:=trivial
theorem top.tw3874152929960365753:True:=trivial
theorem top.tw17576949682797635024:True:=trivial
theorem top.tw17474498911051797155:True:=trivial
theorem top.tw17022078359063049780:True:=trivial
theorem top.tw13975414291046593716:True:=trivial
theorem top.tw1394568958698188020:True:=trivial
theorem top.tw12764151676501842404:True:=trivial
theorem top.tw15646934709686841381:True:=trivial
theorem top.tw9800703332001039478:True:=trivial
theorem top.tw8523463495250067690:True:=trivial
theorem top.tw8443935842833279946:True:=trivial
theorem top.tw6438537300738474071:True:=trivial
theorem top.tw6333448901615975916:True:=trivial
theorem top.tw5889316905344633881:True:=trivial
theorem top.tw5648408011753718230:True:=trivial
theorem top.tw5303079699428457377:True:=trivial
theorem top.tw5225153198818245361:True:=trivial
theorem top.tw517144808224063464:True:=trivial
theorem top.tw5058314954733539658:True:=trivial
theorem top.tw4951766788466123468:True:=trivial
theorem top.tw4736427724481360342:True:=trivial
theorem top.tw4177254973167742082:True:=trivial
theorem top.tw3820434133910038737:True:=trivial
theorem top.tw3561193834555079511:True:=trivial
theorem top.tw1869187583165140508:True:=trivial
theorem top.tw17486766287000646611:True:=trivial
theorem top.tw16759092144687519636:True:=trivial
theorem top.tw16325430554902658873:True:=trivial
theorem top.tw15451780782824253742:True:=trivial
theorem top.tw14796646475526232899:True:=trivial
theorem top.tw13987285891283452908:True:=trivial
theorem top.tw1321871150748368714:True:=trivial
theorem top.tw12958502747184954254:True:=trivial
theorem top.tw1149218181149386328:True:=trivial
theorem top.tw11279390925490393535:True:=trivial
theorem top.tw105208000716104510:True:=trivial
theorem top.tw10399464001100048223:True:=trivial
theorem top.tw13993754087695630153:True:=trivial
theorem top.tw3712731000106771831:True:=trivial
theorem top.tw15569959144833144457:True:=trivial
theorem top.tw5597187220613765494:True:=trivial
theorem top.tw6058780594550047802:True:=trivial
theorem top.tw9951221954081769418:True:=trivial
theorem top.tw9685713192446186341:True:=trivial
theorem top.tw5581607755468803823:True:=trivial
theorem top.tw5476889619067714990:True:=trivial
theorem top.tw17555251805378815213:True:=trivial
theorem top.tw1676862907878916244:True:=trivial
theorem top.tw15058813355848621054:True:=trivial
theorem top.tw4796303294375832693:True:=trivial
theorem top.tw13310400573052568472:True:=trivial
theorem top.tw9601329371697537090:True:=trivial
theorem top.tw9851269098105209369:True:=trivial
theorem top.tw8813761850579938390:True:=trivial
theorem top.tw8204474986945543665:True:=trivial
theorem top.tw4299629679881509495:True:=trivial
theorem top.tw6859976401760118174:True:=trivial
theorem top.tw3969286963782609292:True:=trivial
theorem top.tw8237333600419904120:True:=trivial
theorem top.tw18085771088847121727:True:=trivial
theorem top.tw18289109515434150305:True:=trivial
theorem top.tw18164388396756303480:True:=trivial
theorem top.tw13501252493785611398:True:=trivial
theorem top.tw13091174067606910046:True:=trivial
theorem top.tw14657780768301432306:True:=trivial
theorem top.tw13012589842206080548:True:=trivial
theorem top.tw6906291655842520137:True:=trivial
theorem top.tw1492452104121835379:True:=trivial
theorem top.tw11459358961799972967:True:=trivial
theorem top.tw10694878333477680388:True:=trivial
theorem top.tw5766051744304087583:True:=trivial
theorem top.tw18086089286151905521:True:=trivial
theorem top.tw1123975283337734383:True:=trivial
theorem top.tw8689318265317240412:True:=trivial
theorem top.tw649594095290182367:True:=trivial
theorem top.tw6127594578889010139:True:=trivial
theorem top.tw15240379268576122478:True:=trivial
theorem top.tw14611434983143301774:True:=trivial
theorem top.tw877433047237710547:True:=trivial
theorem top.tw6491118196486620199:True:=trivial
theorem top.tw18063644159110109576:True:=trivial
theorem top.tw1732150942055357024:True:=trivial
theorem top.tw16439428074185983240:True:=trivial
theorem top.tw15095372191486117680:True:=trivial
theorem top.tw14917401599646851644:True:=trivial
theorem top.tw15245507539482535896:True:=trivial
theorem top.tw5667650583090716360:True:=trivial
theorem top.tw864819663365544661:True:=trivial
theorem top.tw16104615914030681952:True:=trivial
theorem top.tw9919435345466941130:True:=trivial
theorem top.tw9673933992889287130:True:=trivial
theorem top.tw8657480035899644758:True:=trivial
theorem top.tw7033079012710635876:True:=trivial
theorem top.tw2377541652452675900:True:=trivial
theorem top.tw2220570432770164149:True:=trivial
theorem top.tw16597617366809209970:True:=trivial
theorem top.tw10936122117785486979:True:=trivial
theorem top.tw10657950659306570408:True:=trivial
theorem top.tw10579768621468169598:True:=trivial
theorem top.tw10361075674979980167:True:=trivial
theorem top.tw8810280945414196856:True:=trivial
theorem top.tw860223938195835975:True:=trivial
theorem top.tw814325599930780420:True:=trivial
theorem top.tw5225916559131626549:True:=trivial
theorem top.tw2812155379371279736:True:=trivial
theorem top.tw2126296398998916975:True:=trivial
theorem top.tw16719718919923625709:True:=trivial
theorem top.tw11240886729373846589:True:=trivial
theorem top.tw104434173382791472:True:=trivial
theorem top.tw9962302188120564619:True:=trivial
theorem top.tw1833847959688406909:True:=trivial
theorem top.tw15874363893724204672:True:=trivial
theorem top.tw4186445540838780016:True:=trivial
theorem top.tw4835499133494076262:True:=trivial
theorem top.tw2506305409684761478:True:=trivial
theorem top.tw18367679650794681301:True:=trivial
theorem top.tw953821971998124167:True:=trivial
theorem top.tw9233715247699887402:True:=trivial
theorem top.tw8973803690348224638:True:=trivial
theorem top.tw8968299171318014206:True:=trivial
theorem top.tw8265311939077410998:True:=trivial
theorem top.tw8043003576528973991:True:=trivial
theorem top.tw7715697345341360870:True:=trivial
theorem top.tw7204998973626084599:True:=trivial
theorem top.tw6662652255960138227:True:=trivial
theorem top.tw5860347150701562758:True:=trivial
theorem top.tw5609151216138764652:True:=trivial
theorem top.tw4940147422707163885:True:=trivial
theorem top.tw3767615275625035234:True:=trivial
theorem top.tw3584897518013459382:True:=trivial
theorem top.tw3474246075231452896:True:=trivial
theorem top.tw3337584539547039419:True:=trivial
theorem top.tw3254097082911018636:True:=trivial
theorem top.tw3002795768020413707:True:=trivial
theorem top.tw2417791160451022400:True:=trivial
theorem top.tw17620759639134147866:True:=trivial
theorem top.tw17346259052997144950:True:=trivial
theorem top.tw17103585973383926153:True:=trivial
theorem top.tw16878204669230926818:True:=trivial
theorem top.tw16736118626332596326:True:=trivial
theorem top.tw1638113669730673903:True:=trivial
theorem top.tw1584292188352093569:True:=trivial
theorem top.tw15740088241188596515:True:=trivial
theorem top.tw15542334942015070624:True:=trivial
theorem top.tw15212760480394562756:True:=trivial
theorem top.tw1486479319815781832:True:=trivial
theorem top.tw146815374380898660:True:=trivial
theorem top.tw14453841093610474573:True:=trivial
theorem top.tw14399976873020721970:True:=trivial
theorem top.tw13968125046926948103:True:=trivial
theorem top.tw13500427573557490136:True:=trivial
theorem top.tw13420762306968818387:True:=trivial
theorem top.tw13385244156195431271:True:=trivial
theorem top.tw13223034962123697568:True:=trivial
theorem top.tw12904532413392791838:True:=trivial
theorem top.tw1284575025550258836:True:=trivial
theorem top.tw12080426169559351053:True:=trivial
theorem top.tw11520865232209809239:True:=trivial
theorem top.tw11199532085631943738:True:=trivial
theorem top.tw11141966352661209427:True:=trivial
theorem top.tw1112988674713690477:True:=trivial
theorem top.tw10797620697341660853:True:=trivial
theorem top.tw10414433010598505635:True:=trivial
theorem top.tw10195997230039290492:True:=trivial
theorem top.tw10187724287525710026:True:=trivial
theorem top.tw10001883323181062329:True:=trivial
theorem top.tw9913501989792142831:True:=trivial
theorem top.tw987869383939708018:True:=trivial
theorem top.tw9743097575036673082:True:=trivial
theorem top.tw9503340733035011235:True:=trivial
theorem top.tw9361663168868926718:True:=trivial
theorem top.tw9259421805112917234:True:=trivial
theorem top.tw9227057690007400460:True:=trivial
theorem top.tw9195894827357321740:True:=trivial
theorem top.tw9178861053002065721:True:=trivial
theorem top.tw9166809390415177425:True:=trivial
theorem top.tw8735323631387419056:True:=trivial
theorem top.tw8729362747519067210:True:=trivial
theorem top.tw8679839319945467846:True:=trivial
theorem top.tw8645369167282567922:True:=trivial
theorem top.tw8622502720953521162:True:=trivial
theorem top.tw8538268897159353584:True:=trivial
theorem top.tw8507776931139520737:True:=trivial
theorem top.tw8410488445778877200:True:=trivial
theorem top.tw8363718466572441477:True:=trivial
theorem top.tw8345894832289464959:True:=trivial
theorem top.tw8311017846404947139:True:=trivial
theorem top.tw8212240652046128837:True:=trivial
theorem top.tw795583310449317561:True:=trivial
theorem top.tw7847352863974893604:True:=trivial
theorem top.tw7830913209206220567:True:=trivial
theorem top.tw7414872774492366064:True:=trivial
theorem top.tw7297446738713254254:True:=trivial
theorem top.tw728428047077509346:True:=trivial
theorem top.tw7204493036743257322:True:=trivial
theorem top.tw7008692893051332821:True:=trivial
theorem top.tw6919701780365589675:True:=trivial
theorem top.tw6898770573198911631:True:=trivial
theorem top.tw6812286434817487243:True:=trivial
theorem top.tw6746510453823603384:True:=trivial
theorem top.tw6674990990233134667:True:=trivial
theorem top.tw6664487174759623829:True:=trivial
theorem top.tw6624316729101989866:True:=trivial
theorem top.tw6487610083215253720:True:=trivial
theorem top.tw6292954644110606532:True:=trivial
theorem top.tw6196800358849779857:True:=trivial
theorem top.tw6189502492464219833:True:=trivial
theorem top.tw602653604445443664:True:=trivial
theorem top.tw5969682004907312646:True:=trivial
theorem top.tw5938664839603501006:True:=trivial
theorem top.tw575894324575664597:True:=trivial
theorem top.tw5398424786039705171:True:=trivial
theorem top.tw5118827330378232414:True:=trivial
theorem top.tw501154541418245514:True:=trivial
theorem top.tw4859757453598101857:True:=trivial
theorem top.tw4656485037274611717:True:=trivial
theorem top.tw4597200072644226624:True:=trivial
theorem top.tw4551080515912023512:True:=trivial
theorem top.tw4526881389914513428:True:=trivial
theorem top.tw4321519831107876412:True:=trivial
theorem top.tw4213018616267185653:True:=trivial
theorem top.tw4166218997396506358:True:=trivial
theorem top.tw4076138812419527698:True:=trivial
theorem top.tw3976154599441133093:True:=trivial
theorem top.tw390997316461189296:True:=trivial
theorem top.tw3855276242980373810:True:=trivial
theorem top.tw381845443943030031:True:=trivial
theorem top.tw3730354652608582461:True:=trivial
theorem top.tw370947364307004932:True:=trivial
theorem top.tw3484022092364678248:True:=trivial
theorem top.tw339143206060000330:True:=trivial
theorem top.tw3315250197877816394:True:=trivial
theorem top.tw3261557481417251176:True:=trivial
theorem top.tw297971269722091814:True:=trivial
theorem top.tw2878843996050045342:True:=trivial
theorem top.tw2867133514656366558:True:=trivial
theorem top.tw2731995056826638727:True:=trivial
theorem top.tw2555065506035805374:True:=trivial
theorem top.tw2514443458684651071:True:=trivial
theorem top.tw2443449257678562572:True:=trivial
theorem top.tw2369445192022557226:True:=trivial
theorem top.tw2007660962349395123:True:=trivial
theorem top.tw1971433849790844608:True:=trivial
theorem top.tw1886144042066472794:True:=trivial
theorem top.tw1843344800811705456:True:=trivial
theorem top.tw18371284783138465269:True:=trivial
theorem top.tw18177719399980262173:True:=trivial
theorem top.tw1814787853859245837:True:=trivial
theorem top.tw17886615442053742456:True:=trivial
theorem top.tw17795014544551873601:True:=trivial
theorem top.tw1754339480302792767:True:=trivial
theorem top.tw17542608870123051758:True:=trivial
theorem top.tw17469865338272021226:True:=trivial
theorem top.tw16885616592811714743:True:=trivial
theorem top.tw16800595933775061595:True:=trivial
theorem top.tw16795567611416646642:True:=trivial
theorem top.tw16204670001084760307:True:=trivial
theorem top.tw16196420915677631385:True:=trivial
theorem top.tw16155163154822807229:True:=trivial
theorem top.tw16058212318047004132:True:=trivial
theorem top.tw15985961358823992270:True:=trivial
theorem top.tw15918733279669447828:True:=trivial
theorem top.tw15860264024139754761:True:=trivial
theorem top.tw1585457916280141200:True:=trivial
theorem top.tw15503665604740900718:True:=trivial
theorem top.tw15361541807878343388:True:=trivial
theorem top.tw15169761463676818070:True:=trivial
theorem top.tw14901070454687303710:True:=trivial
theorem top.tw14697636140705633519:True:=trivial
theorem top.tw14632489290957082403:True:=trivial
theorem top.tw14615657086365298920:True:=trivial
theorem top.tw14597223018079223185:True:=trivial
theorem top.tw14459580976405569124:True:=trivial
theorem top.tw13983857475226248213:True:=trivial
theorem top.tw13802547742096326172:True:=trivial
theorem top.tw13369591340354186047:True:=trivial
theorem top.tw13307591127769906961:True:=trivial
theorem top.tw13290321428070320777:True:=trivial
theorem top.tw13160728816969591200:True:=trivial
theorem top.tw13090165191389475591:True:=trivial
theorem top.tw13044034144603486326:True:=trivial
theorem top.tw13001836021917841797:True:=trivial
theorem top.tw1291508964198565346:True:=trivial
theorem top.tw12643491718579748851:True:=trivial
theorem top.tw1245559373397905713:True:=trivial
theorem top.tw12427389293880184781:True:=trivial
theorem top.tw12318557346453588183:True:=trivial
theorem top.tw12317137736924338119:True:=trivial
theorem top.tw12117888159696746259:True:=trivial
theorem top.tw12105128591322288922:True:=trivial
theorem top.tw11922380849998532372:True:=trivial
theorem top.tw11858546649754279707:True:=trivial
theorem top.tw11845233108574324481:True:=trivial
theorem top.tw11613256710310857696:True:=trivial
theorem top.tw11466170419677230873:True:=trivial
theorem top.tw11430207588045935325:True:=trivial
theorem top.tw11334203419191126389:True:=trivial
theorem top.tw11203750815551599093:True:=trivial
theorem top.tw11133666699803404755:True:=trivial
theorem top.tw1108800333578037850:True:=trivial
theorem top.tw10864713392326063847:True:=trivial
theorem top.tw10801874191123338550:True:=trivial
theorem top.tw10783980745131425670:True:=trivial
theorem top.tw1068965626710143233:True:=trivial
theorem top.tw10648311167861321448:True:=trivial
theorem top.tw1047907039808853306:True:=trivial
theorem top.tw10448899703829047738:True:=trivial
theorem top.tw10008474027749305400:True:=trivial
set_option Elab.async true in
theorem top:PySem.Challenge.rw_nt0052_01.Holds:=by
  w_on;o_law;k_head;(case hw => w_witness2)
  k_fill
  intro w s₀ s₁ mg mb G Y fa o pm cd doc dV kV ho hd hcd hD hmg hg args vals as hpre hlay hrd hwl hlo
  have KX := km_in_of Y
  have X := (Ground.X G).1
  have V := (Ground.X G).2
  refine Ground.open G ?_
  intro T B D TE TW
  clear hd hcd hD Y
  wrow_args hpre hlay hrd hwl hlo
  refine atLast ?pk KX T.nolimit T.g T.b T.builtins (by kernel_rfl) hmg hg (by assumption) (by assumption) (by assumption)
  exact {
  f_UniError_init__ := FnOk.of (params := [Str.ofString "self", Str.ofString "told"]) (by kernel_rfl)
  b_UniError_init__0 := BindOk.d2 (dv := .none) (by rfl) (by rfl) (by rfl) (by rfl) fun v0 v1 => ⟨_, by rfl, by rfl⟩
  f_hex_code := FnOk.of (params := [Str.ofString "code"]) (by kernel_rfl)
  b_hex_code := BindOk.s1 fun _ => by kernel_rfl
  f_hex_value := FnOk.of (params := [Str.ofString "octet"]) (by kernel_rfl)
  b_hex_value := BindOk.s1 fun _ => by kernel_rfl
  f_code_of_hex := FnOk.of (params := [Str.ofString "octets"]) (by kernel_rfl)
  b_code_of_hex := BindOk.s1 fun _ => by kernel_rfl
  f_coll_ideographs := FnOk.of (params := []) (by kernel_rfl)
  b_coll_ideographs := BindOk.s0 (by kernel_rfl)
  f_CollBase_init__ := FnOk.of (params := [Str.ofString "self", Str.ofString "first", Str.ofString "last", Str.ofString "base", Str.ofString "origin"]) (by kernel_rfl)
  b_CollBase_init__0 := BindOk.d5 (dv := .none) (by rfl) (by rfl) (by rfl) (by rfl) fun v0 v1 v2 v3 v4 => ⟨_, by rfl, by rfl⟩
  b_CollBase_init__1 := BindOk.d4 (dv := .none) (by rfl) (by rfl) (by rfl) (by rfl) fun v0 v1 v2 v3 => ⟨_, by rfl, by rfl⟩
  f_CollBase_elements_of := FnOk.of (params := [Str.ofString "self", Str.ofString "code"]) (by kernel_rfl)
  b_CollBase_elements_of := BindOk.s2 fun _ _ => by kernel_rfl
  f_coll_scaled := FnOk.of (params := [Str.ofString "elements", Str.ofString "factors"]) (by kernel_rfl)
  b_coll_scaled := BindOk.s2 fun _ _ => by kernel_rfl
  f_Elements_init__ := FnOk.of (params := [Str.ofString "self", Str.ofString "has_ideographs"]) (by kernel_rfl)
  b_Elements_init__1 := BindOk.d1 (dv := .bool true) (by rfl) (by rfl) (by rfl) (by rfl) fun v0 => ⟨_, by rfl, by rfl⟩
  f_Elements_put := FnOk.of (params := [Str.ofString "self", Str.ofString "codes", Str.ofString "elements"]) (by kernel_rfl)
  b_Elements_put := BindOk.s3 fun _ _ _ => by kernel_rfl
  f_Elements_get := FnOk.of (params := [Str.ofString "self", Str.ofString "codes"]) (by kernel_rfl)
  b_Elements_get := BindOk.s2 fun _ _ => by kernel_rfl
  f_Elements_rows := FnOk.of (params := [Str.ofString "self"]) (by kernel_rfl)
  b_Elements_rows := BindOk.s1 fun _ => by kernel_rfl
  f_Elements_put_implicit := FnOk.of (params := [Str.ofString "self", Str.ofString "first", Str.ofString "last", Str.ofString "base", Str.ofString "origin"]) (by kernel_rfl)
  b_Elements_put_implicit0 := BindOk.d5 (dv := .none) (by rfl) (by rfl) (by rfl) (by rfl) fun v0 v1 v2 v3 v4 => ⟨_, by rfl, by rfl⟩
  b_Elements_put_implicit1 := BindOk.d4 (dv := .none) (by rfl) (by rfl) (by rfl) (by rfl) fun v0 v1 v2 v3 => ⟨_, by rfl, by rfl⟩
  f_Elements_implicit_of := FnOk.of (params := [Str.ofString "self", Str.ofString "code"]) (by kernel_rfl)
  b_Elements_implicit_of := BindOk.s2 fun _ _ => by kernel_rfl
  f_coll_trimmed := FnOk.of (params := [Str.ofString "octets"]) (by kernel_rfl)
  b_coll_trimmed := BindOk.s1 fun _ => by kernel_rfl
  f_coll_number := FnOk.of (params := [Str.ofString "octets", Str.ofString "row"]) (by kernel_rfl)
  b_coll_number := BindOk.s2 fun _ _ => by kernel_rfl
  f_coll_code := FnOk.of (params := [Str.ofString "octets", Str.ofString "row"]) (by kernel_rfl)
  b_coll_code := BindOk.s2 fun _ _ => by kernel_rfl
  f_coll_codes := FnOk.of (params := [Str.ofString "octets", Str.ofString "row"]) (by kernel_rfl)
  b_coll_codes := BindOk.s2 fun _ _ => by kernel_rfl
  f_coll_elements := FnOk.of (params := [Str.ofString "octets", Str.ofString "row"]) (by kernel_rfl)
  b_coll_elements := BindOk.s2 fun _ _ => by kernel_rfl
  f_coll_base_row := FnOk.of (params := [Str.ofString "octets", Str.ofString "row"]) (by kernel_rfl)
  b_coll_base_row := BindOk.s2 fun _ _ => by kernel_rfl
  f_CollReader_init__ := FnOk.of (params := [Str.ofString "self"]) (by kernel_rfl)
  b_CollReader_init__ := BindOk.s1 fun _ => by kernel_rfl
  f_CollReader_put_row := FnOk.of (params := [Str.ofString "self", Str.ofString "octets", Str.ofString "row"]) (by kernel_rfl)
  b_CollReader_put_row := BindOk.s3 fun _ _ _ => by kernel_rfl
  f_CollReader_put_order := FnOk.of (params := [Str.ofString "self", Str.ofString "octets", Str.ofString "row"]) (by kernel_rfl)
  b_CollReader_put_order := BindOk.s3 fun _ _ _ => by kernel_rfl
  f_CollReader_close := FnOk.of (params := [Str.ofString "self"]) (by kernel_rfl)
  b_CollReader_close := BindOk.s1 fun _ => by kernel_rfl
  f_read_allkeys := FnOk.of (params := [Str.ofString "octets"]) (by kernel_rfl)
  b_read_allkeys := BindOk.s1 fun _ => by kernel_rfl
  f_allkeys_octets := FnOk.of (params := [Str.ofString "elements"]) (by kernel_rfl)
  b_allkeys_octets := BindOk.s1 fun _ => by kernel_rfl
  f_law_deck := FnOk.of (params := [Str.ofString "script"]) (by kernel_rfl)
  b_law_deck := BindOk.s1 fun _ => by kernel_rfl
  f_law_draw := FnOk.of (params := [Str.ofString "deck", Str.ofString "below"]) (by kernel_rfl)
  b_law_draw := BindOk.s2 fun _ _ => by kernel_rfl
  f_law_pick := FnOk.of (params := [Str.ofString "deck", Str.ofString "some"]) (by kernel_rfl)
  b_law_pick := BindOk.s2 fun _ _ => by kernel_rfl
  f_law_octets := FnOk.of (params := [Str.ofString "text"]) (by kernel_rfl)
  b_law_octets := BindOk.s1 fun _ => by kernel_rfl
  f_law_hex := FnOk.of (params := [Str.ofString "number", Str.ofString "many", Str.ofString "is_large"]) (by kernel_rfl)
  b_law_hex := BindOk.s3 fun _ _ _ => by kernel_rfl
  f_law_element := FnOk.of (params := [Str.ofString "deck"]) (by kernel_rfl)
  b_law_element := BindOk.s1 fun _ => by kernel_rfl
  f_law_row := FnOk.of (params := [Str.ofString "deck", Str.ofString "told"]) (by kernel_rfl)
  b_law_row := BindOk.s2 fun _ _ => by kernel_rfl
  f_law_implicit := FnOk.of (params := [Str.ofString "told", Str.ofString "code"]) (by kernel_rfl)
  b_law_implicit := BindOk.s2 fun _ _ => by kernel_rfl
  f_law_has := FnOk.of (params := [Str.ofString "table", Str.ofString "told"]) (by kernel_rfl)
  b_law_has := BindOk.s2 fun _ _ => by kernel_rfl
  f_law := FnOk.of (params := [Str.ofString "script"]) (by kernel_rfl)
  b_law := BindOk.s1 fun _ => by kernel_rfl
  a_first := ⟨by kernel_rfl, by kernel_rfl, by kernel_rfl, by kernel_rfl, by kernel_rfl⟩
  a_last := ⟨by kernel_rfl, by kernel_rfl, by kernel_rfl, by kernel_rfl, by kernel_rfl⟩
  a_base := ⟨by kernel_rfl, by kernel_rfl, by kernel_rfl, by kernel_rfl, by kernel_rfl⟩
  a_origin := ⟨by kernel_rfl, by kernel_rfl, by kernel_rfl, by kernel_rfl, by kernel_rfl⟩
  a_table := ⟨by kernel_rfl, by kernel_rfl, by kernel_rfl, by kernel_rfl, by kernel_rfl⟩
  a_longest := ⟨by kernel_rfl, by kernel_rfl, by kernel_rfl, by kernel_rfl, by kernel_rfl⟩
  a_factors := ⟨by kernel_rfl, by kernel_rfl, by kernel_rfl, by kernel_rfl, by kernel_rfl⟩
  a_bases := ⟨by kernel_rfl, by kernel_rfl, by kernel_rfl, by kernel_rfl, by kernel_rfl⟩
  a_elements := ⟨by kernel_rfl, by kernel_rfl, by kernel_rfl, by kernel_rfl, by kernel_rfl⟩
  a_version := ⟨by kernel_rfl, by kernel_rfl, by kernel_rfl, by kernel_rfl, by kernel_rfl⟩
  a_ranges := ⟨by kernel_rfl, by kernel_rfl, by kernel_rfl, by kernel_rfl, by kernel_rfl⟩
  m_elements_of := ⟨by kernel_rfl, by kernel_rfl, by kernel_rfl⟩
  m_put := ⟨by kernel_rfl, by kernel_rfl, by kernel_rfl⟩
  m_get := ⟨by kernel_rfl, by kernel_rfl, by kernel_rfl⟩
  m_rows := ⟨by kernel_rfl, by kernel_rfl, by kernel_rfl⟩
  m_put_implicit := ⟨by kernel_rfl, by kernel_rfl, by kernel_rfl⟩
  m_implicit_of := ⟨by kernel_rfl, by kernel_rfl, by kernel_rfl⟩
  m_put_row := ⟨by kernel_rfl, by kernel_rfl, by kernel_rfl⟩
  m_put_order := ⟨by kernel_rfl, by kernel_rfl, by kernel_rfl⟩
  m_close := ⟨by kernel_rfl, by kernel_rfl, by kernel_rfl⟩
  c_CollBase := ⟨by kernel_rfl, by kernel_rfl, by kernel_rfl⟩
  c_Elements := ⟨by kernel_rfl, by kernel_rfl, by kernel_rfl⟩
  c_CollReader := ⟨by kernel_rfl, by kernel_rfl, by kernel_rfl⟩
  gl := by kernel_rfl
  x_52 := ⟨⟨_, _, _, _, _, _, _, _, _, _, _, _, _, _, by rfl⟩, by kernel_rfl, by kernel_rfl, by kernel_rfl, by kernel_rfl, by kernel_rfl, by kernel_rfl, by kernel_rfl, by kernel_rfl, by kernel_rfl⟩
  x_64 := ⟨⟨_, _, _, _, _, _, _, _, _, _, _, _, _, _, by rfl⟩, by kernel_rfl, by kernel_rfl, by kernel_rfl, by kernel_rfl, by kernel_rfl, by kernel_rfl, by kernel_rfl, by kernel_rfl, by kernel_rfl⟩
  }
end Mine
theorem PySem.Challenge.cw_nt0052_01_holds : PySem.Challenge.rw_nt0052_01.Holds := by
  exact Mine.top
