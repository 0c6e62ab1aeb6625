import PyProof.Rows.All
import Wide.All
import OpenK.AllK
import Wide.FinOn
import PyProof.EnumMake
import PySem.Challenge.RW_rh0180_02
namespace Mine
open PySem PySem.W PyProof.Rows PySem.Calls PySem.Spec
open Nat (add_assoc add_comm add_le_add eq_of_beq_eq_true le_add_left le_add_right le_of_ble_eq_true le_of_eq le_of_lt_succ le_of_not_lt le_of_sub_eq_zero le_refl le_succ le_total le_trans lt_irrefl lt_of_le_of_lt lt_of_le_of_ne lt_of_lt_of_le lt_or_ge lt_succ_of_lt lt_succ_self min_eq_left min_eq_right min_le_left min_le_right ne_of_lt not_lt_of_le sub_le sub_one_lt_of_lt zero_add zero_le)
open Int (add_mul ediv_nonneg emod_nonneg fdiv_eq_ediv_of_nonneg fmod_eq_emod_of_nonneg le_antisymm le_of_lt mul_eq_zero mul_le_mul_of_nonneg_right mul_nonneg mul_pos mul_zero natAbs_mul_self natCast_nonneg ne_of_gt neg_mul not_le not_lt ofNat_lt one_mul toNat_natCast)
open List (all_eq_true any_toArray append_assoc append_nil cons_append cons_ne_nil count_append count_nil exists_cons_of_ne_nil filterMap_append filterMap_cons filterMap_nil filter_cons flatMap_append flatMap_cons flatMap_nil forIn_cons forIn_nil forall_mem_cons getD_eq_getElem?_getD getElem?_eq_getElem getElem?_map getElem?_toArray getLast?_cons_cons head?_cons length_append length_cons length_drop length_dropLast length_map length_nil length_pos_iff length_range length_singleton length_take length_zip lookup_cons map_append map_congr_left map_cons map_drop map_id map_inj_left map_map map_nil map_reverse map_take mem_append mem_append_left mem_append_right mem_cons mem_filter mem_filterMap mem_flatMap mem_map mem_map_of_mem mem_of_getElem? mem_of_mem_drop mem_of_mem_take mem_range mem_singleton nil_append nodup_cons not_mem_nil of_mem_zip size_toArray sum_cons take_add_one take_of_length_le zipIdx_cons)
open Bool (and_eq_true and_eq_true_iff false_eq_true or_eq_false_iff)
open Heap (get?_push_ne get?_push_of_some get?_push_size get?_update_other get?_update_self lt_size size_push size_update)
open Option (isSome_iff_exists map_eq_some_iff map_some)
open Array (toList_inj)
set_option compiler.extract_closed false
set_option compiler.reuse false
set_option tactic.hygienic false
set_option genInjectivity false
set_option genSizeOf false
set_option linter.all false
set_option maxRecDepth 100000
set_option Elab.async false
theorem au.a1(h:True:=by intro _;rfl):True:=h
theorem au.a2(h:True:=by decide+kernel):True:=h
theorem au.a3(h:True:=by rfl):True:=h
theorem au.a4(h:True:=by decide):True:=h
theorem au.a5(h:True:=by intro _ _;rfl):True:=h
theorem au.a6(h:True:=by with_unfolding_all rfl):True:=h
theorem au.a8(h:True:=by simp+arith only[Nat.reducePow]):True:=h
theorem au.a7(h:True:=by constructor):True:=h
@[elab_as_elim] theorem rr{α:Sort u}{a b:α}{motive:α→Prop}(h:a=b)(x:motive b):motive a:=h▸x
@[elab_as_elim] theorem rl{α:Sort u}{a b:α}{motive:α→Prop}(h:b=a)(x:motive b):motive a:=h▸x
@[elab_as_elim] theorem gen{α:Sort u}{motive:α→Prop}(t:α)(h:∀x,motive x):motive t:=h t
theorem cps{G:Prop}(h:∀P:Prop,(G→P)→P):G:=h G id
theorem Km{α:Type}{p:α→Prop}:∀x∈([]:List α),p x:=List.forall_mem_nil p
theorem IF{α:Type}{a:α}{P:Prop}(h:(none:Option α)=some a):P:=absurd h (Option.some_ne_none a).symm
theorem DX{P:Prop}(h:autoParam P au.a8._auto_1):P:=h
theorem Ac{X Y L R:Nat}(h:X≤Y)(v:autoParam (L+Y≤R+X) au.a8._auto_1):L≤R:=by omega
theorem BM{A B C D L R:Nat}(h:A≤B)(k:C≤D)(v:autoParam (L+(B+D)≤R+(A+C)) au.a8._auto_1):L≤R:=by omega
theorem Ox{A B C D E F L R:Nat}(h:A≤B)(k:C≤D)(l:E≤F)(v:autoParam (L+(B+(D+F))≤R+(A+(C+E))) au.a8._auto_1):L≤R:=by omega
theorem Ab{X Y L R:Int}(h:X≤Y)(v:autoParam (L+Y≤R+X) au.a8._auto_1):L≤R:=by omega
theorem Bb{A B C D L R:Int}(h:A≤B)(k:C≤D)(v:autoParam (L+(B+D)≤R+(A+C)) au.a8._auto_1):L≤R:=by omega
theorem LA{A B C D E F L R:Int}(h:A≤B)(k:C≤D)(l:E≤F)(v:autoParam (L+(B+(D+F))≤R+(A+(C+E))) au.a8._auto_1):L≤R:=by omega
theorem Hd{a b:Int}(h0:0≤a)(h:a≤b):a.natAbs≤b.natAbs:=by omega
theorem US{a b:Int}{N:Nat}(h:a.toNat<N+1)(p:0<a)(k:b<a):b.toNat<N:=by omega
theorem bud{X T E N En M:Nat}(c:X≤2+3*T+2*E)(t:T≤N)(e:E≤En)(m:2+3*N+2*En≤M):X≤M:=le_trans c (le_trans (add_le_add (Nat.add_le_add_left (Nat.mul_le_mul_left 3 t) 2) (Nat.mul_le_mul_left 2 e)) m)
inductive Dat where
 |none|bool (b:Bool)|int (i:Int)|str (x:Str)
 |tuple (ds:List Dat)|list (ds:List Dat)
 |inst (c:Addr) (fs:List (Str×Dat))
noncomputable abbrev BT:=Addr→Obj→Prop
mutual
inductive Fz(g:BT):Value→Dat→Prop
 |none:Fz g .none .none
 |bool (b:Bool):Fz g (.bool b) (.bool b)
 |int (i:Int) (t:Tok):Fz g (.int i t) (.int i)
 |str (x:Str) (t:Tok):Fz g (.str x t) (.str x)
 |tuple {a:Addr}{vs:List Value}{n:Nat}{ds:List Dat}:g a (seqObj "tuple" vs.toArray n)→FzL g vs ds→Fz g (.ref a) (.tuple ds)
 |list {a:Addr}{vs:List Value}{n:Nat}{ds:List Dat}:g a (seqObj "list" vs.toArray n)→FzL g vs ds→Fz g (.ref a) (.list ds)
 |inst {a dx C:Addr}{o:Obj}{m:Str→Option Value}{fs:List (Str×Dat)}:g a (instObj C dx)→g dx o→LCg.NsObj o m→FzF g m fs→(∀y v,m y=some v→y∈fs.map (·.1))→Fz g (.ref a) (.inst C fs)
inductive FzL(g:BT):List Value→List Dat→Prop
 |nil:FzL g [] []
 |cons {v:Value}{vs:List Value}{d:Dat}{ds:List Dat}:Fz g v d→FzL g vs ds→FzL g (v::vs) (d::ds)
inductive FzF(g:BT):(Str→Option Value)→List (Str×Dat)→Prop
 |nil {m:Str→Option Value}:FzF g m []
 |cons {m:Str→Option Value}{x:Str}{v:Value}{d:Dat}{fs:List (Str×Dat)}:m x=some v→Fz g v d→FzF g m fs→FzF g m ((x,d)::fs)
end
theorem Fz.mono{g g':BT}(k:∀b o,g b o→g' b o){v:Value}{d:Dat}(x:Fz g v d):Fz g' v d:=Fz.rec (motive_1:=fun v d _=>Fz g' v d) (motive_2:=fun vs ds _=>FzL g' vs ds) (motive_3:=fun m fs _=>FzF g' m fs) .none (fun b=>.bool b) (fun i t=>.int i t) (fun x t=>.str x t) (fun h _ r=>.tuple (k _ _ h) r) (fun h _ r=>.list (k _ _ h) r) (fun h1 h2 hn _ ex r=>.inst (k _ _ h1) (k _ _ h2) hn r ex) .nil (fun _ _ a b=>.cons a b) .nil (fun e _ _ a b=>.cons e a b) x
theorem FzL.mono{g g':BT}(k:∀b o,g b o→g' b o){vs:List Value}{ds:List Dat}(x:FzL g vs ds):FzL g' vs ds:=FzL.rec (motive_1:=fun v d _=>Fz g' v d) (motive_2:=fun vs ds _=>FzL g' vs ds) (motive_3:=fun m fs _=>FzF g' m fs) .none (fun b=>.bool b) (fun i t=>.int i t) (fun x t=>.str x t) (fun h _ r=>.tuple (k _ _ h) r) (fun h _ r=>.list (k _ _ h) r) (fun h1 h2 hn _ ex r=>.inst (k _ _ h1) (k _ _ h2) hn r ex) .nil (fun _ _ a b=>.cons a b) .nil (fun e _ _ a b=>.cons e a b) x
section
variable{g:BT}
@[elab_as_elim] theorem Fz.tupleP{motive:Value→Prop}{v:Value}{ds:List Dat}(h:Fz g v (.tuple ds))(k:∀a vs n,g a (seqObj "tuple" vs.toArray n)→FzL g vs ds→motive (.ref a)):motive v:=by
 cases h with|tuple h f=>exact k _ _ _ h f
@[elab_as_elim] theorem Fz.listP{motive:Value→Prop}{v:Value}{ds:List Dat}(h:Fz g v (.list ds))(k:∀a vs n,g a (seqObj "list" vs.toArray n)→FzL g vs ds→motive (.ref a)):motive v:=by
 cases h with|list h f=>exact k _ _ _ h f
@[elab_as_elim] theorem Fz.intP{motive:Value→Prop}{v:Value}{i:Int}(h:Fz g v (.int i))(k:∀t,motive (.int i t)):motive v:=by
 cases h with|int _ t=>exact k t
@[elab_as_elim] theorem Fz.instP{motive:Value→Prop}{v:Value}{C:Addr}{fs:List (Str×Dat)}(h:Fz g v (.inst C fs))(k:∀a dx o m,g a (instObj C dx)→g dx o→LCg.NsObj o m→FzF g m fs→(∀y v,m y=some v→y∈fs.map (·.1))→motive (.ref a)):motive v:=by
 cases h with|inst a b c d e=>exact k _ _ _ _ a b c d e
@[elab_as_elim] theorem FzL.consP{motive:List Value→Prop}{vs:List Value}{d:Dat}{ds:List Dat}(h:FzL g vs (d::ds))(k:∀v ws,Fz g v d→FzL g ws ds→motive (v::ws)):motive vs:=by
 cases h with|cons h f=>exact k _ _ h f
@[elab_as_elim] theorem FzL.nilP{motive:List Value→Prop}{vs:List Value}(h:FzL g vs [])(k:motive []):motive vs:=by
 cases h with|nil=>exact k
theorem FzL.length{vs:List Value}{ds:List Dat}(h:FzL g vs ds):vs.length=ds.length:=by
 induction vs generalizing ds with
 |nil=>cases h;rfl
 |cons v vs ih=>cases h with|cons _ r=>simp[ih r]
theorem FzL.get{vs:List Value}{ds:List Dat}(h:FzL g vs ds){k:Nat}{d:Dat}(e:ds[k]?=some d):∃v,vs[k]?=some v∧Fz g v d:=by
 induction vs generalizing ds k with
 |nil=>cases h;simp at e
 |cons v vs ih=>
  cases h with
  |cons h r=>
   rcases k with _|⟨k⟩
   ·simp at e;subst e;exact⟨v,rfl,h⟩
   ·exact ih r (by simpa using e)
theorem FzL.append{vs ws:List Value}{ds es:List Dat}(h:FzL g vs ds)(k:FzL g ws es):FzL g (vs++ws) (ds++es):=by
 induction vs generalizing ds with
 |nil=>cases h;exact k
 |cons v vs ih=>cases h with|cons h r=>exact .cons h (ih r)
theorem FzL.snoc{vs:List Value}{ds:List Dat}{v:Value}{d:Dat}(h:FzL g vs ds)(k:Fz g v d):FzL g (vs++[v]) (ds++[d]):=h.append (.cons k .nil)
theorem FzL.take{vs:List Value}{ds:List Dat}(h:FzL g vs ds)(k:Nat):FzL g (vs.take k) (ds.take k):=by
 induction k generalizing vs ds with
 |zero=>simp;exact .nil
 |succ k ih=>cases h with|nil=>exact .nil|cons h r=>exact .cons h (ih r)
theorem FzL.drop{vs:List Value}{ds:List Dat}(h:FzL g vs ds)(k:Nat):FzL g (vs.drop k) (ds.drop k):=by
 induction k generalizing vs ds with
 |zero=>simpa using h
 |succ k ih=>cases h with|nil=>exact .nil|cons h r=>exact ih r
theorem FzL.reverse{vs:List Value}{ds:List Dat}(h:FzL g vs ds):FzL g vs.reverse ds.reverse:=by
 induction vs generalizing ds with
 |nil=>cases h;exact .nil
 |cons v vs ih=>cases h with|cons h r=>simp only[List.reverse_cons];exact(ih r).snoc h
theorem FzL.set{vs:List Value}{ds:List Dat}(h:FzL g vs ds){v:Value}{d:Dat}(k:Fz g v d)(i:Nat):FzL g (vs.set i v) (ds.set i d):=by
 induction vs generalizing ds i with
 |nil=>cases h;exact .nil
 |cons u vs ih=>
  cases h with
  |cons h r=>
   rcases i with _|⟨i⟩
   ·exact .cons k r
   ·exact .cons h (ih r i)
set_option tactic.hygienic true in
theorem FzF.get{m:Str→Option Value}{fs:List (Str×Dat)}(h:FzF g m fs){x:Str}{d:Dat}(e:fs.lookup x=some d):∃v,m x=some v∧Fz g v d:=by
 induction fs with
 |nil=>simp at e
 |cons p fs ih=>
  obtain⟨y,b⟩:=p
  cases h with
  |cons e1 h1 r=>
   rw[lookup_cons]at e
   split at e
   ·rename_i q;cases e;have:x=y:=by simpa using q
    subst this;exact⟨_,e1,h1⟩
   ·exact ih r e
end
inductive Cu where
 |dat (d:Dat)
 |own (i:Addr) (ds:List Dat)
inductive AG where
 |dat (d:Dat)
 |lst (ds:List Dat)
 |obj (c:Addr) (fs:List (Str×Cu))
noncomputable abbrev St:=List (Str×AG)
class inductive DP(g:BT)(h:Heap)(m:Str→Option Value):List (Str×Cu)→List Addr→Prop
 |nil:DP g h m [] []
 |dat {x:Str}{v:Value}{d:Dat}{fs:List (Str×Cu)}{cs:List Addr}:m x=some v→Fz g v d→DP g h m fs cs→DP g h m ((x,.dat d)::fs) cs
 |own {x:Str}{a:Addr}{vs:List Value}{n:Nat}{ds:List Dat}{fs:List (Str×Cu)}{cs:List Addr}:
  m x=some (.ref a)→h.get? a=some (seqObj "list" vs.toArray n)→FzL g vs ds→DP g h m fs cs→DP g h m ((x,.own a ds)::fs) (a::cs)
inductive Ct(g:BT)(h:Heap):Value→AG→List Addr→Prop
 |dat {v:Value}{d:Dat}:Fz g v d→Ct g h v (.dat d) []
 |lst {a:Addr}{vs:List Value}{n:Nat}{ds:List Dat}:h.get? a=some (seqObj "list" vs.toArray n)→FzL g vs ds→Ct g h (.ref a) (.lst ds) [a]
 |obj {a dx C:Addr}{o:Obj}{m:Str→Option Value}{fs:List (Str×Cu)}{cs:List Addr}:h.get? a=some (instObj C dx)→h.get? dx=some o→LCg.NsObj o m→DP g h m fs cs→
  (a::dx::cs).Nodup→(fs.map (·.1)).Nodup→((∀y v,m y=some v→y∈fs.map (·.1))∧∀es ep,o.data=.dict es ep→es.size≤fs.length)→Ct g h (.ref a) (.obj C fs) (a::dx::cs)
section
variable{g:BT}{h:Heap}{v:Value}{cs:List Addr}{motive:Value→List Addr→Prop}
@[elab_as_elim] theorem Ct.datP{d:Dat}(x:Ct g h v (.dat d) cs)(k:Fz g v d→motive v []):motive v cs:=by
 cases x with|dat f=>exact k f
@[elab_as_elim] theorem Ct.lstP{ds:List Dat}(x:Ct g h v (.lst ds) cs)(k:∀a vs n,h.get? a=some (seqObj "list" vs.toArray n)→FzL g vs ds→motive (.ref a) [a]):motive v cs:=by
 cases x with|lst e f=>exact k _ _ _ e f
theorem Ct.lstE{ds:List Dat}(x:Ct g h v (.lst ds) cs):∃a vs n,v=.ref a∧cs=[a]∧h.get? a=some (seqObj "list" vs.toArray n)∧FzL g vs ds:=by
 cases x with|lst e f=>exact⟨_,_,_,rfl,rfl,e,f⟩
@[elab_as_elim] theorem Ct.objP{C:Addr}{fs:List (Str×Cu)}(x:Ct g h v (.obj C fs) cs)(k:∀a dx o m cs,h.get? a=some (instObj C dx)→h.get? dx=some o→LCg.NsObj o m→DP g h m fs cs→
 (a::dx::cs).Nodup→(fs.map (·.1)).Nodup→((∀y v,m y=some v→y∈fs.map (·.1))∧∀es ep,o.data=.dict es ep→es.size≤fs.length)→motive (.ref a) (a::dx::cs)):motive v cs:=by
 cases x with|obj a b c d e f g=>exact k _ _ _ _ _ a b c d e f g
end
noncomputable def vis(R as:List Addr)(h:Heap):BT:=fun b o=>b∉R∧b∉as∧h.get? b=some o
theorem DP.mono{g g':BT}{h h':Heap}{m:Str→Option Value}(k:∀b o,g b o→g' b o){fs:List (Str×Cu)}{cs:List Addr}(x:DP g h m fs cs)
 (kc:∀b∈cs,∀o,h.get? b=some o→h'.get? b=some o):DP g' h' m fs cs:=by
 induction x with
 |nil=>exact .nil
 |dat e f _ ih=>exact .dat e (f.mono k) (ih kc)
 |own e ho f _ ih=>exact .own e (kc _ (.head _) _ ho) (f.mono k) (ih fun b hb=>kc b (.tail _ hb))
theorem Ct.mono{g g':BT}{h h':Heap}{v:Value}{a:AG}{cs:List Addr}(k:∀b o,g b o→g' b o)(x:Ct g h v a cs)(kc:∀b∈cs,∀o,h.get? b=some o→h'.get? b=some o):Ct g' h' v a cs:=by
 cases x with
 |dat f=>exact .dat (f.mono k)
 |lst ho f=>exact .lst (kc _ (.head _) _ ho) (f.mono k)
 |obj h1 h2 hn f nd nf ex=>exact .obj (kc _ (.head _) _ h1) (kc _ (.tail _ (.head _)) _ h2) hn (f.mono k fun b hb=>kc b (.tail _ (.tail _ hb))) nd nf ex
theorem DP.alive{g:BT}{h:Heap}{m:Str→Option Value}{fs:List (Str×Cu)}{cs:List Addr}(x:DP g h m fs cs):∀b∈cs,∃o,h.get? b=some o:=by
 induction x with
 |nil=>intro b hb;cases hb
 |dat _ _ _ ih=>exact ih
 |own _ ho _ _ ih=>intro b hb;cases hb with|head=>exact⟨_,ho⟩|tail _ hb=>exact ih b hb
theorem Ct.alive{g:BT}{h:Heap}{v:Value}{a:AG}{cs:List Addr}(x:Ct g h v a cs):∀b∈cs,∃o,h.get? b=some o:=by
 cases x with
 |dat f=>intro b hb;cases hb
 |lst ho f=>intro b hb;cases hb with|head=>exact⟨_,ho⟩|tail _ hb=>cases hb
 |obj h1 h2 hn f nd nf _=>intro b hb;cases hb with|head=>exact⟨_,h1⟩|tail _ hb=>cases hb with|head=>exact⟨_,h2⟩|tail _ hb=>exact f.alive b hb
def AF(h:Heap)(env:Env)(x:Str)(v:Value):Prop:=
 (env.kindOf x=some .local∧∃m,h.Ns env.locals m∧m x=some v)∨
 ((env.kindOf x=some .cell∨env.kindOf x=some .free)∧∃c,env.cells.lookup x=some c∧h.IsCell c (some v))
theorem AF.unique{h:Heap}{env:Env}{x:Str}{v w:Value}(a:AF h env x v)(b:AF h env x w):v=w:=by
 rcases a with⟨k,m,hn,e⟩|⟨k,c,hc,hv⟩<;>rcases b with⟨k',m',hn',e'⟩|⟨k',c',hc',hv'⟩
 ·obtain⟨o,es,ep,h1,h2,_,h4⟩:=hn
  obtain⟨o',es',ep',h1',h2',_,h4'⟩:=hn'
  rw[h1]at h1';cases h1';rw[h2]at h2';cases h2'
  rw[←h4,h4']at e;rw[e]at e';exact Option.some.inj e'
 ·rw[k]at k';rcases k' with q|q<;>cases q
 ·rw[k']at k;rcases k with q|q<;>cases q
 ·rw[hc]at hc';cases hc'
  obtain⟨o,ho,hd⟩:=hv;obtain⟨o',ho',hd'⟩:=hv'
  rw[ho]at ho';cases ho';rw[hd]at hd';cases hd';rfl
theorem AF.keep{h h':Heap}{env:Env}{x:Str}{v:Value}(a:AF h env x v)(k:∀b o,(b=env.locals∨∃y,env.cells.lookup y=some b)→h.get? b=some o→h'.get? b=some o):AF h' env x v:=by
 rcases a with⟨kd,m,hn,e⟩|⟨kd,c,hc,o,ho,hd⟩
 ·exact .inl ⟨kd,m,hn.at' fun o e=>k _ o (.inl rfl) e,e⟩
 ·exact .inr ⟨kd,c,hc,o,k _ o (.inr ⟨x,hc⟩) ho,hd⟩
structure Be(sc:Scope)(env:Env):Prop where
 isSc:env.scope=sc
 kind:sc.kind=.function
 glob:env.globals=mainGlobals
 blt:env.builtins=builtinsNs
 apart:∀x c,env.cells.lookup x=some c→c≠env.locals
 inj:∀x y c,env.cells.lookup x=some c→env.cells.lookup y=some c→x=y
 has:∀x,sc.names.lookup x=some .cell∨sc.names.lookup x=some .free→∃c,env.cells.lookup x=some c
structure Rel(U:Heap)(R:List Addr)(env:Env)(st:St)(as:List Addr)(h:Heap):Prop where
 rows:∃(val:Str→Value) (cs:Str→List Addr),
  (∀x a,(x,a)∈st→AF h env x (val x)∧Ct (vis R as h) h (val x) a (cs x)∧∀b∈cs x,b∈as)∧
  (∀x a y b,(x,a)∈st→(y,b)∈st→x≠y→∀c∈cs x,c∉cs y)
 names:(st.map (·.1)).Nodup
 sep:∀b∈R,b∉as
 locR:env.locals∈R
 celR:∀x c,env.cells.lookup x=some c→c∈R
 locs:∃m,h.Ns env.locals m
 cels:∀x c,env.cells.lookup x=some c→∃v,h.IsCell c v
 inb:∀b∈R,∃o,h.get? b=some o
 base:∀b o,U.get? b=some o→vis R as h b o
def LB(h h':Heap):Prop:=∀b o,h.get? b=some o→∃o',h'.get? b=some o'
theorem LB.of{h h':Heap}(k:∀b o,h.get? b=some o→h'.get? b=some o):LB h h':=fun b o e=>⟨o,k b o e⟩
theorem LB.trans{h h1 h2:Heap}(x:LB h h1)(y:LB h1 h2):LB h h2:=fun b o e=>(by obtain⟨_,e'⟩:=x b o e;exact y b _ e')
structure Ah(as:List Addr)(h:Heap)(as':List Addr)(h':Heap):Prop where
 keep:∀b o,b∉as→h.get? b=some o→h'.get? b=some o
 fresh:∀b∈as',b∈as∨h.get? b=none
 live:LB h h'
theorem Ah.refl(as:List Addr)(h:Heap):Ah as h as h:=⟨fun _ _ _ e=>e,fun _ h=>.inl h,.of fun _ _ e=>e⟩
theorem Ah.grow(as:List Addr){h h':Heap}(k:∀b o,h.get? b=some o→h'.get? b=some o):Ah as h as h':=⟨fun b o _ e=>k b o e,fun _ h=>.inl h,.of k⟩
theorem RA(h:Heap)(b:Addr):h.get? b=none∨∃o,h.get? b=some o:=by cases h.get? b with|none=>exact .inl rfl|some o=>exact .inr ⟨o,rfl⟩
theorem LB.none{h h':Heap}(x:LB h h'){b:Addr}(e:h'.get? b=Option.none):h.get? b=Option.none:=(RA h b).elim id (by rintro⟨o,e'⟩;obtain⟨_,z⟩:=x b o e';rw[e]at z;cases z)
theorem Ah.old{as as':List Addr}{h h':Heap}(x:Ah as h as' h'){b:Addr}{o:Obj}(e:h.get? b=some o)(ha:b∉as):b∉as':=fun q=>(x.fresh b q).elim ha fun z=>by rw[e]at z;cases z
theorem Ah.trans{as bs cs:List Addr}{h h1 h2:Heap}(x:Ah as h bs h1)(y:Ah bs h1 cs h2):Ah as h cs h2:=
 ⟨fun b o hb e=>y.keep b o (x.old e hb) (x.keep b o hb e),fun b hb=>(y.fresh b hb).elim (x.fresh b) fun z=>.inr (x.live.none z),x.live.trans y.live⟩
theorem Ah.vis{as as' R:List Addr}{h h':Heap}(x:Ah as h as' h'):∀b o,vis R as h b o→vis R as' h' b o:=
 by rintro b o ⟨hR,ha,e⟩;exact⟨hR,x.old e ha,x.keep b o ha e⟩
noncomputable def Hv(sc:Scope):Bool:=(sc.names.lookup (".0":Str)).isSome
def Mq(env:Env)(b:Addr):Prop:=Hv env.scope=false→∀x,env.cells.lookup x≠some b
noncomputable def DQ(sc:Scope)(x:Str):Bool:=(x==("self":Str)||x==("tape":Str)||x==("deck":Str))&&(sc.names.lookup ("script":Str)).isNone
def XL(env:Env)(as:List Addr)(h:Heap):Prop:=∀b,(b=env.locals∨∃y,env.cells.lookup y=some b)→b∉as∧∃o,h.get? b=some o
theorem Ah.pin{env:Env}{as as':List Addr}{h h':Heap}(x:Ah as h as' h')(F:XL env as h){y:Str}{v:Value}(hv:AF h env y v):AF h' env y v:=hv.keep fun b o hb e=>x.keep b o (F b hb).1 e
structure Bx(env:Env)(as:List Addr)(h:Heap)(as':List Addr)(h':Heap):Prop where
 keep:∀b o,b≠env.locals→Mq env b→b∉as→h.get? b=some o→h'.get? b=some o
 fresh:∀b∈as',b∈as∨h.get? b=none
 live:LB h h'
 pin:XL env as h→∀x v,DQ env.scope x=true→AF h env x v→AF h' env x v
theorem Ah.toS{env:Env}{as as':List Addr}{h h':Heap}(x:Ah as h as' h'):Bx env as h as' h':=⟨fun b o _ _ hb e=>x.keep b o hb e,x.fresh,x.live,fun F _ _ _ hv=>x.pin F hv⟩
theorem Bx.refl(env:Env)(as:List Addr)(h:Heap):Bx env as h as h:=(Ah.refl as h).toS
theorem Bx.old{env:Env}{as as':List Addr}{h h':Heap}(x:Bx env as h as' h'){b:Addr}{o:Obj}(e:h.get? b=some o)(ha:b∉as):b∉as':=fun q=>(x.fresh b q).elim ha fun z=>by rw[e]at z;cases z
theorem Bx.frOk{env:Env}{as as':List Addr}{h h':Heap}(x:Bx env as h as' h')(F:XL env as h):XL env as' h':=fun b hb=>by
 obtain⟨p,o,e⟩:=F b hb
 exact⟨x.old e p,x.live b o e⟩
theorem Bx.trans{env:Env}{as bs cs:List Addr}{h h1 h2:Heap}(x:Bx env as h bs h1)(y:Bx env bs h1 cs h2):Bx env as h cs h2:=
 ⟨fun b o h1 h2 hb e=>y.keep b o h1 h2 (x.old e hb) (x.keep b o h1 h2 hb e),fun b hb=>(y.fresh b hb).elim (x.fresh b) fun z=>.inr (x.live.none z),x.live.trans y.live,
  fun F z v hp hv=>y.pin (x.frOk F) z v hp (x.pin F z v hp hv)⟩
theorem Bx.vis{env:Env}{as as' R:List Addr}{h h':Heap}(x:Bx env as h as' h')(hl:env.locals∈R)(hc:∀y c,env.cells.lookup y=some c→c∈R):∀b o,vis R as h b o→vis R as' h' b o:=
 by rintro b o ⟨hR,ha,e⟩;exact⟨hR,x.old e ha,x.keep b o (fun q=>hR (q▸hl)) (fun _ y q=>hR (hc y b q)) ha e⟩
theorem Rel.grow{U:Heap}{R:List Addr}{env:Env}{st:St}{as:List Addr}{h h':Heap}(r:Rel U R env st as h)(k:∀b o,h.get? b=some o→h'.get? b=some o):Rel U R env st as h':=by
 obtain⟨⟨val,cs,hr,hd⟩,hn,hsep,hl,hc,⟨m,hm⟩,hcl,hi,hb⟩:=r
 have kv:∀b o,vis R as h b o→vis R as h' b o:=by rintro b o ⟨p,q,e⟩;exact⟨p,q,k b o e⟩
 exact⟨⟨val,cs,fun x a hx=>(by obtain⟨p,q,z⟩:=hr x a hx;exact⟨p.keep fun b o _ e=>k b o e,q.mono kv fun b _ o e=>k b o e,z⟩),hd⟩,hn,hsep,hl,hc,⟨m,hm.keeps k⟩,
  fun x c e=>(by obtain⟨v,o,ho,hd⟩:=hcl x c e;exact⟨v,o,k _ _ ho,hd⟩),fun b hb=>(by obtain⟨o,e⟩:=hi b hb;exact⟨o,k b o e⟩),fun b o e=>kv b o (hb b o e)⟩
noncomputable def look(x:Str):St→Option AG
 |[]=>none
 |(y,a)::r=>if x=y then some a else look x r
noncomputable def put(x:Str)(a:AG):St→St
 |[]=>[(x,a)]
 |(y,b)::r=>if x=y then(y,a)::r else(y,b)::put x a r
set_option tactic.hygienic true in
theorem CA{x:Str}{a:AG}:∀{st:St},look x st=some a→(x,a)∈st:=by
 intro st
 induction st with
 |nil=>
  intro h
  cases h
 |cons hd r ih=>
  obtain⟨y,b⟩:=hd
  intro h
  unfold look at h
  split at h
  ·rename_i e;cases h;subst e;exact .head _
  ·exact .tail _ (ih h)
set_option tactic.hygienic true in
theorem OE{x y:Str}{a b:AG}:∀{st:St},(y,b)∈put x a st→(y=x∧b=a)∨(y,b)∈st:=by
 intro st
 induction st with
 |nil=>
  intro h
  simp[put]at h;exact .inl h
 |cons hd r ih=>
  obtain⟨z,c⟩:=hd
  intro h
  unfold put at h
  split at h
  ·rename_i e;subst e
   rcases mem_cons.mp h with q|q
   ·cases q;exact .inl ⟨rfl,rfl⟩
   ·exact .inr (.tail _ q)
  ·rcases mem_cons.mp h with q|q
   ·refine rr q ?_;exact .inr (.head _)
   ·exact(ih q).imp id fun z=>.tail _ z
set_option tactic.hygienic true in
theorem Kp{x:Str}{a:AG}:∀{st:St},(st.map (·.1)).Nodup→((put x a st).map (·.1)).Nodup:=by
 intro st
 induction st with
 |nil=>
  intro _
  simp[put]
 |cons hd r ih=>
  obtain⟨z,c⟩:=hd
  intro h
  unfold put
  split
  ·exact h
  ·rename_i ne
   simp only[map_cons,nodup_cons]at h⊢
   refine⟨fun q=>?_,ih h.2⟩
   obtain⟨⟨y,b⟩,hm,e⟩:=mem_map.mp q
   rcases OE hm with⟨e1,_⟩|hm
   ·exact ne (by simp only at e;refine rl e1 (rr e ?_);rfl)
   ·exact h.1 (mem_map.mpr ⟨(y,b),hm,e⟩)
theorem BH{x y:Str}{a b:AG}:∀{st:St},(st.map (·.1)).Nodup→(y,b)∈put x a st→y≠x→(y,b)∈st:=fun _ h ne=>(OE h).elim (fun q=>absurd q.1 ne) id
set_option tactic.hygienic true in
theorem IG{x:Str}{a b:AG}:∀{st:St},(st.map (·.1)).Nodup→(x,b)∈put x a st→b=a:=by
 intro st
 induction st with
 |nil=>
  intro _ h
  simp[put]at h;exact h
 |cons hd r ih=>
  obtain⟨z,c⟩:=hd
  intro hn h
  simp only[map_cons,nodup_cons]at hn
  unfold put at h
  split at h
  ·rename_i e;subst e
   rcases mem_cons.mp h with q|q
   ·cases q;rfl
   ·exact absurd (mem_map.mpr ⟨_,q,rfl⟩) hn.1
  ·rename_i ne
   rcases mem_cons.mp h with q|q
   ·cases q;exact absurd rfl ne
   ·exact ih hn.2 q
inductive EV where
 |dat (d:Dat)
 |own (x:Str)
inductive Fl where
 |next|brk|cont
 |ret (d:Dat)
def Oy(R as:List Addr)(h:Heap)(env:Env)(v:Value):EV→Prop
 | .dat d=>Fz (vis R as h) v d
 | .own x=>AF h env x v
def IH(g:BT):Flow→Fl→Prop
 | .next,.next=>True
 | .brk,.brk=>True
 | .cont,.cont=>True
 | .ret v,.ret d=>Fz g v d
 |_,_=>False
inductive Now(g:BT)(h:Heap):Value→Dat→Prop
 |fz {v:Value}{d:Dat}:Fz g v d→Now g h v d
 |lst {a:Addr}{vs:List Value}{n:Nat}{ds:List Dat}:h.get? a=some (seqObj "list" vs.toArray n)→FzL g vs ds→Now g h (.ref a) (.list ds)
section
variable{g:BT}{h:Heap}{v:Value}
theorem Now.int{i:Int}(x:Now g h v (.int i)):∃t,v=.int i t:=by cases x with|fz f=>cases f;exact⟨_,rfl⟩
theorem Now.bool{i:Bool}(x:Now g h v (.bool i)):v=.bool i:=by cases x with|fz f=>cases f;rfl
theorem Now.none(x:Now g h v .none):v=.none:=by cases x with|fz f=>cases f;rfl
theorem Now.tuple{ds:List Dat}(x:Now g h v (.tuple ds)):∃a vs n,v=.ref a∧g a (seqObj "tuple" vs.toArray n)∧FzL g vs ds:=by cases x with|fz f=>cases f with|tuple h r=>exact⟨_,_,_,rfl,h,r⟩
theorem Now.list{ds:List Dat}(k:∀b o,g b o→h.get? b=some o)(x:Now g h v (.list ds)):∃a vs n,v=.ref a∧h.get? a=some (seqObj "list" vs.toArray n)∧FzL g vs ds:=by
 cases x with
 |fz f=>cases f with|list h r=>exact⟨_,_,_,rfl,k _ _ h,r⟩
 |lst h r=>exact⟨_,_,_,rfl,h,r⟩
@[elab_as_elim] theorem Now.intP{motive:Value→Prop}{i:Int}(x:Now g h v (.int i))(k:∀t,motive (.int i t)):motive v:=by obtain⟨t,rfl⟩:=x.int;exact k t
@[elab_as_elim] theorem Now.boolP{motive:Value→Prop}{i:Bool}(x:Now g h v (.bool i))(k:motive (.bool i)):motive v:=x.bool▸k
@[elab_as_elim] theorem Now.tupleP{motive:Value→Prop}{ds:List Dat}(x:Now g h v (.tuple ds))(k:∀a vs n,g a (seqObj "tuple" vs.toArray n)→FzL g vs ds→motive (.ref a)):motive v:=by obtain⟨a,vs,n,rfl,e,f⟩:=x.tuple;exact k a vs n e f
@[elab_as_elim] theorem Now.listP{motive:Value→Prop}{ds:List Dat}(x:Now g h v (.list ds))(kg:∀b o,g b o→h.get? b=some o)(k:∀a vs n,h.get? a=some (seqObj "list" vs.toArray n)→FzL g vs ds→motive (.ref a)):motive v:=by obtain⟨a,vs,n,rfl,e,f⟩:=x.list kg;exact k a vs n e f
end
theorem BI{R as:List Addr}{h:Heap}:∀b o,vis R as h b o→h.get? b=some o:=fun _ _ x=>x.2.2
noncomputable def rd(st:St):EV→Option Dat
 | .dat d=>some d
 | .own x=>match look x st with
  |some (.lst ds)=>some (.list ds)
  |_=>none
section
variable{U:Heap}{R as as':List Addr}{env:Env}{st:St}{h h':Heap}{v:Value}{ev:EV}{d:Dat}
theorem Oy.step(x:Oy R as h env v ev)(e:Ah as h as' h')(hl:env.locals∉as)(hc:∀y c,env.cells.lookup y=some c→c∉as):Oy R as' h' env v ev:=by
 cases ev with
 |dat d=>exact Fz.mono (e.vis) x
 |own y=>exact AF.keep x fun b o hb eo=>e.keep b o (hb.elim (fun q=>q▸hl) (by rintro⟨y,q⟩;exact hc y b q)) eo
theorem Rel.locA(r:Rel U R env st as h):env.locals∉as:=fun q=>r.sep _ r.locR q
theorem Rel.celA(r:Rel U R env st as h):∀y c,env.cells.lookup y=some c→c∉as:=fun y c e q=>r.sep _ (r.celR y c e) q
set_option tactic.hygienic true in
theorem Rel.now(r:Rel U R env st as h)(x:Oy R as h env v ev)(e:rd st ev=some d):Now (vis R as h) h v d:=by
 cases ev with
 |dat d'=>cases e;exact .fz x
 |own y=>
  simp only[rd]at e
  obtain⟨⟨val,cs,hr,_⟩,_⟩:=r
  split at e
  ·rename_i ds q
   cases e
   obtain⟨hv,hrep,_⟩:=hr y _ (CA q)
   have:=hv.unique x
   subst this
   generalize val y=u at hrep
   generalize cs y=ks at hrep
   cases hrep with
   |lst ho f=>exact .lst ho f
  ·cases e
end
structure CU(A:Around)(n:Nat):Prop where
 handled:A.handled=none
 depth:A.depth+3*n+110<recursionLimit
 units:A.units+20*n+100<cLine
 frames:∃e l,A.frames=some (e::l)∧e.scope.isGenerator=false∧e.scope.isCoroutine=false∧e.builtins=builtinsNs∧e.globals=mainGlobals
structure Al(O:Program)(K:Frag)(U:Heap):Prop where
 X:K.In U
 top:∃mg mb,U.Ns mainGlobals mg∧U.Ns builtinsNs mb∧∀x:Str,x≠"__name__"→mb x=bootBuiltins x
 lim:U.NoLimit
 seer:U.NoSeer
 tree:O.given.tree=none
section
variable(O:Program)(w:World)(U:Heap)
inductive PE(R:List Addr)(env:Env)(as:List Addr)(s:Shared)(Q:EV→St→Prop)(v:Value)(s':Shared):Prop
 |mk (ev:EV) (st':St) (as':List Addr) (h':Heap) (tk':Nat) (hs:s'={s with heap:=h',toks:=tk'}) (e:Ah as s.heap as' h') (r:Rel U R env st' as' h') (x:Oy R as' h' env v ev) (q:Q ev st')
def Ev(sc:Scope)(n:Nat)(e:Expr)(st:St)(Q:EV→St→Prop):Prop:=
 ∀(A:Around) (env:Env) (R as:List Addr) (s:Shared),CU A n→Be sc env→Rel U R env st as s.heap→wpAny (model O w) A (eval e env) (PE U R env as s Q) (fun _ _=>False) s
inductive PT(R:List Addr)(env:Env)(as:List Addr)(s:Shared)(Q:Bool→St→Prop)(b:Bool)(s':Shared):Prop
 |mk (st':St) (as':List Addr) (h':Heap) (tk':Nat) (hs:s'={s with heap:=h',toks:=tk'}) (e:Ah as s.heap as' h') (r:Rel U R env st' as' h') (q:Q b st')
def Et(sc:Scope)(n:Nat)(e:Expr)(st:St)(Q:Bool→St→Prop):Prop:=
 ∀(A:Around) (env:Env) (R as:List Addr) (s:Shared),CU A n→Be sc env→Rel U R env st as s.heap→wpAny (model O w) A (isTrue e env (eval e env)) (PT U R env as s Q) (fun _ _=>False) s
inductive PX(R:List Addr)(env:Env)(as:List Addr)(s:Shared)(Q:Fl→St→Prop)(f:Flow)(s':Shared):Prop
 |mk (fl:Fl) (st':St) (as':List Addr) (h':Heap) (tk':Nat) (hs:s'={s with heap:=h',toks:=tk'}) (e:Bx env as s.heap as' h') (r:Rel U R env st' as' h') (x:IH (vis R as' h') f fl) (q:Q fl st')
def Sx(sc:Scope)(n:Nat)(x:Stmt)(st:St)(Q:Fl→St→Prop):Prop:=
 ∀(A:Around) (env:Env) (R as:List Addr) (s:Shared),CU A n→Be sc env→Rel U R env st as s.heap→wpAny (model O w) A (exec x env) (PX U R env as s Q) (fun _ _=>False) s
def Ss(sc:Scope)(n:Nat)(xs:List Stmt)(st:St)(Q:Fl→St→Prop):Prop:=
 ∀(A:Around) (env:Env) (R as:List Addr) (s:Shared),CU A n→Be sc env→Rel U R env st as s.heap→wpAny (model O w) A (execs xs env) (PX U R env as s Q) (fun _ _=>False) s
inductive PL(R:List Addr)(env:Env)(as:List Addr)(s:Shared)(Q:List Dat→St→Prop)(vs:List Value)(s':Shared):Prop
 |mk (ds:List Dat) (st':St) (as':List Addr) (h':Heap) (tk':Nat) (hs:s'={s with heap:=h',toks:=tk'}) (e:Ah as s.heap as' h') (r:Rel U R env st' as' h') (x:FzL (vis R as' h') vs ds) (q:Q ds st')
def El(sc:Scope)(n:Nat)(es:List Expr)(st:St)(Q:List Dat→St→Prop):Prop:=
 ∀(A:Around) (env:Env) (R as:List Addr) (s:Shared) (pos:Pos),CU A n→Be sc env→Rel U R env st as s.heap→wpAny (model O w) A (spliced (backTo pos (starEach es env))) (PL U R env as s Q) (fun _ _=>False) s
end
section
variable{O:Program}{w:World}{U:Heap}{R as as1:List Addr}{env:Env}{s:Shared}{h1:Heap}{t1:Nat}
theorem PE.after{Q:EV→St→Prop}{v:Value}{s':Shared}(e:Ah as s.heap as1 h1)(p:PE U R env as1 {s with heap:=h1,toks:=t1} Q v s'):PE U R env as s Q v s':=by
 obtain⟨ev,st',as',h',tk',rfl,e',r',x,q⟩:=p
 exact⟨ev,st',as',h',tk',rfl,e.trans e',r',x,q⟩
theorem PT.after{Q:Bool→St→Prop}{v:Bool}{s':Shared}(e:Ah as s.heap as1 h1)(p:PT U R env as1 {s with heap:=h1,toks:=t1} Q v s'):PT U R env as s Q v s':=by
 obtain⟨st',as',h',tk',rfl,e',r',q⟩:=p
 exact⟨st',as',h',tk',rfl,e.trans e',r',q⟩
theorem PX.after{Q:Fl→St→Prop}{v:Flow}{s':Shared}(e:Bx env as s.heap as1 h1)(p:PX U R env as1 {s with heap:=h1,toks:=t1} Q v s'):PX U R env as s Q v s':=by
 obtain⟨fl,st',as',h',tk',rfl,e',r',x,q⟩:=p
 exact⟨fl,st',as',h',tk',rfl,e.trans e',r',x,q⟩
theorem PE.grown{Q:EV→St→Prop}{v:Value}{st:St}{d:Dat}{s':Shared}(r:Rel U R env st as s.heap)(hs:s'={s with heap:=h1,toks:=t1})(k:∀b o,s.heap.get? b=some o→h1.get? b=some o)
 (f:Fz (vis R as h1) v d) (q:Q (.dat d) st):PE U R env as s Q v s':=
 ⟨.dat d,st,as,h1,t1,hs,Ah.grow _ k,r.grow k,f,q⟩
end
section
variable{O:Program}{w:World}{U:Heap}{sc:Scope}{n:Nat}{st:St}
theorem Ev.mono{e:Expr}{Q Q':EV→St→Prop}(h:Ev O w U sc n e st Q)(k:∀a st,Q a st→Q' a st):Ev O w U sc n e st Q':=
 fun A env R as s hR hE r=>wpAny_mono (h A env R as s hR hE r) (by rintro _ _ ⟨ev,st',as',h',tk',e,a,b,c,q⟩;exact⟨ev,st',as',h',tk',e,a,b,c,k _ _ q⟩) fun _ _ x=>x
theorem Et.mono{e:Expr}{Q Q':Bool→St→Prop}(h:Et O w U sc n e st Q)(k:∀a st,Q a st→Q' a st):Et O w U sc n e st Q':=
 fun A env R as s hR hE r=>wpAny_mono (h A env R as s hR hE r) (by rintro _ _ ⟨st',as',h',tk',e,a,b,q⟩;exact⟨st',as',h',tk',e,a,b,k _ _ q⟩) fun _ _ x=>x
theorem Ss.mono{e:List Stmt}{Q Q':Fl→St→Prop}(h:Ss O w U sc n e st Q)(k:∀a st,Q a st→Q' a st):Ss O w U sc n e st Q':=
 fun A env R as s hR hE r=>wpAny_mono (h A env R as s hR hE r) (by rintro _ _ ⟨ev,st',as',h',tk',e,a,b,c,q⟩;exact⟨ev,st',as',h',tk',e,a,b,c,k _ _ q⟩) fun _ _ x=>x
section
variable{A:Around}{env:Env}{R as:List Addr}{s:Shared}{P E:Value→Shared→Prop}
theorem Ev.go{e:Expr}{Q:EV→St→Prop}(h:Ev O w U sc n e st Q)(hR:CU A n)(hE:Be sc env)(r:Rel U R env st as s.heap)
 (k:∀v a st' as' h' tk',Ah as s.heap as' h'→Rel U R env st' as' h'→Oy R as' h' env v a→Q a st'→P v {s with heap:=h',toks:=tk'}):wpAny (model O w) A (eval e env) P E s:=
 wpAny_mono (h A env R as s hR hE r) (by rintro _ _ ⟨a,st',as',h',tk',hs,e,r,x,q⟩;exact hs▸k _ a st' as' h' tk' e r x q) fun _ _ x=>x.elim
theorem El.go{es:List Expr}{Q:List Dat→St→Prop}(h:El O w U sc n es st Q){pos:Pos}{P:List Value→Shared→Prop}(hR:CU A n)(hE:Be sc env)(r:Rel U R env st as s.heap)
 (k:∀v a st' as' h' tk',Ah as s.heap as' h'→Rel U R env st' as' h'→FzL (vis R as' h') v a→Q a st'→P v {s with heap:=h',toks:=tk'}):wpAny (model O w) A (spliced (backTo pos (starEach es env))) P E s:=
 wpAny_mono (h A env R as s pos hR hE r) (by rintro _ _ ⟨a,st',as',h',tk',hs,e,r,x,q⟩;exact hs▸k _ a st' as' h' tk' e r x q) fun _ _ x=>x.elim
theorem Et.go{e:Expr}{Q:Bool→St→Prop}(h:Et O w U sc n e st Q){P:Bool→Shared→Prop}(hR:CU A n)(hE:Be sc env)(r:Rel U R env st as s.heap)
 (k:∀b st' as' h' tk',Ah as s.heap as' h'→Rel U R env st' as' h'→Q b st'→P b {s with heap:=h',toks:=tk'}):wpAny (model O w) A (isTrue e env (eval e env)) P E s:=
 wpAny_mono (h A env R as s hR hE r) (by rintro _ _ ⟨st',as',h',tk',hs,e,r,q⟩;exact hs▸k _ st' as' h' tk' e r q) fun _ _ x=>x.elim
theorem Sx.go{e:Stmt}{Q:Fl→St→Prop}(h:Sx O w U sc n e st Q){P:Flow→Shared→Prop}(hR:CU A n)(hE:Be sc env)(r:Rel U R env st as s.heap)
 (k:∀f fl st' as' h' tk',Bx env as s.heap as' h'→Rel U R env st' as' h'→IH (vis R as' h') f fl→Q fl st'→P f {s with heap:=h',toks:=tk'}):wpAny (model O w) A (exec e env) P E s:=
 wpAny_mono (h A env R as s hR hE r) (by rintro _ _ ⟨a,st',as',h',tk',hs,e,r,x,q⟩;exact hs▸k _ a st' as' h' tk' e r x q) fun _ _ x=>x.elim
theorem Ss.go{e:List Stmt}{Q:Fl→St→Prop}(h:Ss O w U sc n e st Q){P:Flow→Shared→Prop}(hR:CU A n)(hE:Be sc env)(r:Rel U R env st as s.heap)
 (k:∀f fl st' as' h' tk',Bx env as s.heap as' h'→Rel U R env st' as' h'→IH (vis R as' h') f fl→Q fl st'→P f {s with heap:=h',toks:=tk'}):wpAny (model O w) A (execs e env) P E s:=
 wpAny_mono (h A env R as s hR hE r) (by rintro _ _ ⟨a,st',as',h',tk',hs,e,r,x,q⟩;exact hs▸k _ a st' as' h' tk' e r x q) fun _ _ x=>x.elim
end
theorem PX.mk'{R as:List Addr}{env:Env}{s:Shared}{Q:Fl→St→Prop}(f:Flow)(fl:Fl)(st':St)(as':List Addr)(h':Heap)(tk':Nat)(e:Bx env as s.heap as' h')(r:Rel U R env st' as' h')(x:IH (vis R as' h') f fl)(q:Q fl st'):PX U R env as s Q f {s with heap:=h',toks:=tk'}:=⟨fl,st',as',h',tk',rfl,e,r,x,q⟩
theorem XM{i:Int}{k:Nat}{pos:Pos}{Q:EV→St→Prop}(h:Q (.dat (.int i)) st):Ev O w U sc n (.Constant (.int i) k pos) st Q:=
 fun _ _ _ _ _ _ _ r=>wpAny_Constant_int (PE.grown r rfl (fun _ _ e=>e) (.int _ _) h)
theorem UT{k:Nat}{pos:Pos}{Q:EV→St→Prop}(h:Q (.dat .none) st):Ev O w U sc n (.Constant .none k pos) st Q:=
 fun _ _ _ _ _ _ _ r=>wpAny_Constant_none (PE.grown r rfl (fun _ _ e=>e) .none h)
theorem UU{b:Bool}{k:Nat}{pos:Pos}{Q:EV→St→Prop}(h:Q (.dat (.bool b)) st):Ev O w U sc n (.Constant (.bool b) k pos) st Q:=
 fun _ _ _ _ _ _ _ r=>wpAny_Constant_bool (PE.grown r rfl (fun _ _ e=>e) (.bool _) h)
theorem XN{b:Str}{k:Nat}{pos:Pos}{Q:EV→St→Prop}(h:Q (.dat (.str b)) st):Ev O w U sc n (.Constant (.str b) k pos) st Q:=
 fun _ _ _ _ _ _ _ r=>wpAny_Constant_str (PE.grown r rfl (fun _ _ e=>e) (.str _ _) h)
theorem CN{A:Around}{env:Env}{s:Shared}{x:Str}{v:Value}{Q:Value→Shared→Prop}{E:Value→Shared→Prop}{pos:Pos}(hE:Be sc env)(hv:AF s.heap env x v)(h:Q v s)
 (hd:(x==("__debug__":Str))=false) (hc:(x==("__classdict__":Str))=false):wpAny (model O w) A (eval (.Name x pos) env) Q E s:=by
 refine wpAny_Name ?_ hd
 rcases hv with⟨k,m,hn,e⟩|⟨k|k,c,hc',hv⟩
 ·exact wpAny_loadName_local (by refine rr hE.isSc ?_;exact hE.kind) k hn e h
 ·exact wpAny_loadName_cell (by refine rr hE.isSc ?_;exact hE.kind) k hc' hv h
 ·exact wpAny_loadName_free (by refine rr hE.isSc ?_;exact hE.kind) k hc' hv h hc
noncomputable def UV(x:Str):AG→EV
 | .dat d=>.dat d
 |_=>.own x
theorem UW{x:Str}{pos:Pos}{a:AG}{Q:EV→St→Prop}(e:look x st=some a)(h:Q (UV x a) st)(hd:autoParam ((x==("__debug__":Str))=false) au.a2._auto_1)(hc:autoParam ((x==("__classdict__":Str))=false) au.a2._auto_1):
 Ev O w U sc n (.Name x pos) st Q:=by
 intro A env R as s _ hE r
 obtain⟨val,cs,hr,_⟩:=r.rows
 obtain⟨hv,hrep,_⟩:=hr x a (CA e)
 refine CN hE hv ?_ hd hc
 refine⟨UV x a,st,as,s.heap,s.toks,rfl,Ah.refl _ _,r,?_,h⟩
 cases a with
 |dat d=>generalize val x=u at hrep;generalize cs x=ks at hrep;cases hrep with|dat f=>exact f
 |lst ds=>exact hv
 |obj c fs=>exact hv
end
section
variable{U:Heap}{st:St}
structure Mut(R as ns cs cs':List Addr)(h h':Heap):Prop where
 sub:∀b∈cs,b∈as
 keep:∀b o,b∉cs→h.get? b=some o→h'.get? b=some o
 live:LB h h'
 new:∀b∈cs',b∈cs∨b∈ns∨h.get? b=none
 off:∀b∈ns,b∉R
noncomputable def swp(cs cs' as:List Addr):List Addr:=cs'++as.filter (fun b=>decide (b∉cs))
theorem Ee{cs cs' as:List Addr}{b:Addr}:b∈swp cs cs' as↔b∈cs'∨(b∈as∧b∉cs):=by simp[swp]
theorem Mut.step{R as as0 ns cs cs':List Addr}{h0 h h':Heap}(M:Mut R as ns cs cs' h h')(e:Ah as0 h0 as h)(hns:∀b∈ns,h0.get? b=none):Ah as0 h0 (swp cs cs' as) h':=
 ⟨fun b o hb eo=>M.keep b o (fun q=>e.old eo hb (M.sub b q)) (e.keep b o hb eo),fun b hb=>(Ee.mp hb).elim (fun q=>(M.new b q).elim (fun q=>e.fresh b (M.sub b q)) fun q=>.inr (q.elim (hns b) fun q=>e.live.none q)) fun q=>e.fresh b q.1,e.live.trans M.live⟩
theorem Mut.vis{R as ns cs cs':List Addr}{h h':Heap}(M:Mut R as ns cs cs' h h'):∀b o,vis (ns++R) as h b o→vis R (swp cs cs' as) h' b o:=fun b o ⟨p,q,e⟩=>
 ⟨fun z=>p (mem_append_right _ z),fun z=>(Ee.mp z).elim (fun z=>(M.new b z).elim (fun z=>q (M.sub b z)) fun z=>z.elim (fun z=>p (mem_append_left _ z)) fun z=>by rw[e]at z;cases z) fun z=>q z.1,M.keep b o (fun z=>q (M.sub b z)) e⟩
theorem Mut.rel{R as ns cs cs':List Addr}{env:Env}{h h':Heap}{x:Str}{v:Value}{a a':AG}(M:Mut R as ns cs cs' h h')(r:Rel U (ns++R) env st as h)(hx:look x st=some a)(hv:AF h env x v)
 (hl:env.locals∈R) (hc:∀x c,env.cells.lookup x=some c→c∈R)
 (hcs:∃(val:Str→Value) (ks:Str→List Addr),(∀x a,(x,a)∈st→AF h env x (val x)∧Ct (Mine.vis (ns++R) as h) h (val x) a (ks x)∧∀b∈ks x,b∈as)∧
  (∀x a y b,(x,a)∈st→(y,b)∈st→x≠y→∀c∈ks x,c∉ks y)∧ks x=cs)
 (rep:Ct (Mine.vis R (swp cs cs' as) h') h' v a' cs'):Rel U R env (put x a' st) (swp cs cs' as) h':=by
 obtain⟨val,ks,hr,hd,rfl⟩:=hcs
 obtain⟨_,hn,hsep,_,_,⟨m,hm⟩,hcl,hi,hb⟩:=r
 have kv:=M.vis
 have offR:∀b∈R,b∉ks x:=fun b hb z=>hsep b (mem_append_right _ hb) (M.sub b z)
 have vk:∀y u,AF h env y u→AF h' env y u:=fun y u z=>z.keep fun b o hb eo=>M.keep b o (hb.elim (fun q=>q▸offR _ hl) (by rintro⟨y,q⟩;exact offR _ (hc y b q))) eo
 have ev:v=val x:=hv.unique (hr x a (CA hx)).1
 refine⟨⟨val,fun z=>if z=x then cs' else ks z,fun z b hz=>?_,fun z b z' b' hz hz' ne c hc1=>?_⟩,Kp hn,fun b hb z=>?_,hl,hc,⟨m,hm.at' fun o eo=>M.keep _ o (offR _ hl) eo⟩,
  fun y c ec=>(by obtain⟨v,o,ho,hd⟩:=hcl y c ec;exact⟨v,o,M.keep _ _ (offR _ (hc y c ec)) ho,hd⟩),fun b hb=>(by obtain⟨o,eo⟩:=hi b (mem_append_right _ hb);exact⟨o,M.keep b o (offR b hb) eo⟩),fun b o eo=>kv b o (hb b o eo)⟩
 ·by_cases hzx:z=x
  ·subst hzx
   have:=IG hn hz
   subst this
   dsimp only;refine rr (if_pos rfl) (rl ev ?_)
   exact⟨vk _ _ hv,rep,fun b hb=>Ee.mpr (.inl hb)⟩
  ·dsimp only;refine rr (if_neg hzx) ?_
   have hz':=BH hn hz hzx
   obtain⟨p,q,t⟩:=hr z b hz'
   exact⟨vk _ _ p,q.mono kv fun c hc o eo=>M.keep c o (fun w=>hd z b x a hz' (CA hx) hzx c hc w) eo,fun b hb=>Ee.mpr (.inr ⟨t b hb,fun w=>hd z _ x a hz' (CA hx) hzx b hb w⟩)⟩
 ·dsimp only at hc1⊢
  have old:∀z b,(z,b)∈st→z≠x→∀c∈ks z,c∉cs':=fun z b hz ne c hc hc'=>(M.new c hc').elim (fun q=>hd z b x a hz (CA hx) ne c hc q) fun q=>q.elim (fun q=>
   hsep c (mem_append_left _ q) ((hr z b hz).2.2 c hc)) fun q=>by
    obtain⟨o,eo⟩:=(hr z b hz).2.1.alive c hc
    rw[q]at eo;cases eo
  by_cases hzx:z=x
  ·rw[if_pos hzx]at hc1
   have hzx':z'≠x:=fun q=>ne (hzx.trans q.symm)
   refine rr (if_neg hzx') ?_
   exact fun q=>old z' b' (BH hn hz' hzx') hzx' c q hc1
  ·rw[if_neg hzx]at hc1
   by_cases hzx':z'=x
   ·refine rr (if_pos hzx') ?_;exact old z b (BH hn hz hzx) hzx c hc1
   ·refine rr (if_neg hzx') ?_;exact hd z b z' b' (BH hn hz hzx) (BH hn hz' hzx') ne c hc1
 ·rcases Ee.mp z with z|z
  ·exact(M.new b z).elim (offR b hb) fun q=>q.elim (fun q=>M.off b q hb) fun q=>by
    obtain⟨o,eo⟩:=hi b (mem_append_right _ hb)
    rw[q]at eo;cases eo
  ·exact hsep b (mem_append_right _ hb) z.1
theorem Rel.mut{P:Prop}{R as ns:List Addr}{env:Env}{h:Heap}{x:Str}{v:Value}{a:AG}(r:Rel U (ns++R) env st as h)(hx:look x st=some a)(hv:AF h env x v)(hl:env.locals∈R)(hc:∀x c,env.cells.lookup x=some c→c∈R)
 (k:∀cs,Ct (vis (ns++R) as h) h v a cs→(∀b∈cs,b∈as)→(∀{h':Heap}{a':AG}{cs':List Addr},Mut R as ns cs cs' h h'→Ct (vis R (swp cs cs' as) h') h' v a' cs'→Rel U R env (put x a' st) (swp cs cs' as) h')→P):P:=by
 obtain⟨val,ks,hr,hd⟩:=r.rows
 have m:=hr x a (CA hx)
 have ev:v=val x:=hv.unique m.1
 exact k (ks x) (ev▸m.2.1) m.2.2 fun M rep=>M.rel r hx hv hl hc ⟨val,ks,hr,hd,rfl⟩ rep
end
section
variable{U:Heap}{R as as':List Addr}{env:Env}{st st':St}{h h':Heap}{v:Value}{a:EV}{d:Dat}
noncomputable def UX:Str×Cu→Str×Dat
 |(x,.dat d)=>(x,d)
 |(x,.own _ ds)=>(x,.list ds)
theorem Ny(fs:List (Str×Cu)):(fs.map UX).map (·.1)=fs.map (·.1):=by
 refine rr map_map ?_
 refine map_congr_left fun p _=>?_
 obtain⟨x,a⟩:=p
 cases a<;>rfl
noncomputable def GH:AG→Dat
 | .dat d=>d
 | .lst ds=>.list ds
 | .obj c fs=>.inst c (fs.map UX)
noncomputable def frz(st:St):EV→Option (Dat×St)
 | .dat d=>some (d,st)
 | .own x=>match look x st with
  |some a=>some (GH a,put x (.dat (GH a)) st)
  |none=>none
theorem DP.frz{g g':BT}{m:Str→Option Value}{fs:List (Str×Cu)}{cs:List Addr}(x:DP g h m fs cs)(k:∀b o,g b o→g' b o)(kc:∀b∈cs,∀o,h.get? b=some o→g' b o):FzF g' m (fs.map UX):=by
 induction x with
 |nil=>exact .nil
 |dat e f _ ih=>exact .cons e (f.mono k) (ih kc)
 |own e ho f _ ih=>exact .cons e (.list (kc _ (.head _) _ ho) (f.mono k)) (ih fun b hb=>kc b (.tail _ hb))
theorem Ct.frz{g g':BT}{a:AG}{cs:List Addr}(x:Ct g h v a cs)(k:∀b o,g b o→g' b o)(kc:∀b∈cs,∀o,h.get? b=some o→g' b o):Fz g' v (GH a):=by
 cases x with
 |dat f=>exact f.mono k
 |lst ho f=>exact .list (kc _ (.head _) _ ho) (f.mono k)
 |obj h1 h2 hn f nd nf ex=>exact .inst (kc _ (.head _) _ h1) (kc _ (.tail _ (.head _)) _ h2) hn (f.frz k fun b hb=>kc b (.tail _ (.tail _ hb))) fun y v e=>by refine rr (Ny ..) ?_;exact ex.1 y v e
set_option tactic.hygienic true in
theorem Rel.freeze(r:Rel U R env st as h)(x:Oy R as h env v a)(e:frz st a=some (d,st')):∃as',(∀b∈as',b∈as)∧Rel U R env st' as' h∧Fz (vis R as' h) v d:=by
 cases a with
 |dat d'=>cases e;exact⟨as,fun _ h=>h,r,x⟩
 |own y=>
  simp only[Mine.frz]at e
  split at e
  ·rename_i av q
   cases e
   refine Rel.mut (ns:=[]) r q x r.locR r.celR fun cs rep sub k=>?_
   have M:Mut R as [] cs [] h h:=⟨sub,fun _ _ _ e=>e,.of fun _ _ e=>e,Km,Km⟩
   have f:Fz (vis R (swp cs [] as) h) v (GH av):=rep.frz M.vis fun b hb o e=>⟨fun z=>r.sep b z (sub b hb),fun z=>(Ee.mp z).elim (fun z=>nomatch z) fun z=>z.2 hb,e⟩
   exact⟨swp cs [] as,fun b hb=>(Ee.mp hb).elim (fun z=>nomatch z) And.left,k M (.dat f),f⟩
  ·cases e
theorem Ah.less{as as':List Addr}{h:Heap}(k:∀b∈as',b∈as):Ah as h as' h:=⟨fun _ _ _ e=>e,fun b hb=>.inl (k b hb),.of fun _ _ e=>e⟩
end
section
variable{O:Program}{w:World}{U:Heap}{sc:Scope}{n:Nat}{st:St}
inductive Xx(st:St)(a:EV)(Q:Dat→St→Prop):Prop
 |mk (d:Dat) (st':St) (e:frz st a=some (d,st')) (q:Q d st')
def Ed(O:Program)(w:World)(U:Heap)(sc:Scope)(n:Nat)(e:Expr)(st:St)(Q:Dat→St→Prop):Prop:=Ev O w U sc n e st fun a st1=>Xx st1 a Q
inductive PD(U:Heap)(R:List Addr)(env:Env)(as:List Addr)(s:Shared)(Q:Dat→St→Prop)(v:Value)(s':Shared):Prop
 |mk (d:Dat) (st':St) (as':List Addr) (h':Heap) (tk':Nat) (hs:s'={s with heap:=h',toks:=tk'}) (e:Ah as s.heap as' h') (r:Rel U R env st' as' h') (x:Fz (vis R as' h') v d) (q:Q d st')
theorem PE.pd{R as:List Addr}{env:Env}{s:Shared}{Q:Dat→St→Prop}{v:Value}{s':Shared}(p:PE U R env as s (fun a st1=>Xx st1 a Q) v s'):PD U R env as s Q v s':=by
 obtain⟨ev,st',as',h',tk',rfl,e',r',x,d,st'',ez,q⟩:=p
 obtain⟨as'',sub,r'',f⟩:=r'.freeze x ez
 exact⟨d,st'',as'',h',tk',rfl,e'.trans (Ah.less sub),r'',f,q⟩
theorem Ed.run{e:Expr}{Q:Dat→St→Prop}(h:Ed O w U sc n e st Q){A:Around}{env:Env}{R as:List Addr}{s:Shared}(hR:CU A n)(hE:Be sc env)(r:Rel U R env st as s.heap):
 wpAny (model O w) A (eval e env) (PD U R env as s Q) (fun _ _=>False) s:=wpAny_mono (h A env R as s hR hE r) (fun _ _ p=>p.pd) fun _ _ x=>x
theorem Ed.go{e:Expr}{Q:Dat→St→Prop}(h:Ed O w U sc n e st Q){A:Around}{env:Env}{R as:List Addr}{s:Shared}{P E:Value→Shared→Prop}(hR:CU A n)(hE:Be sc env)(r:Rel U R env st as s.heap)
 (k:∀v a st' as' h' tk',Ah as s.heap as' h'→Rel U R env st' as' h'→Fz (vis R as' h') v a→Q a st'→P v {s with heap:=h',toks:=tk'}):wpAny (model O w) A (eval e env) P E s:=
 wpAny_mono (h.run hR hE r) (by rintro _ _ ⟨a,st',as',h',tk',hs,e,r,x,q⟩;exact hs▸k _ a st' as' h' tk' e r x q) fun _ _ x=>x.elim
theorem XO{Q:List Dat→St→Prop}(h:Q [] st):El O w U sc n [] st Q:=fun _ _ _ as s _ _ _ r=>wpAny_items_nil ⟨[],st,as,s.heap,s.toks,rfl,Ah.refl _ _,r,.nil,h⟩
theorem UY{e:Expr}{es:List Expr}{Q:List Dat→St→Prop}(h:Ed O w U sc n e st fun d st1=>El O w U sc n es st1 fun ds st2=>Q (d::ds) st2)
 (hs:autoParam (∀env,starEach (e::es) env=(false,eval e env)::starEach es env) au.a1._auto_1):El O w U sc n (e::es) st Q:=by
 intro A env R as s pos hR hE r
 refine wpAny_items_cons (h.go hR hE r fun v d st1 as1 h1 t1 e1 r1 f1 q1=>?_) (hs env)
 refine q1.go hR hE r1 fun vs ds st2 as2 h2 t2 e2 r2 f2 q2=>?_
 exact⟨d::ds,st2,as2,h2,t2,rfl,e1.trans e2,r2,.cons (f1.mono e2.vis) f2,q2⟩
theorem Rel.fresh{R as:List Addr}{env:Env}{h:Heap}(r:Rel U R env st as h):h.objs.size∉R:=fun q=>(by obtain⟨_,e⟩:=r.inb _ q;exact lt_irrefl _ (lt_size e))
inductive bX(U:Heap)(R:List Addr)(env:Env)(st:St)(as:List Addr)(h:Heap):Prop
 |mk (as':List Addr) (sub:∀b∈as',b∈as) (al:∀b∈as',∃o,h.get? b=some o) (r:Rel U R env st as' h)
theorem Rel.trim{R as:List Addr}{env:Env}{h:Heap}(r:Rel U R env st as h):bX U R env st as h:=by
 obtain⟨⟨val,cs,hr,hd⟩,hn,hsep,hl,hc,hlo,hcl,hi,hb⟩:=r
 have sub:∀b∈as.filter (fun b=>(h.get? b).isSome),b∈as:=fun b hb=>(mem_filter.mp hb).1
 have kv:∀b o,vis R as h b o→vis R (as.filter (fun b=>(h.get? b).isSome)) h b o:=by rintro b o ⟨p,q,e⟩;exact⟨p,fun z=>q (sub b z),e⟩
 refine⟨_,sub,fun b hb=>isSome_iff_exists.mp (mem_filter.mp hb).2,⟨val,cs,fun x a hx=>?_,hd⟩,hn,fun b hb z=>hsep b hb (sub b z),hl,hc,hlo,hcl,hi,fun b o e=>kv b o (hb b o e)⟩
 obtain⟨p,q,z⟩:=hr x a hx
 refine⟨p,q.mono kv fun _ _ _ e=>e,fun b hb=>mem_filter.mpr ⟨z b hb,isSome_iff_exists.mpr (q.alive b hb)⟩⟩
theorem Rel.trimP{P:Prop}{R as:List Addr}{env:Env}{h:Heap}(r:Rel U R env st as h)(k:∀as',(∀b∈as',b∈as)→(∀b∈as',∃o,h.get? b=some o)→Rel U R env st as' h→P):P:=(by obtain⟨as',a,b,c⟩:=r.trim;exact k as' a b c)
theorem Jm{R as:List Addr}{env:Env}{h:Heap}(r:Rel U R env st as h)(hlt:∀b∈as,∃o,h.get? b=some o){o:Obj}(hf:o.isFreed=false):vis R as (h.push o) h.objs.size o:=
 ⟨r.fresh,fun q=>(by obtain⟨_,e⟩:=hlt _ q;exact lt_irrefl _ (lt_size e)),get?_push_size h hf⟩
theorem He{R as:List Addr}{h:Heap}(o:Obj):∀b x,vis R as h b x→vis R as (h.push o) b x:=by rintro _ _ ⟨p,q,e⟩;exact⟨p,q,get?_push_of_some _ e⟩
theorem RB{es:List Expr}{k:Nat}{pos:Pos}{Q:EV→St→Prop}(h:El O w U sc n es st fun ds st1=>ds.length≤sizeLine∧Q (.dat (.tuple ds)) st1):Ev O w U sc n (.Tuple es k pos) st Q:=by
 intro A env R as s hR hE r
 refine wpAny_Tuple (h.go hR hE r fun vs ds st1 as0 h1 t1 e0 r0 f0 qq=>?_)
 obtain⟨hz,q⟩:=qq
 refine r0.trimP fun as1 sub hlt r1=>?_
 have e1:=e0.trans (Ah.less sub)
 have f1:FzL (vis R as1 h1) vs ds:=FzL.mono (Ah.less sub).vis f0
 refine⟨by refine rr f1.length ?_;exact hz,PE.after (t1:=t1) e1 ?_⟩
 exact PE.grown (t1:=t1) r1 rfl (fun b o e=>get?_push_of_some _ e) (.tuple (Jm r1 hlt rfl) (f1.mono (He _))) q
def AT(x y:Int):Prop:=IntMulOk x y
def OF(p:Int→Int→Prop):Dat→Dat→Prop
 | .int a,y=>match y with
  | .int b=>p a b
  |_=>False
 |_,_=>False
theorem ED{p:Int→Int→Prop}{x y:Dat}(h:OF p x y):∃a b,x=.int a∧y=.int b∧p a b:=by
 cases x with
 |int a=>cases y with
  |int b=>exact⟨_,_,rfl,rfl,h⟩
  |_=>exact h.elim
 |_=>exact h.elim
def OG:Dat→Dat→Prop
 | .int _,y=>match y with
  | .int _=>True
  |_=>False
 | .list xs,y=>match y with
  | .list ys=>xs.length+ys.length≤sizeLine
  |_=>False
 | .tuple xs,y=>match y with
  | .tuple ys=>xs.length+ys.length≤sizeLine
  |_=>False
 |_,_=>False
theorem LC{x y:Dat}(h:OG x y):(∃a b,x=.int a∧y=.int b)∨(∃xs ys,x=.tuple xs∧y=.tuple ys∧xs.length+ys.length≤sizeLine)∨∃xs ys,x=.list xs∧y=.list ys∧xs.length+ys.length≤sizeLine:=by
 cases x with
 |int a=>cases y with
  |int b=>exact .inl ⟨_,_,rfl,rfl⟩
  |_=>exact h.elim
 |tuple a=>cases y with
  |tuple b=>exact .inr (.inl ⟨_,_,rfl,rfl,h⟩)
  |_=>exact h.elim
 |list a=>cases y with
  |list b=>exact .inr (.inr ⟨_,_,rfl,rfl,h⟩)
  |_=>exact h.elim
 |_=>exact h.elim
def Cv(op:Operator)(x y:Dat):Prop:=match op with
 | .Add=>OG x y
 | .Sub=>OF (fun _ _=>True) x y
 | .Mult=>OF AT x y
 | .FloorDiv=>OF (fun _ b=>b≠0) x y
 | .Mod=>OF (fun _ b=>b≠0) x y
 | .Pow=>OF (fun a b=>0≤b∧b≤1000000∧a.natAbs<2^64) x y
 |_=>False
noncomputable def II:Operator→Dat→Dat→Dat
 | .Add,.int x,.int y=>.int (x+y)
 | .Sub,.int x,.int y=>.int (x-y)
 | .Mult,.int x,.int y=>.int (x*y)
 | .FloorDiv,.int x,.int y=>.int (x.fdiv y)
 | .Mod,.int x,.int y=>.int (x.fmod y)
 | .Pow,.int x,.int y=>.int (x^y.toNat)
 | .Add,.list xs,.list ys=>.list (xs++ys)
 | .Add,.tuple xs,.tuple ys=>.tuple (xs++ys)
 |_,_,_=>.none
theorem Ua{O:Program}{w:World}{K:Frag}(S:Al O K U){A:Around}{s:Shared}(hR:CU A n)(k:∀b o,U.get? b=some o→s.heap.get? b=some o):PylongRoom (model O w) A s:=by
 obtain⟨e,l,hf,h1,h2,h3,h4⟩:=hR.frames
 refine PylongRoom.of (S.lim.keeps k) (by have:=hR.depth;show A.depth+100<_;exact(Ac this)) (SeerAt.of (S.seer.keeps k) S.tree hf h1 h2 h3 h4)
theorem Nz{K:Frag}(S:Al O K U){A:Around}{R as:List Addr}{env:Env}{s:Shared}(hR:CU A n)(r:Rel U R env st as s.heap)(hlt:∀b∈as,∃o,s.heap.get? b=some o){u v:Value}{xs ys:List Dat}(hu:Now (vis R as s.heap) s.heap u (.tuple xs))(hv:Now (vis R as s.heap) s.heap v (.tuple ys))
 (hs:xs.length+ys.length≤sizeLine) {Q:EV→St→Prop} (q:Q (.dat (.tuple (xs++ys))) st):wpAny (model O w) A (binaryOp .Add u v) (PE U R env as s Q) (fun _ _=>False) s:=by
 refine Now.tupleP hu fun a vs k ho fo=>?_
 refine Now.tupleP hv fun b ws k' ho' fo'=>?_
 have e:vs.toArray++ws.toArray=(vs++ws).toArray:=by simp
 by_cases hv9:vs=[]
 ·subst hv9
  cases fo
  exact concat_meets ⟨_,ho.2.2,rfl⟩ ⟨_,ho'.2.2,rfl⟩ noFill_tuple_add seq_tuple_add PySem.F.slot_tuple_add PySem.F.entry_tuple_add (PySem.F.args_tuple_add_2 _ _) (tuple_addW0 _ _ _ ws.toArray _ _ none none #[] #[] rfl)
   ⟨ho.2.2,ho'.2.2,PE.grown (t1:=s.toks) r rfl (fun _ _ e=>e) (.tuple ho' fo') q⟩
 ·by_cases hw:ws=[]
  ·subst hw
   cases fo'
   refine concat_meets ⟨_,ho.2.2,rfl⟩ ⟨_,ho'.2.2,rfl⟩ noFill_tuple_add seq_tuple_add PySem.F.slot_tuple_add PySem.F.entry_tuple_add (PySem.F.args_tuple_add_2 _ _) (tuple_addW1 _ _ vs.toArray _ _ _ none none #[] #[] (by simpa using hv9) rfl)
    ⟨ho.2.2,ho'.2.2,PE.grown (t1:=s.toks) r rfl (fun _ _ e=>e) (.tuple ho fo) ?_⟩
   rw[append_nil]at q;exact q
  ·refine concat_meets ⟨_,ho.2.2,rfl⟩ ⟨_,ho'.2.2,rfl⟩ noFill_tuple_add seq_tuple_add PySem.F.slot_tuple_add PySem.F.entry_tuple_add (PySem.F.args_tuple_add_2 _ _)
    (tuple_addW2 _ _ vs.toArray ws.toArray _ _ none none #[] #[] (by simpa using hv9) (by simpa using hw) (by refine rr size_toArray (rr size_toArray ?_);refine rr fo.length (rr fo'.length ?_);exact hs)) ⟨ho.2.2,ho'.2.2,?_⟩
   refine rr e ?_
   exact PE.grown (t1:=s.toks) r rfl (fun b o e=>get?_push_of_some _ e) (.tuple (Jm r hlt rfl) ((fo.append fo').mono (He _))) q
theorem OH{K:Frag}(S:Al O K U){A:Around}{R as:List Addr}{env:Env}{s:Shared}(hR:CU A n)(r:Rel U R env st as s.heap)(hlt:∀b∈as,∃o,s.heap.get? b=some o){u v:Value}{xs ys:List Dat}(hu:Now (vis R as s.heap) s.heap u (.list xs))(hv:Now (vis R as s.heap) s.heap v (.list ys))
 (hs:xs.length+ys.length≤sizeLine) {Q:EV→St→Prop} (q:Q (.dat (.list (xs++ys))) st):wpAny (model O w) A (binaryOp .Add u v) (PE U R env as s Q) (fun _ _=>False) s:=by
 refine Now.listP hu BI fun a vs k ho fo=>?_
 refine Now.listP hv BI fun b ws k' ho' fo'=>?_
 have e:vs.toArray++ws.toArray=(vs++ws).toArray:=by simp
 refine concat_meets ⟨_,ho,rfl⟩ ⟨_,ho',rfl⟩ noFill_list_add seq_list_add PySem.F.slot_list_add PySem.F.entry_list_add (PySem.F.args_list_add_2 _ _) (list_addW _ _ vs.toArray ws.toArray _ _ none none #[] #[] (by refine rr size_toArray (rr size_toArray ?_);refine rr fo.length (rr fo'.length ?_);exact hs)) ⟨ho,ho',?_⟩
 refine rr e ?_
 exact PE.grown (t1:=s.toks) r rfl (fun b o e=>get?_push_of_some _ e) (.list (Jm r hlt rfl) ((fo.append fo').mono (He _))) q
theorem UZ{K:Frag}(S:Al O K U){A:Around}{R as:List Addr}{env:Env}{s:Shared}(hR:CU A n)(r:Rel U R env st as s.heap)(hlt:∀b∈as,∃o,s.heap.get? b=some o){op:Operator}{u v:Value}{x y:Dat}(hu:Now (vis R as s.heap) s.heap u x)(hv:Now (vis R as s.heap) s.heap v y)
 (hs:Cv op x y) {Q:EV→St→Prop} (q:Q (.dat (II op x y)) st):wpAny (model O w) A (binaryOp op u v) (PE U R env as s Q) (fun _ _=>False) s:=by
 have I:∀{i:Int}{t:Tok}{tk:Nat},II op x y=.int i→PE U R env as s Q (.int i t) {s with toks:=tk}:=fun{i t tk} e=>
  PE.grown (t1:=tk) r rfl (fun _ _ e=>e) (.int i t) (e▸q)
 cases op<;>first|exact hs.elim|skip
 ·rcases LC hs with⟨_,_,rfl,rfl⟩|⟨xs,ys,rfl,rfl,hs⟩|⟨xs,ys,rfl,rfl,hs⟩
  ·refine Now.intP hu fun t=>?_;refine Now.intP hv fun t'=>?_;exact wpAny_add_int (I rfl)
  ·exact Nz S hR r hlt hu hv hs q
  ·exact OH S hR r hlt hu hv hs q
 ·obtain⟨_,_,rfl,rfl,hs⟩:=ED hs;refine Now.intP hu fun t=>?_;refine Now.intP hv fun t'=>?_;exact sub_int' (I rfl)
 ·obtain⟨_,_,rfl,rfl,hs⟩:=ED hs;refine Now.intP hu fun t=>?_;refine Now.intP hv fun t'=>?_;exact mul_int (I rfl) hs
 ·obtain⟨_,_,rfl,rfl,hs⟩:=ED hs;refine Now.intP hu fun t=>?_;refine Now.intP hv fun t'=>?_;exact mod_int' hs (I rfl)
 ·obtain⟨_,_,rfl,rfl,hs⟩:=ED hs;refine Now.intP hu fun t=>?_;refine Now.intP hv fun t'=>?_;exact pow_int_small hs.1 hs.2.1 hs.2.2 (I rfl)
 ·obtain⟨_,_,rfl,rfl,hs⟩:=ED hs;refine Now.intP hu fun t=>?_;refine Now.intP hv fun t'=>?_;exact floordiv_int hs (I rfl) (.inr (Ua S hR fun b o e=>(r.base b o e).2.2))
end
noncomputable def Gh{α:Type}(lo hi:Option Int)(l:List α):List α:=(l.drop (kms_lo lo l.length)).take (kms_hi hi l.length-kms_lo lo l.length)
theorem NA{α:Type}{lo hi:Option Int}{l:List α}(h0:kms_lo lo l.length=0)(h1:kms_hi hi l.length-kms_lo lo l.length=l.length):Gh lo hi l=l:=by
 unfold Gh
 refine rr h1 (rr h0 ?_)
 simp
section
variable{O:Program}{w:World}{A:Around}{E:Value→Shared→Prop}{s:Shared}
theorem Gi{v:Value}{k:Option Int}{Q:Option Int→Shared→Prop}(hv:IsPart v k)(h:Q k s):wpAny (model O w) A (Builtin.Slice.slicePartIndex v) Q E s:=by
 cases hv with
 |none=>exact wpAny_pure h
 |int i t=>
  unfold Builtin.Slice.slicePartIndex
  refine rr (if_neg (show¬((Value.int i t==Value.none)=true)from Bool.false_ne_true)) ?_
  refine wpAny_bind (wpAny_specialOf (T:="int") (typeIs_int s i t) int_index ?_)
  refine rr (if_neg (by simp)) ?_
  exact wpAny_bind (wpAny_of_eq (a:=i) rfl (wpAny_pure h))
theorem OI{v n:Int}(hn:0≤n):(if v<0 then max (v+n) 0 else min v n)=max 0 (min (if v<0 then v+n else v) n):=by
 by_cases h:v<0
 ·refine rr (if_pos h) (rr (if_pos h) ?_);refine rr (Int.min_eq_left (show v+n≤n from Int.le_trans (Int.add_le_add_right (le_of_lt h) n) (Int.le_of_eq (Int.zero_add n)))) (rr (Int.max_comm ..) ?_);rfl
 ·refine rr (if_neg h) (rr (if_neg h) ?_)
  exact(Int.max_eq_right (Int.le_min.mpr ⟨not_lt.mp h,hn⟩)).symm
theorem XP(lo hi:Option Int)(n:Nat):Builtin.Slice.sliceAdjust lo hi 1 n=((kms_lo lo n:Int),(kms_hi hi n:Int)):=by
 have k:=kms_bounds lo hi n
 have k1:(sliceBounds lo hi none n).1=(kms_lo lo n:Int):=by refine rr k ?_;rfl
 have k2:(sliceBounds lo hi none n).2.1=(kms_hi hi n:Int):=by refine rr k ?_;rfl
 refine rl k1 (rl k2 ?_)
 refine Prod.ext ?_ ?_
 ·rcases lo with _|⟨x⟩
  ·rfl
  ·exact OI (natCast_nonneg n)
 ·rcases hi with _|⟨x⟩
  ·rfl
  ·exact OI (natCast_nonneg n)
theorem OJ(a b:Nat):Builtin.Slice.slicePlaces a b 1=b-a:=by
 unfold Builtin.Slice.slicePlaces
 refine rr (if_pos (show(1:Int)>0 by decide)) ?_
 by_cases h:a<b
 ·refine rr (if_pos (ofNat_lt.mpr h)) ?_;refine rr (Int.ediv_one ..) (rr (Int.sub_add_cancel ..) ?_);refine rl (Int.ofNat_sub (Nat.le_of_lt h)) (rr (toNat_natCast ..) ?_);rfl
 ·refine rr (if_neg (fun q=>h (ofNat_lt.mp q))) (rr (Nat.sub_eq_zero_of_le (le_of_not_lt h)) ?_);rfl
theorem OK{α:Type}(xs:Array α)(a k:Nat):(List.range k).filterMap (fun(j:Nat)=>xs[((a:Int)+(j:Int)*1).toNat]?)=(xs.toList.drop a).take k:=by
 refine rl (pick_run xs a k) (rr List.filterMap_map ?_)
 refine congrArg (fun f=>List.filterMap f (List.range k)) (funext fun j=>?_)
 show xs[((a:Int)+(j:Int)*1).toNat]?=xs[a+j]?
 refine rr (Int.mul_one ..) ?_;refine rl (Int.natCast_add ..) (rr (toNat_natCast ..) ?_);rfl
set_option tactic.hygienic true in
theorem Ff{t sl:Addr}{vs:List Value}{n:Nat}{vl vu:Value}{lo hi:Option Int}{Q:Value→Shared→Prop}(ht:s.heap.get? t=some (seqObj "tuple" vs.toArray n))
 (hs:s.heap.get? sl=some {cls:=.type "slice",data:=.fields #[vl,vu,.none]}) (pl:IsPart vl lo) (pu:IsPart vu hi) (hz:vs.length≤sizeLine)
 (h0:Gh lo hi vs=vs→Q (.ref t) s) (h1:Q (.ref s.heap.objs.size) {s with heap:=s.heap.push (seqObj "tuple" (Gh lo hi vs).toArray 0)}):wpAny (model O w) A (getItem (.ref t) (.ref sl)) Q E s:=by
 have hT:s.TypeIs (.ref t) "tuple":=⟨_,ht,rfl⟩
 have hTs:s.TypeIs (.ref sl) "slice":=⟨_,hs,rfl⟩
 unfold getItem
 try with_reducible refine wpAny_holding ?_
 first|refine wpAny_bind (wpAny_pure ?_)|skip
 refine wpAny_bind (wpAny_sequenceKey hT (by decide) ?_)
 refine wpAny_bind (wpAny_callSpecial?_slot (name:=Str.ofString "__getitem__") hT PyProof.Rows.slot_tuple_getitem
  (wpAny_call_entry PyProof.Rows.slot_tuple_getitem hT PyProof.Rows.entry_tuple_getitem ?_ (PyProof.Rows.args_tuple_getitem _ _)))
 show wpAny _ _ (Builtin.Tuple.tupleItemsOf (.ref t)>>=_) _ _ s
 refine wpAny_bind (tupleItemsOf_ ⟨_,ht,rfl,_,rfl⟩ ?_)
 refine wpAny_bind (wpAny_typeOf hTs ?_)
 refine rr (if_pos (by decide)) ?_
 unfold Builtin.Slice.sliceApplied Builtin.Slice.sliceFields
 refine wpAny_bind (wpAny_bind (wpAny_bind (wpAny_field hs rfl (x:=vl) rfl (wpAny_bind (wpAny_field hs rfl (x:=vu) rfl (wpAny_bind (wpAny_field hs rfl (x:=.none) rfl (wpAny_pure ?_))))))))
 refine wpAny_bind (Gi .none ?_)
 show wpAny _ _ (if((1:Int)==0)=true then _ else _) _ _ s
 refine rr (if_neg (by decide)) ?_
 refine wpAny_bind (Gi pl (wpAny_bind (Gi pu (wpAny_bind (wpAny_pure ?_)))))
 have ea:Builtin.Slice.sliceAdjust lo hi ((none:Option Int).getD 1) (vs.toArray.size:Int)=((kms_lo lo vs.length:Int),(kms_hi hi vs.length:Int)):=by
  refine rr size_toArray ?_;exact XP lo hi vs.length
 refine rr ea ?_
 have ep:Builtin.Slice.slicePlaces (kms_lo lo vs.length:Int) (kms_hi hi vs.length:Int) ((none:Option Int).getD 1)=kms_hi hi vs.length-kms_lo lo vs.length:=OJ _ _
 refine wpAny_pure ?_
 dsimp only
 refine rr ep ?_
 have pk:((List.range (kms_hi hi vs.length-kms_lo lo vs.length)).filterMap fun(j:Nat)=>vs.toArray[((kms_lo lo vs.length:Int)+(j:Int)*((none:Option Int).getD 1)).toNat]?)=Gh lo hi vs:=OK vs.toArray _ _
 refine rr pk ?_
 split
 ·rename_i hc
  simp only[and_eq_true,beq_iff_eq,size_toArray]at hc
  refine wpAny_bind (wpAny_bind (wpAny_typeOf hT (wpAny_pure ?_)))
  refine rr (if_pos (by decide)) ?_
  exact wpAny_bind (wpAny_rule (wpAny_pure ⟨_,rfl,wpAny_pure (h0 (NA (Int.ofNat.inj hc.1.1) (by exact(Nat.le_antisymm (Ac (le_of_eq hc.2)) (Ac (le_of_eq hc.2.symm))))))⟩))
 ·refine wpAny_bind (wpAny_newObj_type (wpAny_pure ⟨_,rfl,wpAny_pure h1⟩) ?_)
  show(Gh lo hi vs).toArray.size≤sizeLine
  refine rr size_toArray ?_
  refine le_trans ?_ hz
  unfold Gh
  refine rr length_take (rr length_drop ?_)
  exact(BM (min_le_right (kms_hi hi vs.length-kms_lo lo vs.length) (vs.length-kms_lo lo vs.length)) (sub_le (vs.length) (kms_lo lo vs.length)))
set_option tactic.hygienic true in
theorem Hw(slice:Expr)(o i:Value):∃ops,subscripted slice false o i=operate ops (getItem o i):=by
 cases slice<;>first|exact⟨_,rfl⟩|skip
 rename_i s _
 cases s<;>exact⟨_,rfl⟩
theorem Hx{value slice:Expr}{o i:Value}{T id:String}{Q:Value→Shared→Prop}(hT:s.TypeIs o T)(hl:typeLookup (.type T) "__getitem__"=pure (some (.builtin id)))
 (h:wpAny (model O w) A (getItem o i) Q E s):wpAny (model O w) A (subscriptTail value slice o i) Q E s:=by
 unfold subscriptTail
 refine wpAny_bind ?_
 refine rr (getitemInPython_of_ne hT.not_modules) ?_
 refine wpAny_bind (wpAny_specialOf hT hl ?_)
 obtain⟨ops,e⟩:=Hw slice o i
 have fin:wpAny (model O w) A (subscripted slice false o i) (fun r s₃=>wpAny (model O w) A (letTemporaryGo value o r>>=fun _=>pure r) Q E s₃) E s:=by
  refine rr e ?_
  exact wpAny_operating (wpAny_mono h (fun r s₃ h₃=>wpAny_bind (wpAny_letTemporaryGo (wpAny_pure h₃))) fun _ _ x=>x)
 first
  |exact wpAny_pure (wpAny_bind fin)
  |exact wpAny_bind (wpAny_pure (wpAny_bind fin))
  |exact wpAny_bind fin
end
section
variable{O:Program}{w:World}{U:Heap}{K:Frag}{sc:Scope}{n:Nat}{st:St}
theorem Mr{l e2:Expr}{A:Around}{env:Env}{R as:List Addr}{s:Shared}{st:St}{P:EV→EV→St→Prop}{g:Value→Value→Sem α}{Q':α→Shared→Prop}
 (hR:CU A n) (hE:Be sc env) (r:Rel U R env st as s.heap) (h:Ev O w U sc n l st fun a st1=>Ev O w U sc n e2 st1 fun b st2=>P a b st2)
 (k:∀u v a b st2 as2 h2 t2,Ah as s.heap as2 h2→(∀x∈as2,∃o,h2.get? x=some o)→Rel U R env st2 as2 h2→Oy R as2 h2 env u a→Oy R as2 h2 env v b→P a b st2→wpAny (model O w) A (g u v) Q' (fun _ _=>False) {s with heap:=h2,toks:=t2}):
 wpAny (model O w) A (eval l env) (fun u s1=>wpAny (model O w) A (eval e2 env) (fun v s2=>wpAny (model O w) A (g u v) Q' (fun _ _=>False) s2) (fun _ _=>False) s1) (fun _ _=>False) s:=by
 refine h.go hR hE r fun u a st1 as1 h1 t1 e1 r1 x1 q1=>?_
 refine q1.go hR hE r1 fun v b st2 as2 h2 t2 e2 r2 x2 q2=>?_
 refine r2.trimP fun as3 sub hlt r3=>?_
 have e3:Ah as2 h2 as3 h2:=Ah.less sub
 exact k u v a b st2 as3 h2 t2 ((e1.trans e2).trans e3) hlt r3 ((x1.step e2 r1.locA r1.celA).step e3 r2.locA r2.celA) (x2.step e3 r2.locA r2.celA) q2
inductive bY(op:Operator)(st:St)(a b:EV)(Q:EV→St→Prop):Prop
 |mk (x y:Dat) (ex:rd st a=some x) (ey:rd st b=some y) (s:Cv op x y) (q:Q (.dat (II op x y)) st)
theorem XQ(S:Al O K U){l e2:Expr}{op:Operator}{pos:Pos}{Q:EV→St→Prop}(h:Ev O w U sc n l st fun a st1=>Ev O w U sc n e2 st1 fun b st2=>bY op st2 a b Q):
 Ev O w U sc n (.BinOp l op e2 pos) st Q:=by
 intro A env R as s hR hE r
 refine wpAny_BinOp (Mr hR hE r h ?_)
 rintro u v a b st2 as2 h2 t2 e hlt r2 x1 x2 ⟨x,y,ex,ey,side,q⟩
 exact wpAny_mono (UZ S hR r2 hlt (r2.now x1 ex) (r2.now x2 ey) side q) (fun _ _ p=>PE.after e p) fun _ _ x=>x
noncomputable def GI:Dat→PyData
 | .none=>.none
 | .bool b=>.bool b
 | .int i=>.int i
 | .str x=>.str x
 | .tuple ds=>.tuple (pyAll ds)
 | .list ds=>.list (pyAll ds)
 | .inst _ _=>.none
where pyAll:List Dat→List PyData
 |[]=>[]
 |d::ds=>GI d::pyAll ds
mutual
noncomputable def Fy:Dat→Bool
 | .tuple ds=>Fh ds
 | .list ds=>Fh ds
 | .inst _ _=>false
 |_=>true
noncomputable def Fh:List Dat→Bool
 |[]=>true
 |d::ds=>Fy d&&Fh ds
end
theorem Fz.reads{g:BT}{h:Heap}(k:∀b o,g b o→h.get? b=some o){v:Value}{d:Dat}(x:Fz g v d):Fy d=true→∃as,Reads h v (GI d) as:=
 Fz.rec (motive_1:=fun v d _=>Fy d=true→∃as,Reads h v (GI d) as) (motive_2:=fun vs ds _=>Fh ds=true→∃as,ReadsAll h vs (GI.pyAll ds) as) (motive_3:=fun _ _ _=>True)
  (fun _=>⟨_,.none⟩) (fun b _=>⟨_,.bool b⟩) (fun i t _=>⟨_,.int i t⟩) (fun x t _=>⟨_,.str x t⟩)
  (fun h _ ih e=>(ih e).elim fun _ ra=>⟨_,.tuple (k _ _ h) rfl rfl ra⟩) (fun h _ ih e=>(ih e).elim fun _ ra=>⟨_,.list (k _ _ h) rfl rfl ra⟩) (fun _ _ _ _ _ _ e=>nomatch e)
  (fun _=>⟨_,.nil⟩) (fun _ _ i1 i2 e=>(i1 (and_eq_true_iff.mp e).1).elim fun _ r1=>(i2 (and_eq_true_iff.mp e).2).elim fun _ r2=>⟨_,.cons r1 r2⟩) trivial (fun _ _ _ _ _=>trivial) x
theorem FzL.reads{g:BT}{h:Heap}(k:∀b o,g b o→h.get? b=some o){vs:List Value}{ds:List Dat}(x:FzL g vs ds):Fh ds=true→∃as,ReadsAll h vs (GI.pyAll ds) as:=
 FzL.rec (motive_1:=fun v d _=>Fy d=true→∃as,Reads h v (GI d) as) (motive_2:=fun vs ds _=>Fh ds=true→∃as,ReadsAll h vs (GI.pyAll ds) as) (motive_3:=fun _ _ _=>True)
  (fun _=>⟨_,.none⟩) (fun b _=>⟨_,.bool b⟩) (fun i t _=>⟨_,.int i t⟩) (fun x t _=>⟨_,.str x t⟩)
  (fun h _ ih e=>(ih e).elim fun _ ra=>⟨_,.tuple (k _ _ h) rfl rfl ra⟩) (fun h _ ih e=>(ih e).elim fun _ ra=>⟨_,.list (k _ _ h) rfl rfl ra⟩) (fun _ _ _ _ _ _ e=>nomatch e)
  (fun _=>⟨_,.nil⟩) (fun _ _ i1 i2 e=>(i1 (and_eq_true_iff.mp e).1).elim fun _ r1=>(i2 (and_eq_true_iff.mp e).2).elim fun _ r2=>⟨_,.cons r1 r2⟩) trivial (fun _ _ _ _ _=>trivial) x
theorem Now.reads{g:BT}{h:Heap}{v:Value}{d:Dat}(k:∀b o,g b o→h.get? b=some o)(x:Now g h v d)(e:Fy d=true):∃as,Reads h v (GI d) as:=by
 cases x with
 |fz f=>exact f.reads k e
 |lst ho f=>obtain⟨as,ra⟩:=f.reads k e;exact⟨_,.list ho rfl rfl ra⟩
def Bo(d:Dat):Prop:=Fy d=true∧PySem.SeqAt.shaped (GI d)=true
noncomputable def deq(x y:Dat):Bool:=PyData.eqv (GI x) (GI y)
noncomputable def OL:Dat→Bool
 | .none=>true
 |_=>false
noncomputable def Fi:Dat→Bool
 | .none | .bool _ | .int _=>true
 | .str x=>PyData.strOk x
 |_=>false
noncomputable def Kq:Value→PyData
 | .bool b=>.bool b
 | .int i _=>.int i
 | .str x _=>.str x
 |_=>.none
def Ds:CmpOp→Dat→Dat→Prop
 | .Lt,x,y=>OF (fun _ _=>True) x y
 | .LtE,x,y=>OF (fun _ _=>True) x y
 | .Gt,x,y=>OF (fun _ _=>True) x y
 | .GtE,x,y=>OF (fun _ _=>True) x y
 | .Eq,x,y=>Bo x∧Bo y
 | .NotEq,x,y=>Bo x∧Bo y
 | .Is,_,.none=>True
 | .IsNot,_,.none=>True
 | .In,x,.tuple ys=>Fi x=true∧ys.all Fi=true
 | .In,x,.list ys=>Fi x=true∧ys.all Fi=true
 | .NotIn,x,.tuple ys=>Fi x=true∧ys.all Fi=true
 | .NotIn,x,.list ys=>Fi x=true∧ys.all Fi=true
 |_,_,_=>False
noncomputable def Cd:CmpOp→Dat→Dat→Bool
 | .Lt,.int x,.int y=>decide (x<y)
 | .LtE,.int x,.int y=>decide (x≤y)
 | .Gt,.int x,.int y=>decide (y<x)
 | .GtE,.int x,.int y=>decide (y≤x)
 | .Eq,x,y=>deq x y
 | .NotEq,x,y=>!deq x y
 | .Is,x,.none=>OL x
 | .IsNot,x,.none=>!OL x
 | .In,x,.tuple ys=>ys.any fun y=>deq y x
 | .In,x,.list ys=>ys.any fun y=>deq y x
 | .NotIn,x,.tuple ys=>!(ys.any fun y=>deq y x)
 | .NotIn,x,.list ys=>!(ys.any fun y=>deq y x)
 |_,_,_=>false
theorem Fz.atomVal{g:BT}{v:Value}{d:Dat}(f:Fz g v d)(a:Fi d=true):Kq v=GI d:=by cases f<;>first|rfl|cases a
theorem Va{A:Around}{s:Shared}{g:BT}{v u:Value}{d e:Dat}(k:∀b o,g b o→s.heap.get? b=some o)(f:Fz g v d)(a:Fi d=true)(f':Fz g u e)(a':Fi e=true)(hu:A.units<cLine):PySem.SeqAt.EqAt A s v u (PyData.eqv (Kq v) (GI e)):=by
 refine rr (f.atomVal a) ?_
 have n1:Fy d=true:=by cases d<;>first|rfl|exact Bool.noConfusion a
 have n2:Fy e=true:=by cases e<;>first|rfl|exact Bool.noConfusion a'
 obtain⟨as,r1⟩:=f.reads k n1
 obtain⟨bs,r2⟩:=f'.reads k n2
 refine PySem.SeqAt.eqAt_reads _ _ A s _ _ _ _ r1 r2 ?_ ?_ ?_
 ·cases d<;>first|rfl|exact a|exact Bool.noConfusion a
 ·cases e<;>first|rfl|exact a'|exact Bool.noConfusion a'
 ·have:(GI d).depth=0:=by cases d<;>first|rfl|cases a
  refine rr this ?_;simp only[Nat.zero_min,Nat.add_zero];exact hu
theorem Jn{g:BT}{vs:List Value}{ys:List Dat}{x:Dat}(f:FzL g vs ys)(a:ys.all Fi=true):(vs.any fun v=>PyData.eqv (Kq v) (GI x))=ys.any fun y=>deq y x:=by
 induction vs generalizing ys with
 |nil=>cases f;rfl
 |cons v vs ih=>
  cases f with
  |cons f r=>
   rw[List.all_cons,and_eq_true]at a
   refine rr List.any_cons (rr List.any_cons ?_);refine rr (ih r a.2) (rr (f.atomVal a.1) ?_);rfl
theorem OM{g:BT}{vs:List Value}{ys:List Dat}(f:FzL g vs ys)(a:ys.all Fi=true):∀v∈vs,∃d,Fz g v d∧Fi d=true:=by
 induction vs generalizing ys with
 |nil=>intro v hv;cases hv
 |cons v vs ih=>
  cases f with
  |cons f r=>
   rw[List.all_cons,and_eq_true]at a
   intro u hu
   cases hu with
   |head=>exact⟨_,f,a.1⟩
   |tail _ hu=>exact ih r a.2 u hu
theorem XR{x y:Dat}(h:Ds .In x y):(Fi x=true∧∃ys,ys.all Fi=true∧y=.tuple ys)∨(Fi x=true∧∃ys,ys.all Fi=true∧y=.list ys):=by
 cases y<;>first|exact .inl ⟨h.1,_,h.2,rfl⟩|exact .inr ⟨h.1,_,h.2,rfl⟩|exact h.elim
theorem ON{x y:Dat}(h:Ds .NotIn x y):(Fi x=true∧∃ys,ys.all Fi=true∧y=.tuple ys)∨(Fi x=true∧∃ys,ys.all Fi=true∧y=.list ys):=by
 cases y<;>first|exact .inl ⟨h.1,_,h.2,rfl⟩|exact .inr ⟨h.1,_,h.2,rfl⟩|exact h.elim
theorem XS{x y:Dat}(h:Ds .Is x y):y=.none:=by
 cases y<;>first|rfl|exact h.elim
theorem OO{x y:Dat}(h:Ds .IsNot x y):y=.none:=by
 cases y<;>first|rfl|exact h.elim
theorem Mt{g:BT}{h:Heap}{u:Value}{x:Dat}(hu:Now g h u x):(u==Value.none)=OL x:=by
 cases hu with
 |fz f=>cases f<;>rfl
 |lst _ _=>rfl
theorem Now.atomFz{g:BT}{h:Heap}{u:Value}{x:Dat}(hx:Now g h u x)(ax:Fi x=true):Fz g u x:=by
 cases hx with
 |fz f=>exact f
 |lst _ _=>cases ax
theorem Jo{A:Around}{s:Shared}{g:BT}{h:Heap}{op:CmpOp}{u v:Value}{x y:Dat}{Q E:Value→Shared→Prop}(hu:Now g h u x)(hv:Now g h v y)(hs:OF (fun _ _=>True) x y)(q:Q (.bool (Cd op x y)) s)
 (k:∀i j t t',Q (.bool (Cd op (.int i) (.int j))) s→wpAny (model O w) A (compareOp op (.int i t) (.int j t')) Q E s):wpAny (model O w) A (compareOp op u v) Q E s:=by
 obtain⟨i,j,rfl,rfl,_⟩:=ED hs
 refine Now.intP hu fun t=>?_
 refine Now.intP hv fun t'=>?_
 exact k i j t t' q
theorem OP{A:Around}{R as:List Addr}{s:Shared}(hR:CU A n){op:CmpOp}{u v:Value}{x y:Dat}(hu:Now (vis R as s.heap) s.heap u x)(hv:Now (vis R as s.heap) s.heap v y)
 (hs:Ds op x y) {Q:Value→Shared→Prop} (q:Q (.bool (Cd op x y)) s):wpAny (model O w) A (compareOp op u v) Q (fun _ _=>False) s:=by
 have hun:=hR.units
 have hun2:A.units+1<cLine:=by exact Ac hun
 have hin:∀{vs:List Value}{ys:List Dat},FzL (vis R as s.heap) vs ys→Fi x=true→ys.all Fi=true→∀z,z∈vs.toArray→PySem.SeqAt.EqAt A.in1 s z u (PyData.eqv (Kq z) (GI x)):=fun f ax ay z hz=>
  let⟨_,fd,ad⟩:=OM f ay z (List.mem_toArray.mp hz)
  Va BI fd ad (hu.atomFz ax) ax hun2
 cases op with
 |Lt=>exact Jo hu hv hs q fun _ _ _ _ q=>wpAny_lt_int q
 |LtE=>exact Jo hu hv hs q fun _ _ _ _ q=>PyProof.Rows.le_int q
 |Gt=>exact Jo hu hv hs q fun _ _ _ _ q=>PySem.P.gt_int q
 |GtE=>exact Jo hu hv hs q fun _ _ _ _ q=>PyProof.Rows.ge_int q
 |Eq=>
  obtain⟨a1,r1⟩:=hu.reads BI hs.1.1
  obtain⟨a2,r2⟩:=hv.reads BI hs.2.1
  exact PySem.SeqAt.compareEq_shaped r1 r2 hs.1.2 hs.2.2 (by exact Ac hun) q
 |NotEq=>
  obtain⟨a1,r1⟩:=hu.reads BI hs.1.1
  obtain⟨a2,r2⟩:=hv.reads BI hs.2.1
  exact PySem.SeqAt.compareNe_shaped r1 r2 hs.1.2 hs.2.2 (by exact Ac hun) q
 |Is=>
  obtain rfl:=XS hs
  obtain rfl:=hv.none
  exact is_none ((Mt hu).symm▸q)
 |IsNot=>
  obtain rfl:=OO hs
  obtain rfl:=hv.none
  exact isNot_none ((Mt hu).symm▸q)
 |In=>
  rcases XR hs with⟨ax,ys,ay,rfl⟩|⟨ax,ys,ay,rfl⟩
  ·refine Now.tupleP hv fun a vs k ho f=>?_
   refine PySem.SeqAt.in_tupleAt (fun z=>PyData.eqv (Kq z) (GI x)) ⟨_,ho.2.2,rfl,_,rfl⟩ (hin f ax ay) ?_
   refine rr any_toArray (rr (Jn f ay) ?_);exact q
  ·refine Now.listP hv BI fun a vs k ho f=>?_
   refine PySem.SeqAt.in_listAt (fun z=>PyData.eqv (Kq z) (GI x)) ⟨_,ho,rfl,_,rfl⟩ (hin f ax ay) ?_
   refine rr any_toArray (rr (Jn f ay) ?_);exact q
 |NotIn=>
  rcases ON hs with⟨ax,ys,ay,rfl⟩|⟨ax,ys,ay,rfl⟩
  ·refine Now.tupleP hv fun a vs k ho f=>?_
   refine PySem.SeqAt.notIn_tupleAt (fun z=>PyData.eqv (Kq z) (GI x)) ⟨_,ho.2.2,rfl,_,rfl⟩ (hin f ax ay) ?_
   refine rr any_toArray (rr (Jn f ay) ?_);exact q
  ·refine Now.listP hv BI fun a vs k ho f=>?_
   refine PySem.SeqAt.notIn_listAt (fun z=>PyData.eqv (Kq z) (GI x)) ⟨_,ho,rfl,_,rfl⟩ (hin f ax ay) ?_
   refine rr any_toArray (rr (Jn f ay) ?_);exact q
end
section
variable{O:Program}{w:World}{U:Heap}{K:Frag}{sc:Scope}{n:Nat}{st:St}
inductive ZR(op:CmpOp)(st:St)(a b:EV)(Q:Bool→St→Prop):Prop
 |mk (x y:Dat) (ex:rd st a=some x) (ey:rd st b=some y) (s:Ds op x y) (q:Q (Cd op x y) st)
theorem Ub{l e2:Expr}{op:CmpOp}{pos:Pos}{Q:EV→St→Prop}(h:Ev O w U sc n l st fun a st1=>Ev O w U sc n e2 st1 fun b st2=>ZR op st2 a b fun c st3=>Q (.dat (.bool c)) st3)
 (hm:autoParam (behindInMarks op e2=false) au.a6._auto_1):Ev O w U sc n (.Compare l [op] [e2] pos) st Q:=by
 intro A env R as s hR hE r
 refine wpAny_Compare1 (Mr hR hE r h ?_) hm
 rintro u v a b st2 as2 h2 t2 e hlt r2 x1 x2 ⟨x,y,ex,ey,side,q⟩
 exact OP hR (r2.now x1 ex) (r2.now x2 ey) side (PE.after (t1:=t2) e (PE.grown (t1:=t2) r2 rfl (fun _ _ e=>e) (.bool _) q))
theorem PT.here{R as:List Addr}{env:Env}{s:Shared}{Q:Bool→St→Prop}{b:Bool}(r:Rel U R env st as s.heap)(q:Q b st):PT U R env as s Q b s:=⟨st,as,s.heap,s.toks,rfl,Ah.refl _ _,r,q⟩
theorem XT{l e2:Expr}{op:CmpOp}{pos:Pos}{Q:Bool→St→Prop}(h:Ev O w U sc n l st fun a st1=>Ev O w U sc n e2 st1 fun b st2=>ZR op st2 a b Q)
 (hm:autoParam (behindInMarks op e2=false) au.a6._auto_1):Et O w U sc n (.Compare l [op] [e2] pos) st Q:=by
 intro A env R as s hR hE r
 refine wpAny_isTrue_Compare1 ?_ hm
 refine Mr (g:=fun a b=>compareOp op a b) hR hE r h ?_
 rintro u v a b st2 as2 h2 t2 e hlt r2 x1 x2 ⟨x,y,ex,ey,side,q⟩
 exact OP hR (r2.now x1 ex) (r2.now x2 ey) side (wpAny_truthy_bool (PT.after (t1:=t2) e (PT.here r2 q)))
inductive TrP(st:St)(a:EV)(Q:Bool→St→Prop):Prop
 |mk (b:Bool) (e:rd st a=some (.bool b)) (q:Q b st)
theorem OQ{e:Expr}{Q:Bool→St→Prop}(h:Ev O w U sc n e st fun a st1=>TrP st1 a Q)(he:autoParam (∀env whole,isTrue e env whole=(do let v←whole;standAt e.pos;holding [v] (truthy v))) au.a5._auto_1):Et O w U sc n e st Q:=by
 intro A env R as s hR hE r
 refine wpAny_isTrue_value (h.go hR hE r fun v a st1 as1 h1 t1 e1 r1 x1 qq=>?_) (he env _)
 obtain⟨b,eb,q⟩:=qq
 refine Now.boolP (r1.now x1 eb) ?_
 exact wpAny_truthy_bool (PT.after (t1:=t1) e1 (PT.here r1 q))
theorem XU{e:Expr}{pos:Pos}{Q:Bool→St→Prop}(h:Et O w U sc n e st fun b st1=>Q (!b) st1):Et O w U sc n (.UnaryOp .Not e pos) st Q:=by
 intro A env R as s hR hE r
 exact wpAny_isTrue_Not (wpAny_mono (h A env R as s hR hE r) (by rintro b s1 ⟨st',as',h',tk',hs,e,r,q⟩;exact⟨st',as',h',tk',hs,e,r,q⟩) fun _ _ x=>x)
def Ea(O:Program)(w:World)(U:Heap)(sc:Scope)(n:Nat)(op:BoolOp)(es:List Expr)(st:St)(Q:Bool→St→Prop):Prop:=
 ∀(A:Around) (env:Env) (R as:List Addr) (s:Shared),CU A n→Be sc env→Rel U R env st as s.heap→wpAny (model O w) A (allTrue op es env) (PT U R env as s Q) (fun _ _=>False) s
theorem OR{op:BoolOp}{es:List Expr}{pos:Pos}{Q:Bool→St→Prop}(h:Ea O w U sc n op es st Q):Et O w U sc n (.BoolOp op es pos) st Q:=
 fun A env R as s hR hE r=>wpAny_isTrue_BoolOp (h A env R as s hR hE r)
theorem NB{Q:Bool→St→Prop}(q:Q true st):Ea O w U sc n .And [] st Q:=fun _ _ _ _ _ _ _ r=>wpAny_allTrue_And_nil (PT.here r q)
theorem OS{Q:Bool→St→Prop}(q:Q false st):Ea O w U sc n .Or [] st Q:=fun _ _ _ _ _ _ _ r=>wpAny_allTrue_Or_nil (PT.here r q)
theorem XV{e:Expr}{es:List Expr}{Q:Bool→St→Prop}(h:Et O w U sc n e st fun b st1=>(b=true→Ea O w U sc n .And es st1 Q)∧(b=false→Q false st1)):Ea O w U sc n .And (e::es) st Q:=by
 intro A env R as s hR hE r
 refine wpAny_allTrue_And_cons (h.go hR hE r fun b st1 as1 h1 t1 e1 r1 qq=>?_)
 obtain⟨q1,q2⟩:=qq
 rcases b with _|_
 ·exact PT.after (t1:=t1) e1 (PT.here r1 (q2 rfl))
 ·exact wpAny_mono (q1 rfl A env R as1 _ hR hE r1) (fun _ _ p=>PT.after e1 p) fun _ _ x=>x
theorem ab{e:Expr}{es:List Expr}{Q:Bool→St→Prop}(h:Et O w U sc n e st fun b st1=>(b=false→Ea O w U sc n .Or es st1 Q)∧(b=true→Q true st1)):Ea O w U sc n .Or (e::es) st Q:=by
 intro A env R as s hR hE r
 refine wpAny_allTrue_Or_cons (h.go hR hE r fun b st1 as1 h1 t1 e1 r1 qq=>?_)
 obtain⟨q1,q2⟩:=qq
 rcases b with _|_
 ·exact wpAny_mono (q1 rfl A env R as1 _ hR hE r1) (fun _ _ p=>PT.after e1 p) fun _ _ x=>x
 ·exact PT.after (t1:=t1) e1 (PT.here r1 (q2 rfl))
theorem RC{t b o:Expr}{pos:Pos}{Q:EV→St→Prop}(h:Et O w U sc n t st fun c st1=>(c=true→Ev O w U sc n b st1 Q)∧(c=false→Ev O w U sc n o st1 Q)):Ev O w U sc n (.IfExp t b o pos) st Q:=by
 intro A env R as s hR hE r
 refine wpAny_IfExp (h.go hR hE r fun c st1 as1 h1 t1 e1 r1 qq=>?_)
 obtain⟨q1,q2⟩:=qq
 rcases c with _|_
 ·exact wpAny_mono (q2 rfl A env R as1 _ hR hE r1) (fun _ _ p=>PE.after e1 p) fun _ _ x=>x
 ·exact wpAny_mono (q1 rfl A env R as1 _ hR hE r1) (fun _ _ p=>PE.after e1 p) fun _ _ x=>x
theorem Vb{x y:Expr}{pos:Pos}{Q:EV→St→Prop}(h:Ev O w U sc n x st fun a st1=>TrP st1 a fun b st2=>(b=true→Ev O w U sc n y st2 Q)∧(b=false→Q (.dat (.bool false)) st2)):
 Ev O w U sc n (.BoolOp .And [x,y] pos) st Q:=by
 intro A env R as s hR hE r
 refine wpAny_And2 (h.go hR hE r fun v a st1 as1 h1 t1 e1 r1 x1 qq=>?_)
 obtain⟨b,eb,q1,q2⟩:=qq
 refine Now.boolP (r1.now x1 eb) ?_
 refine wpAny_truthy_bool ?_
 rcases b with _|_
 ·exact PE.after (t1:=t1) e1 (PE.grown (t1:=t1) r1 rfl (fun _ _ e=>e) (.bool _) (q2 rfl))
 ·exact wpAny_mono (q1 rfl A env R as1 _ hR hE r1) (fun _ _ p=>PE.after e1 p) fun _ _ x=>x
theorem XW{x:Expr}{pos:Pos}{Q:EV→St→Prop}(h:Ev O w U sc n x st fun a st1=>∃i,rd st1 a=some (.int i)∧Q (.dat (.int (-i))) st1):Ev O w U sc n (.UnaryOp .USub x pos) st Q:=by
 intro A env R as s hR hE r
 refine wpAny_UnaryOp (h.go hR hE r fun v a st1 as1 h1 t1 e1 r1 x1 qq=>?_)
 obtain⟨i,eb,q⟩:=qq
 refine Now.intP (r1.now x1 eb) fun t=>?_
 exact PyProof.Rows.neg_int (PE.after (t1:=t1) e1 (PE.grown (t1:=t1+1) r1 rfl (fun _ _ e=>e) (.int _ _) q))
noncomputable def Fk:Dat→Option (List Dat)
 | .list ds=>some ds
 | .tuple ds=>some ds
 |_=>none
noncomputable def AK(ds:List Dat)(k:Int):Option Dat:=(seqIndex? k ds.length).bind (ds[·]?)
set_option tactic.hygienic true in
theorem Jp{ds:List Dat}{k:Int}{d:Dat}(e:AK ds k=some d):∃j,seqIndex? k ds.length=some j∧ds[j]?=some d∧((0≤k∧j=k.toNat)∨(k<0∧ -(ds.length:Int)≤k∧j=(k+ds.length).toNat)):=by
 obtain⟨j,h1,h2⟩:=Option.bind_eq_some_iff.mp e
 refine⟨j,h1,h2,?_⟩
 unfold seqIndex? at h1
 by_cases hk:k<0
 ·simp only[hk,if_true]at h1
  split at h1
  ·rename_i hb
   simp only[and_eq_true,decide_eq_true_eq]at hb
   cases h1
   exact .inr ⟨hk,by exact Ab hb.1,rfl⟩
  ·cases h1
 ·simp only[hk,if_false]at h1
  split at h1
  ·cases h1;exact .inl ⟨by exact Ab (not_lt.mp hk),rfl⟩
  ·cases h1
inductive bZ(st:St)(a b:EV)(Q:EV→St→Prop):Prop
 |mk (x:Dat) (ds:List Dat) (k:Int) (d:Dat) (ex:rd st a=some x) (es:Fk x=some ds) (ek:rd st b=some (.int k)) (hl:ds.length<2^62) (ei:AK ds k=some d) (q:Q (.dat d) st)
theorem RD{A:Around}{R as:List Addr}{s:Shared}{value slice:Expr}{u v:Value}{x:Dat}{ds:List Dat}{k:Int}{d:Dat}(hu:Now (vis R as s.heap) s.heap u x)(hx:Fk x=some ds)(hv:Now (vis R as s.heap) s.heap v (.int k))(hz:ds.length<2^62)
 (e:AK ds k=some d) {Q:Value→Shared→Prop} (q:∀y,Fz (vis R as s.heap) y d→Q y s):wpAny (model O w) A (subscriptTail value slice u v) Q (fun _ _=>False) s:=by
 obtain⟨j,hj,hd,hk⟩:=Jp e
 refine Now.intP hv fun t=>?_
 have hjl:j<ds.length:=(List.getElem?_eq_some_iff.mp hd).1
 cases x<;>first|(cases hx;done)|skip
 ·cases hx
  refine Now.tupleP hu fun a vs m ho f=>?_
  obtain⟨y,hy,fy⟩:=f.get hd
  have hl:vs.length=ds.length:=f.length
  exact Hx (T:="tuple") ⟨_,ho.2.2,rfl⟩ PyProof.Rows.slot_tuple_getitem.lookup (PyProof.Rows.getItem_tuple (items:=vs.toArray) ⟨_,ho.2.2,rfl,_,rfl⟩ (by lia) (by lia) (j:=j) (by refine rr size_toArray (rr hl ?_);exact hj) (by simpa using hy) (q y fy))
 ·cases hx
  refine Now.listP hu BI fun a vs m ho f=>?_
  obtain⟨y,hy,fy⟩:=f.get hd
  have hl:vs.length=ds.length:=f.length
  refine Hx (T:="list") ⟨_,ho,rfl⟩ slot_list_getitem.lookup ?_
  rcases hk with⟨h0,rfl⟩|⟨h0,h1,rfl⟩
  ·exact wpAny_getItem_list (items:=vs.toArray) ⟨_,ho,rfl,_,rfl⟩ h0 (by lia) (by simpa using hy) (q y fy)
  ·exact wpAny_getItem_list_neg (items:=vs.toArray) ⟨_,ho,rfl,_,rfl⟩ h0 (by refine rr size_toArray (rr hl ?_);exact h1) (by lia) (by refine rr size_toArray (rr hl ?_);simpa using hy) (q y fy)
theorem Vc{l e2:Expr}{pos:Pos}{Q:EV→St→Prop}(h:Ev O w U sc n l st fun a st1=>Ev O w U sc n e2 st1 fun b st2=>bZ st2 a b Q):Ev O w U sc n (.Subscript l e2 pos) st Q:=by
 intro A env R as s hR hE r
 refine Subscript_ (Mr (g:=fun a b=>subscriptTail l e2 a b) hR hE r h ?_)
 rintro u v a b st2 as2 h2 t2 e hlt r2 x1 x2 ⟨x,ds,k,d,ex,hx,ek,hz,ed,q⟩
 exact RD (s:={s with heap:=h2,toks:=t2}) (r2.now x1 ex) hx (r2.now x2 ek) hz ed fun y fy=>PE.after (t1:=t2) e (PE.grown (t1:=t2) r2 rfl (fun _ _ e=>e) fy q)
theorem Ay{a b:Addr}(h:b∈[a]):b=a:=by simpa using h
theorem Gj{h:Heap}{b:Addr}{o:Obj}(e:h.get? b=none)(e':h.get? b=some o):False:=IF (e.symm.trans e')
theorem BR{h:Heap}{b:Addr}(e:h.get? b=none)(e':∃o,h.get? b=some o):False:=e'.elim fun _=>Gj e
theorem LD{p:Addr→Prop}{C D:Addr}(hC:p C)(hD:p D):∀b∈[C,D],p b:=fun _ hb=>(mem_cons.mp hb).elim (fun e=>e▸hC) fun hb=>Ay hb▸hD
inductive PF(U:Heap)(R:List Addr)(env:Env)(as:List Addr)(s:Shared)(Q:AG→St→Prop)(v:Value)(s':Shared):Prop
 |mk (av:AG) (st':St) (as':List Addr) (h':Heap) (tk':Nat) (cs:List Addr) (hs:s'={s with heap:=h',toks:=tk'}) (e:Ah as s.heap as' h') (r:Rel U (cs++R) env st' as' h') (x:Ct (vis (cs++R) as' h') h' v av cs) (f:∀b∈cs,s.heap.get? b=none) (q:Q av st')
def Ef(O:Program)(w:World)(U:Heap)(sc:Scope)(n:Nat)(e:Expr)(st:St)(Q:AG→St→Prop):Prop:=
 ∀(A:Around) (env:Env) (R as:List Addr) (s:Shared),CU A n→Be sc env→Rel U R env st as s.heap→wpAny (model O w) A (eval e env) (PF U R env as s Q) (fun _ _=>False) s
theorem Ef.go{e:Expr}{Q:AG→St→Prop}(h:Ef O w U sc n e st Q){A:Around}{env:Env}{R as:List Addr}{s:Shared}{P E:Value→Shared→Prop}(hR:CU A n)(hE:Be sc env)(r:Rel U R env st as s.heap)
 (k:∀v a st' as' h' tk' cs,Ah as s.heap as' h'→Rel U (cs++R) env st' as' h'→Ct (vis (cs++R) as' h') h' v a cs→(∀b∈cs,s.heap.get? b=none)→Q a st'→P v {s with heap:=h',toks:=tk'}):wpAny (model O w) A (eval e env) P E s:=
 wpAny_mono (h A env R as s hR hE r) (by rintro _ _ ⟨a,st',as',h',tk',cs,hs,e,r,x,f,q⟩;exact hs▸k _ a st' as' h' tk' cs e r x f q) fun _ _ x=>x.elim
theorem Jq{R R' as:List Addr}{h:Heap}(k:∀b∈R,b∈R'):∀b o,vis R' as h b o→vis R as h b o:=by rintro b _ ⟨p,q,e⟩;exact⟨fun z=>p (k b z),q,e⟩
theorem Rel.less{R R' as:List Addr}{env:Env}{h:Heap}(r:Rel U R' env st as h)(k:∀b∈R,b∈R')(hl:env.locals∈R)(hc:∀x c,env.cells.lookup x=some c→c∈R):Rel U R env st as h:=by
 obtain⟨⟨val,cs,hr,hd⟩,hn,hsep,_,_,hlo,hcl,hi,hb⟩:=r
 exact⟨⟨val,cs,fun x a hx=>(by obtain⟨p,q,z⟩:=hr x a hx;exact⟨p,q.mono (Jq k) fun _ _ _ e=>e,z⟩),hd⟩,hn,fun b hb=>hsep b (k b hb),hl,hc,hlo,hcl,fun b hb=>hi b (k b hb),fun b o e=>Jq k b o (hb b o e)⟩
theorem AO{e:Expr}{Q:EV→St→Prop}(h:Ef O w U sc n e st fun av st1=>Q (.dat (GH av)) st1):Ev O w U sc n e st Q:=by
 intro A env R as s hR hE r
 refine h.go hR hE r fun v av st1 as1 h1 t1 cs e1 r1 rep hcs q=>?_
 have sub:∀b∈R,b∈cs++R:=fun b hb=>mem_append_right _ hb
 refine⟨.dat (GH av),st1,as1,h1,t1,rfl,e1,r1.less sub r.locR r.celR,?_,q⟩
 refine rep.frz (Jq sub) fun b hb o e=>⟨fun z=>?_,r1.sep b (mem_append_left _ hb),e⟩
 obtain⟨o',e'⟩:=r.inb b z
 rw[hcs b hb]at e';cases e'
theorem Rel.laid{R as cs:List Addr}{env:Env}{h h':Heap}(r:Rel U R env st as h)(k:∀b o,h.get? b=some o→h'.get? b=some o)(hcs:∀b∈cs,h.get? b=none∧∃o,h'.get? b=some o)(hlt:∀b∈as,∃o,h.get? b=some o):
 Rel U (cs++R) env st as h'∧∀b o,vis R as h b o→vis (cs++R) as h' b o:=by
 have off:∀b o,h.get? b=some o→b∉cs:=fun b o e q=>by rw[(hcs b q).1]at e;cases e
 have kv:∀b o,vis R as h b o→vis (cs++R) as h' b o:=by rintro b o ⟨p,q,e⟩;exact⟨fun z=>(mem_append.mp z).elim (off b o e) p,q,k b o e⟩
 obtain⟨⟨val,cs',hr,hd⟩,hn,hsep,hl,hc,⟨m,hm⟩,hcl,hi,hb⟩:=r
 refine⟨⟨⟨val,cs',fun x a hx=>(by obtain⟨p,q,z⟩:=hr x a hx;exact⟨p.keep fun b o _ e=>k b o e,q.mono kv fun b _ o e=>k b o e,z⟩),hd⟩,hn,fun b hb z=>?_,mem_append_right _ hl,fun x c e=>mem_append_right _ (hc x c e),⟨m,hm.keeps k⟩,
  fun x c e=>(by obtain⟨v,o,ho,hd⟩:=hcl x c e;exact⟨v,o,k _ _ ho,hd⟩),fun b hb=>?_,fun b o e=>kv b o (hb b o e)⟩,kv⟩
 ·rcases mem_append.mp hb with hb|hb
  ·obtain⟨o,e⟩:=hlt b z;exact off b o e hb
  ·exact hsep b hb z
 ·rcases mem_append.mp hb with hb|hb
  ·exact(hcs b hb).2
  ·obtain⟨o,e⟩:=hi b hb;exact⟨o,k b o e⟩
theorem bB(h:Heap)(o1 o2:Obj)(hf:o2.isFreed=false):∃o,((h.push o1).push o2).get? (h.objs.size+1)=some o:=by
 have:=get?_push_size (h.push o1) hf
 rw[size_push]at this
 exact⟨_,this⟩
theorem AL(h:Heap){b:Addr}(k:h.objs.size≤b):h.get? b=none:=Heap.get?_none_of_le k
theorem Vd{es:List Expr}{pos:Pos}{Q:AG→St→Prop}(h:El O w U sc n es st fun ds st1=>ds.length≤sizeLine∧Q (.lst ds) st1):Ef O w U sc n (.List es pos) st Q:=by
 intro A env R as s hR hE r
 refine wpAny_List (h.go hR hE r fun vs ds st1 as0 h1 t1 e0 r0 f0 qq=>?_)
 obtain⟨hz,q⟩:=qq
 refine r0.trimP fun as1 sub hlt r1=>?_
 have e1:=e0.trans (Ah.less sub)
 have f1:FzL (vis R as1 h1) vs ds:=FzL.mono (Ah.less sub).vis f0
 refine⟨by refine rr f1.length ?_;exact hz,?_⟩
 obtain⟨r2,kv⟩:=r1.laid (cs:=[h1.objs.size]) (h':=h1.push (seqObj "list" vs.toArray 0)) (fun b o e=>get?_push_of_some _ e) (fun b hb=>Ay hb▸⟨AL _ (le_refl _),_,get?_push_size h1 rfl⟩) hlt
 exact⟨.lst ds,st1,as1,_,t1,[h1.objs.size],rfl,e1.trans (Ah.grow _ fun b o e=>get?_push_of_some _ e),r2,.lst (get?_push_size h1 rfl) (f1.mono kv),fun b hb=>Ay hb▸e1.live.none (AL _ (le_refl _)),q⟩
def Eo(O:Program)(w:World)(U:Heap)(sc:Scope)(n:Nat):Option Expr→St→(Option Int→St→Prop)→Prop
 |none,st,Q=>Q none st
 |some e,st,Q=>Ev O w U sc n e st fun a st1=>∃k,rd st1 a=some (.int k)∧Q (some k) st1
inductive PO(U:Heap)(R:List Addr)(env:Env)(as:List Addr)(s:Shared)(Q:Option Int→St→Prop)(v:Value)(s':Shared):Prop
 |mk (k:Option Int) (st':St) (as':List Addr) (h':Heap) (tk':Nat) (hs:s'={s with heap:=h',toks:=tk'}) (e:Ah as s.heap as' h') (r:Rel U R env st' as' h') (x:IsPart v k) (q:Q k st')
theorem Eo.run{o:Option Expr}{Q:Option Int→St→Prop}(h:Eo O w U sc n o st Q){A:Around}{env:Env}{R as:List Addr}{s:Shared}(hR:CU A n)(hE:Be sc env)(r:Rel U R env st as s.heap):
 wpAny (model O w) A (evalPart o env) (PO U R env as s Q) (fun _ _=>False) s:=by
 rcases o with _|⟨e⟩
 ·refine rr (evalPart_none ..) ?_;exact wpAny_pure ⟨none,st,as,s.heap,s.toks,rfl,Ah.refl _ _,r,.none,h⟩
 ·
  refine rr (evalPart_some ..) ?_
  refine h.go hR hE r fun v a st1 as1 h1 t1 e1 r1 x1 qq=>?_
  obtain⟨k,ek,q⟩:=qq
  refine Now.intP (r1.now x1 ek) fun t=>?_
  exact⟨some k,st1,as1,h1,t1,rfl,e1,r1,.int k t,q⟩
theorem Eo.go{o:Option Expr}{Q:Option Int→St→Prop}(h:Eo O w U sc n o st Q){A:Around}{env:Env}{R as:List Addr}{s:Shared}{P E:Value→Shared→Prop}(hR:CU A n)(hE:Be sc env)(r:Rel U R env st as s.heap)
 (k:∀v a st' as' h' tk',Ah as s.heap as' h'→Rel U R env st' as' h'→IsPart v a→Q a st'→P v {s with heap:=h',toks:=tk'}):wpAny (model O w) A (evalPart o env) P E s:=
 wpAny_mono (h.run hR hE r) (by rintro _ _ ⟨a,st',as',h',tk',hs,e,r,x,q⟩;exact hs▸k _ a st' as' h' tk' e r x q) fun _ _ x=>x.elim
theorem FzL.pick{g:BT}{vs:List Value}{ds:List Dat}(f:FzL g vs ds)(lo hi:Option Int):FzL g (Mine.Gh lo hi vs) (Mine.Gh lo hi ds):=by
 unfold Mine.Gh
 refine rr f.length ?_
 exact(f.drop _).take _
inductive SlP(st:St)(a:EV)(Q:Dat→St→Prop):Prop
 |mk (x:Dat) (e:rd st a=some x) (q:Q x st)
theorem Hf{l:Expr}{lo hi:Option Expr}{p pos:Pos}{Q:AG→St→Prop}
 (h:Ev O w U sc n l st fun a st1=>Eo O w U sc n lo st1 fun i st2=>Eo O w U sc n hi st2 fun j st3=>∃ds,rd st3 a=some (.list ds)∧ds.length≤sizeLine∧Q (.lst (Gh i j ds)) st3):Ef O w U sc n (.Subscript l (.Slice lo hi none p) pos) st Q:=by
 intro A env R as s hR hE r
 refine Subscript_ (h.go hR hE r fun u a st1 as1 h1 t1 e1 r1 x1 q1=>?_)
 refine wpAny_Slice (Eo.go q1 (s:={s with heap:=h1,toks:=t1}) hR hE r1 fun v1 i st2 as2 h2 t2 e2 r2 p2 q2=>?_)
 refine Eo.go q2 (s:={s with heap:=h2,toks:=t2}) hR hE r2 fun v2 j st3 as0 h3 t3 e3 r0 p3 qq=>?_
 obtain⟨ds,ed,hz,q3⟩:=qq
 refine rr (evalPart_none ..) ?_
 refine wpAny_pure ?_
 refine r0.trimP fun as3 sub hlt r3=>?_
 have e4:Ah as0 h3 as3 h3:=Ah.less sub
 have x3:=((x1.step e2 r1.locA r1.celA).step e3 r2.locA r2.celA).step e4 r0.locA r0.celA
 refine Now.listP (r3.now x3 ed) BI fun b vs m ho f=>?_
 have es:Ah as s.heap as3 h3:=((e1.trans e2).trans e3).trans e4
 refine Hx (T:="list") ⟨_,get?_push_of_some _ ho,rfl⟩ slot_list_getitem.lookup ?_
 refine wpAny_getItem_list_slice (items:=vs.toArray) (lo:=i) (hi:=j) (st:=none) ⟨_,get?_push_of_some _ ho,rfl,_,rfl⟩ (Heap.IsSliceOf.new ..) p2 p3 .none (by simp) ?_ (by refine rr size_toArray (rr f.length ?_);exact hz)
 have ep:slicePick vs.toArray i j none=(Gh i j vs).toArray:=by refine rr (kms_pick_eq ..) ?_;rfl
 refine rr ep (rr (size_push ..) ?_)
 obtain⟨r4,kv⟩:=r3.laid (cs:=[h3.objs.size+1]) (h':=(h3.push {cls:=.type "slice",data:=.fields #[v1,v2,.none]}).push (seqObj "list" (Gh i j vs).toArray 0)) (fun b o e=>get?_push_of_some _ (get?_push_of_some _ e)) (fun b hb=>Ay hb▸⟨AL _ (le_succ _),bB _ _ _ rfl⟩) hlt
 refine⟨.lst (Gh i j ds),st3,as3,_,t3,[h3.objs.size+1],rfl,es.trans (Ah.grow _ fun b o e=>get?_push_of_some _ (get?_push_of_some _ e)),r4,?_,fun b hb=>Ay hb▸es.live.none (AL _ (le_succ _)),q3⟩
 refine .lst (n:=0) ?_ ((f.pick i j).mono kv)
 have:=get?_push_size (h3.push {cls:=.type "slice",data:=.fields #[v1,v2,.none]}) (o:=seqObj "list" (Gh i j vs).toArray 0) rfl
 rwa [size_push]at this
theorem BV{l:Expr}{lo hi:Option Expr}{p pos:Pos}{Q:EV→St→Prop}
 (h:Ev O w U sc n l st fun a st1=>Eo O w U sc n lo st1 fun i st2=>Eo O w U sc n hi st2 fun j st3=>∃ds,rd st3 a=some (.tuple ds)∧ds.length≤sizeLine∧Q (.dat (.tuple (Gh i j ds))) st3):Ev O w U sc n (.Subscript l (.Slice lo hi none p) pos) st Q:=by
 intro A env R as s hR hE r
 refine Subscript_ (h.go hR hE r fun u a st1 as1 h1 t1 e1 r1 x1 q1=>?_)
 refine wpAny_Slice (Eo.go q1 (s:={s with heap:=h1,toks:=t1}) hR hE r1 fun v1 i st2 as2 h2 t2 e2 r2 p2 q2=>?_)
 refine Eo.go q2 (s:={s with heap:=h2,toks:=t2}) hR hE r2 fun v2 j st3 as0 h3 t3 e3 r0 p3 qq=>?_
 obtain⟨ds,ed,hz,q3⟩:=qq
 refine rr (evalPart_none ..) ?_
 refine wpAny_pure ?_
 refine r0.trimP fun as3 sub hlt r3=>?_
 have e4:Ah as0 h3 as3 h3:=Ah.less sub
 have x3:=((x1.step e2 r1.locA r1.celA).step e3 r2.locA r2.celA).step e4 r0.locA r0.celA
 refine Now.tupleP (r3.now x3 ed) fun b vs m ho f=>?_
 have es:Ah as s.heap as3 h3:=((e1.trans e2).trans e3).trans e4
 have ho':=get?_push_of_some {cls:=.type "slice",data:=.fields #[v1,v2,.none]} ho.2.2
 have e5:Ah as3 h3 as3 (h3.push {cls:=.type "slice",data:=.fields #[v1,v2,.none]}):=Ah.grow _ fun b o e=>get?_push_of_some _ e
 have r5:=r3.grow (h':=h3.push {cls:=.type "slice",data:=.fields #[v1,v2,.none]}) (fun b o e=>get?_push_of_some _ e)
 refine Hx (T:="tuple") ⟨_,ho',rfl⟩ PyProof.Rows.slot_tuple_getitem.lookup ?_
 refine Ff ho' (get?_push_size _ rfl) p2 p3 (by refine rr f.length ?_;exact hz) (fun whole=>?_) ?_
 ·refine PE.after (t1:=t3) (es.trans e5) (PE.grown (t1:=t3) r5 rfl (fun _ _ e=>e) (d:=.tuple (Gh i j ds)) ?_ q3)
  have q9:FzL (vis R as3 (h3.push {cls:=.type "slice",data:=.fields #[v1,v2,.none]})) (Gh i j vs) (Gh i j ds):=(f.pick i j).mono e5.vis
  rw[whole]at q9
  exact .tuple (e5.vis _ _ ho) q9
 ·refine PE.after (t1:=t3) (es.trans e5) (PE.grown (t1:=t3) r5 rfl (fun b o e=>get?_push_of_some _ e) (d:=.tuple (Gh i j ds)) ?_ q3)
  exact .tuple (Jm r5 (fun b hb=>(by obtain⟨o,e⟩:=hlt b hb;exact⟨o,get?_push_of_some _ e⟩)) rfl) (((f.pick i j).mono e5.vis).mono (He _))
theorem XY{l:Expr}{k:Expr}{p pos:Pos}{Q:AG→St→Prop}
 (h:Ev O w U sc n l st fun a st1=>Ev O w U sc n k st1 fun b st2=>rd st2 b=some (.int (-1))∧∃ds,rd st2 a=some (.list ds)∧ds.length≤sizeLine∧Q (.lst ds.reverse) st2):Ef O w U sc n (.Subscript l (.Slice none none (some k) p) pos) st Q:=by
 intro A env R as s hR hE r
 refine Subscript_ (h.go hR hE r fun u a st1 as1 h1 t1 e1 r1 x1 q1=>?_)
 refine wpAny_Slice ?_
 refine rr (evalPart_none ..) ?_
 refine wpAny_pure (wpAny_pure ?_)
 refine rr (evalPart_some ..) ?_
 refine q1.go hR hE r1 fun v b st2 as0 h3 t3 e3 r0 x2 qq=>?_
 obtain⟨ek,ds,ed,hz,q3⟩:=qq
 refine r0.trimP fun as3 sub hlt r3=>?_
 have e4:Ah as0 h3 as3 h3:=Ah.less sub
 have x3:=(x1.step e3 r1.locA r1.celA).step e4 r0.locA r0.celA
 refine Now.intP (r0.now x2 ek) fun t=>?_
 refine Now.listP (r3.now x3 ed) BI fun b vs m ho f=>?_
 have es:Ah as s.heap as3 h3:=(e1.trans e3).trans e4
 refine Hx (T:="list") ⟨_,get?_push_of_some _ ho,rfl⟩ slot_list_getitem.lookup ?_
 refine wpAny_getItem_list_slice (items:=vs.toArray) (lo:=none) (hi:=none) (st:=some (-1)) ⟨_,get?_push_of_some _ ho,rfl,_,rfl⟩ (Heap.IsSliceOf.new ..) .none .none (.int _ _) (by decide) ?_ (by refine rr size_toArray (rr f.length ?_);exact hz)
 have ep:slicePick vs.toArray none none (some (-1))=vs.reverse.toArray:=by refine rr (krv_pick ..) ?_;rfl
 refine rr ep (rr (size_push ..) ?_)
 obtain⟨r4,kv⟩:=r3.laid (cs:=[h3.objs.size+1]) (h':=(h3.push {cls:=.type "slice",data:=.fields #[.none,.none,.int (-1) t]}).push (seqObj "list" vs.reverse.toArray 0)) (fun b o e=>get?_push_of_some _ (get?_push_of_some _ e)) (fun b hb=>Ay hb▸⟨AL _ (le_succ _),bB _ _ _ rfl⟩) hlt
 refine⟨.lst ds.reverse,st2,as3,_,t3,[h3.objs.size+1],rfl,es.trans (Ah.grow _ fun b o e=>get?_push_of_some _ (get?_push_of_some _ e)),r4,?_,fun b hb=>Ay hb▸es.live.none (AL _ (le_succ _)),q3⟩
 refine .lst (n:=0) ?_ (f.reverse.mono kv)
 have:=get?_push_size (h3.push {cls:=.type "slice",data:=.fields #[.none,.none,.int (-1) t]}) (o:=seqObj "list" vs.reverse.toArray 0) rfl
 rwa [size_push]at this
end
section
variable{O:Program}{w:World}{U:Heap}{K:Frag}{sc:Scope}{n:Nat}{st:St}
noncomputable def BN(sc:Scope)(x:Str):Bool:=!DQ sc x&&match sc.names.lookup x with
 |some .local=>true
 |some .cell=>!Hv sc
 |_=>false
structure Eg(env:Env)(x:Str)(v:Value)(h h':Heap):Prop where
 var:AF h' env x v
 other:∀y u,y≠x→AF h env y u→AF h' env y u
 keep:∀b o,b≠env.locals→Mq env b→h.get? b=some o→h'.get? b=some o
 locs:∃m,h'.Ns env.locals m
 cels:∀z c,env.cells.lookup z=some c→∃v,h'.IsCell c v
 loose:DQ env.scope x=false
theorem Eg.pin{env:Env}{x:Str}{v:Value}{h h':Heap}(S:Eg env x v h h'){y:Str}{u:Value}(hp:DQ env.scope y=true)(hv:AF h env y u):AF h' env y u:=S.other y u (fun q=>by rw[q,S.loose]at hp;cases hp) hv
theorem Eg.live{env:Env}{x:Str}{v:Value}{h h':Heap}(S:Eg env x v h h'):LB h h':=fun b o e=>by
 by_cases h1:b=env.locals
 ·obtain⟨m,o,_,_,ho,_⟩:=S.locs;exact⟨o,h1▸ho⟩
 ·by_cases h2:∃z,env.cells.lookup z=some b
  ·obtain⟨z,ez⟩:=h2;obtain⟨_,o,ho,_⟩:=S.cels z b ez;exact⟨o,ho⟩
  ·exact⟨o,S.keep b o h1 (fun _ z q=>h2 ⟨z,q⟩) e⟩
theorem Be.ne{env:Env}(hE:Be sc env){x:Str}{c:Addr}(e:env.cells.lookup x=some c):c≠env.locals:=hE.apart x c e
set_option tactic.hygienic true in
theorem Jr{A:Around}{env:Env}{s:Shared}{x:Str}{v:Value}{Q:Unit→Shared→Prop}{E:Value→Shared→Prop}(hE:Be sc env)(hs:BN sc x=true)
 (hl:∃m,s.heap.Ns env.locals m) (hc:∀x c,env.cells.lookup x=some c→∃v,s.heap.IsCell c v) (hx:sc.names.lookup x=some .cell→∃c,env.cells.lookup x=some c)
 (h:∀h' tk,Eg env x v s.heap h'→Q () {s with heap:=h',toks:=tk}):wpAny (model O w) A (storeName env x v) Q E s:=by
 have hk:env.scope.kind=.function:=by refine rr hE.isSc ?_;exact hE.kind
 have ek:env.kindOf x=sc.names.lookup x:=by show env.scope.names.lookup x=_;refine rr hE.isSc ?_;rfl
 obtain⟨m,hm⟩:=hl
 unfold BN at hs
 rw[and_eq_true]at hs
 have hpin:DQ env.scope x=false:=by refine rr hE.isSc ?_;simpa using hs.1
 replace hs:=hs.2
 split at hs
 ·rename_i e
  refine wpAny_storeName_local (ek.trans e) hm (fun h' hn hsb=>h h' _ ⟨.inl ⟨ek.trans e,_,hn,by simp⟩,fun y u ne hy=>?_,fun b o h1 _ e=>(hsb.2 b h1).trans e,⟨_,hn⟩,fun z c ez=>?_,hpin⟩) ?_
  ·rcases hy with⟨k,m',hn',e'⟩|⟨k,c,hc',o,ho,hd⟩
   ·refine .inl ⟨k,_,hn,?_⟩
    have:=(AF.unique (h:=s.heap) (env:=env) (x:=y) (.inl ⟨k,m',hn',e'⟩) (w:=u) (.inl ⟨k,m',hn',e'⟩))
    simp only[ne,if_false]
    obtain⟨o1,es1,ep1,p1,p2,_,p4⟩:=hn'
    obtain⟨o2,es2,ep2,q1,q2,_,q4⟩:=hm
    rw[p1]at q1;cases q1;rw[p2]at q2;cases q2
    refine rl (q4 ..) (rr (p4 ..) ?_);exact e'
   ·exact .inr ⟨k,c,hc',o,(hsb.2 c (hE.ne hc')).trans ho,hd⟩
  ·obtain⟨v,o,ho,hd⟩:=hc z c ez
   exact⟨v,o,(hsb.2 c (hE.ne ez)).trans ho,hd⟩
  ·refine rr hk ?_;rfl
 ·rename_i e
  obtain⟨c,ec⟩:=hx e
  obtain⟨v₀,hv⟩:=hc x c ec
  refine wpAny_storeName_cell hk (ek.trans e) ec hv fun h' hv' hsb=>h h' _ ⟨.inr ⟨.inl (ek.trans e),c,ec,hv'⟩,fun y u ne hy=>?_,fun b o _ h2 e=>(hsb.2 b fun q=>h2 (by refine rr hE.isSc ?_;simpa using hs) x (q▸ec)).trans e,⟨m,hm.sameBut hsb (Ne.symm (hE.ne ec))⟩,fun z d ez=>?_,hpin⟩
  ·rcases hy with⟨k,m',hn',e'⟩|⟨k,d,hd',o,ho,hd⟩
   ·exact .inl ⟨k,m',hn'.sameBut hsb (Ne.symm (hE.ne ec)),e'⟩
   ·exact .inr ⟨k,d,hd',o,(hsb.2 d fun q=>ne (hE.inj y x d hd' (q▸ec))).trans ho,hd⟩
  ·by_cases q:d=c
   ·exact⟨_,q▸hv'⟩
   ·obtain⟨v,o,ho,hd⟩:=hc z d ez
    exact⟨v,o,(hsb.2 d q).trans ho,hd⟩
 ·cases hs
theorem Rel.bind{R as cs:List Addr}{env:Env}{h h':Heap}{x:Str}{v:Value}{av:AG}(r:Rel U (cs++R) env st as h)(rep:Ct (vis (cs++R) as h) h v av cs)(hl:env.locals∈R)(hc:∀x c,env.cells.lookup x=some c→c∈R)(hd:∀b∈cs,b∉R)(S:Eg env x v h h'):
 Rel U R env (put x av st) (cs++as) h':=by
 obtain⟨⟨val,cs',hr,hdis⟩,hn,hsep,_,_,_,_,hi,hb⟩:=r
 have kv:∀b o,vis (cs++R) as h b o→vis R (cs++as) h' b o:=fun b o ⟨p,q,e⟩=>
  ⟨fun z=>p (mem_append_right _ z),fun z=>(mem_append.mp z).elim (fun z=>p (mem_append_left _ z)) q,S.keep b o (fun z=>p (mem_append_right _ (z▸hl))) (fun _ y z=>p (mem_append_right _ (hc y b z))) e⟩
 have apart:∀b∈cs,b∉as:=fun b hb=>hsep b (mem_append_left _ hb)
 have off:∀b∉R,b≠env.locals∧∀z,env.cells.lookup z≠some b:=fun b hb=>⟨fun q=>hb (q▸hl),fun z q=>hb (hc z b q)⟩
 refine⟨⟨fun z=>if z=x then v else val z,fun z=>if z=x then cs else cs' z,fun z b hz=>?_,fun z b z' b' hz hz' ne c hc1=>?_⟩,Kp hn,fun b hb z=>?_,hl,hc,S.locs,S.cels,fun b hb=>?_,fun b o e=>kv b o (hb b o e)⟩
 ·dsimp only
  by_cases hzx:z=x
  ·subst hzx
   refine rr (if_pos rfl) (rr (if_pos rfl) ?_)
   have:=IG hn hz
   subst this
   exact⟨S.var,rep.mono kv fun b hb o e=>S.keep b o (off b (hd b hb)).1 (fun _=>(off b (hd b hb)).2) e,fun b hb=>mem_append_left _ hb⟩
  ·refine rr (if_neg hzx) (rr (if_neg hzx) ?_)
   obtain⟨p,q,t⟩:=hr z b (BH hn hz hzx)
   refine⟨S.other z _ hzx p,q.mono kv fun b hb o e=>?_,fun b hb=>mem_append_right _ (t b hb)⟩
   have nr:b∉R:=fun z=>hsep b (mem_append_right _ z) (t b hb)
   exact S.keep b o (off b nr).1 (fun _=>(off b nr).2) e
 ·dsimp only at hc1⊢
  by_cases hzx:z=x
  ·rw[if_pos hzx]at hc1
   refine rr (if_neg (fun q=>ne (hzx.trans q.symm))) ?_
   exact fun q=>apart c hc1 ((hr z' b' (BH hn hz' (fun q=>ne (hzx.trans q.symm)))).2.2 c q)
  ·rw[if_neg hzx]at hc1
   by_cases hzx':z'=x
   ·refine rr (if_pos hzx') ?_;exact fun q=>apart c q ((hr z b (BH hn hz hzx)).2.2 c hc1)
   ·refine rr (if_neg hzx') ?_;exact hdis z b z' b' (BH hn hz hzx) (BH hn hz' hzx') ne c hc1
 ·rcases mem_append.mp z with z|z
  ·exact hd b z hb
  ·exact hsep b (mem_append_right _ hb) z
 ·obtain⟨o,e⟩:=hi b (mem_append_right _ hb);exact S.live b o e
theorem Eg.step{env:Env}{x:Str}{v:Value}{h h':Heap}{as cs:List Addr}(S:Eg env x v h h')(k:∀b∈cs,h.get? b=none∨b∈as):Bx env as h (cs++as) h':=
 ⟨fun b o h1 h2 _ e=>S.keep b o h1 h2 e,fun b hb=>(mem_append.mp hb).elim (fun z=>(k b z).symm) .inl,S.live,fun _ _ _ hp hv=>S.pin hp hv⟩
end
section
variable{O:Program}{w:World}{U:Heap}{K:Frag}{sc:Scope}{n:Nat}{st:St}
inductive PB(U:Heap)(R:List Addr)(env:Env)(as:List Addr)(s:Shared)(Q:St→Prop)(s':Shared):Prop
 |mk (st':St) (as':List Addr) (h':Heap) (tk':Nat) (hs:s'={s with heap:=h',toks:=tk'}) (e:Bx env as s.heap as' h') (r:Rel U R env st' as' h') (q:Q st')
theorem PB.after{R as as1:List Addr}{env:Env}{s:Shared}{h1:Heap}{t1:Nat}{Q:St→Prop}{s':Shared}(e:Bx env as s.heap as1 h1)(p:PB U R env as1 {s with heap:=h1,toks:=t1} Q s'):PB U R env as s Q s':=by
 obtain⟨st',as',h',tk',rfl,e',r',q⟩:=p
 exact⟨st',as',h',tk',rfl,e.trans e',r',q⟩
def As(O:Program)(w:World)(U:Heap)(sc:Scope)(n:Nat)(t:Expr)(d:Dat)(st:St)(Q:St→Prop):Prop:=
 ∀(A:Around) (env:Env) (R as:List Addr) (s:Shared) (v:Value),CU A n→Be sc env→Rel U R env st as s.heap→Fz (vis R as s.heap) v d→wpAny (model O w) A (assign t env v) (fun _ s'=>PB U R env as s Q s') (fun _ _=>False) s
def AsL(O:Program)(w:World)(U:Heap)(sc:Scope)(n:Nat)(ts:List Expr)(ds:List Dat)(st:St)(Q:St→Prop):Prop:=
 ∀(A:Around) (env:Env) (R as:List Addr) (s:Shared) (vs:List Value),CU A n→Be sc env→Rel U R env st as s.heap→FzL (vis R as s.heap) vs ds→wpAny (model O w) A (assignInOrder ((assignEach ts env).map (·.2)) vs) (fun _ s'=>PB U R env as s Q s') (fun _ _=>False) s
theorem OT{A:Around}{env:Env}{R as:List Addr}{s:Shared}{x:Str}{v:Value}{d:Dat}{Q:St→Prop}(hE:Be sc env)(r:Rel U R env st as s.heap)(f:Fz (vis R as s.heap) v d)(hs:BN sc x=true)(q:Q (put x (.dat d) st)):
 wpAny (model O w) A (storeName env x v) (fun _ s'=>PB U R env as s Q s') (fun _ _=>False) s:=by
 refine Jr hE hs r.locs r.cels (fun e=>hE.has x (.inl e)) fun h' tk S=>?_
 exact⟨_,[]++as,h',tk,rfl,S.step Km,Rel.bind (cs:=[]) r (.dat f) r.locR r.celR Km S,q⟩
theorem Ve{x:Str}{p:Pos}{d:Dat}{Q:St→Prop}(hs:BN sc x=true)(q:Q (put x (.dat d) st)):As O w U sc n (.Name x p) d st Q:=
 fun _ _ _ _ _ _ _ hE r f=>PyProof.Rows.assign_Name (OT hE r f hs q)
theorem Vf{ds:List Dat}{Q:St→Prop}(q:Q st):AsL O w U sc n [] ds st Q:=fun _ _ _ as s _ _ _ r _=>wpAny_pure ⟨st,as,s.heap,s.toks,rfl,Bx.refl _ _ _,r,q⟩
theorem RE{t:Expr}{ts:List Expr}{d:Dat}{ds:List Dat}{Q:St→Prop}(h:As O w U sc n t d st fun st1=>AsL O w U sc n ts ds st1 Q)
 (he:autoParam (∀env,assignEach (t::ts) env=(false,assign t env)::assignEach ts env) au.a1._auto_1):AsL O w U sc n (t::ts) (d::ds) st Q:=by
 intro A env R as s vs hR hE r f
 cases f with
 |cons f fs=>
  refine rr (he ..) (rr map_cons ?_)
  refine wpAny_bind (wpAny_holding (wpAny_mono (h A env R as s _ hR hE r f) ?_ fun _ _ x=>x))
  rintro _ s1 ⟨st1,as1,h1,t1,rfl,e1,r1,q1⟩
  exact wpAny_mono (q1 A env R as1 _ _ hR hE r1 (fs.mono (e1.vis r.locR r.celR))) (fun _ _ p=>PB.after e1 p) fun _ _ x=>x
theorem Hg{h h':Heap}(x:Heap.ExtBut h.objs.size h h'):∀b o,h.get? b=some o→h'.get? b=some o:=fun b o e=>x b o (ne_of_lt (lt_size e)) e
theorem EX(ts:List Expr)(env:Env):(assignEach ts env).length=ts.length:=by
 induction ts with
 |nil=>rfl
 |cons t ts ih=>cases t<;>exact congrArg Nat.succ ih
set_option tactic.hygienic true in
theorem RF{ts:List Expr}{k:Nat}{p:Pos}{d:Dat}{ds:List Dat}{Q:St→Prop}(hd:Fk d=some ds)(hl:ts.length=ds.length)(hstar:∀env,(assignEach ts env).findIdx? (·.1)=none)(h:AsL O w U sc n ts ds st Q):As O w U sc n (.Tuple ts k p) d st Q:=by
 intro A env R as s v hR hE r f
 have rest:∀{h':Heap}{vs:List Value},FzL (vis R as s.heap) vs ds→(∀b o,s.heap.get? b=some o→h'.get? b=some o)→wpAny (model O w) A (assignInOrder ((assignEach ts env).map (·.2)) vs) (fun _ s'=>PB U R env as s Q s') (fun _ _=>False) {s with heap:=h'}:=fun{h' vs} fs k=>
  wpAny_mono (h A env R as {s with heap:=h'} _ hR hE (r.grow k) (fs.mono (Ah.grow as k).vis)) (fun _ _ p=>PB.after (t1:=s.toks) (Ah.grow as k).toS p) fun _ _ x=>x
 cases f<;>first|(cases hd;done)|skip
 ·rename_i a vs m ds' ho fs
  cases hd
  exact wpAny_assign_Tuple (items:=vs.toArray) hR.handled ⟨_,ho.2.2,rfl,_,rfl⟩ (by refine rr (EX ..) (rr hl ?_);refine rr size_toArray (rr fs.length ?_);rfl) (hstar env) fun h' hx=>rest fs (Hg hx)
 ·rename_i a vs m ds' ho fs
  cases hd
  refine rr (arm_assign_Tuple ..) ?_
  refine wpAny_bind (wpAny_standAt ?_)
  unfold unpack
  refine rr (hstar env) (rr (EX ..) ?_);refine rr hl (rl fs.length ?_)
  refine wpAny_bind (wpAny_holding ?_)
  exact kun_itemsOf (items:=vs.toArray) hR.handled ⟨_,ho.2.2,rfl,_,rfl⟩ fun h' hx=>rest fs (Hg hx)
theorem PB.px{R as:List Addr}{env:Env}{s s':Shared}{Q:Fl→St→Prop}(p:PB U R env as s (Q .next) s'):PX U R env as s Q .next s':=by
 obtain⟨st',as',h',tk',e,e',r',q⟩:=p
 exact⟨.next,st',as',h',tk',e,e',r',trivial,q⟩
theorem Uc{Q:Fl→St→Prop}(q:Q .next st):Ss O w U sc n [] st Q:=fun _ _ _ as s _ _ r=>wpAny_execs_nil ⟨.next,st,as,s.heap,s.toks,rfl,Bx.refl _ _ _,r,trivial,q⟩
def GJ(O:Program)(w:World)(U:Heap)(sc:Scope)(n:Nat)(xs:List Stmt)(Q:Fl→St→Prop)(f:Fl)(st:St):Prop:=match f with
 | .next=>Ss O w U sc n xs st Q
 |f=>Q f st
theorem Bm{x:Stmt}{xs:List Stmt}{Q:Fl→St→Prop}(h:Sx O w U sc n x st (GJ O w U sc n xs Q)):Ss O w U sc n (x::xs) st Q:=by
 intro A env R as s hR hE r
 refine wpAny_execs_cons (h.go hR hE r fun f fl st1 as1 h1 t1 e1 r1 fo q1=>?_)
 cases f<;>cases fl<;>first|exact fo.elim|skip
 ·exact wpAny_mono (q1 A env R as1 _ hR hE r1) (fun _ _ p=>PX.after e1 p) fun _ _ x=>x
 ·exact⟨.brk,st1,as1,h1,t1,rfl,e1,r1,trivial,q1⟩
 ·exact⟨.cont,st1,as1,h1,t1,rfl,e1,r1,trivial,q1⟩
 ·exact⟨.ret _,st1,as1,h1,t1,rfl,e1,r1,fo,q1⟩
theorem Aa1{A:Around}{env:Env}{R as cs:List Addr}{s:Shared}{x:Str}{v:Value}{av:AG}{Q:St→Prop}(hE:Be sc env)(r:Rel U (cs++R) env st as s.heap)(rep:Ct (vis (cs++R) as s.heap) s.heap v av cs)(hl:env.locals∈R)(hc:∀x c,env.cells.lookup x=some c→c∈R)
 (hd:∀b∈cs,b∉R) (hs:BN sc x=true) (q:Q (put x av st)):
 wpAny (model O w) A (storeName env x v) (fun _ s'=>∃h' tk',s'={s with heap:=h',toks:=tk'}∧Eg env x v s.heap h'∧Rel U R env (put x av st) (cs++as) h'∧Q (put x av st)) (fun _ _=>False) s:=
 Jr hE hs r.locs r.cels (fun e=>hE.has x (.inl e)) fun h' tk S=>⟨h',tk,rfl,S,Rel.bind r rep hl hc hd S,q⟩
theorem LE{A:Around}{env:Env}{R as cs:List Addr}{s:Shared}{x:Str}{v:Value}{av:AG}{P:Unit→Shared→Prop}{E:Value→Shared→Prop}(hE:Be sc env)(r:Rel U (cs++R) env st as s.heap)(rep:Ct (vis (cs++R) as s.heap) s.heap v av cs)(hl:env.locals∈R)(hc:∀x c,env.cells.lookup x=some c→c∈R)
 (hd:∀b∈cs,b∉R) (hs:BN sc x=true) (k:∀h' tk',Eg env x v s.heap h'→Rel U R env (put x av st) (cs++as) h'→P () {s with heap:=h',toks:=tk'}):wpAny (model O w) A (storeName env x v) P E s:=
 Jr hE hs r.locs r.cels (fun e=>hE.has x (.inl e)) fun h' tk S=>k h' tk S (Rel.bind r rep hl hc hd S)
theorem BW{R as:List Addr}{env:Env}{h:Heap}(r:Rel U R env st as h){cs:List Addr}(hcs:∀b∈cs,h.get? b=none):∀b∈cs,b∉R:=fun b hb q=>by obtain⟨o,e⟩:=r.inb b q;rw[hcs b hb]at e;cases e
theorem FA{x:Str}{p pos:Pos}{e:Expr}{Q:Fl→St→Prop}(h:Ef O w U sc n e st fun av st1=>Q .next (put x av st1))(hs:BN sc x=true)
 (hw:autoParam (∀env,swapsWith e (some (.Name x p)) pos.line env=pure false) au.a1._auto_1):Sx O w U sc n (.Assign [.Name x p] e pos) st Q:=by
 intro A env R as s hR hE r
 refine wpAny_Assign_Name (h.go hR hE r fun v av st1 as1 h1 t1 cs e1 r1 rep hcs q=>?_) (hw env)
 refine LE (s:={s with heap:=h1,toks:=t1}) hE r1 rep r.locR r.celR (BW r hcs) hs fun h2 t2 S r2=>?_
 have q2:=q
 refine⟨.next,_,cs++as1,h2,t2,rfl,?_,r2,trivial,q2⟩
 refine⟨fun b o n1 n2 hb eb=>S.keep b o n1 n2 (e1.keep b o hb eb),fun b hb=>?_,e1.live.trans S.live,fun F _ _ hp hv=>S.pin hp (e1.pin F hv)⟩
 rcases mem_append.mp hb with hb|hb
 ·exact .inr (hcs b hb)
 ·exact e1.fresh b hb
theorem ac{t:Expr}{b o:List Stmt}{pos:Pos}{Q:Fl→St→Prop}(h:Et O w U sc n t st fun c st1=>(c=true→Ss O w U sc n b st1 Q)∧(c=false→Ss O w U sc n o st1 Q)):Sx O w U sc n (.If t b o pos) st Q:=by
 intro A env R as s hR hE r
 refine wpAny_If (h.go hR hE r fun c st1 as1 h1 t1 e1 r1 qq=>?_)
 obtain⟨q1,q2⟩:=qq
 rcases c with _|_
 ·exact wpAny_mono (q2 rfl A env R as1 _ hR hE r1) (fun _ _ p=>PX.after e1.toS p) fun _ _ x=>x
 ·exact wpAny_mono (q1 rfl A env R as1 _ hR hE r1) (fun _ _ p=>PX.after e1.toS p) fun _ _ x=>x
theorem Ud{e:Expr}{pos:Pos}{Q:Fl→St→Prop}(h:Ed O w U sc n e st fun d st1=>Q (.ret d) st1):Sx O w U sc n (.Return (some e) pos) st Q:=by
 intro A env R as s hR hE r
 refine wpAny_Return_some (h.go hR hE r fun v d st1 as1 h1 t1 e1 r1 f1 q=>?_)
 exact⟨.ret d,st1,as1,h1,t1,rfl,e1.toS,r1,f1,q⟩
theorem Vg{pos:Pos}{Q:Fl→St→Prop}(q:Q (.ret .none) st):Sx O w U sc n (.Return none pos) st Q:=
 fun _ _ _ as s _ _ r=>wpAny_Return_none ⟨.ret .none,st,as,s.heap,s.toks,rfl,Bx.refl _ _ _,r,.none,q⟩
theorem Vh{e:Expr}{pos:Pos}{Q:Fl→St→Prop}(h:Ev O w U sc n e st fun _ st1=>Q .next st1)(hw:autoParam (∀env,swapsWith e none pos.line env=pure false) au.a1._auto_1):Sx O w U sc n (.Expr e pos) st Q:=by
 intro A env R as s hR hE r
 refine wpAny_Expr_any (wpAny_mono (h A env R as s hR hE r) ?_ fun _ _ x=>x) ?_ (hw env)
 ·rintro v s1 ⟨ev,st1,as1,h1,t1,rfl,e1,r1,x1,q⟩
  exact⟨.next,st1,as1,h1,t1,rfl,e1.toS,r1,trivial,q⟩
 ·unfold interactive
  refine rr hE.isSc (rr hE.kind ?_);rfl
theorem Hh{ts:List Expr}{k:Nat}{p pos:Pos}{e:Expr}{Q:Fl→St→Prop}(h:Ed O w U sc n e st fun d st1=>As O w U sc n (.Tuple ts k p) d st1 (Q .next))
 (hw:∀env,env.scope=sc→swapsWithSole [.Tuple ts k p] e pos.line env=pure false) (hv:∀env,env.scope=sc→swappedStores [.Tuple ts k p] e env=pure none):Sx O w U sc n (.Assign [.Tuple ts k p] e pos) st Q:=by
 intro A env R as s hR hE r
 refine Assign_Tuple (h.go hR hE r fun v d st1 as1 h1 t1 e1 r1 f1 q=>?_) (hw env hE.isSc) (hv env hE.isSc)
 exact wpAny_mono (q A env R as1 _ v hR hE r1 f1) (fun _ _ p=>PX.after e1.toS p.px) fun _ _ x=>x
theorem XZ{e:Expr}{Q:AG→St→Prop}(h:Ed O w U sc n e st fun d st1=>Q (.dat d) st1):Ef O w U sc n e st Q:=by
 intro A env R as s hR hE r
 refine h.go hR hE r fun v d st1 as1 h1 t1 e1 r1 f1 q=>?_
 exact⟨.dat d,st1,as1,h1,t1,[],rfl,e1,r1,.dat f1,Km,q⟩
theorem Rel.perm{R R' as:List Addr}{env:Env}{h:Heap}(r:Rel U R env st as h)(k:∀b,b∈R↔b∈R'):Rel U R' env st as h:=by
 have kv:∀b o,vis R as h b o→vis R' as h b o:=fun b o ⟨p,q,e⟩=>⟨fun z=>p ((k b).mpr z),q,e⟩
 obtain⟨⟨val,cs,hr,hd⟩,hn,hsep,hl,hc,hlo,hcl,hi,hb⟩:=r
 exact⟨⟨val,cs,fun x a hx=>(by obtain⟨p,q,z⟩:=hr x a hx;exact⟨p,q.mono kv fun _ _ _ e=>e,z⟩),hd⟩,hn,fun b hb=>hsep b ((k b).mpr hb),(k _).mp hl,fun x c e=>(k c).mp (hc x c e),hlo,hcl,fun b hb=>hi b ((k b).mpr hb),fun b o e=>kv b o (hb b o e)⟩
theorem Ct.cellsOld{R as cs:List Addr}{env:Env}{h:Heap}{v:Value}{av:AG}(rep:Ct (vis (cs++R) as h) h v av cs){cs' as':List Addr}{h':Heap}(r:Rel U (cs++R) env st as h)(e:Ah as h as' h')(hcs:∀b∈cs',h.get? b=none):Ct (vis (cs'++(cs++R)) as' h') h' v av cs:=by
 refine rep.mono (fun b o z=>?_) fun b hb o eo=>e.keep b o (r.sep b (mem_append_left _ hb)) eo
 have z':=e.vis (R:=cs++R) b o z
 refine⟨fun q=>(mem_append.mp q).elim (fun q=>?_) z'.1,z'.2⟩
 have:=z.2.2
 rw[hcs b q]at this;cases this
theorem Ct.stored{R as cs cs':List Addr}{env:Env}{h h':Heap}{x:Str}{v u:Value}{av:AG}(rep:Ct (vis (cs'++(cs++R)) as h) h u av cs)(S:Eg env x v h h')(hl:env.locals∈R)(hc:∀x c,env.cells.lookup x=some c→c∈R)(hd:∀b∈cs,b∉R):
 Ct (vis (cs++R) (cs'++as) h') h' u av cs:=by
 refine rep.mono (fun b o ⟨p,q,e⟩=>?_) fun b hb o eo=>S.keep b o (fun z=>hd b hb (z▸hl)) (fun _ y z=>hd b hb (hc y b z)) eo
 have pR:b∉R:=fun z=>p (mem_append_right _ (mem_append_right _ z))
 exact⟨fun z=>p (mem_append_right _ z),fun z=>(mem_append.mp z).elim (fun z=>p (mem_append_left _ z)) q,S.keep b o (fun z=>pR (z▸hl)) (fun _ y z=>pR (hc y b z)) e⟩
theorem RG{x y:Str}{p1 p2 p pos vp:Pos}{k k':Nat}{e1 e2:Expr}{Q:Fl→St→Prop}(h:Ef O w U sc n e1 st fun a st1=>Ef O w U sc n e2 st1 fun b st2=>Q .next (put x a (put y b st2)))
 (hx:BN sc x=true) (hy:BN sc y=true)
 (hw:∀env,env.scope=sc→swapsWithSole [.Tuple [.Name x p1,.Name y p2] k p] (.Tuple [e1,e2] k' vp) pos.line env=pure false) (hv:∀env,env.scope=sc→swappedStores [.Tuple [.Name x p1,.Name y p2] k p] (.Tuple [e1,e2] k' vp) env=pure (some [x,y]))
 (h1':autoParam (∀env,starEach [e1,e2] env=(false,eval e1 env)::starEach [e2] env) au.a1._auto_1) (h2':autoParam (∀env,starEach [e2] env=(false,eval e2 env)::starEach [] env) au.a1._auto_1):
 Sx O w U sc n (.Assign [.Tuple [.Name x p1,.Name y p2] k p] (.Tuple [e1,e2] k' vp) pos) st Q:=by
 intro A env R as s hR hE r
 refine Assign_Tuple_swapped (names:=[x,y]) (wpAny_Tuple ?_) (hw env hE.isSc) (hv env hE.isSc)
 refine wpAny_items_cons (h.go hR hE r fun v1 a st1 as1 g1 t1 cs1 e1 r1 rep1 hc1 q1=>?_) (h1' env)
 refine wpAny_items_cons (q1.go hR hE r1 fun v2 b st2 as2 g2 t2 cs2 e2 r2 rep2 hc2 q2=>?_) (h2' env)
 refine wpAny_items_nil ⟨by refine rr sizeLine_eq ?_;simp,?_⟩
 --both values stand;the tuple is made and taken apart
 have rep1':=rep1.cellsOld r1 e2 hc2
 have es:=e1.trans e2
 have off1:∀z∈cs1,z∉R:=BW r hc1
 have off2:∀z∈cs2,z∉cs1++R:=BW r1 hc2
 refine unpackItems_tuple (items:=[v1,v2].toArray) hR.handled ⟨_,get?_push_size _ rfl,rfl,_,rfl⟩ fun g3 hx3=>?_
 have k3:∀z o,g2.get? z=some o→g3.get? z=some o:=fun z o e=>Hg hx3 z o (get?_push_of_some _ e)
 have e3:Ah as2 g2 as2 g3:=Ah.grow _ k3
 have r3:=r2.grow k3
 have rep1'':Ct (vis (cs2++(cs1++R)) as2 g3) g3 v1 a cs1:=rep1'.mono e3.vis fun z hz o e=>k3 z o e
 have rep2'':Ct (vis (cs2++(cs1++R)) as2 g3) g3 v2 b cs2:=rep2.mono e3.vis fun z hz o e=>k3 z o e
 show wpAny _ _ (do holding [v1] (bindName env y v2);do holding [] (bindName env x v1);pure ()) _ _ _
 refine wpAny_bind (wpAny_holding (wpAny_bindName ?_))
 refine LE (s:={s with heap:=g3,toks:=t2}) hE r3 rep2'' (mem_append_right _ r.locR) (fun x c e=>mem_append_right _ (r.celR x c e)) off2 hy fun g4 t4 S4 r4=>?_
 have rep4:Ct (vis (cs1++R) (cs2++as2) g4) g4 v1 a cs1:=rep1''.stored S4 r.locR r.celR off1
 refine wpAny_bind (wpAny_holding (wpAny_bindName ?_))
 refine LE (s:={s with heap:=g4,toks:=t4}) hE r4 rep4 r.locR r.celR off1 hx fun g5 t5 S5 r5=>?_
 have q5:=q2
 refine wpAny_pure ⟨.next,_,_,g5,t5,rfl,?_,r5,trivial,q5⟩
 have ea:=es.trans e3
 refine⟨fun z o n1 n2 hz ez=>S5.keep z o n1 n2 (S4.keep z o n1 n2 (ea.keep z o hz ez)),fun z hz=>?_,(ea.live.trans S4.live).trans S5.live,fun F _ _ hp hv=>S5.pin hp (S4.pin hp (ea.pin F hv))⟩
 rcases mem_append.mp hz with hz|hz
 ·exact .inr (hc1 z hz)
 ·rcases mem_append.mp hz with hz|hz
  ·exact .inr (e1.live.none (hc2 z hz))
  ·exact ea.fresh z hz
theorem RH{x y u:Str}{p1 p2 p3 p pos vp:Pos}{k k':Nat}{e1 e2 e3:Expr}{Q:Fl→St→Prop}(h:Ef O w U sc n e1 st fun a st1=>Ef O w U sc n e2 st1 fun b st2=>Ef O w U sc n e3 st2 fun c st3=>Q .next (put x a (put y b (put u c st3))))
 (hx:BN sc x=true) (hy:BN sc y=true) (hu:BN sc u=true)
 (hw:∀env,env.scope=sc→swapsWithSole [.Tuple [.Name x p1,.Name y p2,.Name u p3] k p] (.Tuple [e1,e2,e3] k' vp) pos.line env=pure false) (hv:∀env,env.scope=sc→swappedStores [.Tuple [.Name x p1,.Name y p2,.Name u p3] k p] (.Tuple [e1,e2,e3] k' vp) env=pure (some [x,y,u]))
 (h1':autoParam (∀env,starEach [e1,e2,e3] env=(false,eval e1 env)::starEach [e2,e3] env) au.a1._auto_1) (h2':autoParam (∀env,starEach [e2,e3] env=(false,eval e2 env)::starEach [e3] env) au.a1._auto_1) (h3':autoParam (∀env,starEach [e3] env=(false,eval e3 env)::starEach [] env) au.a1._auto_1):
 Sx O w U sc n (.Assign [.Tuple [.Name x p1,.Name y p2,.Name u p3] k p] (.Tuple [e1,e2,e3] k' vp) pos) st Q:=by
 intro A env R as s hR hE r
 refine Assign_Tuple_swapped (names:=[x,y,u]) (wpAny_Tuple ?_) (hw env hE.isSc) (hv env hE.isSc)
 refine wpAny_items_cons (h.go hR hE r fun v1 a st1 as1 g1 t1 cs1 e1 r1 rep1 hc1 q1=>?_) (h1' env)
 refine wpAny_items_cons (q1.go hR hE r1 fun v2 b st2 as2 g2 t2 cs2 e2 r2 rep2 hc2 q2=>?_) (h2' env)
 refine wpAny_items_cons (q2.go hR hE r2 fun v3 c st3 as3 g3 t3 cs3 e3 r3 rep3 hc3 q3=>?_) (h3' env)
 refine wpAny_items_nil ⟨by refine rr sizeLine_eq ?_;simp,?_⟩
 have rep2':=rep2.cellsOld r2 e3 hc3
 have rep1':Ct (vis (cs2++(cs1++R)) as2 g2) g2 v1 a cs1:=rep1.cellsOld r1 e2 hc2
 have rep1b:Ct (vis (cs3++(cs2++(cs1++R))) as3 g3) g3 v1 a cs1:=by
  refine rep1'.mono (fun z o w=>?_) fun z hz o eo=>e3.keep z o (r2.sep z (mem_append_right _ (mem_append_left _ hz))) eo
  have w':=e3.vis (R:=cs2++(cs1++R)) z o w
  refine⟨fun q=>(mem_append.mp q).elim (fun q=>?_) w'.1,w'.2⟩
  have:=w.2.2
  rw[hc3 z q]at this;cases this
 have es:=(e1.trans e2).trans e3
 have off1:∀z∈cs1,z∉R:=BW r hc1
 have off2:∀z∈cs2,z∉cs1++R:=BW r1 hc2
 have off3:∀z∈cs3,z∉cs2++(cs1++R):=BW r2 hc3
 refine unpackItems_tuple (items:=[v1,v2,v3].toArray) hR.handled ⟨_,get?_push_size _ rfl,rfl,_,rfl⟩ fun g4 hx4=>?_
 have k4:∀z o,g3.get? z=some o→g4.get? z=some o:=fun z o e=>Hg hx4 z o (get?_push_of_some _ e)
 have e4:Ah as3 g3 as3 g4:=Ah.grow _ k4
 have r4:=r3.grow k4
 have s1'':Ct (vis (cs3++(cs2++(cs1++R))) as3 g4) g4 v1 a cs1:=rep1b.mono e4.vis fun z hz o e=>k4 z o e
 have s2'':Ct (vis (cs3++(cs2++(cs1++R))) as3 g4) g4 v2 b cs2:=rep2'.mono e4.vis fun z hz o e=>k4 z o e
 have s3'':Ct (vis (cs3++(cs2++(cs1++R))) as3 g4) g4 v3 c cs3:=rep3.mono e4.vis fun z hz o e=>k4 z o e
 show wpAny _ _ (do holding [v2,v1] (bindName env u v3);do holding [v1] (bindName env y v2);do holding [] (bindName env x v1);pure ()) _ _ _
 refine wpAny_bind (wpAny_holding (wpAny_bindName ?_))
 have lR:=r.locR
 have cR:=r.celR
 refine LE (s:={s with heap:=g4,toks:=t3}) hE r4 s3'' (mem_append_right _ (mem_append_right _ lR)) (fun x c e=>mem_append_right _ (mem_append_right _ (cR x c e))) off3 hu fun g5 t5 S5 r5=>?_
 have t2'':Ct (vis (cs2++(cs1++R)) (cs3++as3) g5) g5 v2 b cs2:=s2''.stored S5 (mem_append_right _ lR) (fun x c e=>mem_append_right _ (cR x c e)) off2
 have t1'':Ct (vis (cs2++(cs1++R)) (cs3++as3) g5) g5 v1 a cs1:=by
  refine s1''.mono (fun z o ⟨p,q,e⟩=>?_) fun z hz o eo=>S5.keep z o (fun q=>off1 z hz (q▸lR)) (fun _ y q=>off1 z hz (cR y z q)) eo
  have pR:z∉R:=fun q=>p (mem_append_right _ (mem_append_right _ (mem_append_right _ q)))
  exact⟨fun q=>p (mem_append_right _ q),fun q'=>(mem_append.mp q').elim (fun q'=>p (mem_append_left _ q')) q,S5.keep z o (fun q=>pR (q▸lR)) (fun _ y q=>pR (cR y z q)) e⟩
 refine wpAny_bind (wpAny_holding (wpAny_bindName ?_))
 refine LE (s:={s with heap:=g5,toks:=t5}) hE r5 t2'' (mem_append_right _ lR) (fun x c e=>mem_append_right _ (cR x c e)) off2 hy fun g6 t6 S6 r6=>?_
 have w1'':Ct (vis (cs1++R) (cs2++(cs3++as3)) g6) g6 v1 a cs1:=t1''.stored S6 lR cR off1
 refine wpAny_bind (wpAny_holding (wpAny_bindName ?_))
 refine LE (s:={s with heap:=g6,toks:=t6}) hE r6 w1'' lR cR off1 hx fun g7 t7 S7 r7=>?_
 have q7:=q3
 refine wpAny_pure ⟨.next,_,_,g7,t7,rfl,?_,r7,trivial,q7⟩
 have ea:=es.trans e4
 refine⟨fun z o n1 n2 hz ez=>S7.keep z o n1 n2 (S6.keep z o n1 n2 (S5.keep z o n1 n2 (ea.keep z o hz ez))),fun z hz=>?_,((ea.live.trans S5.live).trans S6.live).trans S7.live,fun F _ _ hp hv=>S7.pin hp (S6.pin hp (S5.pin hp (ea.pin F hv)))⟩
 rcases mem_append.mp hz with hz|hz
 ·exact .inr (hc1 z hz)
 ·rcases mem_append.mp hz with hz|hz
  ·exact .inr (e1.live.none (hc2 z hz))
  ·rcases mem_append.mp hz with hz|hz
   ·exact .inr ((e1.trans e2).live.none (hc3 z hz))
   ·exact ea.fresh z hz
end
section
variable{O:Program}{w:World}{U:Heap}{K:Frag}{sc:Scope}{n:Nat}{st:St}
theorem Mu{R as cs:List Addr}{h h':Heap}{a:Addr}{o:Obj}(sub:∀b∈cs,b∈as)(ha:a∈cs)(S:Heap.SameBut a h h')(e:h'.get? a=some o):Mut R as [] cs cs h h':=
 ⟨sub,fun b _ hb e=>(S.2 b fun q=>hb (q▸ha)).trans e,fun b o' e'=>if q:b=a then⟨o,q▸e⟩else⟨o',(S.2 b q).trans e'⟩,fun _ h=>.inl h,Km⟩
@[elab_as_elim] theorem Rel.mutList{motive:Value→Prop}{R as:List Addr}{env:Env}{h:Heap}{x:Str}{v:Value}{ds:List Dat}(r:Rel U R env st as h)(hx:look x st=some (.lst ds))(hv:AF h env x v)
 (c:∀a vs m,h.get? a=some (seqObj "list" vs.toArray m)→FzL (vis R as h) vs ds→(∀{h':Heap}{vs':List Value}{m':Nat}{ds':List Dat},Heap.SameBut a h h'→h'.get? a=some (seqObj "list" vs'.toArray m')→FzL (vis R as h) vs' ds'→
  ∃as',Rel U R env (put x (.lst ds') st) as' h'∧Ah as h as' h')→motive (.ref a)):motive v:=
 Rel.mut (ns:=[]) r hx hv r.locR r.celR fun cs rep sub k=>by
  revert sub k
  exact rep.lstP fun a vs m ho f sub k=>c a vs m ho f fun S e f'=>have M:=Mu (R:=R) sub (.head _) S e;⟨_,k M (.lst e (f'.mono M.vis)),M.step (Ah.refl _ _) Km⟩
theorem FB{h:Heap}{a:Addr}{its:Array Value}{m:Nat}(ho:h.get? a=some (seqObj "list" its m))(f:Array Value→Array Value):∃m',(h.update a (Obj.mapSeq f)).get? a=some (seqObj "list" (f its) m'):=by
 refine⟨if(f its).size==its.size then m else m+1,?_⟩
 refine rr (get?_update_self _ ho rfl) ?_;rfl
set_option tactic.hygienic true in
theorem DP.get{g:BT}{h:Heap}{m:Str→Option Value}{fs:List (Str×Cu)}{cs:List Addr}(x:DP g h m fs cs){f:Str}{d:Dat}(e:fs.lookup f=some (.dat d)):∃v,m f=some v∧Fz g v d:=by
 induction x with
 |nil=>cases e
 |dat e1 fz _ ih=>
  rw[lookup_cons]at e
  split at e
  ·rename_i q;cases e;have:=beq_iff_eq.mp q;subst this;exact⟨_,e1,fz⟩
  ·exact ih e
 |own e1 ho f' _ ih=>
  rw[lookup_cons]at e
  split at e
  ·cases e
  ·exact ih e
set_option tactic.hygienic true in
theorem DP.getOwn{g:BT}{h:Heap}{m:Str→Option Value}{fs:List (Str×Cu)}{cs:List Addr}(x:DP g h m fs cs){f:Str}{i:Addr}{ds:List Dat}(e:fs.lookup f=some (.own i ds)):i∈cs∧m f=some (.ref i)∧∃vs k,h.get? i=some (seqObj "list" vs.toArray k)∧FzL g vs ds:=by
 induction x with
 |nil=>cases e
 |dat e1 fz _ ih=>
  rw[lookup_cons]at e
  split at e
  ·cases e
  ·exact ih e
 |own e1 ho f' _ ih=>
  rw[lookup_cons]at e
  split at e
  ·rename_i q;cases e;have:=beq_iff_eq.mp q;subst this;exact⟨.head _,e1,_,_,ho,f'⟩
  ·obtain⟨a,b⟩:=ih e;exact⟨.tail _ a,b⟩
noncomputable def DC(f:Str)(a:Cu):List (Str×Cu)→List (Str×Cu)
 |[]=>[(f,a)]
 |(y,b)::r=>if f=y then(y,a)::r else(y,b)::DC f a r
set_option tactic.hygienic true in
theorem Js{f y:Str}{a:Cu}:∀{fs:List (Str×Cu)},y∈(DC f a fs).map (·.1)↔y=f∨y∈fs.map (·.1):=by
 intro fs
 induction fs with
 |nil=>
  simp[DC]
 |cons hd r ih=>
  obtain⟨z,b⟩:=hd
  unfold DC
  split
  ·rename_i e;subst e
   simp
  ·simp only[map_cons,mem_cons,ih]
   constructor<;>(rintro(h|h|h)<;>simp[h])
set_option tactic.hygienic true in
theorem NC{f:Str}{a:Cu}:∀{fs:List (Str×Cu)},(fs.map (·.1)).Nodup→((DC f a fs).map (·.1)).Nodup:=by
 intro fs
 induction fs with
 |nil=>
  intro _
  simp[DC]
 |cons hd r ih=>
  obtain⟨z,b⟩:=hd
  intro h
  unfold DC
  split
  ·exact h
  ·rename_i ne
   simp only[map_cons,nodup_cons]at h⊢
   exact⟨fun q=>(Js.mp q).elim (fun q=>ne q.symm) h.1,ih h.2⟩
noncomputable def upd(m:Str→Option Value)(f:Str)(v:Value):Str→Option Value:=fun y=>if y=f then some v else m y
theorem DP.congr{g:BT}{h:Heap}{m m':Str→Option Value}{fs:List (Str×Cu)}{cs:List Addr}(x:DP g h m fs cs)(k:∀y∈fs.map (·.1),m' y=m y):DP g h m' fs cs:=by
 induction x with
 |nil=>exact .nil
 |dat e f _ ih=>exact .dat ((k _ (.head _)).trans e) f (ih fun y hy=>k y (.tail _ hy))
 |own e ho f _ ih=>exact .own ((k _ (.head _)).trans e) ho f (ih fun y hy=>k y (.tail _ hy))
theorem DP.join{g:BT}{h:Heap}{m:Str→Option Value}{fs:List (Str×Cu)}{cs ca:List Addr}{f:Str}{a:Cu}(one:DP g h m [(f,a)] ca)(y:DP g h m fs cs):DP g h m ((f,a)::fs) (ca++cs):=by
 cases one with
 |dat e fz r=>cases r;exact .dat e fz y
 |own e ho fz r=>cases r;exact .own e ho fz y
set_option tactic.hygienic true in
theorem DP.put{g:BT}{h:Heap}{m:Str→Option Value}{fs:List (Str×Cu)}{cs:List Addr}(x:DP g h m fs cs)(nd:(fs.map (·.1)).Nodup){f:Str}{v:Value}{a:Cu}{ca:List Addr}(one:DP g h (upd m f v) [(f,a)] ca):
 ∃cs',(∀b∈cs',b∈ca∨b∈cs)∧(cs.Nodup→ca.Nodup→(∀b∈ca,b∉cs)→cs'.Nodup)∧DP g h (upd m f v) (DC f a fs) cs':=by
 have sing:∀{fs':List (Str×Cu)}{cs'':List Addr},DP g h (upd m f v) fs' cs''→∃cs',(∀b∈cs',b∈ca∨b∈cs'')∧(cs''.Nodup→ca.Nodup→(∀b∈ca,b∉cs'')→cs'.Nodup)∧DP g h (upd m f v) ((f,a)::fs') cs':=fun y=>
  ⟨_,fun _ hb=>mem_append.mp hb,fun q1 q2 q3=>List.nodup_append.mpr ⟨q2,q1,fun b hb c hc e=>q3 b hb (e▸hc)⟩,one.join y⟩
 induction x with
 |nil=>exact sing .nil
 |dat e fz r ih=>
  rename_i y v' d fs cs
  simp only[map_cons,nodup_cons]at nd
  unfold DC
  split
  ·rename_i q;subst q
   exact sing (r.congr (m':=upd m f v) fun z hz=>if_neg (fun q:z=f=>nd.1 (q▸hz)))
  ·rename_i q
   obtain⟨cs',k1,k2,k3⟩:=ih nd.2
   exact⟨cs',k1,k2,.dat (by unfold upd;refine rr (if_neg (fun z=>q z.symm)) ?_;exact e) fz k3⟩
 |own e ho fz r ih=>
  rename_i y i vs k ds fs cs
  simp only[map_cons,nodup_cons]at nd
  unfold DC
  split
  ·rename_i q;subst q
   obtain⟨cs',k1,k2,k3⟩:=sing (r.congr (m':=upd m f v) fun z hz=>if_neg (fun q:z=f=>nd.1 (q▸hz)))
   exact⟨cs',fun b hb=>(k1 b hb).imp id fun q=>.tail _ q,fun q1 q2 q3=>k2 (nodup_cons.mp q1).2 q2 fun b hb z=>q3 b hb (.tail _ z),k3⟩
  ·rename_i q
   obtain⟨cs',k1,k2,k3⟩:=ih nd.2
   refine⟨i::cs',fun b hb=>?_,fun q1 q2 q3=>?_,.own (by unfold upd;refine rr (if_neg (fun z=>q z.symm)) ?_;exact e) ho fz k3⟩
   ·cases hb with
    |head=>exact .inr (.head _)
    |tail _ hb=>exact(k1 b hb).imp id fun q=>.tail _ q
   ·have q1':=nodup_cons.mp q1
    refine nodup_cons.mpr ⟨fun z=>?_,k2 q1'.2 q2 fun b hb z=>q3 b hb (.tail _ z)⟩
    exact(k1 i z).elim (fun z=>q3 i z (.head _)) q1'.1
end
section
variable{O:Program}{w:World}{U:Heap}{K:Frag}{sc:Scope}{n:Nat}{st:St}
set_option tactic.hygienic true in
theorem Jt{o:Obj}{m:Str→Option Value}(x:LCg.NsObj o m)(f:Str):lookIn f o=some (m f):=by
 obtain⟨es,ep,hd,hk,hf⟩:=x
 unfold lookIn
 refine rr hd ?_
 dsimp only
 have e:=hf f
 unfold nsFind findBy at e
 rw[←Array.find?_toList]at e
 split
 ·rename_i en he
  rw[he]at e
  refine rl e ?_;rfl
 ·rename_i he
  rw[he]at e
  have:es.toList.any (·.refKey)=false:=by
   rewrite[List.any_eq_false]
   intro en hen
   obtain⟨nm,t,ek⟩:=hk en (by simpa using hen)
   unfold DictEntry.refKey
   refine rr ek ?_;exact Bool.false_ne_true
  refine rr this (rl e ?_);rfl
structure CE(K:Frag)(C:Addr):Prop where
 get:findIn K (.ref C) "__getattribute__"=some (some (.builtin "object.__getattribute__"))
 geta:findIn K (.ref C) "__getattr__"=some none
 seta:findIn K (.ref C) "__setattr__"=some (some (.builtin "object.__setattr__"))
 over:plainOver K C=true
 dict:hasDictIn K C=true
def BO(K:Frag)(C:Addr)(f:Str):Prop:=findIn K (.ref C) f=some none
theorem Fz.handed{g:BT}{v:Value}{d:Dat}(f:Fz g v d):handedIn v=true:=by cases f<;>rfl
theorem LG{h:Heap}{a C dx:Addr}{o:Obj}(h1:h.get? a=some (instObj C dx))(h2:h.get? dx=some o):InstAt h a (instObj C dx) C (some o):=⟨h1,rfl,rfl,h2⟩
theorem DD{A:Around}{s:Shared}{a dx C:Addr}{o:Obj}{m:Str→Option Value}{f:Str}{v:Value}{Q:Value→Shared→Prop}{E:Value→Shared→Prop}(X:K.In s.heap)(ok:CE K C)(fo:BO K C f)
 (h1:s.heap.get? a=some (instObj C dx)) (h2:s.heap.get? dx=some o) (hn:LCg.NsObj o m) (e:m f=some v) (hh:handedIn v=true) (q:Q v {s with toks:=s.toks+1}):wpAny (model O w) A (getAttr (.ref a) f true) Q E s:=
 get_value X (LG h1 h2) ok.get (findObj_own (attr:=none) ok.dict fo rfl (by rewrite[Jt hn];refine rr e ?_;(with_reducible rfl))) hh q
theorem Al.at(S:Al O K U){R as:List Addr}{env:Env}{h:Heap}(r:Rel U R env st as h):K.In h:=S.X.keeps fun b o e=>(r.base b o e).2.2
inductive Plc where
 |var (x:Str)
 |fld (x f:Str)
inductive PlE:Expr→Plc→Prop
 |var {x:Str}{p:Pos}:PlE (.Name x p) (.var x)
 |fld {x f:Str}{p q:Pos}:PlE (.Attribute (.Name x p) f q) (.fld x f)
noncomputable def CO:Plc→St→Option (List Dat)
 | .var x,st=>match look x st with
  |some (.lst ds)=>some ds
  |_=>none
 | .fld x f,st=>match look x st with
  |some (.obj _ fs)=>(match fs.lookup f with
   |some (.own _ ds)=>some ds
   |_=>none)
  |_=>none
noncomputable def CX:Plc→St→Option Addr
 | .var _,_=>none
 | .fld x f,st=>match look x st with
  |some (.obj _ fs)=>(match fs.lookup f with
   |some (.own i _)=>some i
   |_=>none)
  |_=>none
noncomputable def Xy(ds:List Dat):Plc→St→St
 | .var x,st=>put x (.lst ds) st
 | .fld x f,st=>match look x st with
  |some (.obj C fs)=>(match fs.lookup f with
   |some (.own i _)=>put x (.obj C (DC f (.own i ds) fs)) st
   |_=>st)
  |_=>st
def ZS(K:Frag):Plc→St→Prop
 | .var x,_=>(x==("__debug__":Str))=false∧(x==("__classdict__":Str))=false
 | .fld x f,st=>((x==("__debug__":Str))=false∧(x==("__classdict__":Str))=false)∧∀C fs,look x st=some (.obj C fs)→CE K C∧BO K C f
def PAt(h:Heap)(env:Env)(st:St):Plc→Addr→Prop
 | .var x,a=>AF h env x (.ref a)
 | .fld x f,a=>CX (.fld x f) st=some a∧∃v,AF h env x v
theorem Rel.row{R as:List Addr}{env:Env}{h:Heap}{x:Str}{a:AG}(r:Rel U R env st as h)(hx:look x st=some a):∃v cs,AF h env x v∧Ct (vis R as h) h v a cs∧∀b∈cs,b∈as:=by
 obtain⟨val,ks,hr,_⟩:=r.rows
 exact⟨_,_,hr x a (CA hx)⟩
section
variable{P:Prop}{R as:List Addr}{env:Env}{h:Heap}{x:Str}
theorem Rel.rowP{a:AG}(r:Rel U R env st as h)(hx:look x st=some a)(k:∀v cs,AF h env x v→Ct (vis R as h) h v a cs→(∀b∈cs,b∈as)→P):P:=by
 obtain⟨v,cs,a,b,c⟩:=r.row hx
 exact k v cs a b c
theorem Rel.objP{C:Addr}{fs:List (Str×Cu)}(r:Rel U R env st as h)(hx:look x st=some (.obj C fs))(k:∀a dx o m cs,AF h env x (.ref a)→h.get? a=some (instObj C dx)→h.get? dx=some o→LCg.NsObj o m→DP (vis R as h) h m fs cs→(∀y v,m y=some v→y∈fs.map (·.1))→P):P:=
 r.rowP hx fun v cs hv rep _=>by
  revert hv
  exact rep.objP fun a dx o m cs g1 g2 hn fl _ _ ex hv=>k a dx o m cs hv g1 g2 hn fl ex.1
theorem Rel.lstP{ds:List Dat}(r:Rel U R env st as h)(hx:look x st=some (.lst ds))(k:∀a,AF h env x (.ref a)→P):P:=
 r.rowP hx fun v cs hv rep _=>by
  revert hv
  exact rep.lstP fun a _ _ _ _ hv=>k a hv
theorem Rel.datP{d:Dat}(r:Rel U R env st as h)(hx:look x st=some (.dat d))(k:∀v,AF h env x v→Fz (vis R as h) v d→P):P:=
 r.rowP hx fun v cs hv rep _=>rep.datP fun f=>k v hv f
end
theorem PAt.step{h h':Heap}{env:Env}{st st':St}{pl:Plc}{a:Addr}{as as':List Addr}(x:PAt h env st pl a)(e:Ah as h as' h')(hl:env.locals∉as)(hc:∀y c,env.cells.lookup y=some c→c∉as)(same:CX pl st'=CX pl st):PAt h' env st' pl a:=by
 cases pl with
 |var y=>exact AF.keep x fun b o hb eo=>e.keep b o (hb.elim (fun q=>q▸hl) (by rintro⟨y,q⟩;exact hc y b q)) eo
 |fld y f=>exact⟨same.trans x.1,(by obtain⟨v,hv⟩:=x.2;exact⟨v,AF.keep hv fun b o hb eo=>e.keep b o (hb.elim (fun q=>q▸hl) (by rintro⟨y,q⟩;exact hc y b q)) eo⟩)⟩
set_option tactic.hygienic true in
theorem Kr{x:Str}{ds:List Dat}(e:CO (.var x) st=some ds):look x st=some (.lst ds):=by
 simp only[CO]at e
 split at e
 ·rename_i q;cases e;exact q
 ·cases e
set_option tactic.hygienic true in
theorem Ks{x f:Str}{ds:List Dat}{a:Addr}(e:CO (.fld x f) st=some ds)(ea:CX (.fld x f) st=some a):∃C fs,look x st=some (.obj C fs)∧fs.lookup f=some (.own a ds):=by
 simp only[CO]at e
 simp only[CX]at ea
 split at e
 ·rename_i C fs q
  rw[q]at ea
  dsimp only at ea
  split at e
  ·rename_i i ds' q'
   rw[q']at ea
   cases e;cases ea
   exact⟨C,fs,q,q'⟩
  ·cases e
 ·cases e
theorem Ju{x f:Str}{ds ds':List Dat}{a C:Addr}{fs:List (Str×Cu)}(h1:look x st=some (.obj C fs))(h2:fs.lookup f=some (.own a ds)):Xy ds' (.fld x f) st=put x (.obj C (DC f (.own a ds') fs)) st:=by simp only[Xy,h1,h2]
set_option tactic.hygienic true in
theorem DP.setOwn{g g':BT}{h h':Heap}{m:Str→Option Value}{fs:List (Str×Cu)}{cs:List Addr}(x:DP g h m fs cs){f:Str}{i:Addr}{ds ds':List Dat}(e:fs.lookup f=some (.own i ds))(hnd:cs.Nodup)(kg:∀b o,g b o→g' b o)(keep:∀b∈cs,b≠i→∀o,h.get? b=some o→h'.get? b=some o)
 {vs:List Value}{k:Nat} (ho:h'.get? i=some (seqObj "list" vs.toArray k)) (hf:FzL g' vs ds'):DP g' h' m (DC f (.own i ds') fs) cs:=by
 induction x with
 |nil=>cases e
 |dat e1 fz r ih=>
  rw[lookup_cons]at e
  split at e
  ·cases e
  ·rename_i q
   unfold DC
   refine rr (if_neg (fun z=>by rw[z]at q;simp at q)) ?_
   exact .dat e1 (fz.mono kg) (ih e hnd fun b hb=>keep b hb)
 |own e1 ho1 f1 r ih=>
  rename_i y j ws l es fs' cs'
  have nd:=nodup_cons.mp hnd
  rw[lookup_cons]at e
  split at e
  ·rename_i q
   cases e
   have:=beq_iff_eq.mp q
   subst this
   unfold DC
   refine rr (if_pos rfl) ?_
   exact .own e1 ho hf (r.mono kg fun b hb o eo=>keep b (.tail _ hb) (fun z=>nd.1 (z▸hb)) o eo)
  ·rename_i q
   unfold DC
   refine rr (if_neg (fun z=>by rw[z]at q;simp at q)) ?_
   have ne:j≠i:=fun z=>nd.1 (z▸(r.getOwn e).1)
   exact .own e1 (keep j (.head _) ne _ ho1) (f1.mono kg) (ih e nd.2 fun b hb=>keep b (.tail _ hb))
set_option tactic.hygienic true in
theorem Gk{f:Str}{a b:Cu}:∀{fs:List (Str×Cu)},fs.lookup f=some b→(DC f a fs).map (·.1)=fs.map (·.1):=by
 intro fs
 induction fs with
 |nil=>
  intro h
  cases h
 |cons hd r ih=>
  obtain⟨y,c⟩:=hd
  intro h
  unfold DC
  split
  ·rfl
  ·rename_i ne
   rw[lookup_cons]at h
   split at h
   ·rename_i q;exact absurd (beq_iff_eq.mp q) ne
   ·refine rr map_cons ?_;refine rr map_cons (rr (ih h) ?_);rfl
theorem Rel.mutPl{P:Prop}{R as:List Addr}{env:Env}{h:Heap}{pl:Plc}{a:Addr}{ds:List Dat}(r:Rel U R env st as h)(hx:CO pl st=some ds)(hv:PAt h env st pl a)
 (c:∀vs m,h.get? a=some (seqObj "list" vs.toArray m)→FzL (vis R as h) vs ds→(∀{h':Heap}{vs':List Value}{m':Nat}{ds':List Dat},Heap.SameBut a h h'→h'.get? a=some (seqObj "list" vs'.toArray m')→FzL (vis R as h) vs' ds'→
  ∃as',Rel U R env (Xy ds' pl st) as' h'∧Ah as h as' h')→P):P:=by
 cases pl with
 |var x=>exact Rel.mutList (motive:=fun v=>v=.ref a→P) r (Kr hx) hv (fun a' vs m ho f k e=>by obtain rfl:=Value.ref.inj e;exact c vs m ho f k) rfl
 |fld x f=>
  obtain⟨ha,v,hv⟩:=hv
  obtain⟨C,fs,h1,h2⟩:=Ks hx ha
  refine Rel.mut (ns:=[]) r h1 hv r.locR r.celR fun cs rep sub k=>?_
  clear hv
  revert sub k
  refine rep.objP fun b dx o m cs g1 g2 hn fl nd nf ex sub k=>?_
  obtain⟨hi,em,vs,l,ho,hf⟩:=fl.getOwn h2
  refine c vs l ho hf fun{h' vs' m' ds'} S e f'=>?_
  have nd1:=nodup_cons.mp nd
  have nd2:=nodup_cons.mp nd1.2
  have nb:b≠a:=fun z=>nd1.1 (.tail _ (z▸hi))
  have nx:dx≠a:=fun z=>nd2.1 (z▸hi)
  have M:=Mu (R:=R) sub (.tail _ (.tail _ hi)) S e
  refine rr (Ju h1 h2) ?_
  have names:=Gk (a:=.own a ds') h2
  have len:(DC f (.own a ds') fs).length=fs.length:=by simpa using congrArg List.length names
  exact⟨_,k M (.obj ((S.2 b nb).trans g1) ((S.2 dx nx).trans g2) hn (fl.setOwn h2 nd2.2 M.vis (fun c _ nc o eo=>(S.2 c nc).trans eo) e (f'.mono M.vis)) nd (names.symm▸nf) ⟨fun y v ey=>names.symm▸ex.1 y v ey,fun es ep eo=>len.symm▸ex.2 es ep eo⟩),M.step (Ah.refl _ _) Km⟩
set_option tactic.hygienic true in
theorem Vi(S:Al O K U){pl:Plc}{o:Expr}{ds:List Dat}(hp:PlE o pl)(hx:CO pl st=some ds)(ok:ZS K pl st){A:Around}{env:Env}{R as:List Addr}{s:Shared}{Q:Value→Shared→Prop}(hE:Be sc env)(r:Rel U R env st as s.heap)
 (q:∀a tk,PAt s.heap env st pl a→Q (.ref a) {s with toks:=tk}):wpAny (model O w) A (eval o env) Q (fun _ _=>False) s:=by
 cases hp with
 |var=>exact r.lstP (Kr hx) fun a hv=>CN hE hv (q _ s.toks hv) ok.1 ok.2
 |fld=>
  rename_i x f p p'
  refine rr (arm_eval_Attribute ..) ?_
  obtain⟨a,ea⟩:∃a,CX (.fld x f) st=some a:=by
   simp only[CO]at hx
   simp only[CX]
   split at hx
   ·split at hx
    ·exact⟨_,rfl⟩
    ·cases hx
   ·cases hx
  obtain⟨C,fs,h1,h2⟩:=Ks hx ea
  have ok2:=ok.2 C fs h1
  exact r.objP h1 fun _ _ _ _ _ hv g1 g2 hn fl _=>wpAny_bind (CN hE hv (wpAny_bind (wpAny_standAt (wpAny_bind (wpAny_holding (DD (S.at r) ok2.1 ok2.2 g1 g2 hn (fl.getOwn h2).2.1 rfl (wpAny_bind (wpAny_pure (wpAny_pure (q a _ ⟨ea,_,hv⟩))))))))) ok.1.1 ok.1.2)
theorem OU{pl:Plc}{o:Expr}(hp:PlE o pl)(name:Str)(env:Env):attributeBase o name env (eval o env)=eval o env:=by cases hp<;>rfl
theorem Mv(S:Al O K U){pl:Plc}{o:Expr}{name:Str}{id:String}{ap pos:Pos}{e:Expr}{ds0:List Dat}{Q:EV→St→Prop}(hp:PlE o pl)(h0:CO pl st=some ds0)(ok:ZS K pl st){T:List Dat→Dat→St→Prop}
 (h:Ed O w U sc n e st fun d st1=>CX pl st1=CX pl st∧∃ds,CO pl st1=some ds∧T ds d st1) (slot:Slot "list" name id) (hty:typeOf (.builtin id)=pure (.type "method_descriptor"))
 (step:∀{A:Around}{env:Env}{R as:List Addr}{s:Shared}{a:Addr}{vs:List Value}{m:Nat}{u:Value}{ds:List Dat}{d:Dat}{st1:St},CU A n→Rel U R env st1 as s.heap→s.heap.get? a=some (seqObj "list" vs.toArray m)→FzL (vis R as s.heap) vs ds→Fz (vis R as s.heap) u d→
  (∀{h':Heap}{vs':List Value}{m':Nat}{ds':List Dat},Heap.SameBut a s.heap h'→h'.get? a=some (seqObj "list" vs'.toArray m')→FzL (vis R as s.heap) vs' ds'→∃as',Rel U R env (Xy ds' pl st1) as' h'∧Ah as s.heap as' h')→T ds d st1→
  wpAny (model O w) A (call (.builtin id) [.ref a,u]) (PE U R env as s Q) (fun _ _=>False) s)
 (hfew:∀env,((backTo pos (starEach [e] env)).all (fun x=>!x.1)&&(backToKw pos (keywordEach [] env)).all (fun x=>x.1.isSome)
  &&decide ([e].length+([]:List Keyword).length+(if([]:List Keyword).isEmpty then 0 else 1)<30))=true)
 (hline:(ap.endLine==pos.line)=true) (hs:∀env,starEach [e] env=(false,eval e env)::starEach [] env):
 Ev O w U sc n (.Call (.Attribute o name ap) [e] [] pos) st Q:=by
 intro A env R as s hR hE r
 refine PySem.wpAny_Call_method (OU hp name env) (hfew env) hline PySem.F.plainAttrs_list slot hty ?_
 refine Vi S hp h0 ok hE r fun a tk pa=>?_
 refine r.mutPl h0 pa fun vs m ho f0 _=>?_
 refine⟨⟨_,ho,rfl⟩,(fun _ q=>by cases q;exact⟨_,ho,rfl⟩),PyProof.Rows.callWith_method1 ?_ (hs env)⟩
 refine wpAny_items_cons (h.go (s:={s with toks:=tk}) hR hE r fun u d st1 as1 g1 t1 e1 r1 f1 qq=>wpAny_items_nil ?_) (hs env)
 refine r1.mutPl qq.2.choose_spec.1 (pa.step e1 r.locA r.celA qq.1) fun vs1 m1 ho1 fs1 k=>?_
 exact wpAny_mono (step (s:={s with heap:=g1,toks:=t1}) hR r1 ho1 fs1 f1 k qq.2.choose_spec.2) (fun v s' p=>PE.after (s:=s) (t1:=t1) e1 p) fun _ _ x=>x
theorem Kt(S:Al O K U){pl:Plc}{o:Expr}{ap pos:Pos}{e:Expr}{ds0:List Dat}{Q:EV→St→Prop}(h0:CO pl st=some ds0)(ok:ZS K pl st)
 (h:Ed O w U sc n e st fun d st1=>CX pl st1=CX pl st∧∃ds,CO pl st1=some ds∧ds.length+1≤sizeLine∧Q (.dat .none) (Xy (ds++[d]) pl st1)) (hp:autoParam (PlE o pl) au.a7._auto_1)
 (hfew:autoParam (∀env,((backTo pos (starEach [e] env)).all (fun x=>!x.1)&&(backToKw pos (keywordEach [] env)).all (fun x=>x.1.isSome)
  &&decide ([e].length+([]:List Keyword).length+(if([]:List Keyword).isEmpty then 0 else 1)<30))=true) au.a1._auto_1)
 (hline:autoParam ((ap.endLine==pos.line)=true) au.a3._auto_1) (h1:autoParam (∀env,starEach [e] env=(false,eval e env)::starEach [] env) au.a1._auto_1):
 Ev O w U sc n (.Call (.Attribute o "append" ap) [e] [] pos) st Q:=by
 refine Mv S hp h0 ok h PySem.F.slot_list_append PySem.F.type_list_append ?_ hfew hline h1
 intro A env R as s a vs m u ds d st1 hR r ho f fu k ⟨hz,q⟩
 have hl:vs.length=ds.length:=f.length
 obtain⟨m',e'⟩:=FB ho (fun xs=>xs.push u)
 have e2:(vs.toArray.push u)=(vs++[u]).toArray:=by simp
 rw[e2]at e'
 obtain⟨as',r2,e3⟩:=k (Heap.SameBut.update ..) e' (f.snoc fu)
 refine call_meets PySem.F.slot_list_append ⟨_,ho,rfl⟩ PySem.F.entry_list_append (PySem.F.args_list_append_2 _ _) (PySem.list_append a vs.toArray m u (by refine rr size_toArray (rr hl ?_);exact Ac hz)) ⟨ho,?_⟩
 exact PE.after (s:=s) (t1:=s.toks) e3 (PE.grown (s:={s with heap:=_}) (t1:=s.toks) r2 rfl (fun _ _ e=>e) .none q)
theorem Ku(S:Al O K U){pl:Plc}{o:Expr}{ap pos:Pos}{e:Expr}{ds0:List Dat}{Q:EV→St→Prop}(h0:CO pl st=some ds0)(ok:ZS K pl st)
 (h:Ed O w U sc n e st fun d st1=>CX pl st1=CX pl st∧∃ds,CO pl st1=some ds∧∃es,d=.list es∧ds.length+es.length≤sizeLine∧Q (.dat .none) (Xy (ds++es) pl st1)) (hp:autoParam (PlE o pl) au.a7._auto_1)
 (hfew:autoParam (∀env,((backTo pos (starEach [e] env)).all (fun x=>!x.1)&&(backToKw pos (keywordEach [] env)).all (fun x=>x.1.isSome)
  &&decide ([e].length+([]:List Keyword).length+(if([]:List Keyword).isEmpty then 0 else 1)<30))=true) au.a1._auto_1)
 (hline:autoParam ((ap.endLine==pos.line)=true) au.a3._auto_1) (h1:autoParam (∀env,starEach [e] env=(false,eval e env)::starEach [] env) au.a1._auto_1):
 Ev O w U sc n (.Call (.Attribute o "extend" ap) [e] [] pos) st Q:=by
 refine Mv S hp h0 ok h PySem.F.slot_list_extend PySem.F.type_list_extend ?_ hfew hline h1
 intro A env R as s a vs m u ds d st1 hR r ho f fu k ⟨es,ed,hz,q⟩
 subst ed
 refine fu.listP fun b ws l hb fb=>?_
 ·
  have hl:vs.length=ds.length:=f.length
  have hl2:ws.length=es.length:=fb.length
  have hz':vs.toArray.size+ws.toArray.size≤sizeLine:=by refine rr size_toArray (rr size_toArray ?_);refine rr hl (rr hl2 ?_);exact hz
  obtain⟨m',e'⟩:=FB ho (fun xs=>xs++ws.toArray)
  have e2:(vs.toArray++ws.toArray)=(vs++ws).toArray:=by simp
  rw[e2]at e'
  obtain⟨as',r2,e3⟩:=k (Heap.SameBut.update ..) e' (f.append fb)
  refine call_meets PySem.F.slot_list_extend ⟨_,ho,rfl⟩ PySem.F.entry_list_extend (PySem.F.args_list_extend_2 _ _) (PySem.AutoSeq1.list_extend_list_list_0 a vs.toArray m b ws.toArray l (extend_door hz') (le_trans (le_add_right _ _) hz')) ⟨ho,hb.2.2,?_⟩
  exact PE.after (s:=s) (t1:=s.toks) e3 (PE.grown (s:={s with heap:=_}) (t1:=s.toks) r2 rfl (fun _ _ e=>e) .none q)
theorem Ue(S:Al O K U){x:Str}{p ap pos:Pos}{ds:List Dat}{d:Dat}{Q:EV→St→Prop}(h0:look x st=some (.lst (ds++[d])))(hz:ds.length+1≤sizeLine)(q:Q (.dat d) (put x (.lst ds) st))
 (hfew:autoParam (∀env,((backTo pos (starEach [] env)).all (fun x=>!x.1)&&(backToKw pos (keywordEach [] env)).all (fun x=>x.1.isSome)
  &&decide (([]:List Expr).length+([]:List Keyword).length+(if([]:List Keyword).isEmpty then 0 else 1)<30))=true) au.a1._auto_1)
 (hline:autoParam ((ap.endLine==pos.line)=true) au.a3._auto_1) (hd:autoParam ((x==("__debug__":Str))=false) au.a2._auto_1) (hc:autoParam ((x==("__classdict__":Str))=false) au.a2._auto_1):
 Ev O w U sc n (.Call (.Attribute (.Name x p) "pop" ap) [] [] pos) st Q:=by
 intro A env R as s hR hE r
 refine PySem.wpAny_Call_method rfl (hfew env) hline PySem.F.plainAttrs_list PySem.F.slot_list_pop PySem.F.type_list_pop ?_
 have h0':CO (.var x) st=some (ds++[d]):=by simp[CO,h0]
 refine Vi S (.var (p:=p)) h0' ⟨hd,hc⟩ hE r fun a tk pa=>?_
 refine r.mutPl h0' pa fun vs m ho f0 k=>?_
 refine⟨⟨_,ho,rfl⟩,(fun _ q=>by cases q;exact⟨_,ho,rfl⟩),PyProof.Rows.callWith_method0 ?_⟩
 have hl:vs.length=ds.length+1:=by refine rr f0.length ?_;simp
 obtain⟨y,hy,fy⟩:=f0.get (k:=ds.length) (d:=d) (by simp)
 obtain⟨m',e'⟩:=FB ho (fun xs=>xs.eraseIdxIfInBounds (vs.toArray.size-1))
 have e2:vs.toArray.eraseIdxIfInBounds (vs.toArray.size-1)=(vs.take ds.length).toArray:=by
  apply toList_inj.mp
  refine rr size_toArray ?_;refine rr hl (rr (Nat.add_sub_cancel ..) ?_)
  simp only[Array.eraseIdxIfInBounds]
  refine rr (dif_pos (by refine rr size_toArray ?_;exact Ac (le_of_eq hl.symm))) ?_
  simp only[Array.toList_eraseIdx]
  refine rr (List.eraseIdx_eq_take_drop_succ ..) ?_;refine rr (List.drop_eq_nil_of_le (by exact Ac (le_of_eq hl))) (rr (append_nil ..) ?_);rfl
 rw[e2]at e'
 obtain⟨as',r2,e3⟩:=k (ds':=ds) (Heap.SameBut.update ..) e' (by have:=f0.take ds.length;simpa using this)
 refine call_meets (s:={s with toks:=tk}) PySem.F.slot_list_pop ⟨_,ho,rfl⟩ PySem.F.entry_list_pop (PySem.F.args_list_pop_1 _) (PySem.MeetsSeq.list_pop_last a vs.toArray m y (by refine rr size_toArray ?_;refine rr hl (rr (Nat.add_sub_cancel ..) ?_);simpa using hy) (by refine rr size_toArray (rr hl ?_);exact(Ac hz))) ⟨ho,?_⟩
 exact PE.after (s:=s) (t1:=tk) e3 (PE.grown (s:={s with heap:=_,toks:=tk}) (t1:=tk) r2 rfl (fun _ _ e=>e) (fy.mono e3.vis) q)
end
section
variable{O:Program}{w:World}{U:Heap}{K:Frag}{sc:Scope}{n:Nat}{st:St}
theorem Jv{A:Around}{E:Value→Shared→Prop}{s:Shared}{l:Addr}{items:Array Value}{m:Nat}{k:Int}{t:Tok}{v:Value}{Q:Unit→Shared→Prop}(ho:s.heap.get? l=some (seqObj "list" items m))
 (h0:0≤k) (hfit:k<2^63) (hn:k<items.size) (hQ:Q () {s with heap:=s.heap.update l (Obj.mapSeq (·.setIfInBounds k.toNat v))}):wpAny (model O w) A (setItem (.ref l) (.int k t) v) Q E s:=by
 have hl:s.heap.IsList l items:=⟨_,ho,rfl,_,rfl⟩
 unfold setItem
 refine wpAny_holding ?_
 refine wpAny_bind (wpAny_sequenceKey hl.typeIs (by decide) ?_)
 refine wpAny_bind (wpAny_callSpecial?_slot (name:=Str.ofString "__setitem__") hl.typeIs slot_list_setitem
  (wpAny_call_entry slot_list_setitem hl.typeIs entry_list_setitem ?_ (args_list_setitem _ _ _)))
 show wpAny _ _ (Builtin.List.listSubscript? (.int k t)>>=_) _ _ s
 refine wpAny_bind (wpAny_listSubscript_int (fitsIndex_of h0 hfit) ?_)
 clear hfit
 obtain⟨j,rfl⟩:=Int.eq_ofNat_of_zero_le h0
 have hj:j<items.size:=by exact(Ac (ofNat_lt.mp hn))
 rw[toNat_natCast]at hQ
 have hx':items[j]?=some items[j]:=Array.getElem?_eq_getElem hj
 show wpAny _ _ ((seqItemAt l j>>=fun r=>pure (r.map (j,·)))>>=_) _ _ s
 refine wpAny_bind (wpAny_bind (wpAny_seqItemAt ho rfl (wpAny_pure ?_)))
 refine rr hx' ?_
 show wpAny _ _ (setSeqItemAt l j v>>=_) _ _ s
 refine wpAny_bind (wpAny_setSeqItemAt ho rfl ?_)
 first
  |exact wpAny_bind (wpAny_pure (wpAny_pure ⟨.none,rfl,wpAny_pure hQ⟩))
  |exact wpAny_pure ⟨.none,rfl,wpAny_pure hQ⟩
theorem ND{A:Around}{E:Value→Shared→Prop}{s:Shared}{l:Addr}{vs:List Value}{m j:Nat}{t:Tok}{v:Value}{Q:Unit→Shared→Prop}(ho:s.heap.get? l=some (seqObj "list" vs.toArray m))
 (hfit:(j:Int)<2^63) (hj:j<vs.length) (hQ:∀h' m',h'.get? l=some (seqObj "list" (vs.set j v).toArray m')→Heap.SameBut l s.heap h'→Q () {s with heap:=h'}):wpAny (model O w) A (setItem (.ref l) (.int (j:Int) t) v) Q E s:=by
 obtain⟨m',e'⟩:=FB ho (·.setIfInBounds j v)
 have e2:vs.toArray.setIfInBounds j v=(vs.set j v).toArray:=by simp
 refine Jv ho (natCast_nonneg j) hfit (by simpa using hj) ?_
 refine rr (toNat_natCast ..) ?_
 refine hQ _ m' ?_ (Heap.SameBut.update ..)
 refine rl e2 ?_;exact e'
theorem IJ(S:Al O K U){x:Str}{p ip tp pos:Pos}{k:Nat}{j:Nat}{e:Expr}{Q:Fl→St→Prop}
 (h:Ed O w U sc n e st fun d st1=>∃ds,look x st1=some (.lst ds)∧j<ds.length∧(j:Int)<2^63∧Q .next (put x (.lst (ds.set j d)) st1))
 (hd:autoParam ((x==("__debug__":Str))=false) au.a2._auto_1) (hc:autoParam ((x==("__classdict__":Str))=false) au.a2._auto_1)
 (hw:autoParam (∀env,swapsWith e (some (.Subscript (.Name x p) (.Constant (.int j) k ip) tp)) pos.line env=pure false) au.a1._auto_1):
 Sx O w U sc n (.Assign [.Subscript (.Name x p) (.Constant (.int j) k ip) tp] e pos) st Q:=by
 intro A env R as s hR hE r
 refine wpAny_Assign_Subscript (h.go hR hE r fun v d st1 as1 h1 t1 e1 r1 f1 qq=>?_) (hw env)
 obtain⟨ds,hx,hj,hf,q⟩:=qq
 have h0':CO (.var x) st1=some ds:=by simp[CO,hx]
 refine Vi S (.var (p:=p)) h0' ⟨hd,hc⟩ hE r1 fun a tk pa=>?_
 refine wpAny_Constant_int ?_
 refine r1.mutPl h0' pa fun vs m ho f0 kk=>?_
 refine ND ho hf (by refine rr f0.length ?_;exact hj) fun h' m' e' sb=>?_
 obtain⟨as',r2,e3⟩:=kk sb e' (f0.set f1 j)
 exact⟨.next,_,as',h',_,rfl,(e1.trans e3).toS,r2,trivial,q⟩
noncomputable def NE(x f:Str)(st:St):Option (Addr×Dat):=match look x st with
 |some (.dat (.inst C fs))=>(fs.lookup f).map fun d=>(C,d)
 |some (.obj C fs)=>(match fs.lookup f with
  |some (.dat d)=>some (C,d)
  |_=>none)
 |_=>none
set_option tactic.hygienic true in
theorem LH{x f:Str}{C:Addr}{d:Dat}(e:NE x f st=some (C,d)):(∃fs,look x st=some (.dat (.inst C fs))∧fs.lookup f=some d)∨(∃fs,look x st=some (.obj C fs)∧fs.lookup f=some (.dat d)):=by
 unfold NE at e
 split at e
 ·rename_i C' fs q
  obtain⟨d',e1,e2⟩:=map_eq_some_iff.mp e
  cases e2
  exact .inl ⟨fs,q,e1⟩
 ·rename_i C' fs q
  split at e
  ·rename_i q';cases e;exact .inr ⟨fs,q,q'⟩
  ·cases e
 ·cases e
theorem Ya(S:Al O K U){x f:Str}{p ap:Pos}{C:Addr}{d:Dat}(e:NE x f st=some (C,d))(ok:CE K C)(fo:BO K C f){A:Around}{env:Env}{R as:List Addr}{s:Shared}{Q:Value→Shared→Prop}(hE:Be sc env)(r:Rel U R env st as s.heap)
 (q:∀v tk,Fz (vis R as s.heap) v d→Q v {s with toks:=tk}) (hd:(x==("__debug__":Str))=false) (hc:(x==("__classdict__":Str))=false):wpAny (model O w) A (eval (.Attribute (.Name x p) f ap) env) Q (fun _ _=>False) s:=by
 refine rr (arm_eval_Attribute ..) ?_
 rcases LH e with⟨fs,h1,h2⟩|⟨fs,h1,h2⟩
 ·refine r.datP h1 fun v hv fz=>?_
  revert hv
  refine fz.instP fun a dx o m g1 g2 hn ff _ hv=>?_
  obtain⟨u,eu,fu⟩:=ff.get h2
  exact wpAny_bind (CN hE hv (wpAny_bind (wpAny_standAt (wpAny_bind (wpAny_holding (DD (S.at r) ok fo g1.2.2 g2.2.2 hn eu fu.handed (wpAny_bind (wpAny_pure (wpAny_pure (q u _ fu))))))))) hd hc)
 ·refine r.objP h1 fun a dx o m cs hv g1 g2 hn fl _=>?_
  obtain⟨u,eu,fu⟩:=fl.get h2
  exact wpAny_bind (CN hE hv (wpAny_bind (wpAny_standAt (wpAny_bind (wpAny_holding (DD (S.at r) ok fo g1 g2 hn eu fu.handed (wpAny_bind (wpAny_pure (wpAny_pure (q u _ fu))))))))) hd hc)
theorem Vj(S:Al O K U){x f:Str}{p ap:Pos}{C:Addr}{d:Dat}{Q:EV→St→Prop}(e:NE x f st=some (C,d))(ok:CE K C)(fo:BO K C f)(q:Q (.dat d) st)
 (hd:autoParam ((x==("__debug__":Str))=false) au.a2._auto_1) (hc:autoParam ((x==("__classdict__":Str))=false) au.a2._auto_1):Ev O w U sc n (.Attribute (.Name x p) f ap) st Q:=by
 intro A env R as s _ hE r
 exact Ya S e ok fo hE r (fun v tk fz=>PE.grown (t1:=tk) r rfl (fun _ _ e=>e) fz q) hd hc
set_option tactic.hygienic true in
theorem RJ{f:Str}{i:Addr}{ds:List Dat}:∀{fs:List (Str×Cu)},fs.lookup f=some (.own i ds)→(fs.map UX).lookup f=some (.list ds):=by
 intro fs
 induction fs with
 |nil=>
  intro z0
  cases z0
 |cons hd fs ih=>
  obtain⟨y,b⟩:=hd
  intro e
  rw[lookup_cons]at e
  split at e
  ·rename_i q;cases e;simp only[map_cons,UX,lookup_cons,q]
  ·rename_i q
   have:=ih e
   cases b<;>simp only[map_cons,UX,lookup_cons,q,this]
theorem LI{C C' dx dx':Addr}(h:instObj C dx=instObj C' dx'):dx=dx':=by cases h;rfl
theorem Yb{g:BT}{h:Heap}(kg:∀b o,g b o→h.get? b=some o){v:Value}{a dx C i:Addr}{o:Obj}{m:Str→Option Value}{fs:List (Str×Cu)}{f:Str}{ds:List Dat}(g1:h.get? a=some (instObj C dx))(g2:h.get? dx=some o)(hn:LCg.NsObj o m)(em:m f=some (.ref i))(h2:fs.lookup f=some (.own i ds))
 (e:v=.ref a) (fz:Fz g v (.inst C (fs.map UX))):Fz g (.ref i) (.list ds):=by
 revert e
 refine fz.instP fun a' dx' o' m' k1 k2 kn ff _ e=>?_
 obtain rfl:=Value.ref.inj e
 obtain rfl:=LI (Option.some.inj (g1.symm.trans (kg _ _ k1)))
 obtain rfl:=Option.some.inj (g2.symm.trans (kg _ _ k2))
 obtain⟨u,eu,fu⟩:=ff.get (RJ h2)
 have:=(Jt hn f).symm.trans (Jt kn f)
 exact Option.some.inj (em.symm.trans ((Option.some.inj this).trans eu))▸fu
theorem Kv(S:Al O K U){x f:Str}{p ap:Pos}{C i:Addr}{fs:List (Str×Cu)}{ds:List Dat}{Q:EV→St→Prop}(h1:look x st=some (.obj C fs))(h2:fs.lookup f=some (.own i ds))(ok:CE K C)(fo:BO K C f)
 (q:Q (.dat (.list ds)) (put x (.dat (GH (.obj C fs))) st))
 (hd:autoParam ((x==("__debug__":Str))=false) au.a2._auto_1) (hc:autoParam ((x==("__classdict__":Str))=false) au.a2._auto_1):Ev O w U sc n (.Attribute (.Name x p) f ap) st Q:=by
 intro A env R as s _ hE r
 refine rr (arm_eval_Attribute ..) ?_
 refine r.objP h1 fun a dx o m cs hv g1 g2 hn fl _=>?_
 obtain⟨as',sub',r',fz⟩:=r.freeze (a:=.own x) (d:=GH (.obj C fs)) (st':=put x (.dat (GH (.obj C fs))) st) hv (by simp[frz,h1])
 have em:=(fl.getOwn h2).2.1
 exact wpAny_bind (CN hE hv (wpAny_bind (wpAny_standAt (wpAny_bind (wpAny_holding (DD (S.at r) ok fo g1 g2 hn em rfl
  (wpAny_bind (wpAny_pure (wpAny_pure (PE.after (s:=s) (t1:=s.toks+1) (Ah.less sub') (PE.grown (s:={s with toks:=s.toks+1}) (t1:=s.toks+1) r' rfl (fun _ _ e=>e) (Yb BI g1 g2 hn em h2 rfl fz) q)))))))))) hd hc)
end
section
variable{O:Program}{w:World}{U:Heap}{K:Frag}{sc:Scope}{n:Nat}{st:St}
theorem NF{o:Obj}{m:Str→Option Value}(hn:LCg.NsObj o m)(f:Str)(hash:Int)(t:Tok)(v:Value){k:Nat}(hz:∀es ep,o.data=.dict es ep→es.size≤k):
 (Obj.putName f hash (.str f t) v o).isFreed=false∧LCg.NsObj (Obj.putName f hash (.str f t) v o) (upd m f v)∧∀es ep,(Obj.putName f hash (.str f t) v o).data=.dict es ep→es.size≤k+(if(m f).isSome then 0 else 1):=by
 obtain⟨es,ep,hd,hk,hm⟩:=hn
 have hz':=hz es ep hd
 obtain⟨c,d,dt,sl⟩:=o
 dsimp only at hd
 subst hd
 cases hi:es.findIdx? (·.key.isStr f)with
 |some i=>
  have e:Obj.putName f hash (.str f t) v ⟨c,d,.dict es ep,sl⟩=⟨c,d,.dict (es.modify i fun e=>{e with val:=v}) ep,sl⟩:=by simp only[Obj.putName_eq,Obj.putNameByArray,hi]
  refine rr e ?_
  refine⟨rfl,⟨_,_,rfl,hk.modify _ _,fun x=>?_⟩,fun es' ep' q=>?_⟩
  ·show _=if x=f then some v else m x
   refine rl (hm ..) ?_;exact findBy_modify (fun n v=>v.isStr n) Value.isStr_inj es f x v i hi
  ·cases q;refine rr Array.size_modify ?_;exact Ac hz'
 |none=>
  have e:Obj.putName f hash (.str f t) v ⟨c,d,.dict es ep,sl⟩=⟨c,d,.dict (es.push ⟨hash,.str f t,v⟩) (ep+1),sl⟩:=by simp only[Obj.putName_eq,Obj.putNameByArray,hi]
  have mf:m f=none:=by
   refine rl (hm ..) ?_
   unfold nsFind findBy
   have:es.find? (fun e=>e.key.isStr f)=none:=by
    rewrite[Array.find?_eq_none]
    rw[Array.findIdx?_eq_none_iff]at hi
    intro x hx;simpa using hi x hx
   refine rr this ?_;rfl
  refine rr e ?_
  refine⟨rfl,⟨_,_,rfl,hk.push _ _ _ _,fun x=>?_⟩,fun es' ep' q=>?_⟩
  ·show _=if x=f then some v else m x
   refine rl (hm ..) ?_
   exact findBy_push (fun n v=>v.isStr n) es f x _ _ v (fun y=>by
    show(f==y)=decide (y=f)
    by_cases h:y=f
    ·subst h;simp
    ·have:¬f=y:=fun e=>h e.symm
     simp[h,this]) hi
  ·cases q;refine rr (Array.size_push ..) (rr mf ?_);simp;exact(Ac hz')
theorem IK{A:Around}{E:Value→Shared→Prop}{s:Shared}{a dx C:Addr}{o:Obj}{m:Str→Option Value}{f:Str}{v:Value}{k:Nat}{Q:Unit→Shared→Prop}(X:K.In s.heap)(ok:CE K C)(fo:BO K C f)
 (h1:s.heap.get? a=some (instObj C dx)) (h2:s.heap.get? dx=some o) (hn:LCg.NsObj o m) (hz:∀es ep,o.data=.dict es ep→es.size≤k) (hk:k≤1000)
 (h:∀h' tk o',h'.get? dx=some o'→LCg.NsObj o' (upd m f v)→(∀es ep,o'.data=.dict es ep→es.size≤k+(if(m f).isSome then 0 else 1))→Heap.SameBut dx s.heap h'→Q () {s with heap:=h',toks:=tk}):
 wpAny (model O w) A (setAttr (.ref a) f v) Q E s:=by
 have I:=LG h1 h2
 have ht:takerIn K C f=some none:=by unfold takerIn;refine rr (show findIn K (.ref C) f=some none from fo) ?_;rfl
 refine set_plain X I ok.seta (osa_open (s:={s with toks:=s.toks+1}) X I ok.over ht fun b=>?_)
 obtain⟨cd,hc,hd'⟩:=any_some ok.dict
 refine wpAny_bind (wpAny_pure (wpAny_bind (wpAny_bind (wpAny_loadPart h1 (wpAny_bind (Looks.here (s:={s with toks:=s.toks+1}) (looks_clsIn X hc) ?_))))))
 refine rr hd' ?_
 refine wpAny_pure (a:=some dx) (wpAny_bind (wpAny_pure (wpAny_bind ?_)))
 unfold nsSet
 refine wpAny_bind (wpAny_bind (wpAny_askSetting (wpAny_pure (wpAny_bind (wpAny_mkText (wpAny_bind (wpAny_loadPart h2 ?_)))))))
 obtain⟨p1,p2,p3⟩:=NF hn f (PyData.keyHash w.params f) (s.toks+1) v hz
 obtain⟨es,ep,hd,hks,hm⟩:=id hn
 refine rr hd ?_
 dsimp only
 have hany:es.any (·.refKey)=false:=by
  rewrite[Array.any_eq_false'];intro e he;obtain⟨n,t,h⟩:=hks e he;simp[DictEntry.refKey,h]
 refine rr (aRefKeyMayBeTheName_at ..) ?_;refine rr hany (rr (Bool.and_false ..) ?_)
 refine wpAny_updatePart h2 ?_
 have h2':=get?_update_self (Obj.putName f (PyData.keyHash w.params f) (.str f (s.toks+1)) v) h2 p1
 refine wpAny_bind (wpAny_lookBehind h2' ?_ ?_)
 ·obtain⟨es',ep',hd2,_⟩:=p2
  refine rr hd2 ?_
  have:=p3 es' ep' hd2
  exact pastItsLine_dict (by refine rr sizeLine_eq ?_;split at this<;>exact(BM hk this))
 ·exact wpAny_pure (h _ _ _ h2' p2 p3 (Heap.SameBut.update ..))
theorem DP.has{g:BT}{h:Heap}{m:Str→Option Value}{fs:List (Str×Cu)}{cs:List Addr}(x:DP g h m fs cs):∀y∈fs.map (·.1),(m y).isSome=true:=by
 induction x with
 |nil=>intro y hy;cases hy
 |dat e _ _ ih=>intro y hy;cases hy with|head=>refine rr e ?_;rfl|tail _ hy=>exact ih y hy
 |own e _ _ _ ih=>intro y hy;cases hy with|head=>refine rr e ?_;rfl|tail _ hy=>exact ih y hy
set_option tactic.hygienic true in
theorem Mw{f:Str}{a:Cu}:∀{fs:List (Str×Cu)},(f∈fs.map (·.1)→(DC f a fs).length=fs.length)∧(f∉fs.map (·.1)→(DC f a fs).length=fs.length+1):=by
 intro fs
 induction fs with
 |nil=>
  exact⟨(fun h=>nomatch h),fun _=>rfl⟩
 |cons hd r ih=>
  obtain⟨y,b⟩:=hd
  have ih:=ih
  unfold DC
  split
  ·rename_i e;subst e;exact⟨fun _=>rfl,fun q=>absurd (.head _) q⟩
  ·rename_i ne
   refine⟨fun q=>?_,fun q=>?_⟩
   ·cases q with
    |head=>exact absurd rfl ne
    |tail _ q=>simp only[length_cons,ih.1 q]
   ·simp only[length_cons,ih.2 fun z=>q (.tail _ z)]
@[elab_as_elim] theorem Rel.setFld{motive:Value→Prop}{R as ns:List Addr}{env:Env}{h:Heap}{x:Str}{v:Value}{C:Addr}{fs:List (Str×Cu)}(r:Rel U (ns++R) env st as h)(hx:look x st=some (.obj C fs))(hv:AF h env x v)(hl:env.locals∈R)(hc:∀x c,env.cells.lookup x=some c→c∈R)(off:∀b∈ns,b∉R)(hnd:ns.Nodup)(f:Str)
 (c:∀a dx o m,h.get? a=some (instObj C dx)→h.get? dx=some o→LCg.NsObj o m→(∀es ep,o.data=.dict es ep→es.size≤fs.length)→(∀{h':Heap}{u:Value}{b:Cu}{o':Obj},Heap.SameBut dx h h'→h'.get? dx=some o'→LCg.NsObj o' (upd m f u)→
  (∀es ep,o'.data=.dict es ep→es.size≤fs.length+(if(m f).isSome then 0 else 1))→DP (vis (ns++R) as h) h (upd m f u) [(f,b)] ns→
  ∃cs cs',Mut R as ns cs cs' h h'∧Rel U R env (put x (.obj C (DC f b fs)) st) (swp cs cs' as) h')→motive (.ref a)):motive v:=by
 refine Rel.mut r hx hv hl hc fun cs rep sub k=>?_
 clear hv
 revert sub k
 refine rep.objP fun a dx o m cs g1 g2 hn fl nd nf ex sub k=>?_
 ·
  refine c a dx o m g1 g2 hn ex.2 fun{h' u b o'} S ho' hno' hz' one=>?_
  have nd1:=nodup_cons.mp nd
  have nd2:=nodup_cons.mp nd1.2
  obtain⟨cs1,k1,k2,k3⟩:=fl.put nf one
  have nsas:∀c∈ns,c∉as:=fun c hc=>r.sep c (mem_append_left _ hc)
  have M:Mut R as ns (a::dx::cs) (a::dx::cs1) h h':=by
   refine⟨sub,fun c o hcs e=>(S.2 c fun q=>hcs (q▸ .tail _ (.head _))).trans e,fun c o e=>if q:c=dx then⟨o',q▸ho'⟩else⟨o,(S.2 c q).trans e⟩,fun c hcs=>?_,off⟩
   cases hcs with
   |head=>exact .inl (.head _)
   |tail _ hcs=>cases hcs with
    |head=>exact .inl (.tail _ (.head _))
    |tail _ hcs=>exact(k1 c hcs).symm.imp (fun q=>.tail _ (.tail _ q)) .inl
  refine⟨_,_,M,k M ?_⟩
  have ndx:∀c∈cs1,c≠dx:=fun c hcs q=>(k1 c hcs).elim (fun z=>nsas dx (q▸z) (sub dx (.tail _ (.head _)))) fun z=>nd2.1 (q▸z)
  refine .obj ((S.2 a fun q=>nd1.1 (q▸ .head _)).trans g1) ho' hno' (k3.mono M.vis fun c hcs o e=>(S.2 c (ndx c hcs)).trans e) ?_ (NC nf) ⟨fun y v ey=>?_,fun es ep eo=>?_⟩
  ·refine nodup_cons.mpr ⟨fun q=>?_,nodup_cons.mpr ⟨fun q=>ndx dx q rfl,k2 nd2.2 hnd fun c hc q=>nsas c hc (sub c (.tail _ (.tail _ q)))⟩⟩
   cases q with
   |head=>exact nd1.1 (.head _)
   |tail _ q=>exact(k1 a q).elim (fun z=>nsas a z (sub a (.head _))) fun z=>nd1.1 (.tail _ z)
  ·unfold upd at ey
   split at ey
   ·rename_i q;exact Js.mpr (.inl q)
   ·exact Js.mpr (.inr (ex.1 y v ey))
  ·have:=hz' es ep eo
   by_cases hf:f∈fs.map (·.1)
   ·refine rr (Mw.1 hf) ?_;rw[if_pos (fl.has f hf)]at this;exact this
   ·refine rr (Mw.2 hf) ?_;split at this<;>exact(Ac this)
theorem Uf{x:Str}{p:Pos}{C:Addr}{fs:List (Str×Cu)}(h1:look x st=some (.obj C fs)){A:Around}{env:Env}{R as:List Addr}{s:Shared}{Q:Value→Shared→Prop}(hE:Be sc env)(r:Rel U R env st as s.heap)
 (q:∀v,AF s.heap env x v→Q v s) (hd:(x==("__debug__":Str))=false) (hc:(x==("__classdict__":Str))=false):wpAny (model O w) A (eval (.Name x p) env) Q (fun _ _=>False) s:=by
 exact r.rowP h1 fun v cs hv _ _=>CN hE hv (q v hv) hd hc
theorem Ug(S:Al O K U){A:Around}{env:Env}{R as:List Addr}{s:Shared}{x f:Str}{v u:Value}{C:Addr}{fs:List (Str×Cu)}{d:Dat}{Q:Shared→Prop}(r:Rel U R env st as s.heap)(hx:look x st=some (.obj C fs))(hv:AF s.heap env x v)(ok:CE K C)(fo:BO K C f)
 (fu:Fz (vis R as s.heap) u d) (hz:fs.length≤1000) (q:∀as' h' tk,Ah as s.heap as' h'→Rel U R env (put x (.obj C (DC f (.dat d) fs)) st) as' h'→Q {s with heap:=h',toks:=tk}):wpAny (model O w) A (setAttr v f u) (fun _ s'=>Q s') (fun _ _=>False) s:=by
 refine Rel.setFld (ns:=[]) r hx hv r.locR r.celR Km .nil f fun a dx o m g1 g2 hn sz k=>?_
 refine IK (S.at r) ok fo g1 g2 hn sz hz fun h' tk o' ho' hn' hz' sb=>?_
 obtain⟨cs,cs',M,r'⟩:=k sb ho' hn' hz' (.dat (by simp[upd]) fu .nil)
 exact q _ h' tk (M.step (Ah.refl _ _) Km) r'
theorem Vk(S:Al O K U){x f:Str}{p ap pos:Pos}{e:Expr}{Q:Fl→St→Prop}
 (h:Ed O w U sc n e st fun d st1=>∃C fs,look x st1=some (.obj C fs)∧CE K C∧BO K C f∧fs.length≤1000∧Q .next (put x (.obj C (DC f (.dat d) fs)) st1))
 (hd:autoParam ((x==("__debug__":Str))=false) au.a2._auto_1) (hc:autoParam ((x==("__classdict__":Str))=false) au.a2._auto_1)
 (hw:autoParam (∀env,swapsWith e (some (.Attribute (.Name x p) f ap)) pos.line env=pure false) au.a1._auto_1):
 Sx O w U sc n (.Assign [.Attribute (.Name x p) f ap] e pos) st Q:=by
 intro A env R as s hR hE r
 refine plainObj_wpAny_Assign_Attribute (h.go hR hE r fun v d st1 as1 h1 t1 e1 r1 f1 qq=>?_) (hw env)
 obtain⟨C,fs,hx,ok,fo,hz,q⟩:=qq
 refine Uf hx hE r1 (fun u hu=>?_) hd hc
 exact Ug S r1 hx hu ok fo f1 hz fun as' h' tk e2 r2=>⟨.next,_,as',h',tk,rfl,(e1.trans e2).toS,r2,trivial,q⟩
theorem LJ(S:Al O K U){x f:Str}{p ap pos:Pos}{e:Expr}{Q:Fl→St→Prop}
 (h:Ef O w U sc n e st fun av st1=>∃ds C fs,av=.lst ds∧look x st1=some (.obj C fs)∧CE K C∧BO K C f∧fs.length≤1000∧∀i,Q .next (put x (.obj C (DC f (.own i ds) fs)) st1))
 (hd:autoParam ((x==("__debug__":Str))=false) au.a2._auto_1) (hc:autoParam ((x==("__classdict__":Str))=false) au.a2._auto_1)
 (hw:autoParam (∀env,swapsWith e (some (.Attribute (.Name x p) f ap)) pos.line env=pure false) au.a1._auto_1):
 Sx O w U sc n (.Assign [.Attribute (.Name x p) f ap] e pos) st Q:=by
 intro A env R as s hR hE r
 refine plainObj_wpAny_Assign_Attribute (h.go hR hE r fun v av st1 as1 h1 t1 cs0 e1 r1 rep hcs qq=>?_) (hw env)
 obtain⟨ds,C,fs,rfl,hx,ok,fo,hz,q⟩:=qq
 obtain⟨i,vs,m,rfl,rfl,ho,fz⟩:=rep.lstE
 refine Uf hx hE r1 (fun u hu=>?_) hd hc
 ·
  refine Rel.setFld r1 hx hu r.locR r.celR (BW r hcs) (by simp) f fun a dx o m g1 g2 hn sz k=>?_
  refine IK (S.at r1) ok fo g1 g2 hn sz hz fun h' tk o' ho' hn' hz' sb=>?_
  obtain⟨cs,cs',M,r'⟩:=k sb ho' hn' hz' (.own (by simp[upd]) ho fz .nil)
  exact⟨.next,_,_,h',tk,rfl,(M.step e1 hcs).toS,r',trivial,q i⟩
noncomputable def GK:Operator→Int→Int→Int
 | .Add,a,b=>a+b
 | .Sub,a,b=>a-b
 |_,_,_=>0
noncomputable def OV:Operator→Bool
 | .Add=>true
 | .Sub=>true
 |_=>false
theorem OW{A:Around}{E:Value→Shared→Prop}{s:Shared}{op:Operator}{a b:Int}{t u:Tok}{Q:Value→Shared→Prop}(ok:OV op=true)(q:Q (.int (GK op a b) s.toks) {s with toks:=s.toks+1}):wpAny (model O w) A (inplaceOp op (.int a t) (.int b u)) Q E s:=by
 cases op<;>first|(cases ok;done)|skip
 ·exact wpAny_iadd_int q
 ·exact PyProof.Rows.isub_int q
theorem Yc{A:Around}{env:Env}{s:Shared}{x:Str}{v:Value}{Q:Value→Shared→Prop}{E:Value→Shared→Prop}(hE:Be sc env)(hv:AF s.heap env x v)(h:Q v s)
 (hc:(x==("__classdict__":Str))=false):wpAny (model O w) A (loadName env x) Q E s:=by
 rcases hv with⟨k,m,hn,e⟩|⟨k|k,c,hc',hv⟩
 ·exact wpAny_loadName_local (by refine rr hE.isSc ?_;exact hE.kind) k hn e h
 ·exact wpAny_loadName_cell (by refine rr hE.isSc ?_;exact hE.kind) k hc' hv h
 ·exact wpAny_loadName_free (by refine rr hE.isSc ?_;exact hE.kind) k hc' hv h hc
theorem Yd{x:Str}{p pos:Pos}{op:Operator}{e:Expr}{a:Int}{Q:Fl→St→Prop}(h0:look x st=some (.dat (.int a)))(h:Ed O w U sc n e st fun d st1=>∃b,d=.int b∧Q .next (put x (.dat (.int (GK op a b))) st1))
 (hs:BN sc x=true) (ok:autoParam (OV op=true) au.a3._auto_1) (hc:autoParam ((x==("__classdict__":Str))=false) au.a2._auto_1):Sx O w U sc n (.AugAssign (.Name x p) op e pos) st Q:=by
 intro A env R as s hR hE r
 refine r.datP h0 fun v hv fz=>?_
 refine wpAny_AugAssign_Name (Yc hE hv ?_ hc)
 refine fz.intP fun t=>?_
 refine h.go hR hE r fun v d st1 as1 h1 t1 e1 r1 f1 qq=>?_
 obtain⟨b,rfl,q⟩:=qq
 refine f1.intP fun t'=>OW ok ?_
 exact wpAny_mono (OT (Q:=Q .next) (s:={s with heap:=h1,toks:=t1+1}) hE r1 (.int _ _) hs q) (fun _ _ p=>PX.after (t1:=t1+1) e1.toS p.px) fun _ _ x=>x
theorem LK(S:Al O K U){x f:Str}{p ap pos:Pos}{op:Operator}{e:Expr}{a:Int}{C:Addr}{fs:List (Str×Cu)}{Q:Fl→St→Prop}(h0:look x st=some (.obj C fs))(h0':fs.lookup f=some (.dat (.int a)))(ok:CE K C)(fo:BO K C f)
 (h:Ed O w U sc n e st fun d st1=>∃b,d=.int b∧∃fs1,look x st1=some (.obj C fs1)∧fs1.length≤1000∧Q .next (put x (.obj C (DC f (.dat (.int (GK op a b))) fs1)) st1))
 (hop:autoParam (OV op=true) au.a3._auto_1) (hd:autoParam ((x==("__debug__":Str))=false) au.a2._auto_1) (hc:autoParam ((x==("__classdict__":Str))=false) au.a2._auto_1):Sx O w U sc n (.AugAssign (.Attribute (.Name x p) f ap) op e pos) st Q:=by
 intro A env R as s hR hE r
 refine r.objP h0 fun a' dx o m cs hv g1 g2 hn fl _=>?_
 refine wpAny_AugAssign_AttributeAny (CN hE hv ?_ hd hc)
 obtain⟨u,eu,fu⟩:=fl.get h0'
 refine DD (S.at r) ok fo g1 g2 hn eu fu.handed ?_
 refine fu.intP fun t=>?_
 refine h.go (s:={s with toks:=s.toks+1}) hR hE r fun v d st1 as1 h1 t1 e1 r1 f1 qq=>?_
 obtain⟨b,rfl,fs1,hx,hz,q⟩:=qq
 refine f1.intP fun t'=>OW hop ?_
 have hu:AF h1 env x (.ref a'):=Oy.step (R:=R) (ev:=.own x) hv e1 r.locA r.celA
 exact Ug (s:={s with heap:=h1,toks:=t1+1}) S r1 hx hu ok fo (.int _ _) hz fun as' h' tk e2 r2=>⟨.next,_,as',h',tk,rfl,(e1.trans e2).toS,r2,trivial,q⟩
end
section
variable{O:Program}{w:World}{U:Heap}{K:Frag}{sc:Scope}{n:Nat}{st:St}
structure Xz(K:Frag)(f:Addr)(fd:FuncData)(body:List Stmt)(ps:List Str):Prop where
 look:∃o,K.lookup f=some o∧o.data=.func fd
 code:codeIn K fd.code fd.qualname=true
 body:fd.body=.stmts body
 clo:fd.closure=[]
 glob:fd.globals=mainGlobals
 blt:fd.builtins=builtinsNs
 binds:∀vs:List Value,vs.length=ps.length→∀s:Shared,K.In s.heap→BindsTo s fd ⟨vs,[]⟩ (ps.zip vs)
 kinds:∀x∈ps,fd.scope.names.lookup x=some .local∨fd.scope.names.lookup x=some .cell
 nodup:ps.Nodup
 cells:∀x,fd.scope.names.lookup x=some .cell∨fd.scope.names.lookup x=some .free→((cellsFrom 0 fd.scope.names []).lookup x).isSome=true
 co:fd.scope.isCoroutine=false
 gen:fd.scope.isGenerator=false
 kind:fd.scope.kind=.function
theorem CT{α:Type}:∀{l l':List (Str×α)},l.map (·.1)=l'.map (·.1)→∀x,(l.lookup x).isSome=(l'.lookup x).isSome:=by
 intro l
 induction l with
 |nil=>
  intro zz4
  rcases zz4 with _|⟨_,_⟩
  ·intro _ _
   exact rfl
  ·intro h _
   cases h
 |cons hd r ih=>
  obtain⟨a,b⟩:=hd
  intro zz4
  rcases zz4 with _|⟨⟨a',b'⟩,r'⟩
  ·intro h _
   cases h
  ·intro h x
   simp only[map_cons,List.cons.injEq]at h
   obtain⟨rfl,h⟩:=h
   refine rr lookup_cons (rr lookup_cons ?_)
   split
   ·rfl
   ·exact ih h x
theorem NG{kindOf:Str→Option NameKind}:∀(l:List (Str×Value)) (m:Str→Option Value) (x:Str),x∉l.map (·.1)→bindL kindOf l m x=m x:=by
 intro l
 induction l with
 |nil=>
  intro _ _ _
  exact rfl
 |cons hd r ih=>
  obtain⟨y,v⟩:=hd
  intro m x h
  have ne:x≠y:=fun q=>h (by refine rr q ?_;exact .head _)
  unfold bindL
  refine rr (ih _ x (fun q=>h (.tail _ q))) ?_
  split
  ·simp only[ne,if_false]
  ·rfl
theorem NH{kindOf:Str→Option NameKind}:∀(l:List (Str×Value)) (m:Str→Option Value) (x:Str),x∉l.map (·.1)→bindC kindOf l m x=m x:=by
 intro l
 induction l with
 |nil=>
  intro _ _ _
  exact rfl
 |cons hd r ih=>
  obtain⟨y,v⟩:=hd
  intro m x h
  have ne:x≠y:=fun q=>h (by refine rr q ?_;exact .head _)
  unfold bindC
  refine rr (ih _ x (fun q=>h (.tail _ q))) ?_
  split
  ·rfl
  ·simp only[ne,if_false]
theorem My{kindOf:Str→Option NameKind}:∀(l:List (Str×Value)) (m:Str→Option Value) (x:Str) (v:Value),(l.map (·.1)).Nodup→(x,v)∈l→kindOf x=some .local→bindL kindOf l m x=some v:=by
 intro l
 induction l with
 |nil=>
  intro _ _ _ _ h _
  cases h
 |cons hd r ih=>
  obtain⟨y,u⟩:=hd
  intro m x v nd h k
  simp only[map_cons,nodup_cons]at nd
  unfold bindL
  rcases mem_cons.mp h with q|q
  ·cases q
   rewrite[NG r _ _ nd.1,if_pos k,if_pos rfl];(with_reducible rfl)
  ·exact ih _ x v nd.2 q k
theorem Mz{kindOf:Str→Option NameKind}:∀(l:List (Str×Value)) (m:Str→Option Value) (x:Str) (v:Value),(l.map (·.1)).Nodup→(x,v)∈l→kindOf x≠some .local→bindC kindOf l m x=some v:=by
 intro l
 induction l with
 |nil=>
  intro _ _ _ _ h _
  cases h
 |cons hd r ih=>
  obtain⟨y,u⟩:=hd
  intro m x v nd h k
  simp only[map_cons,nodup_cons]at nd
  unfold bindC
  rcases mem_cons.mp h with q|q
  ·cases q
   rewrite[NH r _ _ nd.1,if_neg k,if_pos rfl];(with_reducible rfl)
  ·exact ih _ x v nd.2 q k
noncomputable def flV(f:Flow):Value:=match f with
 | .ret v=>v
 |_=>.none
noncomputable def flD:Fl→Dat
 | .ret d=>d
 |_=>.none
theorem IH.val{g:BT}{f:Flow}{fl:Fl}(x:IH g f fl):Fz g (flV f) (flD fl):=by cases f<;>cases fl<;>first|exact x.elim|exact x|exact .none
theorem CU.deep{A:Around}{n:Nat}{env:Env}(r:CU A (n+1))(hE:Be sc env)(hg:sc.isGenerator=false)(hc:sc.isCoroutine=false):CU (A.deeper env) n:=by
 obtain⟨h1,h2,h3,e,l,hf,_⟩:=r
 refine⟨h1,?_,?_,env,e::l,?_,?_,?_,hE.blt,hE.glob⟩
 ·show A.depth+1+3*n+110<recursionLimit
  exact Ac h2
 ·show A.units+3+20*n+100<cLine
  exact Ac h3
 ·show A.frames.map (env:: ·)=_
  refine rr hf ?_;rfl
 ·refine rr hE.isSc ?_;exact hg
 ·refine rr hE.isSc ?_;exact hc
def Kw(Q:Value→Shared→Prop)(E:Value→Shared→Prop)(r:Result)(s':Shared):Prop:=match r with
 | .ok (.ret v)=>Q v s'
 | .ok _=>False
 | .error e=>E e s'
theorem IL{Q Q':Value→Shared→Prop}{E:Value→Shared→Prop}(k:∀v s,Q v s→Q' v s){r:Result}{s':Shared}(h:Kw Q E r s'):Kw Q' E r s':=by
 rcases r with e|(v|_|_|_)<;>first|exact h|exact k _ _ h
theorem IM{A:Around}{s:Shared}{R:Result→Shared→Prop}{a:Addr}{o:Obj}{fd:FuncData}{body:List Stmt}{vals:List Value}{binds:List (Str×Value)}
 (hroom:A.depth<recursionLimit) (ho:s.heap.get? a=some o) (hdata:o.data=.func fd) (hlim:s.heap.NoLimit) (hcd:s.heap.CodeRec fd.code fd.qualname)
 (hbody:fd.body=.stmts body) (hbind:BindsTo s fd ⟨vals,[]⟩ binds) (hclo:fd.closure=[])
 (hkind:∀x∈binds,fd.scope.names.lookup x.1=some .local∨(fd.scope.names.lookup x.1=some .cell∧((cellsFrom (s.heap.objs.size+1) fd.scope.names []).lookup x.1).isSome=true))
 (h:∀s₁,InCallC s (callEnvC fd s.heap.objs.size a).locals (bindL (callEnvC fd s.heap.objs.size a).kindOf binds fun _=>none) (callEnvC fd s.heap.objs.size a).cells
  (bindC (callEnvC fd s.heap.objs.size a).kindOf binds fun _=>none) s₁→
  wpAny (model O w) (A.deeper (callEnvC fd s.heap.objs.size a)) (execs body (callEnvC fd s.heap.objs.size a)) (fun f s'=>R (.ok (.ret (match f with| .ret v=>v|_=>.none))) s')
   (fun e s'=>wpAny (model O w) (A.deeper (callEnvC fd s.heap.objs.size a)) (leaving (callEnvC fd s.heap.objs.size a) e) (fun _ s''=>R (.error e) s'') (fun e' s''=>R (.error e') s'') s') s₁)
 (hco:fd.scope.isCoroutine=false) (hgen:fd.scope.isGenerator=false) (hk:fd.scope.kind=.function):
 codeAny (model O w) A (.call (.ref a) ⟨vals,[]⟩) R s:=by
 refine codeAny_call_function hroom ho hdata hco hgen hbody hcd (hbind _ _ _ _ ?_)
 refine rr hclo ?_
 refine wpAny_newFunctionEnv_cells hk hkind fun env he s' x=>?_
 subst he
 exact⟨hlim.keeps x.toInCall.keep,codeAny_func (h s' x)⟩
theorem Ye{f:Addr}{fd:FuncData}{body:List Stmt}{ps:List Str}(S:Al O K U)(ok:Xz K f fd body ps){A:Around}{s:Shared}{vs:List Value}{Q:Value→Shared→Prop}{E:Value→Shared→Prop}(hR:CU A (n+1))(hl:vs.length=ps.length)
 (hb:∀b o,U.get? b=some o→s.heap.get? b=some o)
 (h:∀env h' tk,Be fd.scope env→(∀b o,s.heap.get? b=some o→h'.get? b=some o)→(s.heap.get? env.locals=none∧∃m,h'.Ns env.locals m)→(∀x c,env.cells.lookup x=some c→s.heap.get? c=none∧∃v,h'.IsCell c v)→
  (∀x v,(x,v)∈ps.zip vs→AF h' env x v)→wpAny (model O w) (A.deeper env) (execs body env) (fun f s'=>Q (flV f) s') (fun _ _=>False) {s with heap:=h',toks:=tk}):
 codeAny (model O w) A (.call (.ref f) ⟨vs,[]⟩) (Kw Q E) s:=by
 obtain⟨o,ho,hd⟩:=ok.look
 have X:=S.X.keeps hb
 have names:∀k x,((cellsFrom k fd.scope.names []).lookup x).isSome=((cellsFrom 0 fd.scope.names []).lookup x).isSome:=fun k x=>CT (cellsFrom_names _ _ _ _ _ rfl) x
 have hmem:∀x∈ps.zip vs,x.1∈ps:=fun x hx=>(of_mem_zip (a:=x.1) (b:=x.2) hx).1
 have hnd:((ps.zip vs).map (·.1)).Nodup:=by
  refine rr (List.map_fst_zip (by exact Ac (le_of_eq hl.symm))) ?_;exact ok.nodup
 refine(IM (by have:=hR.depth;exact Ac this) (X _ _ ho) hd (S.lim.keeps hb) (codeRec_of X ok.code) ok.body (ok.binds vs hl s X) ok.clo (fun x hx=>?_) (fun s1 ic=>?_) ok.co ok.gen ok.kind)
 ·rcases ok.kinds x.1 (hmem x hx)with q|q
  ·exact .inl q
  ·exact .inr ⟨q,by refine rr (names ..) ?_;exact ok.cells _ (.inl q)⟩
 ·obtain⟨h',tk,rfl,hk⟩:=ic.done
  have hL:(callEnvC fd s.heap.objs.size f).locals=s.heap.objs.size:=rfl
  refine wpAny_mono (h (callEnvC fd s.heap.objs.size f) h' tk ⟨rfl,ok.kind,ok.glob,ok.blt,fun x c e q=>?_,fun x y c e1 e2=>?_,fun x hx=>?_⟩ hk ⟨AL _ (le_refl _),_,ic.toInCall.ns⟩ (fun x c e=>⟨AL _ ?_,_,ic.cell x c e⟩) fun x v hx=>?_) (fun f s' q=>q) fun _ _ q=>q.elim
  ·have:=ic.above x c (mem_of_lookup e)
   rw[q]at this;exact lt_irrefl _ this
  ·exact name_of_addr ic.apart (mem_of_lookup e1) (mem_of_lookup e2)
  ·have:=ok.cells x hx
   rw[←names (s.heap.objs.size+1)]at this
   exact isSome_iff_exists.mp this
  ·exact Nat.le_of_lt (ic.above x c (mem_of_lookup e))
  ·have hx1:(callEnvC fd s.heap.objs.size f).kindOf x=fd.scope.names.lookup x:=rfl
   rcases ok.kinds x (hmem _ hx)with q|q
   ·exact .inl ⟨hx1.trans q,_,ic.toInCall.ns,My _ _ x v hnd hx (hx1.trans q)⟩
   ·have hs:=ok.cells x (.inl q)
    rw[←names (s.heap.objs.size+1)]at hs
    obtain⟨c,hc⟩:=isSome_iff_exists.mp hs
    have:=ic.cell x c hc
    rw[Mz _ _ x v hnd hx (by refine rr hx1 (rr q ?_);decide)]at this
    exact .inr ⟨.inl (hx1.trans q),c,hc,this⟩
inductive RL(R cs:List Addr)(s:Shared)(v:Value)(Q:Dat→AG→Prop)(r:Value)(s':Shared):Prop
 |mk (d:Dat) (a':AG) (cs':List Addr) (h':Heap) (tk':Nat) (hs:s'={s with heap:=h',toks:=tk'}) (e:Ah cs s.heap cs' h') (rep:Ct (vis R cs' h') h' v a' cs') (x:Fz (vis R cs' h') r d) (q:Q d a')
inductive RP(R:List Addr)(s:Shared)(Q:Dat→Prop)(r:Value)(s':Shared):Prop
 |mk (d:Dat) (h':Heap) (tk':Nat) (hs:s'={s with heap:=h',toks:=tk'}) (e:Ah [] s.heap [] h') (x:Fz (vis R [] h') r d) (q:Q d)
structure FnL(O:Program)(w:World)(U:Heap)(n:Nat)(f:Addr)(a:AG)(ds:List Dat)(Q:Dat→AG→Prop):Prop where
 run:∀(A:Around) (R cs:List Addr) (s:Shared) (v:Value) (vs:List Value),CU A n→(∀b o,U.get? b=some o→vis R cs s.heap b o)→(∀b∈R,∃o,s.heap.get? b=some o)→(∀b∈R,b∉cs)→Ct (vis R cs s.heap) s.heap v a cs→FzL (vis R cs s.heap) vs ds→
  codeAny (model O w) A (.call (.ref f) ⟨v::vs,[]⟩) (Kw (RL R cs s v Q) (fun _ _=>False)) s
structure FnP(O:Program)(w:World)(U:Heap)(n:Nat)(f:Addr)(ds:List Dat)(Q:Dat→Prop):Prop where
 run:∀(A:Around) (R:List Addr) (s:Shared) (vs:List Value),CU A n→(∀b o,U.get? b=some o→vis R [] s.heap b o)→(∀b∈R,∃o,s.heap.get? b=some o)→FzL (vis R [] s.heap) vs ds→
  codeAny (model O w) A (.call (.ref f) ⟨vs,[]⟩) (Kw (RP R s Q) (fun _ _=>False)) s
theorem FnL.mono{f:Addr}{a:AG}{ds:List Dat}{Q Q':Dat→AG→Prop}(h:FnL O w U n f a ds Q)(k:∀d a,Q d a→Q' d a):FnL O w U n f a ds Q':=
 ⟨fun A R cs s v vs h1 h2 h3 h4 h5 h6=>codeAny_mono (h.run A R cs s v vs h1 h2 h3 h4 h5 h6) fun _ _ y=>IL (by rintro _ _ ⟨d,a',cs',h',tk',e,x,y,z,q⟩;exact⟨d,a',cs',h',tk',e,x,y,z,k _ _ q⟩) y⟩
theorem FnP.mono{f:Addr}{ds:List Dat}{Q Q':Dat→Prop}(h:FnP O w U n f ds Q)(k:∀d,Q d→Q' d):FnP O w U n f ds Q':=
 ⟨fun A R s vs h1 h2 h3 h4=>codeAny_mono (h.run A R s vs h1 h2 h3 h4) fun _ _ y=>IL (by rintro _ _ ⟨d,h',tk',e,x,z,q⟩;exact⟨d,h',tk',e,x,z,k _ q⟩) y⟩
noncomputable def BP:List Str→List Dat→St
 |p::ps,d::ds=>(p,.dat d)::BP ps ds
 |_,_=>[]
theorem Gl:∀{ps:List Str}{ds:List Dat}{x:Str}{a:AG},(x,a)∈BP ps ds→∃(k:Nat) (d:Dat),ps[k]?=some x∧ds[k]?=some d∧a=.dat d:=by
 intro ps
 induction ps with
 |nil=>
  intro _ _ _ h
  cases h
 |cons p ps ih=>
  intro zz4
  rcases zz4 with _|⟨d,ds⟩
  ·intro _ _ h
   cases h
  ·intro x a h
   unfold BP at h
   rcases mem_cons.mp h with q|q
   ·cases q;exact⟨0,d,rfl,rfl,rfl⟩
   ·obtain⟨k,e,h1,h2,h3⟩:=ih q;exact⟨k+1,e,h1,h2,h3⟩
theorem GM:∀{ps:List Str}{ds:List Dat}{x:Str},x∈(BP ps ds).map (·.1)→x∈ps:=by
 intro ps
 induction ps with
 |nil=>
  intro _ _ h
  cases h
 |cons p ps ih=>
  intro zz4
  rcases zz4 with _|⟨d,ds⟩
  ·intro _ h
   cases h
  ·intro x h
   unfold BP at h
   rcases mem_cons.mp h with q|q
   ·refine rr q ?_;exact .head _
   ·exact .tail _ (ih q)
theorem Eh:∀{ps:List Str}{ds:List Dat},ps.Nodup→((BP ps ds).map (·.1)).Nodup:=by
 intro ps
 induction ps with
 |nil=>
  intro _ _
  simp[BP]
 |cons p ps ih=>
  intro zz4
  rcases zz4 with _|⟨d,ds⟩
  ·intro _
   simp[BP]
  ·intro h
   unfold BP
   simp only[map_cons,nodup_cons]at h⊢
   exact⟨fun q=>h.1 (GM q),ih h.2⟩
theorem Gm{α β:Type}:∀{l:List α}{m:List β}{k:Nat}{a:α}{b:β},l[k]?=some a→m[k]?=some b→(a,b)∈l.zip m:=by
 intro l
 induction l with
 |nil=>
  intro _ _ _ _ h1 _
  simp at h1
 |cons x l ih=>
  intro zz4
  rcases zz4 with _|⟨y,m⟩
  ·intro _ _ _ _ h2
   simp at h2
  ·intro zz6
   rcases zz6 with _|k
   ·intro a b h1 h2
    simp at h1 h2;subst h1 h2;exact .head _
   ·intro a b h1 h2
    exact .tail _ (ih (by simpa using h1) (by simpa using h2))
noncomputable def RK(env:Env)(R:List Addr):List Addr:=(env.locals::(env.cells.map (·.1)).filterMap fun x=>env.cells.lookup x)++R
theorem Dk{env:Env}{R:List Addr}{b:Addr}:b∈RK env R↔(b=env.locals∨∃x,env.cells.lookup x=some b)∨b∈R:=by
 unfold RK
 rewrite[mem_append];rewrite[mem_cons];rewrite[mem_filterMap]
 refine or_congr (or_congr Iff.rfl ⟨fun⟨x,_,e⟩=>⟨x,e⟩,fun⟨x,e⟩=>⟨x,?_,e⟩⟩) Iff.rfl
 exact mem_map.mpr ⟨(x,b),mem_of_lookup e,rfl⟩
theorem Vl{env:Env}{R cs:List Addr}{h h':Heap}{st:St}(base:∀b o,U.get? b=some o→vis R cs h b o)(inb:∀b∈R,∃o,h.get? b=some o)(sep:∀b∈R,b∉cs)(alive:∀b∈cs,∃o,h.get? b=some o)
 (hk:∀b o,h.get? b=some o→h'.get? b=some o) (hl:h.get? env.locals=none∧∃m,h'.Ns env.locals m) (hc:∀x c,env.cells.lookup x=some c→h.get? c=none∧∃v,h'.IsCell c v) (names:(st.map (·.1)).Nodup)
 (ks:Str→List Addr) (rows:∀x a,(x,a)∈st→∃u,AF h' env x u∧Ct (vis R cs h) h u a (ks x)∧∀b∈ks x,b∈cs) (apart:∀x y,x≠y→∀c∈ks x,c∉ks y):
 Rel U (RK env R) env st cs h'∧∀b o,vis R cs h b o→vis (RK env R) cs h' b o:=by
 have new:∀b,(b=env.locals∨∃x,env.cells.lookup x=some b)→h.get? b=none:=fun b q=>q.elim (fun q=>q▸hl.1) fun⟨x,e⟩=>(hc x b e).1
 have kv:∀b o,vis R cs h b o→vis (RK env R) cs h' b o:=(by rintro b o ⟨p,q,e⟩;exact⟨fun z=>(Dk.mp z).elim (fun z=>by rw[new b z]at e;cases e) p,q,hk b o e⟩)
 refine⟨⟨?_,names,fun b hb q=>?_,Dk.mpr (.inl (.inl rfl)),fun x c e=>Dk.mpr (.inl (.inr ⟨x,e⟩)),hl.2,fun x c e=>(hc x c e).2,fun b hb=>?_,fun b o e=>kv b o (base b o e)⟩,kv⟩
 ·have ch:∀x,∃u,∀a,(x,a)∈st→AF h' env x u∧Ct (vis R cs h) h u a (ks x):=fun x=>by
   by_cases q:∃a,(x,a)∈st
   ·obtain⟨a,ha⟩:=q
    obtain⟨u,hu,_,_⟩:=rows x a ha
    refine⟨u,fun b hb=>?_⟩
    obtain⟨u',hu',r',_⟩:=rows x b hb
    cases hu.unique hu'
    exact⟨hu,r'⟩
   ·exact⟨.none,fun a ha=>absurd ⟨a,ha⟩ q⟩
  refine⟨fun x=>(ch x).choose,ks,fun x a hx=>?_,fun x a y b _ _ ne=>apart x y ne⟩
  obtain⟨p,q⟩:=(ch x).choose_spec a hx
  obtain⟨_,_,_,t⟩:=rows x a hx
  exact⟨p,q.mono kv fun b _ o e=>hk b o e,t⟩
 ·rcases Dk.mp hb with z|z
  ·obtain⟨o,e⟩:=alive b q;rw[new b z]at e;cases e
  ·exact sep b z q
 ·rcases Dk.mp hb with(z|⟨x,z⟩)|z
  ·obtain⟨m,o,_,_,e,_⟩:=hl.2;exact⟨o,z▸e⟩
  ·obtain⟨_,v,o,e,_⟩:=hc x b z;exact⟨o,e⟩
  ·obtain⟨o,e⟩:=inb b z;exact⟨o,hk b o e⟩
theorem RM{env:Env}{R cs:List Addr}{h':Heap}{st:St}(r:Rel U (RK env R) env st cs h'):XL env cs h':=fun b hb=>by
 have hm:b∈RK env R:=Dk.mpr (.inl hb)
 exact⟨r.sep b hm,r.inb b hm⟩
theorem Kx{env:Env}{cs as' cs':List Addr}{h h' h2:Heap}(hk:∀b o,h.get? b=some o→h'.get? b=some o)(hl:h.get? env.locals=none)(hc:∀x c,env.cells.lookup x=some c→h.get? c=none)(s:Bx env cs h' as' h2)(sub:∀b∈cs',b∈as'):Ah cs h cs' h2:=
 ⟨fun b o hb e=>s.keep b o (fun q=>by rw[q,hl]at e;cases e) (fun _ x q=>by rw[hc x b q]at e;cases e) hb (hk b o e),
  fun b hb=>(s.fresh b (sub b hb)).imp id fun q=>(LB.of hk).none q,(LB.of hk).trans s.live⟩
theorem FnL.of(S:Al O K U){f:Addr}{fd:FuncData}{body:List Stmt}{p:Str}{ps:List Str}{a:AG}{ds:List Dat}{Q:Dat→AG→Prop}(ok:Xz K f fd body (p::ps))(hp:DQ fd.scope p=true)(hlen:ds.length=ps.length)
 (h:Ss O w U fd.scope n body ((p,a)::BP ps ds) (fun fl st'=>∃a',look p st'=some a'∧Q (flD fl) a')):FnL O w U (n+1) f a ds Q:=by
 refine⟨fun A R cs s v vs hR base inb sep rep fz=>?_⟩
 have hvl:vs.length=ds.length:=fz.length
 have nd:=nodup_cons.mp ok.nodup
 refine Ye S ok hR (by simp[hvl,hlen]) (fun b o e=>(base b o e).2.2) fun env h' tk hE hk hl hc hv=>?_
 have hpv:AF h' env p v:=hv p v (.head _)
 have rows:∀x b,(x,b)∈(p,a)::BP ps ds→∃u,AF h' env x u∧Ct (vis R cs s.heap) s.heap u b (if x=p then cs else[])∧∀c∈(if x=p then cs else[]),c∈cs:=fun x b hx=>by
  rcases mem_cons.mp hx with q|q
  ·cases q
   exact⟨v,hpv,by simpa using rep,by simp⟩
  ·obtain⟨k,d,h1,h2,rfl⟩:=Gl q
   have ne:x≠p:=fun e=>nd.1 (e▸mem_of_getElem? h1)
   obtain⟨u,hu,fu⟩:∃u,vs[k]?=some u∧Fz (vis R cs s.heap) u d:=fz.get h2
   exact⟨u,hv x u (.tail _ (Gm h1 hu)),by simp only[ne,if_false];exact .dat fu,by simp[ne]⟩
 have apart:∀x y,x≠y→∀c∈(fun x=>if x=p then cs else[]) x,c∉(fun x=>if x=p then cs else[]) y:=fun x y ne c hc1=>by
  dsimp only at hc1⊢
  by_cases q:x=p
  ·refine rr (if_neg (fun e=>ne (q.trans e.symm))) ?_;exact fun z=>nomatch z
  ·rw[if_neg q]at hc1;cases hc1
 obtain⟨r,kv⟩:=Vl (st:=(p,a)::BP ps ds) base inb sep rep.alive hk hl hc (by
  simp only[map_cons,nodup_cons];exact⟨fun q=>nd.1 (GM q),Eh nd.2⟩) (fun x=>if x=p then cs else[]) rows apart
 refine wpAny_mono (h (A.deeper env) env _ cs {s with heap:=h',toks:=tk} (hR.deep hE ok.gen ok.co) hE r) ?_ fun _ _ x=>x
 rintro fl s2 ⟨fl',st',as',h2,t2,rfl,S2,r2,fo,a',ha',q⟩
 have pv2:AF h2 env p v:=S2.pin (RM r) p v (by refine rr hE.isSc ?_;exact hp) hpv
 obtain⟨v',cs',hv',rep',sub'⟩:=r2.row ha'
 cases hv'.unique pv2
 have kv2:∀b o,vis (RK env R) as' h2 b o→vis R cs' h2 b o:=(by rintro b o ⟨p,q,e⟩;exact⟨fun z=>p (Dk.mpr (.inr z)),fun z=>q (sub' b z),e⟩)
 exact⟨flD fl',a',cs',h2,t2,rfl,Kx hk hl.1 (fun x c e=>(hc x c e).1) S2 sub',rep'.mono kv2 fun _ _ _ e=>e,fo.val.mono kv2,q⟩
theorem FnP.of(S:Al O K U){f:Addr}{fd:FuncData}{body:List Stmt}{ps:List Str}{ds:List Dat}{Q:Dat→Prop}(ok:Xz K f fd body ps)(hlen:ds.length=ps.length)
 (h:Ss O w U fd.scope n body (BP ps ds) (fun fl _=>Q (flD fl))):FnP O w U (n+1) f ds Q:=by
 refine⟨fun A R s vs hR base inb fz=>?_⟩
 have hvl:vs.length=ds.length:=fz.length
 refine Ye S ok hR (by simp[hvl,hlen]) (fun b o e=>(base b o e).2.2) fun env h' tk hE hk hl hc hv=>?_
 have rows:∀x b,(x,b)∈BP ps ds→∃u,AF h' env x u∧Ct (vis R [] s.heap) s.heap u b []∧∀c∈([]:List Addr),c∈([]:List Addr):=fun x b hx=>by
  obtain⟨k,d,h1,h2,rfl⟩:=Gl hx
  obtain⟨u,hu,fu⟩:∃u,vs[k]?=some u∧Fz (vis R [] s.heap) u d:=fz.get h2
  exact⟨u,hv x u (Gm h1 hu),.dat fu,fun _ h=>h⟩
 obtain⟨r,kv⟩:=Vl (st:=BP ps ds) base inb (fun _ _=>not_mem_nil) Km hk hl hc (Eh ok.nodup) (fun _=>[]) rows (fun x y ne c hc1=>nomatch hc1)
 refine wpAny_mono (h (A.deeper env) env _ [] {s with heap:=h',toks:=tk} (hR.deep hE ok.gen ok.co) hE r) ?_ fun _ _ x=>x
 rintro fl s2 ⟨fl',st',as',h2,t2,rfl,S2,r2,fo,q⟩
 have kv2:∀b o,vis (RK env R) as' h2 b o→vis R [] h2 b o:=(by rintro b o ⟨p,q,e⟩;exact⟨fun z=>p (Dk.mpr (.inr z)),(fun z=>nomatch z),e⟩)
 exact⟨flD fl',h2,t2,rfl,Kx hk hl.1 (fun x c e=>(hc x c e).1) S2 Km,fo.val.mono kv2,q⟩
end
section
variable{O:Program}{w:World}{U:Heap}{K:Frag}{sc:Scope}{n:Nat}{st:St}
def GlF(sc:Scope)(K:Frag)(x:Str)(v:Value):Prop:=sc.names.lookup x=some .globalImplicit∧nsIn K mainGlobals x=some (some v)∧(x==("__debug__":Str))=false
theorem MA(S:Al O K U){x:Str}{v:Value}(g:GlF sc K x v){A:Around}{env:Env}{R as:List Addr}{s:Shared}{p:Pos}{Q:Value→Shared→Prop}{E:Value→Shared→Prop}(hE:Be sc env)(r:Rel U R env st as s.heap)(q:Q v s):
 wpAny (model O w) A (eval (.Name x p) env) Q E s:=by
 obtain⟨mg,mb,G,B,hb⟩:=S.top
 have k:∀b o,U.get? b=some o→s.heap.get? b=some o:=fun b o e=>(r.base b o e).2.2
 have ek:env.kindOf x=sc.names.lookup x:=by show env.scope.names.lookup x=_;refine rr hE.isSc ?_;rfl
 exact Name_function_global (by refine rr hE.isSc ?_;exact hE.kind) (ek.trans g.1) (loadGlobal_global (by refine rr hE.glob ?_;exact G.keeps k) (mg_of S.X G g.2.1) q) g.2.2
theorem Cl(S:Al O K U){x:Str}{p:Pos}{v:Value}{d:Dat}{Q:EV→St→Prop}(g:GlF sc K x v)(f:Fz (fun b o=>K.lookup b=some o) v d)(q:Q (.dat d) st):Ev O w U sc n (.Name x p) st Q:=by
 intro A env R as s _ hE r
 refine MA S g hE r (PE.grown (t1:=s.toks) r rfl (fun _ _ e=>e) (f.mono fun b o e=>r.base b o (S.X b o e)) q)
def GlB(sc:Scope)(K:Frag)(x:Str):Prop:=sc.names.lookup x=some .globalImplicit∧nsIn K mainGlobals x=some none∧(x==("__debug__":Str))=false∧x≠"__name__"
theorem GN(S:Al O K U){x:Str}{v:Value}(g:GlB sc K x)(hv:bootBuiltins x=some v){A:Around}{env:Env}{R as:List Addr}{s:Shared}{p:Pos}{Q:Value→Shared→Prop}{E:Value→Shared→Prop}(hE:Be sc env)(r:Rel U R env st as s.heap)(q:Q v s):
 wpAny (model O w) A (eval (.Name x p) env) Q E s:=by
 obtain⟨mg,mb,G,B,hb⟩:=S.top
 have k:∀b o,U.get? b=some o→s.heap.get? b=some o:=fun b o e=>(r.base b o e).2.2
 have ek:env.kindOf x=sc.names.lookup x:=by show env.scope.names.lookup x=_;refine rr hE.isSc ?_;rfl
 exact Name_function_global (by refine rr hE.isSc ?_;exact hE.kind) (ek.trans g.1) (loadGlobal_builtin (by refine rr hE.glob ?_;exact G.keeps k) (mg_none_of S.X G g.2.1) (by refine rr hE.blt ?_;exact B.keeps k) ((hb x g.2.2.2).trans hv) q) g.2.2.1
theorem Vm{f:Addr}{x:Str}{a:AG}{ds:List Dat}{Q:EV→St→Prop}{A:Around}{env:Env}{R as:List Addr}{s:Shared}{v:Value}{vs:List Value}(hR:CU A n)(r0:Rel U R env st as s.heap)(hx:look x st=some a)(hv:AF s.heap env x v)(fz:FzL (vis R as s.heap) vs ds)
 (h:FnL O w U n f a ds fun d a'=>Q (.dat d) (put x a' st)):wpAny (model O w) A (call (.ref f) (v::vs)) (PE U R env as s Q) (fun _ _=>False) s:=by
 refine r0.trimP fun as1 sub hlt r=>?_
 have fz1:FzL (vis R as1 s.heap) vs ds:=FzL.mono (Ah.less sub).vis fz
 refine Rel.mut (ns:=[]) r hx hv r.locR r.celR fun cs rep csub k=>?_
 have kv:∀b o,vis R as1 s.heap b o→vis (R++as1.filter (fun b=>decide (b∉cs))) cs s.heap b o:=fun b o ⟨p,q,e⟩=>
  ⟨fun z=>(mem_append.mp z).elim p fun z=>q (mem_filter.mp z).1,fun z=>q (csub b z),e⟩
 refine wpAny_mono (wpAny_call (h.run A (R++as1.filter (fun b=>decide (b∉cs))) cs s v vs hR (fun b o e=>kv b o (r.base b o e)) (fun b hb=>(mem_append.mp hb).elim (r.inb b) fun z=>hlt b (mem_filter.mp z).1)
  (fun b hb z=>(mem_append.mp hb).elim (fun y=>r.sep b y (csub b z)) fun y=>of_decide_eq_true (mem_filter.mp y).2 z) (rep.mono kv fun _ _ _ e=>e) (fz1.mono kv))) ?_ fun _ _ x=>x
 rintro u s1 ⟨d,a',cs',h',tk',rfl,e1,rep1,f1,q⟩
 have M:Mut R as1 [] cs cs' s.heap h':=⟨csub,fun b o hb e=>e1.keep b o hb e,e1.live,fun b hb=>(e1.fresh b hb).imp id .inr,Km⟩
 have kv2:∀b o,vis (R++as1.filter (fun b=>decide (b∉cs))) cs' h' b o→vis R (swp cs cs' as1) h' b o:=fun b o ⟨p,q,e⟩=>
  ⟨fun z=>p (mem_append_left _ z),fun z=>(Ee.mp z).elim q fun z=>p (mem_append_right _ (mem_filter.mpr ⟨z.1,decide_eq_true z.2⟩)),e⟩
 have r1:=k M (rep1.mono kv2 fun _ _ _ e=>e)
 exact⟨.dat d,_,_,h',tk',rfl,(Ah.less sub).trans (M.step (Ah.refl _ _) Km),r1,f1.mono kv2,q⟩
theorem Yf{f:Addr}{ds:List Dat}{Q:EV→St→Prop}{A:Around}{env:Env}{R as:List Addr}{s:Shared}{vs:List Value}(hR:CU A n)(r0:Rel U R env st as s.heap)(fz:FzL (vis R as s.heap) vs ds)
 (h:FnP O w U n f ds fun d=>Q (.dat d) st):wpAny (model O w) A (call (.ref f) vs) (PE U R env as s Q) (fun _ _=>False) s:=by
 refine r0.trimP fun as1 sub hlt r=>?_
 have fz1:FzL (vis R as1 s.heap) vs ds:=FzL.mono (Ah.less sub).vis fz
 have kv:∀b o,vis R as1 s.heap b o→vis (R++as1) [] s.heap b o:=by rintro b o ⟨p,q,e⟩;exact⟨fun z=>(mem_append.mp z).elim p q,(fun z=>nomatch z),e⟩
 refine wpAny_mono (wpAny_call (h.run A (R++as1) s vs hR (fun b o e=>kv b o (r.base b o e)) (fun b hb=>(mem_append.mp hb).elim (r.inb b) (hlt b)) (fz1.mono kv))) ?_ fun _ _ x=>x
 rintro u s1 ⟨d,h',tk',rfl,e1,f1,q⟩
 have keep:∀b o,s.heap.get? b=some o→h'.get? b=some o:=fun b o e=>e1.keep b o (fun z=>nomatch z) e
 have kv2:∀b o,vis (R++as1) [] h' b o→vis R as1 h' b o:=by rintro b o ⟨p,q,e⟩;exact⟨fun z=>p (mem_append_left _ z),fun z=>p (mem_append_right _ z),e⟩
 exact PE.after (s:=s) (t1:=s.toks) (Ah.less sub) (PE.grown (t1:=tk') (h1:=h') r rfl keep (f1.mono kv2) q)
theorem RN(S:Al O K U){g:Str}{f:Addr}{p pos:Pos}{e:Expr}{es:List Expr}{Q:EV→St→Prop}(hg:GlF sc K g (.ref f))(hk:keepIn K (.ref f)=true)
 (h:El O w U sc n (e::es) st fun ds st1=>FnP O w U n f ds fun d=>Q (.dat d) st1)
 (he:autoParam (∀env,starEach (e::es) env=(false,eval e env)::starEach es env) au.a1._auto_1) (hp:autoParam (∀env,(backTo pos (starEach es env)).any (·.1)=false) au.a1._auto_1):
 Ev O w U sc n (.Call (.Name g p) (e::es) [] pos) st Q:=by
 intro A env R as s hR hE r
 refine Call_Name rfl (MA S hg hE r (callWith_K (S.at r) hk ?_ (he env) (hp env)))
 refine h.go hR hE r fun vs ds st1 as1 h1 t1 e1 r1 f1 q=>?_
 exact⟨S.at r1,wpAny_mono (Yf (s:={s with heap:=h1,toks:=t1}) hR r1 f1 q) (fun _ _ p=>PE.after (t1:=t1) e1 p) fun _ _ x=>x⟩
theorem RO(S:Al O K U){g x:Str}{f:Addr}{p px pos:Pos}{es:List Expr}{a0:AG}{Q:EV→St→Prop}(hg:GlF sc K g (.ref f))(hk:keepIn K (.ref f)=true)(h0:look x st=some a0)
 (h:El O w U sc n es st fun ds st1=>∃a,look x st1=some a∧FnL O w U n f a ds fun d a'=>Q (.dat d) (put x a' st1))
 (h1':UV x a0=.own x)
 (he:autoParam (∀env,starEach (.Name x px::es) env=(false,eval (.Name x px) env)::starEach es env) au.a1._auto_1) (hp:autoParam (∀env,(backTo pos (starEach es env)).any (·.1)=false) au.a1._auto_1)
 (hd:autoParam ((x==("__debug__":Str))=false) au.a2._auto_1) (hc:autoParam ((x==("__classdict__":Str))=false) au.a2._auto_1):
 Ev O w U sc n (.Call (.Name g p) (.Name x px::es) [] pos) st Q:=by
 intro A env R as s hR hE r
 refine Call_Name rfl (MA S hg hE r (callWith_K (S.at r) hk ?_ (he env) (hp env)))
 refine wpAny_items_cons ?_ (he env)
 refine r.rowP h0 fun v cs hv _ _=>?_
 refine CN hE hv ?_ hd hc
 refine h.go hR hE r fun vs ds st1 as1 h1 t1 e1 r1 f1 qq=>?_
 obtain⟨a,hx,q⟩:=qq
 have hv1:AF h1 env x v:=Oy.step (R:=R) (ev:=.own x) hv e1 r.locA r.celA
 exact⟨S.at r1,wpAny_mono (Vm (s:={s with heap:=h1,toks:=t1}) hR r1 hx hv1 f1 q) (fun _ _ p=>PE.after (t1:=t1) e1 p) fun _ _ x=>x⟩
structure IN(K:Frag)(C:Addr)(name:Str)(f:Addr):Prop where
 find:findIn K (.ref C) name=some (some (.ref f))
 fn:typeIn K (.ref f)=some (.type "function")
 keep:keepIn K (.ref f)=true
theorem LL{o:Expr}{name:Str}{f:Addr}{a dx C:Addr}{od:Obj}{m:Str→Option Value}{apos pos:Pos}{args:List Expr}{A:Around}{env:Env}{Q:Value→Shared→Prop}{E:Value→Shared→Prop}{s:Shared}
 (hbase:attributeBase o name env (eval o env)=eval o env)
 (hfew:((backTo pos (starEach args env)).all (fun x=>!x.1)&&(backToKw pos (keywordEach [] env)).all (fun x=>x.1.isSome)
  &&decide (args.length+([]:List Keyword).length+(if([]:List Keyword).isEmpty then 0 else 1)<30))=true)
 (hline:(apos.endLine==pos.line)=true) (X:K.In s.heap) (ok:CE K C) (mo:IN K C name f) (g1:s.heap.get? a=some (instObj C dx)) (g2:s.heap.get? dx=some od) (hn:LCg.NsObj od m) (free:m name=none)
 (h:wpAny (model O w) A (eval o env) (fun ov s₁=>ov=.ref a∧s₁=s∧
  wpAny (model O w) A (callWith pos (.ref f) [.ref a] (backTo pos (starEach args env)) []) Q E s) E s):
 wpAny (model O w) A (eval (.Call (.Attribute o name apos) args [] pos) env) Q E s:=by
 refine rr (arm_eval_Call ..) (rr hbase ?_)
 refine wpAny_bind (wpAny_mono h (fun ov s₁ h₁=>?_) fun _ _ e=>e)
 obtain⟨rfl,rfl,hc⟩:=h₁
 refine wpAny_bind (wpAny_standAt ?_)
 have hform:methodCallForm (args.length+([]:List Keyword).length) (backTo pos (starEach args env)) (backToKw pos (keywordEach [] env))=true:=hfew
 have hpos:methodCallPos true o env apos pos=pure pos:=by unfold methodCallPos;simp[hline]
 unfold methodCall
 refine rr hform ?_
 refine wpAny_bind (wpAny_holding (method_fn X (LG g1 g2) ok.get ok.geta mo.find mo.fn (by show(lookIn name od).map _=_;rewrite[Jt hn];refine rr free ?_;rfl) ?_))
 exact wpAny_bind (wpAny_of_eq hpos hc)
end
section
variable{O:Program}{w:World}{U:Heap}{K:Frag}{sc:Scope}{n:Nat}{st:St}
theorem NsObj.free{m:Str→Option Value}{ns:List Str}{name:Str}(ex:∀y v,m y=some v→y∈ns)(h:ns.contains name=false):m name=none:=by
 cases e:m name with
 |none=>rfl
 |some v=>exact absurd (by simpa using ex _ _ e) (by simpa using h)
theorem RQ(S:Al O K U){x name:Str}{f C:Addr}{fs:List (Str×Cu)}{px ap pos:Pos}{e:Expr}{es:List Expr}{Q:EV→St→Prop}(h0:look x st=some (.obj C fs))(ok:CE K C)(mo:IN K C name f)(free:(fs.map (·.1)).contains name=false)
 (h:El O w U sc n (e::es) st fun ds st1=>∃a,look x st1=some a∧FnL O w U n f a ds fun d a'=>Q (.dat d) (put x a' st1))
 (hfew:autoParam (∀env,((backTo pos (starEach (e::es) env)).all (fun x=>!x.1)&&(backToKw pos (keywordEach [] env)).all (fun x=>x.1.isSome)
  &&decide ((e::es).length+([]:List Keyword).length+(if([]:List Keyword).isEmpty then 0 else 1)<30))=true) au.a1._auto_1)
 (hline:autoParam ((ap.endLine==pos.line)=true) au.a3._auto_1)
 (he:autoParam (∀env,starEach (e::es) env=(false,eval e env)::starEach es env) au.a1._auto_1) (hp:autoParam (∀env,(backTo pos (starEach es env)).any (·.1)=false) au.a1._auto_1)
 (hd:autoParam ((x==("__debug__":Str))=false) au.a2._auto_1) (hc:autoParam ((x==("__classdict__":Str))=false) au.a2._auto_1):
 Ev O w U sc n (.Call (.Attribute (.Name x px) name ap) (e::es) [] pos) st Q:=by
 intro A env R as s hR hE r
 refine r.objP h0 fun a' dx o m cs hv g1 g2 hn fl ex=>?_
 ·
  refine LL rfl (hfew env) hline (S.at r) ok mo g1 g2 hn (NsObj.free ex free) (CN hE hv ⟨rfl,rfl,callWith_K (S.at r) mo.keep ?_ (he env) (hp env)⟩ hd hc)
  refine h.go hR hE r fun vs ds st1 as1 h1 t1 e1 r1 f1 qq=>?_
  obtain⟨a,hx,q⟩:=qq
  have hv1:AF h1 env x _:=Oy.step (R:=R) (ev:=.own x) hv e1 r.locA r.celA
  exact⟨S.at r1,wpAny_mono (Vm (s:={s with heap:=h1,toks:=t1}) hR r1 hx hv1 f1 q) (fun _ _ p=>PE.after (t1:=t1) e1 p) fun _ _ x=>x⟩
theorem OX(S:Al O K U){x name:Str}{f C:Addr}{fs:List (Str×Cu)}{px ap pos:Pos}{Q:EV→St→Prop}(h0:look x st=some (.obj C fs))(ok:CE K C)(mo:IN K C name f)(free:(fs.map (·.1)).contains name=false)
 (h:FnL O w U n f (.obj C fs) [] fun d a'=>Q (.dat d) (put x a' st))
 (hfew:autoParam (∀env,((backTo pos (starEach [] env)).all (fun x=>!x.1)&&(backToKw pos (keywordEach [] env)).all (fun x=>x.1.isSome)
  &&decide (([]:List Expr).length+([]:List Keyword).length+(if([]:List Keyword).isEmpty then 0 else 1)<30))=true) au.a1._auto_1)
 (hline:autoParam ((ap.endLine==pos.line)=true) au.a3._auto_1)
 (hd:autoParam ((x==("__debug__":Str))=false) au.a2._auto_1) (hc:autoParam ((x==("__classdict__":Str))=false) au.a2._auto_1):
 Ev O w U sc n (.Call (.Attribute (.Name x px) name ap) [] [] pos) st Q:=by
 intro A env R as s hR hE r
 refine r.objP h0 fun a' dx o m cs hv g1 g2 hn fl ex=>?_
 ·
  refine LL rfl (hfew env) hline (S.at r) ok mo g1 g2 hn (NsObj.free ex free) (CN hE hv ⟨rfl,rfl,callWith_K0 (S.at r) mo.keep ?_⟩ hd hc)
  exact Vm hR r h0 hv .nil h
theorem OY(S:Al O K U){x name:Str}{f C:Addr}{fs:List (Str×Dat)}{px ap pos:Pos}{Q:EV→St→Prop}(h0:look x st=some (.dat (.inst C fs)))(ok:CE K C)(mo:IN K C name f)(free:(fs.map (·.1)).contains name=false)
 (h:FnP O w U n f [.inst C fs] fun d=>Q (.dat d) st)
 (hfew:autoParam (∀env,((backTo pos (starEach [] env)).all (fun x=>!x.1)&&(backToKw pos (keywordEach [] env)).all (fun x=>x.1.isSome)
  &&decide (([]:List Expr).length+([]:List Keyword).length+(if([]:List Keyword).isEmpty then 0 else 1)<30))=true) au.a1._auto_1)
 (hline:autoParam ((ap.endLine==pos.line)=true) au.a3._auto_1)
 (hd:autoParam ((x==("__debug__":Str))=false) au.a2._auto_1) (hc:autoParam ((x==("__classdict__":Str))=false) au.a2._auto_1):
 Ev O w U sc n (.Call (.Attribute (.Name x px) name ap) [] [] pos) st Q:=by
 intro A env R as s hR hE r
 refine r.datP h0 fun v hv fz=>?_
 have fz0:=FzL.cons fz .nil
 revert hv fz0
 exact fz.instP fun a' dx o m g1 g2 hn ff ex hv fz0=>LL rfl (hfew env) hline (S.at r) ok mo g1.2.2 g2.2.2 hn (NsObj.free ex free) (CN hE hv ⟨rfl,rfl,callWith_K0 (S.at r) mo.keep (Yf hR r fz0 h)⟩ hd hc)
theorem CU.under{A:Around}{n:Nat}{C:Addr}{vs:List Value}(r:CU A (n+1)):CU (A.under (.builtin "type.__call__" ⟨.ref C::vs,[]⟩)) n:=by
 obtain⟨h1,h2,h3,h4⟩:=r
 refine⟨h1,?_,?_,h4⟩
 ·show A.depth+1+3*n+110<recursionLimit
  exact(Ac h2)
 ·show A.units+1+20*n+100<cLine
  exact(Ac h3)
theorem Vn:LCg.NsObj emptyDict (fun _=>none):=⟨#[],0,rfl,fun e he=>by simp at he,fun _=>rfl⟩
theorem OZ(S:Al O K U){g:Str}{C fI:Addr}{p pos:Pos}{e:Expr}{es:List Expr}{Q:AG→St→Prop}(hg:GlF sc K g (.ref C))(hk:keepIn K (.ref C)=true)(hm:makesIn K C=true)
 (hi:findIn K (.ref C) "__init__"=some (some (.ref fI))) (hf:typeIn K (.ref fI)=some (.type "function"))
 (h:El O w U sc (n+1) (e::es) st fun ds st1=>FnL O w U n fI (.obj C []) ds fun d a'=>d=.none∧Q a' st1)
 (he:autoParam (∀env,starEach (e::es) env=(false,eval e env)::starEach es env) au.a1._auto_1) (hp:autoParam (∀env,(backTo pos (starEach es env)).any (·.1)=false) au.a1._auto_1):
 Ef O w U sc (n+1) (.Call (.Name g p) (e::es) [] pos) st Q:=by
 intro A env R as s hR hE r
 refine Call_Name rfl (MA S hg hE r (callWith_K (S.at r) hk ?_ (he env) (hp env)))
 refine h.go hR hE r fun vs ds st1 as0 h1 t1 e1 r0 f0 q=>?_
 refine⟨S.at r0,?_⟩
 refine r0.trimP fun as1 sub hlt r1=>?_
 have f1:FzL (vis R as1 h1) vs ds:=FzL.mono (Ah.less sub).vis f0
 have X:=S.at r1
 refine wpAny_call (make_core (makes_of X hm) (looks_findIn X hi) (fun self=>bind_fn X self hf) (.inl rfl) ?_)
 have k:∀b o,h1.get? b=some o→((h1.push emptyDict).push (instObj C h1.objs.size)).get? b=some o:=fun b o e=>get?_push_of_some _ (get?_push_of_some _ e)
 have gd:((h1.push emptyDict).push (instObj C h1.objs.size)).get? h1.objs.size=some emptyDict:=get?_push_of_some _ (get?_push_size _ rfl)
 have gx:((h1.push emptyDict).push (instObj C h1.objs.size)).get? (h1.objs.size+1)=some (instObj C h1.objs.size):=by
  have:=get?_push_size (h1.push emptyDict) (o:=instObj C h1.objs.size) rfl
  rwa [size_push]at this
 have nx:h1.get? (h1.objs.size+1)=none:=AL _ (le_succ _)
 have nd:h1.get? h1.objs.size=none:=AL _ (le_refl _)
 have new:∀b∈[h1.objs.size+1,h1.objs.size],h1.get? b=none:=LD (p:=fun b=>h1.get? b=none) nx nd
 have kv:∀b o,vis R as1 h1 b o→vis (R++as1) [h1.objs.size+1,h1.objs.size] ((h1.push emptyDict).push (instObj C h1.objs.size)) b o:=fun b o ⟨p,q,e⟩=>
  ⟨fun z=>(mem_append.mp z).elim p q,fun z=>Gj (new b z) e,k b o e⟩
 have alive:∀b∈R++as1,∃o,h1.get? b=some o:=fun b hb=>(mem_append.mp hb).elim (r1.inb b) (hlt b)
 refine codeAny_mono (q.run (A.under (.builtin "type.__call__" ⟨.ref C::vs,[]⟩)) (R++as1) [h1.objs.size+1,h1.objs.size] {s with heap:=(h1.push emptyDict).push (instObj C h1.objs.size),toks:=t1} (.ref (h1.objs.size+1)) vs hR.under (fun b o e=>kv b o (r1.base b o e)) (fun b hb=>(by obtain⟨o,e⟩:=alive b hb;exact⟨o,k b o e⟩)) (fun b hb z=>BR (new b z) (alive b hb))
  (.obj gx gd Vn .nil (by simp) (by simp) ⟨fun _ _=>IF,fun es ep h=>(by cases h;exact le_refl 0)⟩) (f1.mono kv)) ?_
 rintro rr s2 hb
 rcases rr with er|(v|_|_|_)<;>first|exact hb|skip
 obtain⟨d,a',cs',h',tk',rfl,e2,rep,fr,rfl,q'⟩:=hb
 cases fr
 refine⟨rfl,?_⟩
 have keep:∀b o,h1.get? b=some o→h'.get? b=some o:=fun b o e=>e2.keep b o (fun z=>Gj (new b z) e) (k b o e)
 have hcs:∀b∈cs',h1.get? b=none:=fun b hb=>(e2.fresh b hb).elim (new b) fun z=>(LB.of k).none z
 obtain⟨r3,kv3⟩:=r1.laid (cs:=cs') keep (fun b hb=>⟨hcs b hb,rep.alive b hb⟩) hlt
 refine⟨a',st1,as1,h',tk',cs',rfl,(e1.trans (Ah.less sub)).trans (Ah.grow _ keep),r3,rep.mono (by rintro b o ⟨p,q,e⟩;exact⟨fun z=>(mem_append.mp z).elim q fun z=>p (mem_append_left _ z),fun z=>p (mem_append_right _ z),e⟩) fun _ _ _ e=>e,fun b hb=>e1.live.none (hcs b hb),q'⟩
end
structure Src(O:Program)(w:World)(A:Around)(tgt:Expr)(I:Addr)(fp wr:List Addr)(G:BT)(ds:List Dat)(St:Nat→Heap→Prop)(Mid:Nat→Value→Heap→Prop):Prop where
 sub:∀b∈wr,b∈fp
 seen:∀b∈fp,b∈wr∨∃o,G b o
 frame:∀i h h',St i h→(∀b∈fp,∀o,h.get? b=some o→h'.get? b=some o)→St i h'
 alive:∀i h,St i h→∀b∈wr,∃o,h.get? b=some o
 item:∀i (s:Shared) (Q:Option Value→Shared→Prop) (E:Value→Shared→Prop) (d:Dat),ds[i]?=some d→St i s.heap→(∀b o,G b o→s.heap.get? b=some o)→
  (∀v h' tk,Fz (fun b o=>G b o∨(s.heap.get? b=none∧h'.get? b=some o)) v d→Mid i v h'→(∀b o,b∉wr→s.heap.get? b=some o→h'.get? b=some o)→Q (some v) {s with heap:=h',toks:=tk})→wpAny (model O w) A (pyNext (.ref I)) Q E s
 go:∀i v (s:Shared) (Q:Unit→Shared→Prop) (E:Value→Shared→Prop),Mid i v s.heap→(∀h',St (i+1) h'→(∀b o,b∉wr→s.heap.get? b=some o→h'.get? b=some o)→Q () {s with heap:=h'})→wpAny (model O w) A (letOwnedTupleGo tgt (.ref I) v) Q E s
 done:∀(s:Shared) (Q:Option Value→Shared→Prop) (E:Value→Shared→Prop),St ds.length s.heap→(∀h' tk,(∀b o,b∉wr→s.heap.get? b=some o→h'.get? b=some o)→Q none {s with heap:=h',toks:=tk})→wpAny (model O w) A (pyNext (.ref I)) Q E s
 self:∀i (s:Shared) (Q:Value→Shared→Prop) (E:Value→Shared→Prop),St i s.heap→Q (.ref I) s→wpAny (model O w) A (pyIter (.ref I)) Q E s
section
variable{O:Program}{w:World}{U:Heap}{K:Frag}{sc:Scope}{n:Nat}{st:St}
theorem Bx.over{env:Env}{as as1 wr:List Addr}{h h1 h2:Heap}(S:Bx env as h as1 h1)(k:∀b o,b∉wr→h1.get? b=some o→h2.get? b=some o)(fr:∀b∈wr,h.get? b=none):Bx env as h as1 h2:=by
 have off:∀b o,h.get? b=some o→b∉wr:=fun b o e q=>by rw[fr b q]at e;cases e
 refine⟨fun b o n1 n2 hb e=>k b o (off b o e) (S.keep b o n1 n2 hb e),S.fresh,fun b o e=>(by obtain⟨o',e'⟩:=S.live b o e;exact⟨o',k b o' (off b o e) e'⟩),fun F x v hp hv=>(S.pin F x v hp hv).keep fun b o hb e=>?_⟩
 obtain⟨_,o',e'⟩:=F b hb
 exact k b o (off b o' e') e
theorem Rel.turn{R as wr:List Addr}{env:Env}{h h':Heap}(r:Rel U (wr++R) env st as h)(hl:env.locals∈R)(hc:∀x c,env.cells.lookup x=some c→c∈R)(off:∀b∈wr,b∉R)(k:∀b o,b∉wr→h.get? b=some o→h'.get? b=some o)(al:∀b∈wr,∃o,h'.get? b=some o):
 Rel U (wr++R) env st as h'∧∀b o,vis (wr++R) as h b o→vis (wr++R) as h' b o:=by
 have kv:∀b o,vis (wr++R) as h b o→vis (wr++R) as h' b o:=(by rintro b o ⟨p,q,e⟩;exact⟨p,q,k b o (fun z=>p (mem_append_left _ z)) e⟩)
 have nR:∀b∈R,b∉wr:=fun b hb z=>off b z hb
 obtain⟨⟨val,cs',hr,hd⟩,hn,hsep,hl',hc',⟨m,hm⟩,hcl,hi,hb⟩:=r
 have na:∀b∈as,b∉wr:=fun b hb z=>hsep b (mem_append_left _ z) hb
 refine⟨⟨⟨val,cs',fun x a hx=>(by obtain⟨p,q,z⟩:=hr x a hx;exact⟨p.keep fun b o hb e=>k b o (hb.elim (fun q=>q▸nR _ hl) (by rintro⟨y,q⟩;exact nR _ (hc y b q))) e,q.mono kv fun b hb o e=>k b o (na b (z b hb)) e,z⟩),hd⟩,hn,hsep,hl',hc',⟨m,hm.at' fun o e=>k _ o (nR _ hl) e⟩,
  fun x c e=>(by obtain⟨v,o,ho,hd⟩:=hcl x c e;exact⟨v,o,k _ _ (nR _ (hc x c e)) ho,hd⟩),fun b hb=>?_,fun b o e=>kv b o (hb b o e)⟩,kv⟩
 rcases mem_append.mp hb with z|z
 ·exact al b z
 ·obtain⟨o,e⟩:=hi b (mem_append_right _ z);exact⟨o,k b o (nR b z) e⟩
theorem Rel.off{R as wr:List Addr}{env:Env}{h h':Heap}(r:Rel U (wr++R) env st as h)(hl:env.locals∈R)(hc:∀x c,env.cells.lookup x=some c→c∈R)(off:∀b∈wr,b∉R)(k:∀b o,b∉wr→h.get? b=some o→h'.get? b=some o):
 Rel U R env st as h':=by
 have kv:∀b o,vis (wr++R) as h b o→vis R as h' b o:=(by rintro b o ⟨p,q,e⟩;exact⟨fun z=>p (mem_append_right _ z),q,k b o (fun z=>p (mem_append_left _ z)) e⟩)
 have nR:∀b∈R,b∉wr:=fun b hb z=>off b z hb
 obtain⟨⟨val,cs',hr,hd⟩,hn,hsep,hl',hc',⟨m,hm⟩,hcl,hi,hb⟩:=r
 have na:∀b∈as,b∉wr:=fun b hb z=>hsep b (mem_append_left _ z) hb
 exact⟨⟨val,cs',fun x a hx=>(by obtain⟨p,q,z⟩:=hr x a hx;exact⟨p.keep fun b o hb e=>k b o (hb.elim (fun q=>q▸nR _ hl) (by rintro⟨y,q⟩;exact nR _ (hc y b q))) e,q.mono kv fun b hb o e=>k b o (na b (z b hb)) e,z⟩),hd⟩,hn,fun b hb=>hsep b (mem_append_right _ hb),hl,hc,⟨m,hm.at' fun o e=>k _ o (nR _ hl) e⟩,
  fun x c e=>(by obtain⟨v,o,ho,hd⟩:=hcl x c e;exact⟨v,o,k _ _ (nR _ (hc x c e)) ho,hd⟩),fun b hb=>(by obtain⟨o,e⟩:=hi b (mem_append_right _ hb);exact⟨o,k b o (nR b hb) e⟩),fun b o e=>kv b o (hb b o e)⟩
inductive PS(O:Program)(w:World)(U:Heap)(A:Around)(R:List Addr)(env:Env)(as:List Addr)(s:Shared)(tgt:Expr)(Q:List Dat→St→Prop)(it:Value)(s':Shared):Prop
 |mk (I:Addr) (ds:List Dat) (st':St) (as':List Addr) (h':Heap) (tk':Nat) (fp wr:List Addr) (S:Nat→Heap→Prop) (Mid:Nat→Value→Heap→Prop) (hi:it=.ref I) (hs:s'={s with heap:=h',toks:=tk'}) (e:Ah as s.heap as' h') (r:Rel U (wr++R) env st' as' h') (src:Src O w A tgt I fp wr (vis (wr++R) as' h') ds S Mid) (s0:S 0 h') (f:∀b∈wr,s.heap.get? b=none) (q:Q ds st')
def Es(O:Program)(w:World)(U:Heap)(sc:Scope)(n:Nat)(iter tgt:Expr)(st:St)(Q:List Dat→St→Prop):Prop:=
 ∀(A:Around) (env:Env) (R as:List Addr) (s:Shared),CU A n→Be sc env→Rel U R env st as s.heap→wpAny (model O w) A (eval iter env) (fun x s1=>wpAny (model O w) A (pyIter x) (PS O w U A R env as s tgt Q) (fun _ _=>False) s1) (fun _ _=>False) s
theorem Es.go{iter tgt:Expr}{Q:List Dat→St→Prop}(h:Es O w U sc n iter tgt st Q){A:Around}{env:Env}{R as:List Addr}{s:Shared}{P E E':Value→Shared→Prop}(hR:CU A n)(hE:Be sc env)(r:Rel U R env st as s.heap)
 (k:∀I ds st' as' h' tk' fp wr S Mid,Ah as s.heap as' h'→Rel U (wr++R) env st' as' h'→Src O w A tgt I fp wr (vis (wr++R) as' h') ds S Mid→S 0 h'→(∀b∈wr,s.heap.get? b=none)→Q ds st'→P (.ref I) {s with heap:=h',toks:=tk'}):
 wpAny (model O w) A (eval iter env) (fun x s1=>wpAny (model O w) A (pyIter x) P E s1) E' s:=
 wpAny_mono (h A env R as s hR hE r) (fun _ _ hx=>wpAny_mono hx (by rintro _ _ ⟨I,ds,st',as',h',tk',fp,wr,S,Mid,hi,hs,e,r,W,h0,f,q⟩;exact hi▸hs▸k I ds st' as' h' tk' fp wr S Mid e r W h0 f q) fun _ _ e=>e.elim) fun _ _ e=>e.elim
def GO(Q:Fl→St→Prop)(next:St→Prop)(fl:Fl)(st:St):Prop:=match fl with
 | .next=>next st
 | .cont=>next st
 | .brk=>Q .next st
 | .ret d=>Q (.ret d) st
def Bc(O:Program)(w:World)(U:Heap)(sc:Scope)(n:Nat)(tgt:Expr)(body:List Stmt)(Q:Fl→St→Prop):List Dat→St→Prop
 |[],st=>Q .next st
 |d::ds,st=>As O w U sc n tgt d st fun st1=>Ss O w U sc n body st1 (GO Q (Bc O w U sc n tgt body Q ds))
theorem LM{i k:Nat}(h:i<k):k+1-(i+1)<k+1-i:=Nat.sub_lt_sub_left (lt_succ_of_lt h) (lt_succ_self i)
inductive Pa(O:Program)(w:World)(U:Heap)(sc:Scope)(n:Nat)(tgt:Expr)(body:List Stmt)(Q:Fl→St→Prop)(ds:List Dat)(R wr:List Addr)(env:Env)(as:List Addr)(s:Shared)(as1:List Addr)(h1:Heap)(Sx:Nat→Heap→Prop)(k:Nat)(s':Shared):Prop
 |mk (i:Nat) (sti:St) (asi:List Addr) (h:Heap) (tk:Nat) (hs:s'={s with heap:=h,toks:=tk}) (hi:i≤ds.length) (hk:k=ds.length+1-i) (e:Bx env as s.heap asi h) (r:Rel U (wr++R) env sti asi h) (hst:Sx i h) (gv:∀b o,vis (wr++R) as1 h1 b o→vis (wr++R) asi h b o) (L:Bc O w U sc n tgt body Q (ds.drop i) sti)
theorem EY{tgt iter:Expr}{body:List Stmt}{pos:Pos}{Q:Fl→St→Prop}(h:Es O w U sc n iter tgt st (Bc O w U sc n tgt body Q))(hs:autoParam (∀env x,foldedSetIterable iter env x=pure x) au.a5._auto_1):
 Sx O w U sc n (.For tgt iter body [] pos) st Q:=by
 intro A env R as s hR hE r
 refine wpAny_For (h.go hR hE r fun I ds st1 as1 h1 t1 fp wr Sx Mid e1 r1 W hst fr L=>?_) (hs env)
 have offR:∀b∈wr,b∉R:=BW r fr
 have mkI:∀i sti asi h tk,i≤ds.length→Bx env as s.heap asi h→Rel U (wr++R) env sti asi h→Sx i h→(∀b o,vis (wr++R) as1 h1 b o→vis (wr++R) asi h b o)→Bc O w U sc n tgt body Q (ds.drop i) sti→Pa O w U sc n tgt body Q ds R wr env as s as1 h1 Sx (ds.length+1-i) {s with heap:=h,toks:=tk}:=
  fun i sti asi h tk hi e r hst gv L=>⟨i,sti,asi,h,tk,rfl,hi,rfl,e,r,hst,gv,L⟩
 refine codeAny_forLoop_any (Pa O w U sc n tgt body Q ds R wr env as s as1 h1 Sx) (fun k s' hI=>?_) (ds.length+1) (mkI 0 st1 as1 h1 t1 (zero_le _) e1.toS r1 hst (fun _ _ e=>e) L)
 obtain⟨i,sti,asi0,hh,tk,rfl,hi,rfl,S0,r0,hst,gv0,L⟩:=hI
 have mkX:=PX.mk' (U:=U) (R:=R) (env:=env) (as:=as) (s:=s) (Q:=Q)
 refine r0.trimP fun asi sub hlt r2=>?_
 have S2:Bx env as s.heap asi hh:=S0.trans (Ah.less sub).toS
 have gv:∀b o,vis (wr++R) as1 h1 b o→vis (wr++R) asi hh b o:=fun b o e=>(Ah.less sub).vis b o (gv0 b o e)
 by_cases hlt2:i<ds.length
 ·have ed:ds[i]?=some ds[i]:=getElem?_eq_getElem hlt2
  rw[List.drop_eq_getElem_cons hlt2]at L
  refine W.item i _ _ _ _ ed hst (fun b o e=>(gv b o e).2.2) fun v h2 t2 fz mid k2=>?_
  refine W.go i v {s with heap:=h2,toks:=t2} _ _ mid fun h3 hst3 k3=>?_
  have k23:∀b o,b∉wr→hh.get? b=some o→h3.get? b=some o:=fun b o hb e=>k3 b o hb (k2 b o hb e)
  obtain⟨r3,kv3⟩:=r2.turn r.locR r.celR offR k23 (W.alive _ _ hst3)
  have S3:Bx env as s.heap asi h3:=S2.over k23 fr
  have gv3:∀b o,vis (wr++R) as1 h1 b o→vis (wr++R) asi h3 b o:=fun b o q=>kv3 b o (gv b o q)
  have fz3:Fz (vis (wr++R) asi h3) v ds[i]:=fz.mono fun b o q=>q.elim (gv3 b o) fun q=>
   have nwr:b∉wr++R:=fun z=>BR q.1 (r2.inb b z)
   ⟨nwr,fun z=>BR q.1 (hlt b z),k3 b o (fun z=>nwr (mem_append_left _ z)) q.2⟩
  have frames:∀{asj:List Addr}{h4:Heap},Bx env asi h3 asj h4→Sx (i+1) h4:=fun{asj h4} S4=>W.frame _ _ _ hst3 fun b hb o e=>by
   rcases W.seen b hb with z|⟨o',z⟩
   ·exact S4.keep b o (fun q=>offR b z (q▸r.locR)) (fun _ x q=>offR b z (r.celR x b q)) (r3.sep b (mem_append_left _ z)) e
   ·have:=gv3 _ _ z
    exact S4.keep b o (fun q=>this.1 (mem_append_right _ (q▸r.locR))) (fun _ x q=>this.1 (mem_append_right _ (r.celR x b q))) this.2.1 e
  refine wpAny_mono (L A env (wr++R) asi {s with heap:=h3,toks:=t2} v hR hE r3 fz3) ?_ fun _ _ x=>x.elim
  rintro _ s4 ⟨st4,as4,h4,t4,rfl,S4,r4,q4⟩
  refine q4.go (s:={s with heap:=h4,toks:=t4}) hR hE r4 fun f fl st5 as5 h5 t5 S5 r5 fo q5=>?_
  have S45:=S4.trans S5
  have Sall:Bx env as s.heap as5 h5:=S3.trans S45
  have stay:Rel U R env st5 as5 h5:=r5.off r.locR r.celR offR fun _ _ _ e=>e
  have next:Bc O w U sc n tgt body Q (ds.drop (i+1)) st5→∃m,m<ds.length+1-i∧Pa O w U sc n tgt body Q ds R wr env as s as1 h1 Sx m {s with heap:=h5,toks:=t5}:=
   fun L=>⟨ds.length+1-(i+1),LM hlt2,mkI _ _ _ _ _ hlt2 Sall r5 (frames S45) (fun b o q=>S45.vis (R:=wr++R) (mem_append_right _ r.locR) (fun y c e=>mem_append_right _ (r.celR y c e)) b o (gv3 b o q)) L⟩
  cases f<;>cases fl<;>first|exact fo.elim|exact next q5|exact mkX _ .next _ _ _ _ Sall stay trivial q5|exact mkX _ (.ret _) _ _ _ _ Sall stay (fo.mono (by rintro b o ⟨p,q,e⟩;exact⟨fun z=>p (mem_append_right _ z),q,e⟩)) q5
 ·obtain rfl:=Nat.le_antisymm hi (le_of_not_lt hlt2)
  rw[List.drop_length]at L
  exact W.done _ _ _ hst fun h2 t2 k2=>wpAny_execs_nil (mkX _ .next _ _ _ _ (S2.over k2 fr) (r2.off r.locR r.celR offR k2) trivial L)
end
section
variable{O:Program}{w:World}{U:Heap}{K:Frag}{sc:Scope}{n:Nat}{st:St}
noncomputable def Hi(n:String):Bool:=!["enumerate","zip","dict_itemiterator","dict_reverseitemiterator","odict_iterator","itertools.zip_longest","itertools.pairwise"].contains n
theorem RS{A:Around}{E:Value→Shared→Prop}{tgt:Expr}{I:Addr}{v:Value}{s:Shared}{o:Obj}{T:String}{Q:Unit→Shared→Prop}(ho:s.heap.get? I=some o)(hc:o.cls=.type T)(hT:Hi T=true)(q:Q () s):
 wpAny (model O w) A (letOwnedTupleGo tgt (.ref I) v) Q E s:=by
 obtain⟨c,d,dt,sl⟩:=o
 dsimp only at hc
 subst hc
 unfold letOwnedTupleGo
 have key:wpAny (model O w) A (match(Value.ref I,v)with
  |(.ref r,.ref a)=>do
   let o←load r
   match o.cls,o.data with
   | .type n,.fields vs=>
    if["enumerate","zip","dict_itemiterator","dict_reverseitemiterator","odict_iterator","itertools.zip_longest","itertools.pairwise"].contains n&&vs[0]?==some (rawInt a)then
     rule "for.unpacks-the-owned-tuple"
     updateField r 0 .none
    else pure ()
   |_,_=>pure ()
  |_=>pure ()) Q E s:=by
  cases v<;>first|exact wpAny_pure q|skip
  refine wpAny_bind (wpAny_load ho ?_)
  cases dt<;>first|exact wpAny_pure q|skip
  dsimp only
  unfold Hi at hT
  rw[Bool.not_eq_true']at hT
  refine rr hT (rr (Bool.false_and ..) ?_)
  exact wpAny_pure q
 cases tgt<;>first|exact wpAny_pure q|exact key
theorem Src.ofWalks{A:Around}{tgt:Expr}{I:Addr}{fp:List Addr}{G:BT}{ds:List Dat}{P:Nat→Value→Prop}{S:Nat→Heap→Prop}{T:String}(W:Walks O w A I fp [I] ds.length P S)(seen:∀b∈fp,b=I∨∃o,G b o)
 (hT:Hi T=true) (at_:∀i h,S i h→∃o,h.get? I=some o∧o.cls=.type T) (fz:∀i v d,P i v→ds[i]?=some d→Fz G v d):Src O w A tgt I fp [I] G ds S (fun i _ h=>S (i+1) h) where
 sub:=W.sub
 seen:=fun b hb=>(seen b hb).imp (fun q=>by refine rr q ?_;exact .head _) id
 frame:=W.frame
 alive:=fun i h hs b hb=>(by obtain⟨o,e,_⟩:=at_ i h hs;exact Ay hb▸⟨o,e⟩)
 item:=fun i s Q E d ed hs hg hq=>W.item i s Q E (List.getElem?_eq_some_iff.mp ed).1 hs fun v h' tk hp hs' k=>hq v h' tk ((fz i v d hp ed).mono fun b o g=>.inl g) hs' k
 go:=fun i v s Q E hm hq=>(by obtain⟨o,e,c⟩:=at_ _ _ hm;exact RS e c hT (hq s.heap hm fun _ _ _ e=>e))
 done:=W.done
 self:=W.self
theorem PS.mk'{A:Around}{R as:List Addr}{env:Env}{s:Shared}{tgt:Expr}{Q:List Dat→St→Prop}{I:Addr}{ds:List Dat}{st':St}{as':List Addr}{h1 h2:Heap}{t2:Nat}{fp wr:List Addr}{S:Nat→Heap→Prop}{Mid:Nat→Value→Heap→Prop}
 (e:Ah as s.heap as' h1) (r:Rel U R env st' as' h1) (hlt:∀b∈as',∃o,h1.get? b=some o) (k:∀b o,h1.get? b=some o→h2.get? b=some o) (new:∀b∈wr,h1.get? b=none∧∃o,h2.get? b=some o)
 (W:Src O w A tgt I fp wr (vis (wr++R) as' h2) ds S Mid) (h0:S 0 h2) (q:Q ds st'):PS O w U A R env as s tgt Q (.ref I) {s with heap:=h2,toks:=t2}:=by
 obtain⟨r2,kv⟩:=r.laid k new hlt
 exact⟨I,ds,st',as',h2,t2,fp,wr,S,Mid,rfl,rfl,e.trans (Ah.grow _ k),r2,W,h0,fun b hb=>e.live.none (new b hb).1,q⟩
theorem Uh{A:Around}{R as:List Addr}{env:Env}{s:Shared}{tgt:Expr}{Q:List Dat→St→Prop}{st1:St}{as1:List Addr}{h1:Heap}{t1:Nat}{ds:List Dat}{vs:List Value}{a:Addr}{o it:Obj}{T:String}{S:Nat→Heap→Prop}
 (e1:Ah as s.heap as1 h1) (r1:Rel U R env st1 as1 h1) (hlt:∀b∈as1,∃o,h1.get? b=some o) (ho:vis R as1 h1 a o) (fs:FzL (vis R as1 h1) vs ds) (hf:it.isFreed=false) (hT:Hi T=true)
 (W:Walks O w A h1.objs.size [h1.objs.size,a] [h1.objs.size] vs.toArray.size (fun i v=>vs.toArray[i]?=some v) S) (at_:∀i h,S i h→∃o,h.get? h1.objs.size=some o∧o.cls=.type T)
 (h0:(h1.push it).get? h1.objs.size=some it→(h1.push it).get? a=some o→S 0 (h1.push it)) (q:Q ds st1):PS O w U A R env as s tgt Q (.ref h1.objs.size) {s with heap:=h1.push it,toks:=t1}:=by
 have up:∀b o,h1.get? b=some o→(h1.push it).get? b=some o:=fun b o e=>get?_push_of_some _ e
 have g1:(h1.push it).get? h1.objs.size=some it:=get?_push_size _ hf
 have hS:=h0 g1 (up _ _ ho.2.2)
 have n1:h1.get? h1.objs.size=none:=AL _ (le_refl _)
 clear hf h0
 generalize h1.push it=H at*
 generalize h1.objs.size=I at*
 have kv:∀b o,vis R as1 h1 b o→vis ([I]++R) as1 H b o:=by rintro b o ⟨p,q,e⟩;exact⟨fun y=>(mem_append.mp y).elim (fun y=>Gj n1 (Ay y▸e)) p,q,up b o e⟩
 rw[size_toArray,fs.length]at W
 refine PS.mk' (t2:=t1) (wr:=[I]) e1 r1 hlt up (fun b hb=>Ay hb▸⟨n1,_,g1⟩) (Src.ofWalks W (fun b hb=>(mem_cons.mp hb).imp id fun z=>⟨_,Ay z▸kv _ _ ho⟩) hT at_ fun i v d hp ed=>?_) hS q
 obtain⟨v',ev,fv⟩:=fs.get ed
 rw[getElem?_toArray,ev]at hp
 exact Option.some.inj hp▸fv.mono kv
theorem Ei{iter tgt:Expr}{Q:List Dat→St→Prop}(h:Ed O w U sc n iter st fun d st1=>∃ds,Fk d=some ds∧Q ds st1):Es O w U sc n iter tgt st Q:=by
 intro A env R as s hR hE r
 refine h.go hR hE r fun v d st1 as0 h1 t1 e0 r0 f0 qq=>?_
 obtain⟨ds,ed,q⟩:=qq
 refine r0.trimP fun as1 sub hlt r1=>?_
 have e1:=e0.trans (Ah.less sub)
 have f1:Fz (vis R as1 h1) v d:=f0.mono (Ah.less sub).vis
 cases d<;>first|exact IF ed|skip
 ·obtain rfl:=Option.some.inj ed
  refine f1.tupleP fun a vs k ho fs=>?_
  exact wpAny_pyIter_tuple (items:=vs.toArray) ⟨_,ho.2.2,rfl,_,rfl⟩ (Uh e1 r1 hlt ho fs rfl (by decide) (Walks.tuple hR.handled _ a (ne_of_lt (lt_size ho.2.2)) vs.toArray) (fun i h hs=>let⟨o,e,c,_⟩:=hs.1;⟨o,e,c⟩) (fun g1 g2=>⟨⟨_,g1,rfl,rfl⟩,⟨_,g2,rfl,_,rfl⟩⟩) q)
 ·obtain rfl:=Option.some.inj ed
  refine f1.listP fun a vs k ho fs=>?_
  exact wpAny_pyIter_list (items:=vs.toArray) ⟨_,ho.2.2,rfl,_,rfl⟩ (Uh e1 r1 hlt ho fs rfl (by decide) (Walks.list hR.handled _ a (ne_of_lt (lt_size ho.2.2)) vs.toArray) (fun i h hs=>let⟨o,e,c,_⟩:=hs.1;⟨o,e,c⟩) (fun g1 g2=>⟨⟨_,g1,rfl,rfl⟩,⟨_,g2,rfl,_,rfl⟩⟩) q)
end
section
variable{O:Program}{w:World}{U:Heap}{K:Frag}{sc:Scope}{n:Nat}{st:St}
theorem Jw{T:String}{x:Str}{p pos:Pos}{e:Expr}{es:List Expr}{tgt:Expr}{Q:List Dat→St→Prop}(S:Al O K U)(g:GlB sc K x)(hv:bootBuiltins x=some (.type T)){Q':List Dat→St→Prop}
 (h:El O w U sc n (e::es) st Q')
 (k:∀{A:Around}{env:Env}{R as:List Addr}{s:Shared}{vs:List Value}{ds:List Dat}{st1:St},CU A n→Rel U R env st1 as s.heap→(∀b∈as,∃o,s.heap.get? b=some o)→FzL (vis R as s.heap) vs ds→Q' ds st1→
  wpAny (model O w) A (call (.type T) vs) (fun x s1=>wpAny (model O w) A (pyIter x) (PS O w U A R env as s tgt Q) (fun _ _=>False) s1) (fun _ _=>False) s)
 (he:autoParam (∀env,starEach (e::es) env=(false,eval e env)::starEach es env) au.a1._auto_1) (hp:autoParam (∀env,(backTo pos (starEach es env)).any (·.1)=false) au.a1._auto_1):
 Es O w U sc n (.Call (.Name x p) (e::es) [] pos) tgt st Q:=by
 intro A env R as s hR hE r
 refine Call_Name rfl (GN S g hv hE r (PyProof.Rows.callWith_type1 ?_ (he env) (hp env)))
 refine h.go hR hE r fun vs ds st1 as0 h1 t1 e0 r0 f0 q=>?_
 refine r0.trimP fun as1 sub hlt r1=>?_
 have f1:FzL (vis R as1 h1) vs ds:=FzL.mono (Ah.less sub).vis f0
 refine wpAny_mono (k (s:={s with heap:=h1,toks:=t1}) hR r1 hlt f1 q) (fun x s2 hx=>wpAny_mono hx ?_ fun _ _ x=>x) fun _ _ x=>x
 rintro it s3 ⟨I,ds',st2,as2,h2,t2,fp,wr,Sx,Mid,rfl,rfl,e2,r2,W,h0,fr,q2⟩
 exact⟨I,ds',st2,as2,h2,t2,fp,wr,Sx,Mid,rfl,rfl,(e0.trans (Ah.less sub)).trans e2,r2,W,h0,fun b hb=>(e0.live).none (fr b hb),q2⟩
noncomputable def Cm(a c:Int)(m:Nat):List Dat:=(List.range m).map fun i:Nat=>.int (a+(i:Int)*c)
inductive RgA:List Dat→Int→Int→Int→Prop
 |one (b:Int):RgA [.int b] 0 b 1
 |two (a b:Int):RgA [.int a,.int b] a b 1
 |three (a b c:Int):RgA [.int a,.int b,.int c] a b c
theorem GW(a b c:Int):((Builtin.Range.rangeSize a b c).toNat:Int)=Builtin.Range.rangeSize a b c:=by
 have hpos:0≤Builtin.Range.rangeSize a b c:=by
  unfold Builtin.Range.rangeSize
  split<;>split<;>first|exact Int.le_refl 0|(have:=ediv_nonneg (a:=b-a-1) (b:=c) (by lia) (by lia);exact Ab this)|(have:=ediv_nonneg (a:=a-b-1) (b:= -c) (by lia) (by lia);exact Ab this)
 lia
@[elab_as_elim] theorem IP{g:BT}{motive:List Value→Prop}{vs:List Value}{i:Int}{ds:List Dat}(f:FzL g vs (.int i::ds))(k:∀t ws,FzL g ws ds→motive (.int i t::ws)):motive vs:=f.consP fun _ ws h r=>h.intP fun t=>k t ws r
theorem RT{A:Around}{env:Env}{R as:List Addr}{s:Shared}{st1:St}{tgt:Expr}{Q:List Dat→St→Prop}{a b c:Int}{t u v:Tok}{tk:Nat}{H:Heap}{I:Addr}(hR:CU A n)(r:Rel U R env st1 as s.heap)(hlt:∀b∈as,∃o,s.heap.get? b=some o)
 (hs:Builtin.Range.small a b c=true) (up:∀b o,s.heap.get? b=some o→H.get? b=some o) (hI:H.get? I=some {cls:=.type "range",data:=.fields #[.int a t,.int b u,.int c v]}) (hle:s.heap.objs.size≤H.objs.size)
 (q:Q (Cm a c (Builtin.Range.rangeSize a b c).toNat) st1):wpAny (model O w) A (pyIter (.ref I)) (PS O w U A R env as s tgt Q) (fun _ _=>False) {s with heap:=H,toks:=tk}:=by
 refine wpAny_pyIter_range (a:=a) (b:=b) (c:=c) (t:=t) (u:=u) (v:=v) hI hs ?_
 have W:=Walks.range (prog:=O) (w:=w) (A:=A) hR.handled H.objs.size a c (Builtin.Range.rangeSize a b c).toNat
 have hn:((Builtin.Range.rangeSize a b c).toNat:Int)=Builtin.Range.rangeSize a b c:=GW a b c
 have g:(H.push {cls:=.type "range_iterator",data:=.fields #[rawInt a,rawInt (Builtin.Range.rangeSize a b c),rawInt c]}).get? H.objs.size=some {cls:=.type "range_iterator",data:=.fields #[rawInt a,rawInt (Builtin.Range.rangeSize a b c),rawInt c]}:=get?_push_size _ rfl
 generalize Builtin.Range.rangeSize a b c=sz at*
 generalize sz.toNat=k at*
 subst hn
 have e:(Cm a c k).length=k:=by unfold Cm;refine rr (length_map ..) (rr length_range ?_);rfl
 refine PS.mk' (t2:=tk) (wr:=[H.objs.size]) (Ah.refl _ _) r hlt (fun b o e=>get?_push_of_some _ (up b o e)) (fun b hb=>Ay hb▸⟨AL _ hle,_,g⟩)
  (Src.ofWalks (T:="range_iterator") (e.symm▸W) (fun b hb=>.inl (Ay hb)) (by decide) (fun i h hs=>⟨_,hs,rfl⟩) fun i v d hp ed=>?_) ?_ q
 ·obtain⟨t',rfl⟩:=hp
  unfold Cm at ed
  rw[getElem?_map]at ed
  obtain⟨j,ej,rfl⟩:=map_eq_some_iff.mp ed
  obtain rfl:=(List.getElem_range _).symm.trans (List.getElem?_eq_some_iff.mp ej).2
  exact .int _ _
 ·show IsRangeIter _ _ _ _ _
  refine rr e ?_
  simpa using g
theorem Vo{A:Around}{s:Shared}{g:BT}{vs:List Value}{ds:List Dat}{a b c:Int}(hd:RgA ds a b c)(fz:FzL g vs ds)(hc:c≠0)(hp:PylongRoom (model O w) A s){Q E:Value→Shared→Prop}
 (k:∀t u v tk,Q (.ref s.heap.objs.size) {s with heap:=s.heap.push {cls:=.type "range",data:=.fields #[.int a t,.int b u,.int c v]},toks:=tk}):wpAny (model O w) A (call (.type "range") vs) Q E s:=by
 cases hd with
 |one b=>exact IP fz fun t _ f=>f.nilP (call_range_1 (k ..))
 |two a b=>exact IP fz fun t _ f=>IP f fun t2 _ f=>f.nilP (call_range_2 (k ..))
 |three a b c=>exact IP fz fun t _ f=>IP f fun t2 _ f=>IP f fun t3 _ f=>f.nilP (call_range_3 hc (k ..) (.inr hp))
theorem FC(S:Al O K U){x:Str}{p pos:Pos}{e:Expr}{es:List Expr}{tgt:Expr}{Q:List Dat→St→Prop}(g:GlB sc K x)(hv:bootBuiltins x=some (.type "range"))
 (h:El O w U sc n (e::es) st fun ds st1=>∃a b c,RgA ds a b c∧c≠0∧Builtin.Range.small a b c=true∧Q (Cm a c (Builtin.Range.rangeSize a b c).toNat) st1)
 (he:autoParam (∀env,starEach (e::es) env=(false,eval e env)::starEach es env) au.a1._auto_1) (hp:autoParam (∀env,(backTo pos (starEach es env)).any (·.1)=false) au.a1._auto_1):
 Es O w U sc n (.Call (.Name x p) (e::es) [] pos) tgt st Q:=
 Jw S g hv h (fun hR r hlt fz hq=>by obtain⟨_,_,_,hd,hc,hs,q⟩:=hq;exact Vo hd fz hc (Ua S hR fun b o e=>(r.base b o e).2.2) fun _ _ _ _=>RT hR r hlt hs (fun _ _ e=>get?_push_of_some _ e) (get?_push_size _ rfl) (by refine rr (size_push ..) ?_;exact le_succ _) q) he hp
noncomputable def Jx(xs ys:List Dat):List Dat:=List.zipWith (fun x y=>.tuple [x,y]) xs ys
theorem MB{xs ys:List Dat}{i:Nat}{d:Dat}(e:(Jx xs ys)[i]?=some d):∃x y,xs[i]?=some x∧ys[i]?=some y∧d=.tuple [x,y]:=by
 unfold Jx at e
 rw[List.getElem?_zipWith]at e
 cases hx:xs[i]?<;>cases hy:ys[i]?<;>simp[hx,hy]at e
 exact⟨_,_,rfl,rfl,e.symm⟩
end
section
variable{O:Program}{w:World}{U:Heap}{K:Frag}{sc:Scope}{n:Nat}{st:St}
theorem Yg(s:Nat)(l1 l2:Nat)(h1:l1<s)(h2:l2<s):ZipApart (s+4) (s+2) (s+3) s (s+1) l1 l2:=by
 constructor<;>(show@Ne Nat _ _)<;>lia
noncomputable def Ky(xs:List Dat):List Dat:=xs.zipIdx.map fun(x,i)=>.tuple [.int i,x]
theorem Pb{xs:List Dat}{i:Nat}{d:Dat}(e:(Ky xs)[i]?=some d):∃x,xs[i]?=some x∧d=.tuple [.int i,x]:=by
 unfold Ky at e
 rw[getElem?_map,List.getElem?_zipIdx]at e
 cases hx:xs[i]?<;>simp[hx]at e
 exact⟨_,rfl,e.symm⟩
theorem Src.enum{A:Around}(hh:A.handled=none){elts:List Expr}{k:Nat}{pos:Pos}{z it l:Addr}(d1:z≠it)(d2:l≠z)(d3:l≠it){vs:List Value}{xs:List Dat}{G:BT}{o1:Obj}(g1:G l o1)(fx:FzL G vs xs):
 Src O w A (.Tuple elts k pos) z [z,it,l] [z,it] G (Ky xs)
  (fun i h=>(∃old,IsEnum h z it i old)∧h.IsListIter it l i∧h.IsList l vs.toArray)
  (fun i v h=>∃T x,v=.ref T∧IsEnumOut h z it ((i:Int)+1) x T∧h.IsListIter it l (i+1)∧h.IsList l vs.toArray) where
 sub:=fun c hc=>by simp at hc⊢;rcases hc with rfl|rfl<;>simp
 seen:=fun b hb=>by
  simp at hb
  rcases hb with rfl|rfl|rfl<;>first|exact .inr ⟨_,g1⟩|simp
 frame:=fun i h h' hst hk=>by
  obtain⟨⟨old,he⟩,hit,hl⟩:=hst
  exact⟨⟨old,hk z (by simp) _ he⟩,hit.at fun o x=>hk it (by simp) o x,hl.at fun o x=>hk l (by simp) o x⟩
 alive:=fun i h hst b hb=>by
  obtain⟨⟨old,he⟩,⟨o,hit,_⟩,hl⟩:=hst
  simp at hb
  rcases hb with rfl|rfl
  ·exact⟨_,he⟩
  ·exact⟨_,hit⟩
 item:=fun i s Q E d ed hst hg hQ=>by
  obtain⟨⟨old,he⟩,hit,hl⟩:=hst
  obtain⟨x,ex,rfl⟩:=Pb ed
  obtain⟨u,eu,fu⟩:=fx.get ex
  refine wpAny_pyNext_enum_item (x:=u) he hit hl (by simpa using eu) d1 fun h' a1 a2 a3 a4 hk=>?_
  exact hQ (.ref s.heap.objs.size) h' _ (.tuple (vs:=[.int i s.toks,u]) (n:=0) (.inr ⟨AL _ (le_refl _),a3⟩) (.cons (.int _ _) (.cons (fu.mono fun _ _ g=>.inl g) .nil)))
   ⟨_,_,rfl,a1,a2,hl.at fun o e=>hk _ o d2 d3 e⟩ fun c o hc e=>hk c o (fun x=>hc (by simp[x])) (fun x=>hc (by simp[x])) e
 go:=fun i v s Q E hm hQ=>by
  obtain⟨T,x,rfl,he,hit,hl⟩:=hm
  exact wpAny_letOwnedTupleGo_enum he fun h' he' hs'=>hQ h' ⟨⟨_,by simpa using he'⟩,hit.extBut hs'.extBut d1.symm,hl.extBut hs'.extBut d2⟩ fun c o hc e=>hs'.extBut _ _ (fun x=>hc (by simp[x])) e
 done:=fun s Q E hst hQ=>by
  obtain⟨⟨old,he⟩,hit,hl⟩:=hst
  have e:(Ky xs).length=vs.length:=by unfold Ky;refine rr (length_map ..) ?_;refine rr List.length_zipIdx (rr fx.length ?_);rfl
  refine wpAny_pyNext_enum_end hh he hit hl (by refine rr e ?_;simp) fun h' hk=>hQ h' s.toks fun c o hc e=>hk c o (fun x=>hc (by simp[x])) e
 self:=fun i s Q E hst hQ=>(by obtain⟨⟨_,he⟩,_⟩:=hst;exact wpAny_pyIter_enum he hQ)
theorem Vp(S:Al O K U){x:Str}{p pos tp:Pos}{k:Nat}{e:Expr}{es elts:List Expr}{Q:List Dat→St→Prop}(g:GlB sc K x)(hv:bootBuiltins x=some (.type "enumerate"))
 (h:El O w U sc n (e::es) st fun ds st1=>∃xs,ds=[.list xs]∧Q (Ky xs) st1)
 (he:autoParam (∀env,starEach (e::es) env=(false,eval e env)::starEach es env) au.a1._auto_1) (hp:autoParam (∀env,(backTo pos (starEach es env)).any (·.1)=false) au.a1._auto_1):
 Es O w U sc n (.Call (.Name x p) (e::es) [] pos) (.Tuple elts k tp) st Q:=by
 refine Jw S g hv h ?_ he hp
 rintro A env R as s vs ds st1 hR r hlt fz ⟨xs,rfl,q⟩
 refine fz.consP fun _ _ f1 f=>f.nilP (f1.listP fun l1 v1 k1 ho1 fx=>?_)
 have lt1:=lt_size ho1.2.2
 refine call_enumerate_list (items:=v1.toArray) ⟨_,ho1.2.2,rfl,_,rfl⟩ fun h' a1 a4 a6 keep=>?_
 refine wpAny_pyIter_enum a1 ?_
 have new:∀b∈[s.heap.objs.size+1,s.heap.objs.size],s.heap.get? b=none∧∃o,h'.get? b=some o:=LD (p:=fun b=>s.heap.get? b=none∧∃o,h'.get? b=some o) ⟨AL _ (le_add_right _ _),_,a1⟩ ⟨AL _ (le_refl _),(by obtain⟨o,e,_⟩:=a4;exact⟨o,e⟩)⟩
 exact PS.mk' (t2:=s.toks) (Ah.refl _ _) r hlt keep new (Src.enum hR.handled (l:=l1) (Nat.succ_ne_self _) (ne_of_lt (lt_succ_of_lt lt1)) (ne_of_lt lt1)
  ((r.laid keep new hlt).2 _ _ ho1) (fx.mono (r.laid keep new hlt).2)) ⟨⟨_,a1⟩,a4,⟨_,keep _ _ ho1.2.2,rfl,_,rfl⟩⟩ q
end
noncomputable def BX(scope:Scope):List Str:=(scope.names.filter fun p=>p.2== .free).map (·.1)
theorem Kz{env:Env}(f:Str×NameKind→List (Str×Addr)→Sem (ForInStep (List (Str×Addr))))
 (hf:∀name kind acc,f (name,kind) acc=if kind== .free then(do let c←cellOf env name;pure (.yield ((name,c)::acc)))else pure (.yield acc)):
 ∀(names:List (Str×NameKind)) (acc:List (Str×Addr)),(∀x,(x,NameKind.free)∈names→∃c,env.cells.lookup x=some c)→
  ∃cl,forIn names acc f=pure cl∧∀x,cl.lookup x=if x∈(names.filter fun p=>p.2== .free).map (·.1)then env.cells.lookup x else acc.lookup x:=by
 intro names
 induction names with
 |nil=>intro acc _;exact⟨acc,rfl,fun x=>by simp⟩
 |cons hd r ih=>
  obtain⟨name,kind⟩:=hd
  intro acc h
  refine rr (forIn_cons ..) (rr (hf ..) ?_)
  cases hk:(kind==NameKind.free)with
  |false=>
   obtain⟨cl,e,q⟩:=ih acc fun x hx=>h x (.tail _ hx)
   refine⟨cl,e,fun x=>?_⟩
   refine rr (q ..) (rr filter_cons ?_)
   simp only[hk,false_eq_true,if_false]
  |true=>
   have hk':kind=.free:=by simpa using hk
   subst hk'
   obtain⟨c,hc⟩:=h name (.head _)
   obtain⟨cl,e,q⟩:=ih ((name,c)::acc) fun x hx=>h x (.tail _ hx)
   refine⟨cl,?_,fun x=>?_⟩
   ·have:cellOf env name=pure c:=by unfold cellOf;refine rr hc ?_;rfl
    refine rr this ?_;exact e
   ·refine rr (q ..) (rr filter_cons ?_)
    simp only[hk,if_true,map_cons,mem_cons]
    by_cases hx:x=name
    ·subst hx
     simp only[true_or,if_true,lookup_cons,beq_self_eq_true,hc]
     split<;>rfl
    ·have:(x==name)=false:=by simpa using hx
     simp only[hx,false_or,lookup_cons,this]
theorem IQ{scope:Scope}{env:Env}(h:∀x,(x,NameKind.free)∈scope.names→∃c,env.cells.lookup x=some c):
 ∃cl,closureFor scope env=pure cl∧∀x,cl.lookup x=if x∈BX scope then env.cells.lookup x else none:=by
 obtain⟨cl,e,q⟩:=Kz (env:=env) (fun p r=>if p.2== .free then(do let c←cellOf env p.1;pure (.yield ((p.1,c)::r)))else pure (.yield r)) (fun _ _ _=>rfl) scope.names [] h
 refine⟨cl,?_,fun x=>q x⟩
 unfold closureFor
 have e2:(forIn scope.names [] (fun p r=>if p.2== .free then(do let c←cellOf env p.1;pure (.yield ((p.1,c)::r)))else pure (.yield r))>>=fun r=>pure r:Sem (List (Str×Addr)))=pure cl:=by refine rr e ?_;rfl
 exact e2
noncomputable def By(scope sc:Scope):Scope:=
 {scope with names:=scope.names.map fun(n,k)=>if(k== .free&&sc.kind== .function&&sc.names.lookup n==some .cell)then(n,.cell)else(n,k)}
structure Bz(sc scope:Scope):Prop where
 cell:∀y∈scope.names,y.2≠ .cell
 kind:scope.kind=.function
 names:∀y∈scope.names,y.2=.local→scope.names.lookup y.1=some .local
 comp:Hv (By scope sc)=true
 outer:∀x∈BX scope,sc.names.lookup x=some .cell∨sc.names.lookup x=some .free
 inner:∀x∈BX scope,(By scope sc).names.lookup x=some .cell∨(By scope sc).names.lookup x=some .free
 has:∀y∈(By scope sc).names,y.2=.cell∨y.2=.free→y.1∈BX scope
 pins:∀x∈BX scope,DQ sc x=true→DQ (By scope sc) x=true
noncomputable def Iv(fr:List Str)(st:St):St:=st.filter fun p=>fr.contains p.1
noncomputable def EO(fr:List Str)(st inner:St):St:=st.filterMap fun p=>if fr.contains p.1 then(look p.1 inner).map fun a=>(p.1,a)else some p
theorem CY{fr:List Str}{st:St}{x:Str}{a:AG}:(x,a)∈Iv fr st↔(x,a)∈st∧x∈fr:=by simp[Iv]
set_option tactic.hygienic true in
theorem CZ{fr:List Str}{st inner:St}{x:Str}{a:AG}(h:(x,a)∈EO fr st inner):(x∈fr∧(x,a)∈inner)∨(x∉fr∧(x,a)∈st):=by
 obtain⟨⟨y,b⟩,hm,e⟩:=mem_filterMap.mp h
 dsimp only at e
 split at e
 ·rename_i q
  obtain⟨a',ea,e'⟩:=map_eq_some_iff.mp e
  cases e'
  exact .inl ⟨by simpa using q,CA ea⟩
 ·rename_i q
  cases e
  exact .inr ⟨by simpa using q,hm⟩
set_option tactic.hygienic true in
theorem LN{fr:List Str}{inner:St}:∀{st:St},((EO fr st inner).map (·.1)).Sublist (st.map (·.1)):=by
 intro st
 induction st with
 |nil=>
  exact .slnil
 |cons hd r ih=>
  obtain⟨y,b⟩:=hd
  have ih:=ih
  unfold EO at ih⊢
  refine rr filterMap_cons ?_
  dsimp only
  split
  ·exact .cons _ ih
  ·rename_i p e
   have:p.1=y:=by
    split at e
    ·obtain⟨a',_,e'⟩:=map_eq_some_iff.mp e;refine rl e' ?_;rfl
    ·cases e;rfl
   refine rr map_cons ?_;refine rr map_cons (rr this ?_)
   exact .cons_cons _ ih
section
variable{O:Program}{w:World}{U:Heap}{K:Frag}{sc:Scope}{n:Nat}{st:St}
inductive Lend(U:Heap)(st:St)(fr:List Str)(X R as:List Addr)(env:Env)(h:Heap):Prop
 |mk (asF rest:List Addr) (subF:∀b∈asF,b∈as) (subR:∀b∈rest,b∈as)
  (mkI:∀{h1:Heap}{cenv:Env}{new:List Addr},(∀b o,h.get? b=some o→h1.get? b=some o)→(∀b∈new,h.get? b=none∧∃o,h1.get? b=some o)→cenv.locals∈new→(∃m,h1.Ns cenv.locals m)→
   (∀x c,cenv.cells.lookup x=some c→env.cells.lookup x=some c)→(∀x∈fr,∀v,AF h1 env x v→AF h1 cenv x v)→
   Rel U (new++((X++R)++rest)) cenv (Iv fr st) asF h1∧∀b o,vis (X++R) as h b o→vis (new++((X++R)++rest)) asF h1 b o)
  (back:∀{h2:Heap}{cenv:Env}{Rn asI:List Addr}{stI:St},Rel U (Rn++rest) cenv stI asI h2→(∀b∈R,b∈Rn)→(∀b∈Rn,b∈R∨h.get? b=none)→(∀b o,b∉asF→b∉X→h.get? b=some o→h2.get? b=some o)→(∀b∈asI,b∈asF∨h.get? b=none)→(∀b o,b∉X→h.get? b=some o→∃o',h2.get? b=some o')→
   (∀x∈fr,∀v,AF h2 cenv x v→AF h2 env x v)→
   Rel U Rn env (EO fr st stI) (asI++rest) h2∧(∀as0 h0,Ah as0 h0 as h→(∀b∈X,h0.get? b=none)→Ah as0 h0 (asI++rest) h2)∧(∀b o,vis (Rn++rest) asI h2 b o→vis Rn (asI++rest) h2 b o))
theorem Rel.lend{fr:List Str}{X R as:List Addr}{env:Env}{h:Heap}(r:Rel U (X++R) env st as h)(hl:env.locals∈R)(hc:∀x c,env.cells.lookup x=some c→c∈R)(offX:∀b∈X,b∉R)(hlt:∀b∈as,∃o,h.get? b=some o):
 Lend U st fr X R as env h:=by
 obtain⟨⟨val,ks,hr,hd⟩,hn,hsep,_,_,⟨m,hm⟩,hcl,hi,hb⟩:=r
 let asF:=(Iv fr st).flatMap fun p=>ks p.1
 let rest:=as.filter fun b=>decide (b∉asF)
 have subF:∀b∈asF,b∈as:=fun b hb=>by
  obtain⟨⟨x,a⟩,hx,hb⟩:=mem_flatMap.mp hb
  exact(hr x a (CY.mp hx).1).2.2 b hb
 have subR:∀b∈rest,b∈as:=fun b hb=>(mem_filter.mp hb).1
 have offR:∀b∈rest,b∉asF:=fun b hb=>of_decide_eq_true (mem_filter.mp hb).2
 refine⟨asF,rest,subF,subR,?_,?_⟩
 ·intro h1 cenv new k hnew hL hLn hcells hvar
  have kv:∀b o,vis (X++R) as h b o→vis (new++((X++R)++rest)) asF h1 b o:=(by rintro b o ⟨p,q,e⟩;exact⟨fun z=>(mem_append.mp z).elim (fun z=>by rw[(hnew b z).1]at e;cases e) fun z=>(mem_append.mp z).elim p fun z=>q (subR b z),fun z=>q (subF b z),k b o e⟩)
  refine⟨⟨⟨val,ks,fun x a hx=>?_,fun x a y b hx hy ne=>hd x a y b (CY.mp hx).1 (CY.mp hy).1 ne⟩,?_,fun b hb z=>?_,mem_append_left _ hL,fun x c e=>mem_append_right _ (mem_append_left _ (mem_append_right _ (hc x c (hcells x c e)))),hLn,
   fun x c e=>(by obtain⟨v,o,ho,hd⟩:=hcl x c (hcells x c e);exact⟨v,o,k _ _ ho,hd⟩),fun b hb=>?_,fun b o e=>kv b o (hb b o e)⟩,kv⟩
  ·obtain⟨p,q,t⟩:=hr x a (CY.mp hx).1
   exact⟨hvar x (CY.mp hx).2 _ (p.keep fun b o _ e=>k b o e),q.mono kv fun b _ o e=>k b o e,fun b hb=>mem_flatMap.mpr ⟨(x,a),hx,hb⟩⟩
  ·exact(List.filter_sublist.map _).nodup hn
  ·rcases mem_append.mp hb with y|y
   ·obtain⟨o,e⟩:=hlt b (subF b z);rw[(hnew b y).1]at e;cases e
   ·rcases mem_append.mp y with y|y
    ·exact hsep b y (subF b z)
    ·exact offR b y z
  ·rcases mem_append.mp hb with y|y
   ·exact(hnew b y).2
   ·rcases mem_append.mp y with y|y
    ·obtain⟨o,e⟩:=hi b y;exact⟨o,k b o e⟩
    ·obtain⟨o,e⟩:=hlt b (subR b y);exact⟨o,k b o e⟩
 ·intro h2 cenv Rn asI stI rI subRn newRn keep fresh live hvar
  obtain⟨⟨valI,ksI,hrI,hdI⟩,hnI,hsepI,hlI,hcI,hloI,hclI,hiI,hbI⟩:=rI
  have nX:∀b∈R,b∉X:=fun b hb z=>offX b z hb
  have aX:∀b∈as,b∉X:=fun b hb z=>hsep b (mem_append_left _ z) hb
  have offI:∀b o,h.get? b=some o→b∉asF→b∉asI:=fun b o e hb q=>(fresh b q).elim hb fun z=>by rw[e]at z;cases z
  have kv:∀b o,vis (X++R) as h b o→vis Rn (asI++rest) h2 b o:=(by rintro b o ⟨p,q,e⟩;exact⟨fun z=>(newRn b z).elim (fun z=>p (mem_append_right _ z)) fun z=>by(rw[z]at e;cases e),fun z=>(mem_append.mp z).elim (offI b o e fun z=>q (subF b z)) fun z=>q (subR b z),keep b o (fun z=>q (subF b z)) (fun z=>p (mem_append_left _ z)) e⟩)
  have kI:∀b o,vis (Rn++rest) asI h2 b o→vis Rn (asI++rest) h2 b o:=(by rintro b o ⟨p,q,e⟩;exact⟨fun z=>p (mem_append_left _ z),fun z=>(mem_append.mp z).elim q fun z=>p (mem_append_right _ z),e⟩)
  have sepR:∀b∈R,b∉asF:=fun b hb q=>hsep b (mem_append_right _ hb) (subF b q)
  have vk:∀x v,AF h env x v→AF h2 env x v:=fun x v z=>z.keep fun b o hb e=>have bR:=hb.elim (fun q=>q▸hl) (by rintro⟨y,q⟩;exact hc y b q);keep b o (sepR b bR) (nX b bR) e
  refine⟨⟨⟨fun x=>if x∈fr then valI x else val x,fun x=>if x∈fr then ksI x else ks x,fun x a hx=>?_,fun x a y b hx hy ne c hcx=>?_⟩,(LN.nodup hn),fun b hb z=>?_,subRn _ hl,fun x c e=>subRn _ (hc x c e),⟨m,hm.at' fun o e=>keep _ o (sepR _ hl) (nX _ hl) e⟩,
   fun x c e=>(by obtain⟨v,o,ho,hd⟩:=hcl x c e;exact⟨v,o,keep _ _ (sepR _ (hc x c e)) (nX _ (hc x c e)) ho,hd⟩),fun b hb=>hiI b (mem_append_left _ hb),fun b o e=>kv b o (hb b o e)⟩,fun as0 h0 e0 frX=>?_,kI⟩
  ·rcases CZ hx with⟨hf,hx⟩|⟨hf,hx⟩
   ·dsimp only
    refine rr (if_pos hf) (rr (if_pos hf) ?_)
    obtain⟨p,q,t⟩:=hrI x a hx
    exact⟨hvar x hf _ p,q.mono kI fun _ _ _ e=>e,fun b hb=>mem_append_left _ (t b hb)⟩
   ·dsimp only
    refine rr (if_neg hf) (rr (if_neg hf) ?_)
    obtain⟨p,q,t⟩:=hr x a hx
    have out:∀b∈ks x,b∉asF:=fun b hb z=>by
     obtain⟨⟨y,b'⟩,hy,hb'⟩:=mem_flatMap.mp z
     have hy':=CY.mp hy
     exact hd x a y b' hx hy'.1 (fun e=>hf (e▸hy'.2)) b hb hb'
    exact⟨vk _ _ p,q.mono kv fun b hb o e=>keep b o (out b hb) (aX b (t b hb)) e,fun b hb=>mem_append_right _ (mem_filter.mpr ⟨t b hb,decide_eq_true (out b hb)⟩)⟩
  ·have inI:∀x a,(x,a)∈EO fr st stI→x∈fr→∀c∈ksI x,c∈asI:=fun x a hx hf=>(CZ hx).elim (fun z=>(hrI x a z.2).2.2) fun z=>absurd hf z.1
   have inO:∀x a,(x,a)∈EO fr st stI→x∉fr→∀c∈ks x,c∈rest:=fun x a hx hf c hc=>by
    rcases CZ hx with z|z
    ·exact absurd z.1 hf
    ·refine mem_filter.mpr ⟨(hr x a z.2).2.2 c hc,decide_eq_true fun q=>?_⟩
     obtain⟨⟨y,b'⟩,hy,hb'⟩:=mem_flatMap.mp q
     have hy':=CY.mp hy
     exact hd x a y b' z.2 hy'.1 (fun e=>hf (e▸hy'.2)) c hc hb'
   have cross:∀c,c∈asI→c∉rest:=fun c h1 h2=>hsepI c (mem_append_right _ h2) h1
   dsimp only at hcx⊢
   by_cases h1:x∈fr<;>by_cases h2:y∈fr
   ·rw[if_pos h1]at hcx;refine rr (if_pos h2) ?_
    rcases CZ hx with z|z
    ·rcases CZ hy with z'|z'
     ·exact hdI x a y b z.2 z'.2 ne c hcx
     ·exact absurd h2 z'.1
    ·exact absurd h1 z.1
   ·rw[if_pos h1]at hcx;refine rr (if_neg h2) ?_
    exact fun q=>cross c (inI x a hx h1 c hcx) (inO y b hy h2 c q)
   ·rw[if_neg h1]at hcx;refine rr (if_pos h2) ?_
    exact fun q=>cross c (inI y b hy h2 c q) (inO x a hx h1 c hcx)
   ·rw[if_neg h1]at hcx;refine rr (if_neg h2) ?_
    rcases CZ hx with z|z
    ·exact absurd z.1 h1
    ·rcases CZ hy with z'|z'
     ·exact absurd z'.1 h2
     ·exact hd x a y b z.2 z'.2 ne c hcx
  ·rcases mem_append.mp z with z|z
   ·exact hsepI b (mem_append_left _ hb) z
   ·rcases newRn b hb with y|y
    ·exact hsep b (mem_append_right _ y) (subR b z)
    ·obtain⟨o,e⟩:=hlt b (subR b z);rw[y]at e;cases e
  ·have oX:∀b o,h0.get? b=some o→b∉X:=fun b o e q=>by rw[frX b q]at e;cases e
   refine⟨fun b o hb e=>keep b o (fun q=>e0.old e hb (subF b q)) (oX b o e) (e0.keep b o hb e),fun b hb=>?_,fun b o e=>(by obtain⟨o',e'⟩:=e0.live b o e;exact live b o' (oX b o e) e')⟩
   rcases mem_append.mp hb with z|z
   ·exact(fresh b z).elim (fun z=>e0.fresh b (subF b z)) fun z=>.inr (e0.live.none z)
   ·exact e0.fresh b (subR b z)
end
section
variable{O:Program}{w:World}{U:Heap}{K:Frag}{sc:Scope}{n:Nat}{st:St}
theorem Rel.poke{R as ws:List Addr}{env:Env}{h h':Heap}(r:Rel U R env st as h)(sub:∀b∈ws,b∈R)(hl:env.locals∉ws)(hc:∀x c,env.cells.lookup x=some c→c∉ws)(k:∀b o,b∉ws→h.get? b=some o→h'.get? b=some o)(al:∀b∈ws,∃o,h'.get? b=some o):
 Rel U R env st as h'∧∀b o,vis R as h b o→vis R as h' b o:=by
 have kv:∀b o,vis R as h b o→vis R as h' b o:=(by rintro b o ⟨p,q,e⟩;exact⟨p,q,k b o (fun z=>p (sub b z)) e⟩)
 obtain⟨⟨val,cs',hr,hd⟩,hn,hsep,hl',hc',⟨m,hm⟩,hcl,hi,hb⟩:=r
 have na:∀b∈as,b∉ws:=fun b hb z=>hsep b (sub b z) hb
 refine⟨⟨⟨val,cs',fun x a hx=>(by obtain⟨p,q,z⟩:=hr x a hx;exact⟨p.keep fun b o hb e=>k b o (hb.elim (fun q=>q▸hl) (by rintro⟨y,q⟩;exact hc y b q)) e,q.mono kv fun b hb o e=>k b o (na b (z b hb)) e,z⟩),hd⟩,hn,hsep,hl',hc',⟨m,hm.at' fun o e=>k _ o hl e⟩,
  fun x c e=>(by obtain⟨v,o,ho,hd⟩:=hcl x c e;exact⟨v,o,k _ _ (hc x c e) ho,hd⟩),fun b hb=>?_,fun b o e=>kv b o (hb b o e)⟩,kv⟩
 by_cases z:b∈ws
 ·exact al b z
 ·obtain⟨o,e⟩:=hi b hb;exact⟨o,k b o z e⟩
theorem RU{R R' as:List Addr}{h:Heap}(k:∀b,b∈R↔b∈R'):∀b o,vis R as h b o→vis R' as h b o:=by rintro b _ ⟨p,q,e⟩;exact⟨fun z=>p ((k b).mpr z),q,e⟩
theorem LO{A:Around}{s:Shared}{Rr:Result→Shared→Prop}{elt target iter:Expr}{ifs:List Expr}{scope:Scope}{pos:Pos}{it acc:Value}{env:Env}(I:Nat→Shared→Prop)
 (turn:∀n s,I n s→wpAny (model O w) A (pyNext it) (fun r s₁=>match r with
  |none=>Rr (.ok .next) s₁
  |some v=>wpAny (model O w) A (letOwnedTupleGo target it v) (fun _ s₁'=>wpAny (model O w) A (assign target env v) (fun _ s₂=>
   wpAny (model O w) A (forIn ifs true fun c r=>if r=true then do let ok←isTrue c env (eval c env);pure (ForInStep.yield ok)else pure (ForInStep.yield r)) (fun ok s₃=>
    if ok=true then wpAny (model O w) A (eval elt env) (fun x s₄=>
     wpAny (model O w) A (call (.builtin "list.append") [acc,x]) (fun _ s₅=>∃m,m<n∧I m s₅) (fun _ _=>False) s₄) (fun _ _=>False) s₃
    else∃m,m<n∧I m s₃) (fun _ _=>False) s₂) (fun _ _=>False) s₁') (fun _ _=>False) s₁) (fun _ _=>False) s)
 (n:Nat) (h:I n s):
 codeAny (model O w) A (.compLoop (.ListComp elt [⟨target,iter,ifs,0⟩] scope pos) 0 it acc env) Rr s:=by
 refine codeAny_loop rfl I (fun n s hI=>?_) n h
 show wpAny _ A ((compTurn (.ListComp elt [⟨target,iter,ifs,0⟩] scope pos) 0 it acc env).onRaise (fun x=>do noteFrame x env;theTreesLotGoes x)) _ _ s
 refine wpAny_noted ?_
 refine rr (compTurn_list ..) ?_
 refine wpAny_bind (wpAny_standAt (wpAny_bind (wpAny_mono (turn n s hI) (fun r s₁ h₁=>?_) fun _ _ h'=>h'.elim)))
 rcases r with _|⟨v⟩
 ·exact wpAny_pure h₁
 ·
  refine wpAny_bind (wpAny_mono h₁ (fun _ s₁' h₁'=>?_) fun _ _ h'=>h'.elim)
  refine wpAny_bind (wpAny_mono h₁' (fun _ s₂ h₂=>wpAny_bind (wpAny_mono h₂ (fun ok s₃ h₃=>?_) fun _ _ h'=>h'.elim)) fun _ _ h'=>h'.elim)
  rcases ok with _|_
  ·exact wpAny_pure ⟨rfl,h₃⟩
  ·
   exact wpAny_bind (wpAny_bind (wpAny_mono h₃ (fun x s₄ h₄=>wpAny_bind (wpAny_mono h₄ (fun _ s₅ h₅=>wpAny_pure (wpAny_pure ⟨rfl,h₅⟩)) fun _ _ h'=>h'.elim)) fun _ _ h'=>h'.elim))
def EtL(O:Program)(w:World)(U:Heap)(sc:Scope)(n:Nat)(ifs:List Expr)(st:St)(Q:Bool→St→Prop):Prop:=match ifs with
 |[]=>Q true st
 |[c]=>Et O w U sc n c st Q
 |_=>False
def Bh(O:Program)(w:World)(U:Heap)(sc:Scope)(n:Nat)(tgt:Expr)(ifs:List Expr)(elt:Expr)(Q:List Dat→St→Prop):List Dat→List Dat→St→Prop
 |[],acc,st=>Q acc st
 |d::ds,acc,st=>As O w U sc n tgt d st fun st1=>EtL O w U sc n ifs st1 fun b st2=>
  (b=true→Ed O w U sc n elt st2 fun y st3=>acc.length+1≤sizeLine∧Bh O w U sc n tgt ifs elt Q ds (acc++[y]) st3)∧(b=false→Bh O w U sc n tgt ifs elt Q ds acc st2)
structure CK(h:Heap)(asF wr asi:List Addr)(hh:Heap):Prop where
 keep:∀b o,b∉asF→b∉wr→h.get? b=some o→hh.get? b=some o
 fresh:∀b∈asi,b∈asF∨h.get? b=none
 live:∀b o,b∉wr→h.get? b=some o→∃o',hh.get? b=some o'
theorem CK.step{h hh h2:Heap}{asF wr asi as2:List Addr}{env:Env}(c:CK h asF wr asi hh)(hlive:∀b∈wr,∃o,hh.get? b=some o)(S:Bx env asi hh as2 h2)(hL:h.get? env.locals=none)(hcomp:Hv env.scope=true):CK h asF wr as2 h2:=by
 have nc:∀b,Mq env b:=fun b q=>by rw[hcomp]at q;cases q
 refine⟨fun b o h1 h2 e=>S.keep b o (fun q=>by rw[q,hL]at e;cases e) (nc b) (fun z=>(c.fresh b z).elim h1 fun z=>by rw[z]at e;cases e) (c.keep b o h1 h2 e),fun b hb=>(S.fresh b hb).elim (c.fresh b) fun z=>?_,fun b o hb e=>(by obtain⟨o',e'⟩:=c.live b o hb e;exact S.live b o' e')⟩
 by_cases hb2:b∈wr
 ·obtain⟨o,e⟩:=hlive b hb2;rw[z]at e;cases e
 ·cases q:h.get? b with
  |none=>exact .inr rfl
  |some o=>obtain⟨o',e'⟩:=c.live b o hb2 q;rw[z]at e';cases e'
theorem CK.poke{h hh h2:Heap}{asF wr asi ws:List Addr}(c:CK h asF wr asi hh)(k:∀b o,b∉ws→hh.get? b=some o→h2.get? b=some o)(hw:∀b∈ws,b∈wr∨h.get? b=none):CK h asF wr asi h2:=by
 have off:∀b o,b∉wr→h.get? b=some o→b∉ws:=fun b o hb e q=>(hw b q).elim hb fun z=>by rw[z]at e;cases e
 exact⟨fun b o h1 h2 e=>k b o (off b o h2 e) (c.keep b o h1 h2 e),c.fresh,fun b o hb e=>(by obtain⟨o',e'⟩:=c.live b o hb e;exact⟨o',k b o' (off b o hb e) e'⟩)⟩
theorem CK.less{h hh:Heap}{asF wr asi as2:List Addr}(c:CK h asF wr asi hh)(sub:∀b∈as2,b∈asi):CK h asF wr as2 hh:=⟨c.keep,fun b hb=>c.fresh b (sub b hb),c.live⟩
end
section
variable{O:Program}{w:World}{U:Heap}{K:Frag}{sc:Scope}{n:Nat}{st:St}
theorem Bz.env{scope:Scope}(ok:Bz sc scope){env:Env}(hE:Be sc env){cl:List (Str×Addr)}{C:Addr}(hcl:∀x,cl.lookup x=if x∈BX scope then env.cells.lookup x else none)(hC:∀x c,env.cells.lookup x=some c→c≠C):Be (By scope sc) (compEnvC scope cl C env):=by
 have sub:∀x c,cl.lookup x=some c→env.cells.lookup x=some c:=fun x c e=>by
  rw[hcl]at e;split at e
  ·exact e
  ·cases e
 refine⟨?_,ok.kind,hE.glob,hE.blt,fun x c e=>hC x c (sub x c e),fun x y c e1 e2=>hE.inj x y c (sub x c e1) (sub y c e2),fun x hx=>?_⟩
 ·show relabel scope env=_
  unfold relabel By Env.kindOf
  refine rr hE.isSc ?_;rfl
 ·have hf:x∈BX scope:=by
   rcases hx with e|e
   ·exact ok.has (x,.cell) (mem_of_lookup e) (.inl rfl)
   ·exact ok.has (x,.free) (mem_of_lookup e) (.inr rfl)
  obtain⟨c,hc⟩:=hE.has x (ok.outer x hf)
  exact⟨c,by show cl.lookup x=_;refine rr (hcl ..) (rr (if_pos hf) ?_);exact hc⟩
theorem Bz.into{scope:Scope}(ok:Bz sc scope){env:Env}(hE:Be sc env){cl:List (Str×Addr)}{C:Addr}(hcl:∀x,cl.lookup x=if x∈BX scope then env.cells.lookup x else none){h:Heap}:∀x∈BX scope,∀v,AF h env x v→AF h (compEnvC scope cl C env) x v:=fun x hx v hv=>by
 have ek:env.kindOf x=sc.names.lookup x:=by show env.scope.names.lookup x=_;refine rr hE.isSc ?_;rfl
 have ei:(compEnvC scope cl C env).kindOf x=(By scope sc).names.lookup x:=by
  show(relabel scope env).names.lookup x=_
  unfold relabel By Env.kindOf
  refine rr hE.isSc ?_;rfl
 rcases hv with⟨k,_⟩|⟨_,c,hc,hv⟩
 ·rw[ek]at k
  rcases ok.outer x hx with q|q<;>(rw[q]at k;cases k)
 ·exact .inr ⟨by refine rr ei ?_;exact ok.inner x hx,c,by show cl.lookup x=_;refine rr (hcl ..) (rr (if_pos hx) ?_);exact hc,hv⟩
theorem Bz.back{scope:Scope}(ok:Bz sc scope){env:Env}(hE:Be sc env){cl:List (Str×Addr)}{C:Addr}(hcl:∀x,cl.lookup x=if x∈BX scope then env.cells.lookup x else none){h:Heap}:∀x∈BX scope,∀v,AF h (compEnvC scope cl C env) x v→AF h env x v:=fun x hx v hv=>by
 have ek:env.kindOf x=sc.names.lookup x:=by show env.scope.names.lookup x=_;refine rr hE.isSc ?_;rfl
 have ei:(compEnvC scope cl C env).kindOf x=(By scope sc).names.lookup x:=by
  show(relabel scope env).names.lookup x=_
  unfold relabel By Env.kindOf
  refine rr hE.isSc ?_;rfl
 rcases hv with⟨k,_⟩|⟨_,c,hc,hv⟩
 ·rw[ei]at k
  rcases ok.inner x hx with q|q<;>(rw[q]at k;cases k)
 ·refine .inr ⟨by refine rr ek ?_;exact ok.outer x hx,c,?_,hv⟩
  have:cl.lookup x=some c:=hc
  rw[hcl,if_pos hx]at this
  exact this
theorem EtL.run{ifs:List Expr}{Q:Bool→St→Prop}(h:EtL O w U sc n ifs st Q){A:Around}{env:Env}{R as:List Addr}{s:Shared}(hR:CU A n)(hE:Be sc env)(r:Rel U R env st as s.heap):
 wpAny (model O w) A (forIn ifs true fun c r=>if r=true then do let ok←isTrue c env (eval c env);pure (ForInStep.yield ok)else pure (ForInStep.yield r)) (PT U R env as s Q) (fun _ _=>False) s:=by
 match ifs,h with
 |[],h=>exact wpAny_tests_nil (PT.here r h)
 |[c],h=>exact wpAny_tests_one (h A env R as s hR hE r)
inductive Vq(O:Program)(w:World)(U:Heap)(sc:Scope)(n:Nat)(tgt:Expr)(ifs:List Expr)(elt:Expr)(QQ:List Dat→St→Prop)(ds:List Dat)(D:Addr)(R wr RI asF as:List Addr)(env:Env)(s:Shared)(S:Nat→Heap→Prop)(k:Nat)(s':Shared):Prop
 |mk (i:Nat) (sti:St) (asi:List Addr) (hh:Heap) (tk:Nat) (vs:List Value) (m:Nat) (acc:List Dat) (hk:k=ds.length+1-i) (hi:i≤ds.length) (hs:s'={s with heap:=hh,toks:=tk}) (r:Rel U RI env sti asi hh) (hst:S i hh) (gv:∀b o,vis (wr++R) as s.heap b o→vis RI asi hh b o)
  (gD:hh.get? D=some (seqObj "list" vs.toArray m)) (f:FzL (vis RI asi hh) vs acc) (ck:CK s.heap asF wr asi hh) (L:Bh O w U sc n tgt ifs elt QQ (ds.drop i) acc sti)
theorem MC{p:Addr→Prop}{C D:Addr}{R:List Addr}(hC:p C)(hD:p D)(hR:∀b∈R,p b):∀b∈C::D::R,p b:=fun _ hb=>(mem_cons.mp hb).elim (fun e=>e▸hC) fun hb=>(mem_cons.mp hb).elim (fun e=>e▸hD) (hR _)
theorem MD{wr R rest:List Addr}{C D:Addr}(b:Addr):b∈[C,D]++((wr++R)++rest)↔b∈wr++(C::D::(R++rest)):=by simp;constructor<;>(rintro(h|h|h|h|h)<;>simp[h])
theorem RV{elt tgt:Expr}{ifs:List Expr}{A:Around}{cenv:Env}{s:Shared}{I D:Addr}{ds:List Dat}{fp wr RW asF:List Addr}{V:BT}{S:Nat→Heap→Prop}{Mid:Nat→Value→Heap→Prop}{QQ:List Dat→St→Prop}{J:Nat→Shared→Prop}{Rr:Result→Shared→Prop}
 (hR:CU A n) (hE:Be sc cenv) (hcomp:Hv cenv.scope=true) (W:Src O w A tgt I fp wr V ds S Mid) (wrS:∀b∈wr,b∈RW) (Cwr:cenv.locals∉wr) (cellOff:∀x c,cenv.cells.lookup x=some c→c∉wr) (DS:D∈RW) (Dwr:D∉wr) (hCD:cenv.locals≠D) (cellD:∀x c,cenv.cells.lookup x=some c→c∉[D])
 (nC:s.heap.get? cenv.locals=none) (nD:s.heap.get? D=none)
 (mkI:∀i sti asi hh tk (vs:List Value) m acc,i≤ds.length→Rel U RW cenv sti asi hh→S i hh→(∀b o,V b o→vis RW asi hh b o)→hh.get? D=some (seqObj "list" vs.toArray m)→FzL (vis RW asi hh) vs acc→CK s.heap asF wr asi hh→Bh O w U sc n tgt ifs elt QQ (ds.drop i) acc sti→J (ds.length+1-i) {s with heap:=hh,toks:=tk})
 (fin:∀sti asi hh h2 tk (vs:List Value) m acc,Rel U RW cenv sti asi hh→(∀b o,b∉wr→hh.get? b=some o→h2.get? b=some o)→h2.get? D=some (seqObj "list" vs.toArray m)→FzL (vis RW asi hh) vs acc→CK s.heap asF wr asi h2→QQ acc sti→Rr (.ok .next) {s with heap:=h2,toks:=tk})
 {i:Nat}{sti:St}{asi0:List Addr}{hh:Heap}{tk:Nat}{vs:List Value}{m:Nat}{acc:List Dat} (hi:i≤ds.length) (r20:Rel U RW cenv sti asi0 hh) (hst:S i hh) (gv20:∀b o,V b o→vis RW asi0 hh b o) (gDh:hh.get? D=some (seqObj "list" vs.toArray m)) (facc0:FzL (vis RW asi0 hh) vs acc) (ck0:CK s.heap asF wr asi0 hh) (L2:Bh O w U sc n tgt ifs elt QQ (ds.drop i) acc sti):
 wpAny (model O w) A (pyNext (.ref I)) (fun r s₁=>match r with
  |none=>Rr (.ok .next) s₁
  |some v=>wpAny (model O w) A (letOwnedTupleGo tgt (.ref I) v) (fun _ s₁'=>wpAny (model O w) A (assign tgt cenv v) (fun _ s₂=>
   wpAny (model O w) A (forIn ifs true fun c r=>if r=true then do let ok←isTrue c cenv (eval c cenv);pure (ForInStep.yield ok)else pure (ForInStep.yield r)) (fun ok s₃=>
    if ok=true then wpAny (model O w) A (eval elt cenv) (fun x s₄=>
     wpAny (model O w) A (call (.builtin "list.append") [.ref D,x]) (fun _ s₅=>∃m,m<ds.length+1-i∧J m s₅) (fun _ _=>False) s₄) (fun _ _=>False) s₃
    else∃m,m<ds.length+1-i∧J m s₃) (fun _ _=>False) s₂) (fun _ _=>False) s₁') (fun _ _=>False) s₁) (fun _ _=>False) {s with heap:=hh,toks:=tk}:=by
 refine r20.trimP fun asi sub2 hlt2 r2=>?_
 have ck:=ck0.less sub2
 have gv2:∀b o,V b o→vis RW asi hh b o:=fun b o e=>(Ah.less sub2).vis b o (gv20 b o e)
 have facc:FzL (vis RW asi hh) vs acc:=FzL.mono (Ah.less sub2).vis facc0
 clear ck0 gv20 facc0 r20
 by_cases hlt3:i<ds.length
 ·have ed:ds[i]?=some ds[i]:=getElem?_eq_getElem hlt3
  rw[List.drop_eq_getElem_cons hlt3]at L2
  refine W.item i _ _ _ _ ed hst (fun b o e=>(gv2 b o e).2.2) fun v h2 t2 fz mid k2=>?_
  generalize ds[i]=d at fz L2
  refine W.go i v {s with heap:=h2,toks:=t2} _ _ mid fun h3 hst3 k3=>?_
  have k23:∀b o,b∉wr→hh.get? b=some o→h3.get? b=some o:=fun b o hb e=>k3 b o hb (k2 b o hb e)
  obtain⟨r3,kv3⟩:=r2.poke wrS Cwr cellOff k23 (W.alive _ _ hst3)
  have ck3:=ck.poke k23 fun b hb=>.inl hb
  have gv3:∀b o,V b o→vis RW asi h3 b o:=fun b o z=>kv3 b o (gv2 b o z)
  have fz3:Fz (vis RW asi h3) v d:=fz.mono fun b o q=>q.elim (gv3 b o) fun q=>
   have nwr:b∉RW:=fun z=>BR q.1 (r2.inb b z)
   ⟨nwr,fun z=>BR q.1 (hlt2 b z),k3 b o (fun z=>nwr (wrS b z)) q.2⟩
  have facc3:FzL (vis RW asi h3) vs acc:=facc.mono kv3
  have gD3:=k23 _ _ Dwr gDh
  have nc:∀b,Mq cenv b:=fun b q=>Bool.noConfusion (hcomp.symm.trans q)
  have stepS:∀{asj:List Addr}{h4:Heap},Bx cenv asi h3 asj h4→CK s.heap asF wr asj h4∧S (i+1) h4∧(∀b o,vis RW asi h3 b o→vis RW asj h4 b o)∧h4.get? D=some (seqObj "list" vs.toArray m):=fun{asj h4} S4=>
   have vv:=S4.vis (R:=RW) r3.locR r3.celR
   ⟨ck3.step (W.alive _ _ hst3) S4 nC hcomp,W.frame _ _ _ hst3 fun b hb o e=>(W.seen b hb).elim (fun z=>S4.keep b o (fun q=>Cwr (q▸z)) (nc b) (r3.sep b (wrS b z)) e) fun⟨o',z⟩=>Option.some.inj ((gv3 b o' z).2.2.symm.trans e)▸(vv b o' (gv3 b o' z)).2.2,vv,
    S4.keep D _ (fun q=>hCD q.symm) (nc D) (r3.sep D DS) gD3⟩
  clear ck ck3 gv2 facc fz k23 k3 k2 kv3 hst hst3
  refine wpAny_mono (L2 A cenv _ asi {s with heap:=h3,toks:=t2} v hR hE r3 fz3) ?_ fun _ _ x=>x.elim
  rintro _ s4 ⟨st4,as4,h4,t4,rfl,S4,r4,q4⟩
  refine wpAny_mono (EtL.run (s:={s with heap:=h4,toks:=t4}) q4 hR hE r4) ?_ fun _ _ x=>x.elim
  rintro b s5 ⟨st5,as5,h5,t5,rfl,e5,r5,q5⟩
  have S5:=S4.trans e5.toS
  rcases b with _|_
  ·obtain⟨c5,s5,v5,d5⟩:=stepS S5
   exact⟨_,LM hlt3,mkI _ _ _ _ _ _ _ _ hlt3 r5 s5 (fun b o z=>v5 b o (gv3 b o z)) d5 (facc3.mono v5) c5 (q5.2 rfl)⟩
  ·refine rr (if_pos rfl) ?_
   refine(q5.1 rfl).go (s:={s with heap:=h5,toks:=t5}) hR hE r5 fun y d6 st6 as6 h6 t6 e6 r6 f6 qq=>?_
   obtain⟨c6,s6,v6,d6'⟩:=stepS (S5.trans e6.toS)
   obtain⟨m',e'⟩:=FB d6' (fun xs=>xs.push y)
   rw[List.push_toArray]at e'
   have sb:Heap.SameBut D h6 (h6.update D (Obj.mapSeq fun xs=>xs.push y)):=Heap.SameBut.update ..
   have k7:∀b o,b∉[D]→h6.get? b=some o→(h6.update D (Obj.mapSeq fun xs=>xs.push y)).get? b=some o:=fun b o hb e=>(sb.2 b fun q=>hb (q▸ .head _)).trans e
   refine call_meets (s:={s with heap:=h6,toks:=t6}) PySem.F.slot_list_append ⟨_,d6',rfl⟩ PySem.F.entry_list_append (PySem.F.args_list_append_2 _ _) (PySem.list_append D vs.toArray m y (by refine rr size_toArray (rr facc3.length ?_);exact Ac qq.1)) ⟨d6',?_⟩
   generalize h6.update D (Obj.mapSeq fun xs=>xs.push y)=h7 at e' k7⊢
   obtain⟨r7,kv7⟩:=r6.poke (ws:=[D]) (fun b hb=>Ay hb▸DS) (fun q=>hCD (Ay q)) cellD k7 (fun b hb=>Ay hb▸⟨_,e'⟩)
   exact⟨_,LM hlt3,mkI _ _ _ _ _ _ _ _ hlt3 r7 (W.frame _ _ _ s6 fun b hb o e=>(W.seen b hb).elim (fun z=>k7 b o (fun q=>Dwr (Ay q▸z)) e) fun⟨o',z⟩=>have g6:=v6 b o' (gv3 b o' z);Option.some.inj (g6.2.2.symm.trans e)▸(kv7 b o' g6).2.2)
    (fun b o z=>kv7 b o (v6 b o (gv3 b o z))) e' (((facc3.mono v6).snoc f6).mono kv7) (c6.poke k7 (fun b hb=>.inr (Ay hb▸nD))) qq.2⟩
 ·obtain rfl:=Nat.le_antisymm hi (le_of_not_lt hlt3)
  rw[List.drop_length]at L2
  exact W.done _ _ _ hst fun h2 t2 k2=>fin _ _ _ _ _ _ _ _ r2 k2 (k2 _ _ Dwr gDh) facc (ck.poke k2 fun b hb=>.inl hb) L2
theorem RX{elt tgt iter:Expr}{ifs:List Expr}{scope:Scope}{pos:Pos}{Q:List Dat→St→Prop}(ok:Bz sc scope){A:Around}{env:Env}{R as:List Addr}{s:Shared}{I:Addr}{ds:List Dat}{fp wr:List Addr}{S:Nat→Heap→Prop}{Mid:Nat→Value→Heap→Prop}{cl:List (Str×Addr)}
 (hR:CU A n) (hE:Be sc env) (r0:Rel U (wr++R) env st as s.heap) (hl:env.locals∈R) (hc:∀x c,env.cells.lookup x=some c→c∈R) (offW:∀b∈wr,b∉R) (W:Src O w A tgt I fp wr (vis (wr++R) as s.heap) ds S Mid) (h0:S 0 s.heap) (hcl:∀x,cl.lookup x=if x∈BX scope then env.cells.lookup x else none)
 (L:Bh O w U (By scope sc) n tgt ifs elt (fun acc stI=>Q acc (EO (BX scope) st stI)) ds [] (Iv (BX scope) st)) {RR:Value→Addr→Result→Shared→Prop}
 (hRR:∀D C h' tk acc st' as' vs m,Rel U (C::D::R) env st' as' h'→h'.get? D=some (seqObj "list" vs.toArray m)→FzL (vis (C::D::R) as' h') vs acc→s.heap.get? D=none→s.heap.get? C=none→C≠D→
  (∀as0 h0,Ah as0 h0 as s.heap→(∀b∈wr,h0.get? b=none)→Ah as0 h0 as' h')→(∃m,h'.Ns C m)→Q acc st'→RR (.ref D) C (.ok .next) {s with heap:=h',toks:=tk})
 {C D:Addr}{h1:Heap}{m0:Str→Option Value} (hns1:h1.Ns C m0) (hCD':C≠D) (nC:s.heap.get? C=none) (nD:s.heap.get? D=none) (k1:∀b o,s.heap.get? b=some o→h1.get? b=some o) (gD:h1.get? D=some (seqObj "list" ([]:List Value).toArray 0)):
 codeAny (model O w) A (.compStart (.ListComp elt [⟨tgt,iter,ifs,0⟩] scope pos) 0 (.ref I) (.ref D) (compEnvC scope cl C env)) (RR (.ref D) C) {s with heap:=h1,toks:=s.toks+([]:List (Str×Value)).length}:=by
 refine r0.trimP fun as1 sub1 hlt r1=>?_
 obtain⟨asF,rest,subF,subR,mkI,back⟩:=Rel.lend (fr:=BX scope) r1 hl hc offW hlt
 have hEI:Be (By scope sc) (compEnvC scope cl C env):=ok.env hE hcl fun x c e q=>BR nC (q▸r1.inb c (mem_append_right _ (hc x c e)))
 have hcomp:Hv (compEnvC scope cl C env).scope=true:=by refine rr hEI.isSc ?_;exact ok.comp
 have hcells:∀x c,(compEnvC scope cl C env).cells.lookup x=some c→env.cells.lookup x=some c:=fun x c e=>by
  have e':=(hcl x).symm.trans e
  split at e'
  ·exact e'
  ·cases e'
 have aC:∃o,h1.get? C=some o:=(by obtain⟨o,_,_,e,_⟩:=hns1;exact⟨o,e⟩)
 obtain⟨rI0,kvI0⟩:=mkI (h1:=h1) (cenv:=compEnvC scope cl C env) (new:=[C,D]) k1 (LD ⟨nC,aC⟩ ⟨nD,_,gD⟩) (.head _) ⟨_,hns1⟩ hcells (ok.into hE hcl)
 have wrOld:∀b∈wr,∃o,s.heap.get? b=some o:=fun b hb=>r1.inb b (mem_append_left _ hb)
 have Dwr:D∉wr:=fun q=>BR nD (wrOld D q)
 have Cwr:C∉wr:=fun q=>BR nC (wrOld C q)
 have cenvR:∀x c,(compEnvC scope cl C env).cells.lookup x=some c→c∈R:=fun x c e=>hc x c (hcells x c e)
 have hback:=fun{h2 sti asi}=>back (h2:=h2) (cenv:=compEnvC scope cl C env) (Rn:=C::D::R) (asI:=asi) (stI:=sti)
 have bk:∀{h2:Heap},∀x∈BX scope,∀v,AF h2 (compEnvC scope cl C env) x v→AF h2 env x v:=fun{h2}=>ok.back hE hcl
 have hCl:(compEnvC scope cl C env).locals=C:=rfl
 generalize compEnvC scope cl C env=cenv at*
 subst hCl
 clear mkI back
 have DS:D∈wr++(cenv.locals::D::(R++rest)):=mem_append_right _ (.tail _ (.head _))
 have hst1:S 0 h1:=W.frame _ _ _ h0 fun b hb o e=>k1 b o e
 have rI1:=rI0.perm MD
 have gv0:∀b o,vis (wr++R) as s.heap b o→vis (wr++(cenv.locals::D::(R++rest))) asF h1 b o:=fun b o z=>RU MD b o (kvI0 b o ((Ah.less sub1).vis b o z))
 have hoff:∀{sti asi hh h2},Rel U (wr++(cenv.locals::D::(R++rest))) cenv sti asi hh→(∀b o,b∉wr→hh.get? b=some o→h2.get? b=some o)→Rel U (cenv.locals::D::(R++rest)) cenv sti asi h2:=fun r2 k2=>r2.off (.head _) (fun x c e=>.tail _ (.tail _ (mem_append_left _ (cenvR x c e)))) (fun b hb q=>MC (p:=fun b=>b∉wr) Cwr Dwr (fun b q hb=>(mem_append.mp q).elim (offW b hb) fun q=>r1.sep b (mem_append_left _ hb) (subR b q)) b q hb) k2
 have wrS:∀b∈wr,b∈wr++(cenv.locals::D::(R++rest)):=fun b hb=>mem_append_left _ hb
 have loop:codeAny (model O w) A (.compLoop (.ListComp elt [⟨tgt,iter,ifs,0⟩] scope pos) 0 (.ref I) (.ref D) cenv) (RR (.ref D) cenv.locals) {s with heap:=h1,toks:=s.toks+([]:List (Str×Value)).length}:=by
  refine LO
   (Vq O w U (By scope sc) n tgt ifs elt (fun acc stI=>Q acc (EO (BX scope) st stI)) ds D R wr (wr++(cenv.locals::D::(R++rest))) asF as cenv s S) (fun k s' hI=>?_) (ds.length+1)
   ⟨0,_,asF,h1,_,[],0,[],rfl,zero_le _,rfl,rI1,hst1,gv0,gD,.nil,⟨fun b o _ _ e=>k1 b o e,fun b hb=>.inl hb,fun b o _ e=>⟨o,k1 b o e⟩⟩,L⟩
  obtain⟨i,sti,asi0,hh,tk,vs,m,acc,rfl,hi,rfl,r20,hst,gv20,gDh,facc0,ck0,L2⟩:=hI
  refine RV hR hEI hcomp W wrS Cwr (fun x c e q=>offW c q (cenvR x c e)) DS Dwr hCD' (fun x c e q=>BR nD (Ay q▸r1.inb c (mem_append_right _ (cenvR x c e)))) nC nD
   (fun i sti asi hh tk vs m acc hi r hst gv gD f ck L=>⟨i,sti,asi,hh,tk,vs,m,acc,rfl,hi,rfl,r,hst,gv,gD,f,ck,L⟩) (fun sti asi hh h2 tk vs m acc r2 k2 gD facc ck2 L=>?_) hi r20 hst gv20 gDh facc0 ck0 L2
  obtain⟨rB,eB,kB⟩:=hback (hoff r2 k2) (fun b hb=>.tail _ (.tail _ hb)) (MC (.inr nC) (.inr nD) fun _ hb=>.inl hb) ck2.keep ck2.fresh ck2.live bk
  exact hRR D _ h2 tk acc _ _ vs m rB gD (facc.mono (by rintro b o ⟨p,q,e⟩;exact kB b o ⟨fun z=>p (mem_append_right _ z),q,k2 b o (fun z=>p (mem_append_left _ z)) e⟩)) nD nC hCD' (fun as0 h0 e0 fr=>eB as0 h0 (e0.trans (Ah.less sub1)) fr) (hoff r2 k2).locs L
 exact codeAny_compStart_list loop (W.self 0 _ _ _ hst1 loop)
theorem Pc{elt tgt iter:Expr}{ifs:List Expr}{scope:Scope}{pos:Pos}{Q:List Dat→St→Prop}(ok:Bz sc scope){A:Around}{env:Env}{R as:List Addr}{s:Shared}{I:Addr}{ds:List Dat}{fp wr:List Addr}{S:Nat→Heap→Prop}{Mid:Nat→Value→Heap→Prop}{cl:List (Str×Addr)}
 (hR:CU A n) (hE:Be sc env) (r0:Rel U (wr++R) env st as s.heap) (hl:env.locals∈R) (hc:∀x c,env.cells.lookup x=some c→c∈R) (offW:∀b∈wr,b∉R) (W:Src O w A tgt I fp wr (vis (wr++R) as s.heap) ds S Mid) (h0:S 0 s.heap) (hcl:∀x,cl.lookup x=if x∈BX scope then env.cells.lookup x else none)
 (L:Bh O w U (By scope sc) n tgt ifs elt (fun acc stI=>Q acc (EO (BX scope) st stI)) ds [] (Iv (BX scope) st)) {RR:Value→Addr→Result→Shared→Prop}{E:Value→Shared→Prop}
 (hRR:∀D C h' tk acc st' as' vs m,Rel U (C::D::R) env st' as' h'→h'.get? D=some (seqObj "list" vs.toArray m)→FzL (vis (C::D::R) as' h') vs acc→s.heap.get? D=none→s.heap.get? C=none→C≠D→
  (∀as0 h0,Ah as0 h0 as s.heap→(∀b∈wr,h0.get? b=none)→Ah as0 h0 as' h')→(∃m,h'.Ns C m)→Q acc st'→RR (.ref D) C (.ok .next) {s with heap:=h',toks:=tk}):
 wpAny (model O w) A (newList []) (fun acc s₃=>wpAny (model O w) A (newFunctionEnv scope env.globals cl [] env.qual none .none (some env)) (fun cenv s₄=>
  codeAny (model O w) A (.compStart (.ListComp elt [⟨tgt,iter,ifs,0⟩] scope pos) 0 (.ref I) acc {cenv with scope:=relabel scope env}) (RR acc cenv.locals) s₄) E s₃) E s:=by
 refine wpAny_newObj_type (wpAny_newFunctionEnv ok.cell (by intro y hy;simp at hy) (fun h1 hns1 hsb1=>?_) ok.kind)
 dsimp only at hns1 hsb1⊢
 generalize hH2:s.heap.push {cls:=.type "list",dict:=none,data:=.seq ([]:List Value).toArray}=H2 at hns1 hsb1⊢
 have hC:H2.objs.size=s.heap.objs.size+1:=by refine rl hH2 (rr (size_push ..) ?_);rfl
 have hCD:H2.objs.size≠s.heap.objs.size:=by refine rr hC ?_;exact Nat.succ_ne_self _
 have nC:s.heap.get? H2.objs.size=none:=AL _ (by refine rr hC ?_;exact le_succ _)
 exact RX ok hR hE r0 hl hc offW W h0 hcl L hRR hns1 hCD nC (AL _ (le_refl _)) (fun b o e=>hsb1.extBut b o (fun q=>Gj (q▸nC) e) (get?_push_of_some _ (hH2▸get?_push_of_some _ e)))
  (hsb1.extBut _ _ (Ne.symm hCD) (get?_push_of_some _ (hH2▸get?_push_size _ rfl)))
end
section
variable{O:Program}{w:World}{U:Heap}{K:Frag}{sc:Scope}{n:Nat}{st:St}
theorem Ah.over{as as1 wr:List Addr}{h h1 h2:Heap}(S:Ah as h as1 h1)(k:∀b o,b∉wr→h1.get? b=some o→h2.get? b=some o)(fr:∀b∈wr,h.get? b=none):Ah as h as1 h2:=by
 have off:∀b o,h.get? b=some o→b∉wr:=fun b o e q=>by rw[fr b q]at e;cases e
 exact⟨fun b o hb e=>k b o (off b o e) (S.keep b o hb e),S.fresh,fun b o e=>(by obtain⟨o',e'⟩:=S.live b o e;exact⟨o',k b o' (off b o e) e'⟩)⟩
theorem KA{C:Addr}{h h':Heap}(S:Heap.SameBut C h h'):∀b o,b∉[C]→h.get? b=some o→h'.get? b=some o:=fun b _ hb e=>(S.2 b fun q=>hb (by refine rr q ?_;exact .head _)).trans e
theorem Da{elt tgt iter:Expr}{ifs:List Expr}{scope:Scope}{pos:Pos}{Q:AG→St→Prop}(ok:Bz sc scope)
 (h:Es O w U sc n iter tgt st fun ds st1=>Bh O w U (By scope sc) n tgt ifs elt (fun acc stI=>Q (.lst acc) (EO (BX scope) st1 stI)) ds [] (Iv (BX scope) st1))
 (hs:autoParam (∀env x,foldedSetIterable iter env x=pure x) au.a5._auto_1):Ef O w U sc n (.ListComp elt [⟨tgt,iter,ifs,0⟩] scope pos) st Q:=by
 intro A env R as s hR hE r
 obtain⟨cl,hclos,hcl⟩:=IQ (scope:=scope) (env:=env) fun x hx=>hE.has x (ok.outer x (mem_map.mpr ⟨(x,.free),mem_filter.mpr ⟨hx,rfl⟩,rfl⟩))
 refine rr (eval_ListComp ..) ?_
 refine wpAny_comprehension_free (use:=none) rfl (hs env) hclos ok.kind ok.names (h.go hR hE r fun I ds st1 as1 h1 t1 fp wr S Mid e1 r1 W hst fr L=>?_)
 refine Pc ok (s:={s with heap:=h1,toks:=t1}) hR hE r1 r.locR r.celR (BW r fr) W hst hcl L ?_
 intro D C h' tk acc st' as' vs m r2 gD fz nD nC ne eB hn q
 obtain⟨mm,hn⟩:=hn
 refine⟨mm,hn,fun h2 sb=>?_⟩
 have k:=KA sb
 have frC:∀b∈[C],s.heap.get? b=none:=fun b hb=>by refine rr (Ay hb) ?_;exact e1.live.none nC
 have r3:Rel U ([D]++R) env st' as' h2:=Rel.off (wr:=[C]) r2 (.tail _ r.locR) (fun x c e=>.tail _ (r.celR x c e)) (fun b hb q=>by
  rw[Ay hb]at q
  cases q with
  |head=>exact ne rfl
  |tail _ q=>obtain⟨o,e⟩:=r.inb C q;rw[frC C (.head _)]at e;cases e) k
 refine⟨.lst acc,st',as',h2,tk,[D],rfl,(eB as s.heap e1 fr).over k frC,r3,.lst (k _ _ (fun z=>ne (Ay z).symm) gD) (fz.mono (by rintro b o ⟨p,q,e⟩;exact⟨fun z=>p (.tail _ z),q,k b o (fun z=>p (by refine rr (Ay z) ?_;exact .head _)) e⟩)),fun b hb=>by refine rr (Ay hb) ?_;exact e1.live.none nD,q⟩
theorem Dt{y:Str}{py spos:Pos}{elt tgt iter:Expr}{ifs:List Expr}{scope:Scope}{pos:Pos}{Q:Fl→St→Prop}(ok:Bz sc scope)
 (h:Es O w U sc n iter tgt st fun ds st1=>Bh O w U (By scope sc) n tgt ifs elt (fun acc stI=>Q .next (put y (.lst acc) (EO (BX scope) st1 stI))) ds [] (Iv (BX scope) st1))
 (hy:BN sc y=true) (hsw:∀env,env.scope=sc→swapsWith (.ListComp elt [⟨tgt,iter,ifs,0⟩] scope pos) (some (.Name y py)) spos.line env=pure true)
 (hs:autoParam (∀env x,foldedSetIterable iter env x=pure x) au.a5._auto_1):Sx O w U sc n (.Assign [.Name y py] (.ListComp elt [⟨tgt,iter,ifs,0⟩] scope pos) spos) st Q:=by
 intro A env R as s hR hE r
 obtain⟨cl,hclos,hcl⟩:=IQ (scope:=scope) (env:=env) fun x hx=>hE.has x (ok.outer x (mem_map.mpr ⟨(x,.free),mem_filter.mpr ⟨hx,rfl⟩,rfl⟩))
 refine rr (exec_Assign_Name_used _ _ _ _ (hsw env hE.isSc)) ?_
 refine wpAny_bind (wpAny_standAt (wpAny_bind ?_))
 show wpAny _ A (do let _←comprehension (.ListComp elt [⟨tgt,iter,ifs,0⟩] scope pos) scope env _ (newList []) false (eval iter env) (some (assign (.Name y py) env))) _ _ s
 refine wpAny_bind (wpAny_mono (wpAny_comprehension_free (use:=some (assign (.Name y py) env)) (Q:=fun _ s'=>PX U R env as s Q .next s') rfl (hs env) hclos ok.kind ok.names
  (h.go hR hE r fun I ds st1 as1 h1 t1 fp wr S Mid e1 r1 W hst fr L=>?_)) (fun _ s' hq=>wpAny_pure (wpAny_pure hq)) fun _ _ e=>e)
 refine Pc (Q:=fun acc st'=>Q .next (put y (.lst acc) st')) ok (s:={s with heap:=h1,toks:=t1}) hR hE r1 r.locR r.celR (BW r fr) W hst hcl L ?_
 intro D C h' tk acc st' as' vs m r2 gD fz nD nC ne eB hn q
 obtain⟨mm,hn⟩:=hn
 show wpAny _ A (assign (.Name y py) env (.ref D)) _ _ _
 have frC:∀b∈[C],s.heap.get? b=none:=fun b hb=>by refine rr (Ay hb) ?_;exact e1.live.none nC
 have frD:s.heap.get? D=none:=e1.live.none nD
 have CR:C∉R:=fun q=>BR (frC C (.head _)) (r.inb C q)
 have DR:D∉R:=fun q=>BR frD (r.inb D q)
 have r2':Rel U ([D]++(C::R)) env st' as' h':=r2.perm fun b=>by simp only[cons_append,nil_append,mem_cons];constructor<;>(rintro(h|h|h)<;>simp[h])
 have rep:Ct (vis ([D]++(C::R)) as' h') h' (.ref D) (.lst acc) [D]:=.lst gD (fz.mono (by rintro b o ⟨p,q,e⟩;exact⟨fun z=>p ((List.Perm.swap ..).mem_iff.mp z),q,e⟩))
 refine PyProof.Rows.assign_Name (LE (s:={s with heap:=h',toks:=tk}) hE r2' rep (.tail _ r.locR) (fun x c e=>.tail _ (r.celR x c e)) (fun b hb q=>(mem_cons.mp (Ay hb▸q)).elim (fun z=>ne z.symm) DR) hy fun h3 t3 S3 r3=>?_)
 obtain⟨o,es,ep,go,gd,gs,gf⟩:=hn
 refine⟨mm,⟨o,es,ep,S3.keep C o (fun q=>CR (q▸r.locR)) (fun _ x q=>CR (r.celR x C q)) go,gd,gs,gf⟩,fun h4 sb=>?_⟩
 have k:=KA sb
 have r4:Rel U R env (put y (.lst acc) st') ([D]++as') h4:=Rel.off (wr:=[C]) r3 r.locR r.celR (fun b hb q=>CR (Ay hb▸q)) k
 have e5:=eB as s.heap e1 fr
 refine⟨.next,_,_,h4,t3,rfl,Bx.over (h1:=h3) ⟨fun b o n1 n2 hb eb=>S3.keep b o n1 n2 (e5.keep b o hb eb),fun b hb=>?_,e5.live.trans S3.live,fun F _ _ hp hv=>S3.pin hp (e5.pin F hv)⟩ k frC,r4,trivial,q⟩
 rcases mem_append.mp hb with hb|hb
 ·exact .inr (by refine rr (Ay hb) ?_;exact frD)
 ·exact e5.fresh b hb
end
section
variable{O:Program}{w:World}{U:Heap}{K:Frag}{sc:Scope}{n:Nat}{st:St}
def Ce(O:Program)(w:World)(U:Heap)(sc:Scope)(n:Nat)(t:Expr)(body:List Stmt)(Q:Fl→St→Prop):Nat→St→Prop
 |0,_=>False
 |k+1,st=>Et O w U sc n t st fun b st1=>(b=true→Ss O w U sc n body st1 (GO Q (Ce O w U sc n t body Q k)))∧(b=false→Q .next st1)
inductive ae(O:Program)(w:World)(U:Heap)(sc:Scope)(n:Nat)(t:Expr)(body:List Stmt)(Q:Fl→St→Prop)(R:List Addr)(env:Env)(as:List Addr)(s:Shared)(k:Nat)(s':Shared):Prop
 |mk (sti:St) (asi:List Addr) (h:Heap) (tk:Nat) (hs:s'={s with heap:=h,toks:=tk}) (e:Bx env as s.heap asi h) (r:Rel U R env sti asi h) (L:Ce O w U sc n t body Q k sti)
theorem EE{t:Expr}{body:List Stmt}{pos:Pos}{Q:Fl→St→Prop}(N:Nat)(h:Ce O w U sc n t body Q N st):Sx O w U sc n (.While t body [] pos) st Q:=by
 intro A env R as s hR hE r
 refine wpAny_While ?_
 have mkI:∀k sti asi h tk,Bx env as s.heap asi h→Rel U R env sti asi h→Ce O w U sc n t body Q k sti→ae O w U sc n t body Q R env as s k {s with heap:=h,toks:=tk}:=fun k sti asi h tk a b c=>⟨sti,asi,h,tk,rfl,a,b,c⟩
 refine codeAny_whileLoop (ae O w U sc n t body Q R env as s) (fun k s' hI=>?_) N (mkI _ _ _ _ _ (Bx.refl ..) r h)
 obtain⟨sti,asi,hh,tk,rfl,S0,r0,L⟩:=hI
 have mkX:=PX.mk' (U:=U) (R:=R) (env:=env) (as:=as) (s:=s) (Q:=Q)
 revert mkI mkX
 refine gen (ae O w U sc n t body Q R env as s) fun J=>?_
 refine gen (PX U R env as s Q) fun X mkI mkX=>?_
 rcases k with _|⟨k⟩
 ·exact L.elim
 refine L.go (s:={s with heap:=hh,toks:=tk}) hR hE r0 fun b st1 as1 h1 t1 e1 r1 qq=>?_
 rcases b with _|_
 ·refine rr (if_neg Bool.false_ne_true) ?_
  exact wpAny_execs_nil (mkX _ .next _ _ _ _ (S0.trans e1.toS) r1 trivial (qq.2 rfl))
 refine rr (if_pos rfl) ?_
 refine(qq.1 rfl).go (s:={s with heap:=h1,toks:=t1}) hR hE r1 fun f fl st2 as2 h2 t2 S2 r2 fo q=>?_
 have S3:=(S0.trans e1.toS).trans S2
 cases f<;>cases fl<;>first|exact fo.elim|exact⟨k,lt_succ_self k,mkI _ _ _ _ _ S3 r2 q⟩|exact mkX _ .next _ _ _ _ S3 r2 trivial q|exact mkX _ (.ret _) _ _ _ _ S3 r2 fo q
def Bi(O:Program)(w:World)(f:Value)(x y:Dat):Prop:=
 ∀(A:Around) (s:Shared) (g:BT) (v:Value) (Q:Value→Shared→Prop),A.handled=none→(∀b o,g b o→s.heap.get? b=some o)→Now g s.heap v x→
  (∀h' tk u,(∀b o,s.heap.get? b=some o→h'.get? b=some o)→Fz g u y→Q u {s with heap:=h',toks:=tk})→wpAny (model O w) A (call f [v]) Q (fun _ _=>False) s
theorem Bi.pe{f:Value}{x y:Dat}(B:Bi O w f x y){A:Around}{env:Env}{R as:List Addr}{s:Shared}{v:Value}{Q:EV→St→Prop}(hR:CU A n)(r:Rel U R env st as s.heap)(hv:Now (vis R as s.heap) s.heap v x)(q:Q (.dat y) st):
 wpAny (model O w) A (call f [v]) (PE U R env as s Q) (fun _ _=>False) s:=
 B A s _ v _ hR.handled BI hv fun h' tk _ k fu=>PE.grown (t1:=tk) r rfl k (fu.mono (by rintro b o ⟨p,q,e⟩;exact⟨p,q,k b o e⟩)) q
theorem El1{e:Expr}{pos:Pos}{A:Around}{env:Env}{R as:List Addr}{s:Shared}{P:EV→St→Prop}{Q:List Value→Shared→Prop}(h:Ev O w U sc n e st P)(hR:CU A n)(hE:Be sc env)(r:Rel U R env st as s.heap)
 (k:∀v s',PE U R env as s P v s'→Q [v] s') (he:∀env,starEach [e] env=(false,eval e env)::starEach [] env):wpAny (model O w) A (spliced (backTo pos (starEach [e] env))) Q (fun _ _=>False) s:=
 wpAny_items_cons (wpAny_mono (h A env R as s hR hE r) (fun v s' p=>wpAny_items_nil (k v s' p)) fun _ _ x=>x) (he env)
theorem Pd(S:Al O K U){x:Str}{id:String}{p pos:Pos}{e:Expr}{Q:EV→St→Prop}(g:GlB sc K x)(hv:bootBuiltins x=some (.builtin id))(h:Ev O w U sc n e st fun a st1=>∃x y,rd st1 a=some x∧Bi O w (.builtin id) x y∧Q (.dat y) st1)
 (he:autoParam (∀env,starEach [e] env=(false,eval e env)::starEach [] env) au.a1._auto_1):Ev O w U sc n (.Call (.Name x p) [e] [] pos) st Q:=by
 intro A env R as s hR hE r
 refine Call_Name rfl (GN S g hv hE r (PyProof.Rows.callWith_builtin1 (El1 h hR hE r ?_ he) (he env)))
 rintro v s1 ⟨a,st1,as1,h1,t1,rfl,e1,r1,x1,xd,yd,ex,B,q⟩
 exact wpAny_mono (B.pe (s:={s with heap:=h1,toks:=t1}) hR r1 (r1.now x1 ex) q) (fun _ _ p=>PE.after (t1:=t1) e1 p) fun _ _ x=>x
theorem af(S:Al O K U){x:Str}{T:String}{p pos:Pos}{e:Expr}{Q:EV→St→Prop}(g:GlB sc K x)(hv:bootBuiltins x=some (.type T))(h:Ev O w U sc n e st fun a st1=>∃x y,rd st1 a=some x∧Bi O w (.type T) x y∧Q (.dat y) st1)
 (he:autoParam (∀env,starEach [e] env=(false,eval e env)::starEach [] env) au.a1._auto_1):Ev O w U sc n (.Call (.Name x p) [e] [] pos) st Q:=by
 intro A env R as s hR hE r
 refine Call_Name rfl (GN S g hv hE r (PyProof.Rows.callWith_type1 (El1 h hR hE r ?_ he) (he env)))
 rintro v s1 ⟨a,st1,as1,h1,t1,rfl,e1,r1,x1,xd,yd,ex,B,q⟩
 exact wpAny_mono (B.pe (s:={s with heap:=h1,toks:=t1}) hR r1 (r1.now x1 ex) q) (fun _ _ p=>PE.after (t1:=t1) e1 p) fun _ _ x=>x
theorem Yh{x:Dat}{ds:List Dat}(e:Fk x=some ds)(hz:ds.length<2^62):Bi O w (.builtin "len") x (.int ds.length):=by
 intro A s g v Q hh hg hv k
 cases x<;>first|(cases e;done)|skip
 ·cases e
  refine Now.tupleP hv fun a vs m ho f=>?_
  have hl:vs.toArray.size=ds.length:=(size_toArray).trans f.length
  exact len_tuple (items:=vs.toArray) ⟨_,hg _ _ ho,rfl,_,rfl⟩ (by refine rr hl ?_;lia) (by refine rr hl ?_;exact k s.heap _ _ (fun _ _ e=>e) (.int _ _))
 ·cases e
  refine Now.listP hv hg fun a vs m ho f=>?_
  have hl:vs.toArray.size=ds.length:=(size_toArray).trans f.length
  exact PyProof.Rows.len_list (items:=vs.toArray) ⟨_,ho,rfl,_,rfl⟩ (by refine rr hl ?_;lia) (by refine rr hl ?_;exact k s.heap _ _ (fun _ _ e=>e) (.int _ _))
theorem Yi{a:Int}:Bi O w (.builtin "abs") (.int a) (.int (if a<0 then-a else a)):=by
 intro A s g v Q hh hg hv k
 refine Now.intP hv fun t=>?_
 exact call_abs_int fun u tk=>k s.heap tk _ (fun _ _ e=>e) (.int _ _)
theorem Yj{a:Int}:Bi O w (.type "int") (.int a) (.int a):=by
 intro A s g v Q hh hg hv k
 refine Now.intP hv fun t=>?_
 exact call_int_int (k s.heap s.toks _ (fun _ _ e=>e) (.int _ _))
theorem IR{g:BT}{vs:List Value}{ns:List Int}(h:FzL g vs (ns.map .int)):∃xs:List (Int×Tok),vs=xs.map (fun p=>.int p.1 p.2)∧xs.map (·.1)=ns:=by
 induction ns generalizing vs with
 |nil=>cases h;exact⟨[],rfl,rfl⟩
 |cons i ns ih=>
  cases h with
  |cons f r=>
   cases f with
   |int _ t=>
    obtain⟨xs,h1,h2⟩:=ih r
    exact⟨(i,t)::xs,by refine rr h1 ?_;rfl,by refine rl h2 ?_;rfl⟩
theorem Pe(ns:List Int)(val:Nat→Int):∀k,k≤ns.length→(∀j,j<ns.length→val j=ns.getD j 0)→preSum val k=(ns.take k).sum:=by
 intro k hk hv
 induction k with
 |zero=>simp[preSum]
 |succ k ih=>
  rewrite[preSum];refine rr (ih (by exact Ac hk)) (rr (hv k (by exact Ac hk)) ?_);refine rr take_add_one (rr List.sum_append ?_)
  have:ns[k]?=some ns[k]:=getElem?_eq_getElem (by exact Ac hk)
  simp[this,List.getD]
theorem Ui{ns:List Int}:Bi O w (.builtin "sum") (.list (ns.map .int)) (.int ns.sum):=by
 intro A s g v Q hh hg hv k
 refine Now.listP hv hg fun a vs m ho f=>?_
 obtain⟨xs,h1,h2⟩:=IR f
 have e:vs.toArray=intItems xs.toArray:=by subst h1;simp[intItems]
 refine sum_intListG (xs:=xs.toArray) hh ⟨_,ho,rfl,_,by refine rl e ?_;rfl⟩ fun h' tk t' hk=>?_
 have:preSum (numAt xs.toArray) xs.toArray.size=ns.sum:=by
  have:=Pe ns (numAt xs.toArray) ns.length (le_refl _) fun j hj=>by
   subst h2
   simp at hj
   unfold numAt
   simp[hj]
  rw[List.take_length]at this
  refine rl this (rl h2 ?_);simp
 refine rr this ?_
 exact k h' tk _ hk (.int _ _)
end
section
variable{O:Program}{w:World}{U:Heap}{K:Frag}{sc:Scope}{n:Nat}{st:St}
theorem KB{A:Around}{E:Value→Shared→Prop}{s:Shared}{a:Addr}{items:Array Value}{Q:Value→Shared→Prop}(hl:s.heap.IsList a items)
 (k:∀I h1,(∀b o,s.heap.get? b=some o→h1.get? b=some o)→s.heap.get? I=none→a≠I→h1.IsListIter I a 0→h1.IsList a items→Q (.ref I) {s with heap:=h1}):wpAny (model O w) A (pyIter (.ref a)) Q E s:=by
 have up:∀b o,s.heap.get? b=some o→(s.heap.push {cls:=.type "list_iterator",data:=.fields #[.ref a,.int 0 0]}).get? b=some o:=fun b o e=>get?_push_of_some _ e
 refine wpAny_pyIter_list hl (k _ _ up (AL _ (le_refl _)) ?_ ⟨_,get?_push_size _ rfl,rfl,rfl⟩ (hl.push _))
 obtain⟨o,e,_⟩:=hl
 exact ne_of_lt (lt_size e)
theorem RY{g:BT}{vs:List Value}{bs:List Bool}(h:FzL g vs (bs.map .bool)):vs=bs.map .bool:=by
 induction bs generalizing vs with
 |nil=>cases h;rfl
 |cons b bs ih=>
  cases h with
  |cons f r=>cases f;refine rr (ih r) ?_;rfl
theorem Pf(bs:List Bool):((List.range bs.length).any fun i=>bs.getD i false)=bs.any id:=by
 rewrite[Bool.eq_iff_iff]
 simp only[List.any_eq_true,mem_range,id]
 constructor
 ·rintro⟨i,hi,e⟩
  have:bs[i]?=some bs[i]:=getElem?_eq_getElem hi
  simp[List.getD,this]at e
  exact⟨bs[i],List.getElem_mem hi,e⟩
 ·rintro⟨b,hb,e⟩
  obtain⟨i,hi,rfl⟩:=List.mem_iff_getElem.mp hb
  exact⟨i,hi,by simp[List.getD,hi,e]⟩
theorem Yk{bs:List Bool}:Bi O w (.builtin "any") (.list (bs.map .bool)) (.bool (bs.any id)):=by
 intro A s g v Q hh hg hv k
 refine Now.listP hv hg fun a vs m ho f=>?_
 have e:=RY f
 subst e
 refine call_any_walk (KB (items:=(bs.map Value.bool).toArray) ⟨_,ho,rfl,_,rfl⟩ fun I h1 up hI hne hit hl=>?_)
 refine⟨I,_,_,_,_,_,fun i=>bs.getD i false,rfl,Walks.list (A:=A.in1) hh I a hne _,⟨hit,hl⟩,fun i v s Q E hp hq=>?_,fun h' tk hk=>?_⟩
 ·dsimp only at hp
  rw[getElem?_toArray,getElem?_map]at hp
  obtain⟨b,eb,rfl⟩:=map_eq_some_iff.mp hp
  refine wpAny_truthy_bool ?_
  have:bs.getD i false=b:=by simp[List.getD,eb]
  dsimp only at hq
  rw[this]at hq;exact hq
 ·have e2:(bs.map Value.bool).toArray.size=bs.length:=by simp
  refine rr e2 (rr (Pf ..) ?_)
  exact k h' tk _ (fun b o e=>hk b o (fun z=>by rw[Ay z,hI]at e;cases e) (up b o e)) (.bool _)
theorem FD(S:Al O K U){x:Str}{p pos:Pos}{e:Expr}{Q:AG→St→Prop}(g:GlB sc K x)(hv:bootBuiltins x=some (.type "list"))(h:Ev O w U sc n e st fun a st1=>∃xd ds,rd st1 a=some xd∧Fk xd=some ds∧ds.length≤sizeLine∧Q (.lst ds) st1)
 (he:autoParam (∀env,starEach [e] env=(false,eval e env)::starEach [] env) au.a1._auto_1):Ef O w U sc n (.Call (.Name x p) [e] [] pos) st Q:=by
 intro A env R as s hR hE r
 refine Call_Name rfl (GN S g hv hE r (PyProof.Rows.callWith_type1 (El1 h hR hE r ?_ he) (he env)))
 rintro v s1 ⟨a,st1,as0,h1,t1,rfl,e0,r0,x0,xd,ds,ex,es,hz,q⟩
 refine r0.trimP fun as1 sub hlt r1=>?_
 have e1:=e0.trans (Ah.less sub)
 have nw:=r0.now x0 ex
 have nv:∃(a:Addr) (vs:List Value) (m:Nat) (T:String),v=.ref a∧(T="list"∨T="tuple")∧h1.get? a=some (seqObj T vs.toArray m)∧FzL (vis R as1 h1) vs ds:=by
  cases xd<;>first|(cases es;done)|skip
  ·cases es
   obtain⟨a,vs,m,ev,ho,f⟩:=nw.tuple
   exact⟨a,vs,m,_,ev,.inr rfl,ho.2.2,FzL.mono (Ah.less sub).vis f⟩
  ·cases es
   obtain⟨a,vs,m,ev,ho,f⟩:=nw.list BI
   exact⟨a,vs,m,_,ev,.inl rfl,ho,FzL.mono (Ah.less sub).vis f⟩
 obtain⟨a,vs,m,T,rfl,hT,ho,f⟩:=nv
 refine call_list_seq (items:=vs.toArray) a hT ho rfl rfl (fun h' c' hk hD=>?_) (by refine rr size_toArray (rr f.length ?_);exact hz)
 obtain⟨r2,kv⟩:=r1.laid (cs:=[h1.objs.size]) hk (fun b hb=>Ay hb▸⟨AL _ (le_refl _),_,hD⟩) hlt
 exact⟨.lst ds,st1,as1,h',t1,[h1.objs.size],rfl,e1.trans (Ah.grow _ hk),r2,.lst hD (f.mono kv),fun b hb=>Ay hb▸e1.live.none (AL _ (le_refl _)),q⟩
end
section
variable{O:Program}{w:World}{U:Heap}{sc:Scope}{n:Nat}{st st':St}
theorem Rel.forget{R as:List Addr}{env:Env}{h:Heap}(r:Rel U R env st as h)(k:st'.Sublist st):Rel U R env st' as h:=by
 obtain⟨⟨val,cs,hr,hd⟩,hn,hsep,hl,hc,hlo,hcl,hi,hb⟩:=r
 exact⟨⟨val,cs,fun x a hx=>hr x a (k.subset hx),fun x a y b hx hy=>hd x a y b (k.subset hx) (k.subset hy)⟩,(k.map _).nodup hn,hsep,hl,hc,hlo,hcl,hi,hb⟩
theorem Ss.forget{xs:List Stmt}{Q:Fl→St→Prop}(h:Ss O w U sc n xs st' Q)(k:st'.Sublist st):Ss O w U sc n xs st Q:=
 fun A env R as s hR hE r=>h A env R as s hR hE (r.forget k)
theorem Et.forget{e:Expr}{Q:Bool→St→Prop}(h:Et O w U sc n e st' Q)(k:st'.Sublist st):Et O w U sc n e st Q:=
 fun A env R as s hR hE r=>h A env R as s hR hE (r.forget k)
theorem As.forget{t:Expr}{d:Dat}{Q:St→Prop}(h:As O w U sc n t d st' Q)(k:st'.Sublist st):As O w U sc n t d st Q:=
 fun A env R as s v hR hE r hv=>h A env R as s v hR hE (r.forget k) hv
def AP(Q:Fl→St→Prop):Prop:=∀st st':St,st'.Sublist st→Q .next st'→Q .next st
theorem Ad{xs:List Stmt}{Q:Fl→St→Prop}:AP (GJ O w U sc n xs Q):=fun _ _ k h=>Ss.forget h k
theorem Bc.forget{tgt:Expr}{body:List Stmt}{Q:Fl→St→Prop}{ds:List Dat}(h:Bc O w U sc n tgt body Q ds st')(k:st'.Sublist st)(hQ:AP Q):Bc O w U sc n tgt body Q ds st:=by
 rcases ds with _|⟨d,ds⟩
 ·exact hQ _ _ k h
 ·exact As.forget h k
theorem Ce.forget{t:Expr}{body:List Stmt}{Q:Fl→St→Prop}{N:Nat}(h:Ce O w U sc n t body Q N st')(k:st'.Sublist st):Ce O w U sc n t body Q N st:=by
 rcases N with _|⟨N⟩
 ·exact h
 ·exact Et.forget h k
theorem Ed.mono{e:Expr}{Q Q':Dat→St→Prop}(h:Ed O w U sc n e st Q)(k:∀d st1,Q d st1→Q' d st1):Ed O w U sc n e st Q':=
 Ev.mono h (by rintro _ _ ⟨d,st',e,q⟩;exact⟨d,st',e,k _ _ q⟩)
variable{K:Frag}
theorem NI(S:Al O K U){x:Str}{p ap pos:Pos}{e:Expr}{ds0:List Dat}{Q:EV→St→Prop}(h0:look x st=some (.lst ds0))
 (h:Ed O w U sc n e st fun d st1=>∃ds,look x st1=some (.lst ds)∧ds.length+1≤sizeLine∧Q (.dat .none) (put x (.lst (ds++[d])) st1))
 (hd:autoParam ((x==("__debug__":Str))=false) au.a2._auto_1) (hc:autoParam ((x==("__classdict__":Str))=false) au.a2._auto_1)
 (hfew:autoParam (∀env,((backTo pos (starEach [e] env)).all (fun x=>!x.1)&&(backToKw pos (keywordEach [] env)).all (fun x=>x.1.isSome)
  &&decide ([e].length+([]:List Keyword).length+(if([]:List Keyword).isEmpty then 0 else 1)<30))=true) au.a1._auto_1)
 (hline:autoParam ((ap.endLine==pos.line)=true) au.a3._auto_1) (h1:autoParam (∀env,starEach [e] env=(false,eval e env)::starEach [] env) au.a1._auto_1):
 Ev O w U sc n (.Call (.Attribute (.Name x p) "append" ap) [e] [] pos) st Q:=by
 refine Kt S (pl:=.var x) (ds0:=ds0) (by simp[CO,h0]) ⟨hd,hc⟩ ?_ .var hfew hline h1
 refine Ed.mono h (by rintro d st1 ⟨ds,e1,e2,q⟩;exact⟨rfl,ds,by simp[CO,e1],e2,q⟩)
theorem IS(S:Al O K U){x:Str}{p ap pos:Pos}{e:Expr}{ds0:List Dat}{Q:EV→St→Prop}(h0:look x st=some (.lst ds0))
 (h:Ed O w U sc n e st fun d st1=>∃ds,look x st1=some (.lst ds)∧∃es,d=.list es∧ds.length+es.length≤sizeLine∧Q (.dat .none) (put x (.lst (ds++es)) st1))
 (hd:autoParam ((x==("__debug__":Str))=false) au.a2._auto_1) (hc:autoParam ((x==("__classdict__":Str))=false) au.a2._auto_1)
 (hfew:autoParam (∀env,((backTo pos (starEach [e] env)).all (fun x=>!x.1)&&(backToKw pos (keywordEach [] env)).all (fun x=>x.1.isSome)
  &&decide ([e].length+([]:List Keyword).length+(if([]:List Keyword).isEmpty then 0 else 1)<30))=true) au.a1._auto_1)
 (hline:autoParam ((ap.endLine==pos.line)=true) au.a3._auto_1) (h1:autoParam (∀env,starEach [e] env=(false,eval e env)::starEach [] env) au.a1._auto_1):
 Ev O w U sc n (.Call (.Attribute (.Name x p) "extend" ap) [e] [] pos) st Q:=by
 refine Ku S (pl:=.var x) (ds0:=ds0) (by simp[CO,h0]) ⟨hd,hc⟩ ?_ .var hfew hline h1
 refine Ed.mono h (by rintro d st1 ⟨ds,e1,es,e2,e3,q⟩;exact⟨rfl,ds,by simp[CO,e1],es,e2,e3,q⟩)
theorem NJ(S:Al O K U){x f:Str}{p ap pos ap2:Pos}{e:Expr}{C i:Addr}{fs:List (Str×Cu)}{ds0:List Dat}{Q:EV→St→Prop}(h0:look x st=some (.obj C fs))(h0':fs.lookup f=some (.own i ds0))(ok:CE K C)(fo:BO K C f)
 (h:Ed O w U sc n e st fun d st1=>∃fs1 ds,look x st1=some (.obj C fs1)∧fs1.lookup f=some (.own i ds)∧ds.length+1≤sizeLine∧Q (.dat .none) (put x (.obj C (DC f (.own i (ds++[d])) fs1)) st1))
 (hd:autoParam ((x==("__debug__":Str))=false) au.a2._auto_1) (hc:autoParam ((x==("__classdict__":Str))=false) au.a2._auto_1)
 (hfew:autoParam (∀env,((backTo pos (starEach [e] env)).all (fun x=>!x.1)&&(backToKw pos (keywordEach [] env)).all (fun x=>x.1.isSome)
  &&decide ([e].length+([]:List Keyword).length+(if([]:List Keyword).isEmpty then 0 else 1)<30))=true) au.a1._auto_1)
 (hline:autoParam ((ap.endLine==pos.line)=true) au.a3._auto_1) (h1:autoParam (∀env,starEach [e] env=(false,eval e env)::starEach [] env) au.a1._auto_1):
 Ev O w U sc n (.Call (.Attribute (.Attribute (.Name x p) f ap2) "append" ap) [e] [] pos) st Q:=by
 refine Kt S (pl:=.fld x f) (ds0:=ds0) (by simp[CO,h0,h0']) ⟨⟨hd,hc⟩,fun C' fs' e=>by rw[h0]at e;cases e;exact⟨ok,fo⟩⟩ ?_ .fld hfew hline h1
 refine Ed.mono h (by rintro d st1 ⟨fs1,ds,e1,e2,e3,q⟩;exact⟨by simp[CX,h0,h0',e1,e2],ds,by simp[CO,e1,e2],e3,by refine rr (Ju e1 e2) ?_;exact q⟩)
theorem NK(S:Al O K U){x f:Str}{p ap pos ap2:Pos}{e:Expr}{C i:Addr}{fs:List (Str×Cu)}{ds0:List Dat}{Q:EV→St→Prop}(h0:look x st=some (.obj C fs))(h0':fs.lookup f=some (.own i ds0))(ok:CE K C)(fo:BO K C f)
 (h:Ed O w U sc n e st fun d st1=>∃fs1 ds,look x st1=some (.obj C fs1)∧fs1.lookup f=some (.own i ds)∧∃es,d=.list es∧ds.length+es.length≤sizeLine∧Q (.dat .none) (put x (.obj C (DC f (.own i (ds++es)) fs1)) st1))
 (hd:autoParam ((x==("__debug__":Str))=false) au.a2._auto_1) (hc:autoParam ((x==("__classdict__":Str))=false) au.a2._auto_1)
 (hfew:autoParam (∀env,((backTo pos (starEach [e] env)).all (fun x=>!x.1)&&(backToKw pos (keywordEach [] env)).all (fun x=>x.1.isSome)
  &&decide ([e].length+([]:List Keyword).length+(if([]:List Keyword).isEmpty then 0 else 1)<30))=true) au.a1._auto_1)
 (hline:autoParam ((ap.endLine==pos.line)=true) au.a3._auto_1) (h1:autoParam (∀env,starEach [e] env=(false,eval e env)::starEach [] env) au.a1._auto_1):
 Ev O w U sc n (.Call (.Attribute (.Attribute (.Name x p) f ap2) "extend" ap) [e] [] pos) st Q:=by
 refine Ku S (pl:=.fld x f) (ds0:=ds0) (by simp[CO,h0,h0']) ⟨⟨hd,hc⟩,fun C' fs' e=>by rw[h0]at e;cases e;exact⟨ok,fo⟩⟩ ?_ .fld hfew hline h1
 refine Ed.mono h (by rintro d st1 ⟨fs1,ds,e1,e2,es,e3,e4,q⟩;exact⟨by simp[CX,h0,h0',e1,e2],ds,by simp[CO,e1,e2],es,e3,e4,by refine rr (Ju e1 e2) ?_;exact q⟩)
structure okD(k:Nat)(d:Dat):Prop where
 inst:Fy d=true
 lay:(GI d).canLay0=true
 depth:(GI d).depth≤k
theorem okD.plain{k:Nat}{d:Dat}(h:okD k d)(hk:autoParam (k≤64) au.a4._auto_1):Bo d:=⟨h.inst,by unfold PySem.SeqAt.shaped;refine rr h.lay (rr (Bool.true_and ..) ?_);exact decide_eq_true (le_trans h.depth hk)⟩
theorem Pg(b:Int):okD 1 (.int b):=⟨rfl,rfl,zero_le _⟩
theorem Ph{x:Str}(h:PyData.strOk x=true):okD 1 (.str x):=⟨rfl,h,zero_le _⟩
theorem Pi{k:Nat}:∀{ds:List Dat},(∀d∈ds,okD k d)→Fh ds=true∧PyData.canLayAll0 (GI.pyAll ds)=true∧PyData.depthAll (GI.pyAll ds)≤k:=by
 intro ds
 induction ds with
 |nil=>
  intro _
  exact⟨rfl,rfl,zero_le _⟩
 |cons d ds ih=>
  intro h
  obtain⟨a,b,c⟩:=ih fun e he=>h e (.tail _ he)
  have e:=h d (.head _)
  exact⟨and_eq_true_iff.mpr ⟨e.inst,a⟩,and_eq_true_iff.mpr ⟨e.lay,b⟩,Nat.max_le.mpr ⟨e.depth,c⟩⟩
theorem Cn{k:Nat}{ds:List Dat}(h:∀d∈ds,okD k d):okD (k+1) (.list ds):=by
 obtain⟨a,b,c⟩:=Pi h
 exact⟨a,b,Nat.succ_le_succ c⟩
theorem KC{k:Nat}{ds:List Dat}(h:∀d∈ds,okD k d):okD (k+1) (.tuple ds):=by
 obtain⟨a,b,c⟩:=Pi h
 exact⟨a,b,Nat.succ_le_succ c⟩
theorem okD.up{k l:Nat}{d:Dat}(h:okD k d)(kl:k≤l):okD l d:=⟨h.inst,h.lay,le_trans h.depth kl⟩
theorem RZ(a b:Int):deq (.int a) (.int b)=decide (a=b):=by
 rfl
theorem IT{α:Type}(f:α→Dat)(hf:∀a b,deq (f a) (f b)=true↔a=b):∀as bs:List α,PyData.eqvAll (GI.pyAll (as.map f)) (GI.pyAll (bs.map f))=true↔as=bs:=by
 intro as
 induction as with
 |nil=>
  intro zz4
  rcases zz4 with _|⟨b,bs⟩
  ·exact⟨fun _=>rfl,fun _=>rfl⟩
  ·exact⟨fun h=>Bool.noConfusion h,fun h=>nomatch h⟩
 |cons a as ih=>
  intro zz4
  rcases zz4 with _|⟨b,bs⟩
  ·exact⟨fun h=>Bool.noConfusion h,fun h=>nomatch h⟩
  ·exact and_eq_true_iff.trans ((and_congr (hf a b) (ih bs)).trans List.cons_eq_cons.symm)
theorem Hj{α:Type}{f:α→Dat}(hf:∀a b,deq (f a) (f b)=true↔a=b)(as bs:List α):deq (.list (as.map f)) (.list (bs.map f))=true↔as=bs:=IT f hf as bs
theorem Pj{α:Type}{f:α→Dat}(hf:∀a b,deq (f a) (f b)=true↔a=b)(as bs:List α):deq (.tuple (as.map f)) (.tuple (bs.map f))=true↔as=bs:=IT f hf as bs
theorem Dl(as:List Dat):deq (.list as) (.list [])=as.isEmpty:=by
 rcases as with _|⟨a,as⟩<;>rfl
theorem Hy(a b:Int):deq (.int a) (.int b)=true↔a=b:=by refine rr (RZ ..) ?_;simp
noncomputable abbrev Pt:=Int×Int
noncomputable def pD(p:Pt):Dat:=.tuple [.int p.1,.int p.2]
theorem KD(p q:Pt):deq (pD p) (pD q)=true↔p=q:=by
 have:=Pj (f:=Dat.int) Hy [p.1,p.2] [q.1,q.2]
 refine this.trans ⟨fun h=>?_,fun h=>by refine rr h ?_;rfl⟩
 simp only[List.cons.injEq,and_true]at h
 exact Prod.ext h.1 h.2
theorem EF{k:Nat}(ns:List Int)(hk:autoParam (1≤k) au.a4._auto_1):∀d∈ns.map Dat.int,okD k d:=by
 intro d hd;obtain⟨i,_,rfl⟩:=mem_map.mp hd;exact(Pg i).up hk
theorem Pk(p:Pt):okD 2 (pD p):=KC (k:=1) (EF [p.1,p.2])
theorem Ej(ps:List Pt):okD 3 (.list (ps.map pD)):=Cn fun d hd=>by obtain⟨p,_,rfl⟩:=mem_map.mp hd;exact Pk p
end
def Bd(k:Nat)(x:Int):Prop:=x.natAbs<2^k
theorem Bd.up{k l:Nat}{a:Int}(h:Bd k a)(kl:autoParam (k≤l) au.a4._auto_1):Bd l a:=lt_of_lt_of_le h (Nat.pow_le_pow_right (by decide) kl)
theorem Bd.of{x:Int}{b k:Nat}(h1: -(b:Int)≤x)(h2:x≤b)(hk:autoParam (b<2^k) au.a4._auto_1):Bd k x:=by unfold Bd;omega
theorem Bd.neg{k:Nat}{a:Int}(h:Bd k a):Bd k (-a):=by unfold Bd at*;refine rr (Int.natAbs_neg ..) ?_;exact h
theorem Bd.add{k l:Nat}{a b:Int}(ha:Bd k a)(hb:Bd l b):Bd (max k l+1) (a+b):=by
 have h1:a.natAbs<2^max k l:=lt_of_lt_of_le ha (Nat.pow_le_pow_right (by decide) (Nat.le_max_left _ _))
 have h2:b.natAbs<2^max k l:=lt_of_lt_of_le hb (Nat.pow_le_pow_right (by decide) (Nat.le_max_right _ _))
 have h3:=Int.natAbs_add_le a b
 unfold Bd;refine rr (Nat.pow_succ ..) ?_;exact Ox h1 h2 h3
theorem Bd.sub{k l:Nat}{a b:Int}(ha:Bd k a)(hb:Bd l b):Bd (max k l+1) (a-b):=by refine rr Int.sub_eq_add_neg ?_;exact ha.add hb.neg
theorem Bd.mul{k l:Nat}{a b:Int}(ha:Bd k a)(hb:Bd l b):Bd (k+l) (a*b):=by
 unfold Bd at*;refine rr (Int.natAbs_mul ..) (rr (Nat.pow_add ..) ?_)
 exact lt_of_le_of_lt (Nat.mul_le_mul_left _ (Nat.le_of_lt hb)) (Nat.mul_lt_mul_of_pos_right ha (Nat.two_pow_pos l))
theorem Bd.num{x:Int}(h:autoParam (decide (x.natAbs<2^64)=true) au.a4._auto_1):Bd 64 x:=(of_decide_eq_true h:x.natAbs<2^64)
theorem Bd.le{k:Nat}{a b:Int}(h:Bd k a)(hb:b.natAbs≤a.natAbs):Bd k b:=lt_of_le_of_lt hb h
theorem Bd.twice{k:Nat}{a b:Int}(h:Bd k a)(hb:b.natAbs≤2*a.natAbs):Bd (k+1) b:=by
 unfold Bd at*
 refine rr (Nat.pow_succ ..) ?_;exact Ox h h hb
theorem Ae{k l:Nat}{a b:Int}(ha:Bd k a)(hb:Bd l b)(h:autoParam (((k+l:Nat):Int)≤bitsLine) au.a4._auto_1):AT a b:=by
 have h1:=PyProof.Rows.intBits_le ha
 have h2:=PyProof.Rows.intBits_le hb
 unfold AT IntMulOk Builtin.Int.intTooBig
 intro q
 simp only[and_eq_true,decide_eq_true_eq]at q
 lia
noncomputable def IU(K:Frag)(f:Addr):FuncData:=match K.lookup f with
 |some ⟨_,_,.func fd,_⟩=>fd
 |_=>{name:="",qualname:="",params:=default,body:=.stmts [],scope:=default,globals:=0,closure:=[],defaults:=.none,kwdefaults:=.none,doc:=.none,pyModule:=.none,annotations:=none,code:=.none,closureTuple:=.none,builtins:=0}
section
variable{O:Program}{w:World}{U:Heap}{K:Frag}{sc:Scope}{n:Nat}{st:St}
theorem Sa{e:Expr}{Q:Dat→St→Prop}(h:Ev O w U sc n e st fun a st1=>Xx st1 a Q):Ed O w U sc n e st Q:=h
theorem Jy{d:Dat}{Q:Dat→St→Prop}(q:Q d st):Xx st (.dat d) Q:=⟨_,_,rfl,q⟩
theorem Vr{x:Str}{a:AG}{Q:Dat→St→Prop}(e:look x st=some a)(q:Q (GH a) (put x (.dat (GH a)) st)):Xx st (.own x) Q:=⟨_,_,by simp[frz,e],q⟩
theorem cb{op:CmpOp}{a b:EV}{x y:Dat}{Q:Bool→St→Prop}(ex:rd st a=some x)(ey:rd st b=some y)(side:Ds op x y)(q:Q (Cd op x y) st):ZR op st a b Q:=⟨_,_,ex,ey,side,q⟩
theorem ag{x:Str}{pos:Pos}{a:AG}{Q:EV→St→Prop}(hd:((x==("__debug__":Str))||(x==("__classdict__":Str)))=false)(e:look x st=some a)(h:Q (UV x a) st):Ev O w U sc n (.Name x pos) st Q:=by
 rw[or_eq_false_iff]at hd
 exact UW e h hd.1 hd.2
theorem IV(a:Bool):Bo (.bool a):=⟨rfl,rfl⟩
end
theorem Sb{names:List (Str×NameKind)}(e:names.all (fun p=>(p.2!= .cell&&p.2!= .free)||((cellsFrom 0 names []).lookup p.1).isSome)=true):∀x,names.lookup x=some .cell∨names.lookup x=some .free→((cellsFrom 0 names []).lookup x).isSome=true:=by
 intro x hx
 rw[all_eq_true]at e
 rcases hx with h|h
 ·have:=e _ (mem_of_lookup h);simpa using this
 ·have:=e _ (mem_of_lookup h);simpa using this
theorem Sc{names:List (Str×NameKind)}{ps:List Str}(e:ps.all (fun x=>names.lookup x==some .local||names.lookup x==some .cell)=true):∀x∈ps,names.lookup x=some .local∨names.lookup x=some .cell:=by
 intro x hx
 rw[all_eq_true]at e
 have:=e x hx
 simpa using this
theorem Vs{K:Frag}{fd:FuncData}{ps:List Str}(e:∀vs:List Value,vs.length=ps.length→bindArgs fd ⟨vs,[]⟩=pure (ps.zip vs)):∀vs:List Value,vs.length=ps.length→∀s:Shared,K.In s.heap→BindsTo s fd ⟨vs,[]⟩ (ps.zip vs):=
 fun vs h _ _=>BindsTo.of_eq (e vs h)
noncomputable section
inductive Or where
 |val (d:Dat)
 |lent (d:Dat) (a:AG)
 |br (b:Bool)
 |ask (a:EV) (st:St)
 |own (a:AG) (st:St)
 |run (fl:Fl) (st:St)
noncomputable abbrev Ms:=List Prop
class inductive AC:Ms→Prop
 |nil:AC []
 |cons {p:Prop}{ms:Ms} (h:p) (k:AC ms):AC (p::ms)
theorem AC.head{p:Prop}{ms:Ms}:AC (p::ms)→p
 | .cons h _=>h
theorem AC.tail{p:Prop}{ms:Ms}:AC (p::ms)→AC ms
 | .cons _ k=>k
structure Res(α:Type) where
 a:α
 st:St
 os:List Or
 ms:Ms
def R(α:Type):Type:=St→List Or→Ms→Option (Res α)
section
variable{α β:Type}
noncomputable def R.pure(a:α):R α:=fun st os ms=>some ⟨a,st,os,ms⟩
noncomputable def R.bind(m:R α)(f:α→R β):R β:=fun st os ms=>match m st os ms with
 |some ⟨a,st,os,ms⟩=>f a st os ms
 |none=>none
noncomputable def R.fail:R α:=fun _ _ _=>none
noncomputable def R.opt(o:Option α):R α:=fun st os ms=>match o with
 |some a=>some ⟨a,st,os,ms⟩
 |none=>none
noncomputable def R.ob(p:Prop):R Unit:=fun st os ms=>some ⟨(),st,os,p::ms⟩
noncomputable def R.chk(b:Bool):R Unit:=fun st os ms=>match b with
 |true=>some ⟨(),st,os,ms⟩
 |false=>none
noncomputable def R.get:R St:=fun st os ms=>some ⟨st,st,os,ms⟩
noncomputable def R.set(s:St):R Unit:=fun _ os ms=>some ⟨(),s,os,ms⟩
noncomputable def R.val:R Dat:=fun st os ms=>match os with
 | .val d::os=>some ⟨d,st,os,ms⟩
 |_=>none
noncomputable def R.lent:R (Dat×AG):=fun st os ms=>match os with
 | .lent d a::os=>some ⟨(d,a),st,os,ms⟩
 |_=>none
noncomputable def R.br(c:Bool):R Bool:=fun st os ms=>match os with
 | .br b::os=>some ⟨b,st,os,(c=b)::ms⟩
 |_=>none
noncomputable def R.ask(J:St→(EV→St→Prop)→Prop):R EV:=fun st os ms=>match os with
 | .ask a s::os=>some ⟨a,s,os,(∀Q:EV→St→Prop,Q a s→J st Q)::ms⟩
 |_=>none
noncomputable def R.own(J:St→(AG→St→Prop)→Prop):R AG:=fun st os ms=>match os with
 | .own a s::os=>some ⟨a,s,os,(∀Q:AG→St→Prop,Q a s→J st Q)::ms⟩
 |_=>none
noncomputable def R.run(J:St→(Fl→St→Prop)→Prop):R Fl:=fun st os ms=>match os with
 | .run a s::os=>some ⟨a,s,os,(∀Q:Fl→St→Prop,Q a s→J st Q)::ms⟩
 |_=>none
noncomputable def R.peek:R Bool:=fun st os ms=>match os with
 | .ask a s::os=>some ⟨true,st,.ask a s::os,ms⟩
 |os=>some ⟨false,st,os,ms⟩
def ah(J:(α→St→Prop)→Prop)(ms:Ms):Option (Res α)→Prop
 |none=>True
 |some r=>AC r.ms→AC ms∧∀Q:α→St→Prop,Q r.a r.st→J Q
structure Aa(m:R α)(J:St→(α→St→Prop)→Prop):Prop where
 good:∀st os ms,ah (J st) ms (m st os ms)
theorem Aa.ok{m:R α}{J:St→(α→St→Prop)→Prop}(M:Aa m J){st:St}{os:List Or}{ms:Ms}{a:α}{st':St}{os':List Or}{ms':Ms}(h:m st os ms=some ⟨a,st',os',ms'⟩):AC ms'→AC ms∧∀Q:α→St→Prop,Q a st'→J st Q:=by
 have k:=M.good st os ms
 rw[h]at k
 exact k
theorem Aa.pure(a:α):Aa (R.pure a) fun st Q=>Q a st:=⟨fun _ _ _ k=>⟨k,fun _ q=>q⟩⟩
theorem Aa.bind{m:R α}{f:α→R β}{J:St→(α→St→Prop)→Prop}{J':α→St→(β→St→Prop)→Prop}(M:Aa m J)(F:∀a,Aa (f a) (J' a)):Aa (R.bind m f) fun st Q=>J st fun a st1=>J' a st1 Q:=⟨fun st os ms=>by
 have h:=M.good st os ms
 show ah _ _ (match m st os ms with|some ⟨a,st,os,ms⟩=>f a st os ms|none=>none)
 generalize m st os ms=o at h⊢
 rcases o with _|⟨r⟩
 ·trivial
 have k:=(F r.a).good r.st r.os r.ms
 show ah _ _ (f r.a r.st r.os r.ms)
 generalize f r.a r.st r.os r.ms=o at k⊢
 rcases o with _|⟨o⟩
 ·trivial
 exact fun hm=>⟨(h (k hm).1).1,fun Q q=>(h (k hm).1).2 _ ((k hm).2 Q q)⟩⟩
theorem Aa.imp{m:R α}{J J':St→(α→St→Prop)→Prop}(M:Aa m J)(k:∀st Q,J st Q→J' st Q):Aa m J':=⟨fun st os ms=>by
 have h:=M.good st os ms
 generalize m st os ms=o at h⊢
 rcases o with _|⟨o⟩
 ·trivial
 exact fun hm=>⟨(h hm).1,fun Q q=>k _ _ ((h hm).2 Q q)⟩⟩
theorem Aa.fail{J:St→(α→St→Prop)→Prop}:Aa R.fail J:=⟨fun _ _ _=>trivial⟩
theorem Aa.opt(o:Option α):Aa (R.opt o) fun st Q=>∃a,o=some a∧Q a st:=⟨fun _ _ _=>by
 rcases o with _|⟨a⟩
 ·trivial
 ·exact fun k=>⟨k,fun _ q=>⟨_,rfl,q⟩⟩⟩
theorem Aa.ob(p:Prop):Aa (R.ob p) fun st Q=>p∧Q () st:=⟨fun _ _ _ k=>⟨k.tail,fun _ q=>⟨k.head,q⟩⟩⟩
theorem Aa.chk(b:Bool):Aa (R.chk b) fun st Q=>b=true∧Q () st:=⟨fun _ _ _=>by
 rcases b with _|_
 ·trivial
 ·exact fun k=>⟨k,fun _ q=>⟨rfl,q⟩⟩⟩
theorem Aa.get:Aa R.get fun st Q=>Q st st:=⟨fun _ _ _ k=>⟨k,fun _ q=>q⟩⟩
theorem Aa.set(s:St):Aa (R.set s) fun _ Q=>Q () s:=⟨fun _ _ _ k=>⟨k,fun _ q=>q⟩⟩
theorem Aa.peek:Aa R.peek fun st Q=>∃b,Q b st:=⟨fun _ os _=>by
 rcases os with _|⟨o,os⟩<;>try rcases o
 all_goals exact fun k=>⟨k,fun _ q=>⟨_,q⟩⟩⟩
theorem Aa.val:Aa R.val fun st Q=>∃d,Q d st:=⟨fun _ os _=>by
 rcases os with _|⟨o,os⟩<;>try rcases o
 all_goals first|trivial|exact fun k=>⟨k,fun _ q=>⟨_,q⟩⟩⟩
theorem Aa.lent:Aa R.lent fun st Q=>∃p,Q p st:=⟨fun _ os _=>by
 rcases os with _|⟨o,os⟩<;>try rcases o
 all_goals first|trivial|exact fun k=>⟨k,fun _ q=>⟨_,q⟩⟩⟩
theorem Aa.br(c:Bool):Aa (R.br c) fun st Q=>∃b,c=b∧Q b st:=⟨fun _ os _=>by
 rcases os with _|⟨o,os⟩<;>try rcases o
 all_goals first|trivial|exact fun k=>⟨k.tail,fun _ q=>⟨_,k.head,q⟩⟩⟩
theorem Aa.ask(J:St→(EV→St→Prop)→Prop):Aa (R.ask J) J:=⟨fun _ os _=>by
 rcases os with _|⟨o,os⟩<;>try rcases o
 all_goals first|trivial|exact fun k=>⟨k.tail,k.head⟩⟩
theorem Aa.own(J:St→(AG→St→Prop)→Prop):Aa (R.own J) J:=⟨fun _ os _=>by
 rcases os with _|⟨o,os⟩<;>try rcases o
 all_goals first|trivial|exact fun k=>⟨k.tail,k.head⟩⟩
theorem Aa.run(J:St→(Fl→St→Prop)→Prop):Aa (R.run J) J:=⟨fun _ os _=>by
 rcases os with _|⟨o,os⟩<;>try rcases o
 all_goals first|trivial|exact fun k=>⟨k.tail,k.head⟩⟩
theorem Aa.chkT{b:Bool}{m:R α}{J:St→(α→St→Prop)→Prop}(F:b=true→Aa m J):Aa (R.bind (.chk b) fun _=>m) J:=by
 cases b with
 |true=>exact⟨fun st os ms=>(F rfl).good st os ms⟩
 |false=>exact Aa.fail
theorem Aa.optT{o:Option α}{f:α→R β}{J:St→(β→St→Prop)→Prop}(F:∀a,o=some a→Aa (f a) J):Aa (R.bind (.opt o) f) J:=by
 cases o with
 |some a=>exact⟨fun st os ms=>(F a rfl).good st os ms⟩
 |none=>exact Aa.fail
theorem Aa.obT{p:Prop}{m:R α}{J:St→(α→St→Prop)→Prop}(F:Aa m fun st Q=>p→J st Q):Aa (R.bind (.ob p) fun _=>m) J:=(Aa.bind (Aa.ob p) fun _=>F).imp fun _ _ h=>h.2 h.1
noncomputable def R.cs(c:Bool)(m1 m2:R α):R α:=.bind (.br c) fun b=>match b with
 |true=>m1
 |false=>m2
theorem Aa.cs{m1 m2:R α}{A B:St→(α→St→Prop)→Prop}(c:Bool)(h1:Aa m1 A)(h2:Aa m2 B):Aa (R.cs c m1 m2) fun st Q=>(c=true→A st Q)∧(c=false→B st Q):=by
 have k:∀b,Aa (match b with|true=>m1|false=>m2) fun st Q=>(b=true→A st Q)∧(b=false→B st Q):=fun b=>by
  cases b
  ·exact h2.imp fun _ _ q=>⟨fun e=>Bool.noConfusion e,fun _=>q⟩
  ·exact h1.imp fun _ _ q=>⟨fun _=>q,fun e=>Bool.noConfusion e⟩
 exact(Aa.bind (Aa.br c) k).imp (by rintro _ _ ⟨_,e,q⟩;exact e▸q)
end
noncomputable def GX:Dat→Option Int
 | .int i=>some i
 |_=>none
theorem FE{d:Dat}{i:Int}(e:GX d=some i):d=.int i:=by
 cases d<;>cases e
 rfl
noncomputable def Pl:Dat→Option Bool
 | .bool b=>some b
 |_=>none
theorem Pm{d:Dat}{b:Bool}(e:Pl d=some b):d=.bool b:=by
 cases d<;>cases e
 rfl
noncomputable def ME:Dat→Option (List Dat)
 | .list ds=>some ds
 |_=>none
theorem KE{d:Dat}{i:List Dat}(e:ME d=some i):d=.list i:=by
 cases d<;>cases e
 rfl
noncomputable def Yl:AG→Option (List Dat)
 | .lst ds=>some ds
 |_=>none
theorem Sd{d:AG}{i:List Dat}(e:Yl d=some i):d=.lst i:=by
 cases d<;>cases e
 rfl
noncomputable def DT(x:Str):Bool:=!((x==("__debug__":Str))||(x==("__classdict__":Str)))
theorem KG{x:Str}(e:DT x=true):((x==("__debug__":Str))||(x==("__classdict__":Str)))=false:=by
 unfold DT at e;simpa using e
theorem Co{x:Str}(e:DT x=true):(x==("__debug__":Str))=false∧(x==("__classdict__":Str))=false:=or_eq_false_iff.mp (KG e)
theorem Vt{α:Type}{a:α}{P:Prop}(h:(none:Option α)=some a):P:=IF h
noncomputable def MF(e:Expr):Bool:=Nat.beq e.ctorIdx 22
theorem BJ{e:Expr}(h:MF e=false)(es:List Expr)(env:Env):starEach (e::es) env=(false,eval e env)::starEach es env:=by
 cases e<;>first|rfl|exact Bool.noConfusion h
theorem MG{t:Expr}(h:MF t=false)(ts:List Expr)(env:Env):assignEach (t::ts) env=(false,assign t env)::assignEach ts env:=by
 cases t<;>first|rfl|exact Bool.noConfusion h
noncomputable def Bn:List Expr→Bool
 |[]=>true
 |e::es=>!MF e&&Bn es
theorem BY{b:Bool}(h:(!b)=true):b=false:=by cases b<;>first|rfl|exact Bool.noConfusion h
theorem BL{a b:Bool}(h:(a&&b)=true):a=true∧b=true:=and_eq_true_iff.mp h
theorem Af{e:Expr}{es:List Expr}(h:Bn (e::es)=true):MF e=false∧Bn es=true:=⟨BY (BL h).1,(BL h).2⟩
theorem CV:∀{es:List Expr},Bn es=true→∀(pos:Pos) (env:Env),(backTo pos (starEach es env)).any (·.1)=false:=by
 intro es
 induction es with
 |nil=>
  intro _ _ _
  exact rfl
 |cons e es ih=>
  intro h pos env
  rewrite[BJ (Af h).1]
  exact ih (Af h).2 pos env
theorem Pn:∀{es:List Expr},Bn es=true→∀(pos:Pos) (env:Env),(backTo pos (starEach es env)).all (fun x=>!x.1)=true:=by
 intro es
 induction es with
 |nil=>
  intro _ _ _
  exact rfl
 |cons e es ih=>
  intro h pos env
  rewrite[BJ (Af h).1]
  exact ih (Af h).2 pos env
theorem MH{es:List Expr}(h:Bn es=true)(hl:Nat.blt es.length 30=true)(pos:Pos)(env:Env):((backTo pos (starEach es env)).all (fun x=>!x.1)&&(backToKw pos (keywordEach [] env)).all (fun x=>x.1.isSome)
 &&decide (es.length+([]:List Keyword).length+(if([]:List Keyword).isEmpty then 0 else 1)<30))=true:=by
 rewrite[Pn h]
 exact decide_eq_true (Nat.lt_of_succ_le (le_of_ble_eq_true hl))
theorem Po:∀{ts:List Expr},Bn ts=true→∀env:Env,(assignEach ts env).findIdx? (·.1)=none:=by
 intro ts
 induction ts with
 |nil=>
  intro _ _
  exact rfl
 |cons t ts ih=>
  intro h env
  rewrite[MG (Af h).1];refine rr (List.findIdx?_cons) ?_;rewrite[ih (Af h).2]
  rfl
noncomputable def NL(e:Expr):Bool:=Nat.ble 8 e.ctorIdx&&Nat.ble e.ctorIdx 10
theorem MI{e:Expr}(h:NL e=false)(t:Option Expr)(l:Nat)(env:Env):swapsWith e t l env=pure false:=by
 cases e<;>first|rfl|exact Bool.noConfusion h
noncomputable def ai(e:Expr):Bool:=Nat.beq e.ctorIdx 25||NL e
theorem Pp{ts:List Expr}{k:Nat}{p:Pos}{e:Expr}(h:ai e=false)(env:Env):swappedStores [.Tuple ts k p] e env=pure none:=by
 cases e<;>first|rfl|exact Bool.noConfusion h
theorem Pq{e:Expr}(h:ai e=false):NL e=false:=(or_eq_false_iff.mp h).2
end
noncomputable section
theorem Aa.dif{α:Type}{c:Prop}[Decidable c]{f:c→R α}{d:R α}{J:St→(α→St→Prop)→Prop}(hf:∀h,Aa (f h) J)(hd:Aa d J):Aa (dite c f fun _=>d) J:=
 if h:c then dif_pos h▸hf h else dif_neg h▸hd
theorem Aa.cond{α:Type}{c:Bool}{x y:R α}{J:St→(α→St→Prop)→Prop}(hx:c=true→Aa x J)(hy:c=false→Aa y J):Aa (bif c then x else y) J:=match c with
 |true=>hx rfl
 |false=>hy rfl
theorem Ym{α:Type}{c:Prop}[Decidable c]{f:c→α}{d:α}{P:α→Prop}(hf:∀h,P (f h))(hd:P d):P (dite c f fun _=>d):=
 if h:c then dif_pos h▸hf h else dif_neg h▸hd
noncomputable def CF{α:Type}(t:Expr)(f:Str→Pos→α)(d:α):α:=if h:t.ctorIdx=23 then Expr.Name.elim t h f else d
theorem Aa.onName{α:Type}{t:Expr}{f:Str→Pos→R α}{d:R α}{G:Expr→St→(α→St→Prop)→Prop}(hf:∀a b,Aa (f a b) (G (.Name a b)))(hd:Aa d (G t)):Aa (CF t f d) (G t):=
 .dif (fun h=>Expr.Name.elim (motive_1:=fun t=>∀h,Aa (Expr.Name.elim t h f) (G t)) t h (fun a b _=>hf a b) h) hd
theorem Pr{α:Type}{t:Expr}{f:Str→Pos→α}{d:α}{P:Expr→α→Prop}(hf:∀a b,P (.Name a b) (f a b))(hd:P t d):P t (CF t f d):=
 Ym (fun h=>Expr.Name.elim (motive_1:=fun t=>∀h,P t (Expr.Name.elim t h f)) t h (fun a b _=>hf a b) h) hd
noncomputable def Hz{α:Type}(t:Expr)(f:List Expr→Nat→Pos→α)(d:α):α:=if h:t.ctorIdx=25 then Expr.Tuple.elim t h f else d
theorem Aa.onTuple{α:Type}{t:Expr}{f:List Expr→Nat→Pos→R α}{d:R α}{G:Expr→St→(α→St→Prop)→Prop}(hf:∀a b c,Aa (f a b c) (G (.Tuple a b c)))(hd:Aa d (G t)):Aa (Hz t f d) (G t):=
 .dif (fun h=>Expr.Tuple.elim (motive_1:=fun t=>∀h,Aa (Expr.Tuple.elim t h f) (G t)) t h (fun a b c _=>hf a b c) h) hd
noncomputable def Ca{α:Type}(t:Expr)(f:Expr→Str→Pos→α)(d:α):α:=if h:t.ctorIdx=20 then Expr.Attribute.elim t h f else d
theorem Aa.onAttribute{α:Type}{t:Expr}{f:Expr→Str→Pos→R α}{d:R α}{G:Expr→St→(α→St→Prop)→Prop}(hf:∀a b c,Aa (f a b c) (G (.Attribute a b c)))(hd:Aa d (G t)):Aa (Ca t f d) (G t):=
 .dif (fun h=>Expr.Attribute.elim (motive_1:=fun t=>∀h,Aa (Expr.Attribute.elim t h f) (G t)) t h (fun a b c _=>hf a b c) h) hd
noncomputable def KH{α:Type}(t:Expr)(f:Expr→List Expr→List Keyword→Pos→α)(d:α):α:=if h:t.ctorIdx=16 then Expr.Call.elim t h f else d
theorem Aa.onCall{α:Type}{t:Expr}{f:Expr→List Expr→List Keyword→Pos→R α}{d:R α}{G:Expr→St→(α→St→Prop)→Prop}(hf:∀a b c d,Aa (f a b c d) (G (.Call a b c d)))(hd:Aa d (G t)):Aa (KH t f d) (G t):=
 .dif (fun h=>Expr.Call.elim (motive_1:=fun t=>∀h,Aa (Expr.Call.elim t h f) (G t)) t h (fun a b c d _=>hf a b c d) h) hd
noncomputable def Ps{α:Type}(t:Expr)(f:Expr→Operator→Expr→Pos→α)(d:α):α:=if h:t.ctorIdx=2 then Expr.BinOp.elim t h f else d
theorem Aa.onBinOp{α:Type}{t:Expr}{f:Expr→Operator→Expr→Pos→R α}{d:R α}{G:Expr→St→(α→St→Prop)→Prop}(hf:∀a b c d,Aa (f a b c d) (G (.BinOp a b c d)))(hd:Aa d (G t)):Aa (Ps t f d) (G t):=
 .dif (fun h=>Expr.BinOp.elim (motive_1:=fun t=>∀h,Aa (Expr.BinOp.elim t h f) (G t)) t h (fun a b c d _=>hf a b c d) h) hd
noncomputable def HA{α:Type}(t:Expr)(f:Expr→List CmpOp→List Expr→Pos→α)(d:α):α:=if h:t.ctorIdx=15 then Expr.Compare.elim t h f else d
theorem Aa.onCompare{α:Type}{t:Expr}{f:Expr→List CmpOp→List Expr→Pos→R α}{d:R α}{G:Expr→St→(α→St→Prop)→Prop}(hf:∀a b c d,Aa (f a b c d) (G (.Compare a b c d)))(hd:Aa d (G t)):Aa (HA t f d) (G t):=
 .dif (fun h=>Expr.Compare.elim (motive_1:=fun t=>∀h,Aa (Expr.Compare.elim t h f) (G t)) t h (fun a b c d _=>hf a b c d) h) hd
noncomputable def DL{α:Type}(t:Expr)(f:Expr→Expr→Pos→α)(d:α):α:=if h:t.ctorIdx=21 then Expr.Subscript.elim t h f else d
theorem Aa.onSubscript{α:Type}{t:Expr}{f:Expr→Expr→Pos→R α}{d:R α}{G:Expr→St→(α→St→Prop)→Prop}(hf:∀a b c,Aa (f a b c) (G (.Subscript a b c)))(hd:Aa d (G t)):Aa (DL t f d) (G t):=
 .dif (fun h=>Expr.Subscript.elim (motive_1:=fun t=>∀h,Aa (Expr.Subscript.elim t h f) (G t)) t h (fun a b c _=>hf a b c) h) hd
noncomputable def Pu{α:Type}(t:Expr)(f:List Expr→Pos→α)(d:α):α:=if h:t.ctorIdx=24 then Expr.List.elim t h f else d
theorem Aa.onList{α:Type}{t:Expr}{f:List Expr→Pos→R α}{d:R α}{G:Expr→St→(α→St→Prop)→Prop}(hf:∀a b,Aa (f a b) (G (.List a b)))(hd:Aa d (G t)):Aa (Pu t f d) (G t):=
 .dif (fun h=>Expr.List.elim (motive_1:=fun t=>∀h,Aa (Expr.List.elim t h f) (G t)) t h (fun a b _=>hf a b) h) hd
noncomputable def HB{α:Type}(t:Expr)(f:UnaryOp→Expr→Pos→α)(d:α):α:=if h:t.ctorIdx=3 then Expr.UnaryOp.elim t h f else d
theorem Aa.onUnaryOp{α:Type}{t:Expr}{f:UnaryOp→Expr→Pos→R α}{d:R α}{G:Expr→St→(α→St→Prop)→Prop}(hf:∀a b c,Aa (f a b c) (G (.UnaryOp a b c)))(hd:Aa d (G t)):Aa (HB t f d) (G t):=
 .dif (fun h=>Expr.UnaryOp.elim (motive_1:=fun t=>∀h,Aa (Expr.UnaryOp.elim t h f) (G t)) t h (fun a b c _=>hf a b c) h) hd
noncomputable def Pv{α:Type}(t:Expr)(f:Expr→Expr→Expr→Pos→α)(d:α):α:=if h:t.ctorIdx=5 then Expr.IfExp.elim t h f else d
theorem Aa.onIfExp{α:Type}{t:Expr}{f:Expr→Expr→Expr→Pos→R α}{d:R α}{G:Expr→St→(α→St→Prop)→Prop}(hf:∀a b c d,Aa (f a b c d) (G (.IfExp a b c d)))(hd:Aa d (G t)):Aa (Pv t f d) (G t):=
 .dif (fun h=>Expr.IfExp.elim (motive_1:=fun t=>∀h,Aa (Expr.IfExp.elim t h f) (G t)) t h (fun a b c d _=>hf a b c d) h) hd
noncomputable def Jz{α:Type}(t:Expr)(f:BoolOp→List Expr→Pos→α)(d:α):α:=if h:t.ctorIdx=0 then Expr.BoolOp.elim t h f else d
theorem Aa.onBoolOp{α:Type}{t:Expr}{f:BoolOp→List Expr→Pos→R α}{d:R α}{G:Expr→St→(α→St→Prop)→Prop}(hf:∀a b c,Aa (f a b c) (G (.BoolOp a b c)))(hd:Aa d (G t)):Aa (Jz t f d) (G t):=
 .dif (fun h=>Expr.BoolOp.elim (motive_1:=fun t=>∀h,Aa (Expr.BoolOp.elim t h f) (G t)) t h (fun a b c _=>hf a b c) h) hd
noncomputable def IW{α:Type}(t:Expr)(f:Const→Nat→Pos→α)(d:α):α:=if h:t.ctorIdx=19 then Expr.Constant.elim t h f else d
theorem Aa.onConstant{α:Type}{t:Expr}{f:Const→Nat→Pos→R α}{d:R α}{G:Expr→St→(α→St→Prop)→Prop}(hf:∀a b c,Aa (f a b c) (G (.Constant a b c)))(hd:Aa d (G t)):Aa (IW t f d) (G t):=
 .dif (fun h=>Expr.Constant.elim (motive_1:=fun t=>∀h,Aa (Expr.Constant.elim t h f) (G t)) t h (fun a b c _=>hf a b c) h) hd
noncomputable def Px{α:Type}(t:Expr)(f:Option Expr→Option Expr→Option Expr→Pos→α)(d:α):α:=if h:t.ctorIdx=26 then Expr.Slice.elim t h f else d
theorem Aa.onSlice{α:Type}{t:Expr}{f:Option Expr→Option Expr→Option Expr→Pos→R α}{d:R α}{G:Expr→St→(α→St→Prop)→Prop}(hf:∀a b c d,Aa (f a b c d) (G (.Slice a b c d)))(hd:Aa d (G t)):Aa (Px t f d) (G t):=
 .dif (fun h=>Expr.Slice.elim (motive_1:=fun t=>∀h,Aa (Expr.Slice.elim t h f) (G t)) t h (fun a b c d _=>hf a b c d) h) hd
noncomputable def MJ{α:Type}(t:Stmt)(f:List Expr→Expr→Pos→α)(d:α):α:=if h:t.ctorIdx=5 then Stmt.Assign.elim t h f else d
theorem Aa.atAssign{α:Type}{t:Stmt}{f:List Expr→Expr→Pos→R α}{d:R α}{G:Stmt→St→(α→St→Prop)→Prop}(hf:∀a b c,Aa (f a b c) (G (.Assign a b c)))(hd:Aa d (G t)):Aa (MJ t f d) (G t):=
 .dif (fun h=>Stmt.Assign.elim (motive_2:=fun t=>∀h,Aa (Stmt.Assign.elim t h f) (G t)) t h (fun a b c _=>hf a b c) h) hd
noncomputable def HC{α:Type}(t:Stmt)(f:Expr→Operator→Expr→Pos→α)(d:α):α:=if h:t.ctorIdx=7 then Stmt.AugAssign.elim t h f else d
theorem Aa.atAugAssign{α:Type}{t:Stmt}{f:Expr→Operator→Expr→Pos→R α}{d:R α}{G:Stmt→St→(α→St→Prop)→Prop}(hf:∀a b c d,Aa (f a b c d) (G (.AugAssign a b c d)))(hd:Aa d (G t)):Aa (HC t f d) (G t):=
 .dif (fun h=>Stmt.AugAssign.elim (motive_2:=fun t=>∀h,Aa (Stmt.AugAssign.elim t h f) (G t)) t h (fun a b c d _=>hf a b c d) h) hd
noncomputable def Uj{α:Type}(t:Stmt)(f:Expr→Pos→α)(d:α):α:=if h:t.ctorIdx=24 then Stmt.Expr.elim t h f else d
theorem Aa.atExpr{α:Type}{t:Stmt}{f:Expr→Pos→R α}{d:R α}{G:Stmt→St→(α→St→Prop)→Prop}(hf:∀a b,Aa (f a b) (G (.Expr a b)))(hd:Aa d (G t)):Aa (Uj t f d) (G t):=
 .dif (fun h=>Stmt.Expr.elim (motive_2:=fun t=>∀h,Aa (Stmt.Expr.elim t h f) (G t)) t h (fun a b _=>hf a b) h) hd
noncomputable def MK{α:Type}(t:Stmt)(f:Option Expr→Pos→α)(d:α):α:=if h:t.ctorIdx=3 then Stmt.Return.elim t h f else d
theorem Aa.atReturn{α:Type}{t:Stmt}{f:Option Expr→Pos→R α}{d:R α}{G:Stmt→St→(α→St→Prop)→Prop}(hf:∀a b,Aa (f a b) (G (.Return a b)))(hd:Aa d (G t)):Aa (MK t f d) (G t):=
 .dif (fun h=>Stmt.Return.elim (motive_2:=fun t=>∀h,Aa (Stmt.Return.elim t h f) (G t)) t h (fun a b _=>hf a b) h) hd
noncomputable def bC{α:Type}(t:Stmt)(f:Expr→List Stmt→List Stmt→Pos→α)(d:α):α:=if h:t.ctorIdx=12 then Stmt.If.elim t h f else d
theorem Aa.atIf{α:Type}{t:Stmt}{f:Expr→List Stmt→List Stmt→Pos→R α}{d:R α}{G:Stmt→St→(α→St→Prop)→Prop}(hf:∀a b c d,Aa (f a b c d) (G (.If a b c d)))(hd:Aa d (G t)):Aa (bC t f d) (G t):=
 .dif (fun h=>Stmt.If.elim (motive_2:=fun t=>∀h,Aa (Stmt.If.elim t h f) (G t)) t h (fun a b c d _=>hf a b c d) h) hd
end
noncomputable section
noncomputable def XA(C:Addr)(f:Str):Bool:=(Nat.beq C 141&&List.elem f ["points","is_closed"])||((Nat.beq C 194&&List.elem f ["lengths","number","left"])||(Nat.beq C 301&&List.elem f ["half","cap","join","limit","matrix","is_turned","rows"]))
inductive GV where
 |fn (f:Addr)
 |lend (f:Addr)
 |cls (C fI:Addr)
 |dat (d:Int)
 |bi
noncomputable def gp(x:Str)(v:GV):Str×GV:=(x,v)
noncomputable def LP:List (Str×GV):=
 gp "divided" (.fn 54)::gp "GRAIN" (.dat 1000000)::gp "matrix_quotient" (.fn 61)::gp "determinant" (.fn 68)::gp "need_regular" (.fn 75)::gp "transform" (.fn 82)::gp "inverse_delta" (.fn 89)::gp "inverse_transform" (.fn 96)::gp "matrix_length" (.fn 103)::gp "matrix_root" (.fn 110)::gp "stroke_length" (.fn 117)::gp "stroke_line_of" (.fn 152)::gp "stroke_lines" (.fn 157)::gp "stroke_between" (.fn 205)::gp "stroke_cut" (.fn 213)::gp "stroke_dashed" (.fn 218)::gp "stroke_products" (.fn 225)::gp "miter_is_over" (.fn 232)::gp "stroke_led_back" (.fn 310)::gp "stroked" (.fn 315)::gp "_law_draw" (.lend 325)::gp "_law_points" (.lend 332)::gp "_law_parts" (.lend 339)::gp "_law_space" (.lend 344)::gp "_law_lengths" (.lend 349)::gp "_law_retold" (.lend 356)::gp "_law_led" (.fn 363)::gp "_law_rows" (.fn 370)::gp "_law_matrix" (.fn 375)::gp "_law_goes_left" (.fn 382)::gp "_law_figures" (.fn 389)::gp "_law_figure_led" (.fn 394)::gp "_law_begun" (.fn 401)::gp "StrokeLine" (.cls 141 131)::gp "Dashes" (.cls 194 170)::gp "Pen" (.cls 301 246)::gp "len" .bi::gp "abs" .bi::gp "int" .bi::gp "BUTT" (.dat 0)::gp "ROUND" (.dat 1)::gp "SQUARE" (.dat 2)::gp "MITER" (.dat 0)::gp "BEVEL" (.dat 2)::gp "QUARTER" (.dat 552285)::gp "MOST_DASHES" (.dat 5000)::[]
noncomputable def mp(x:Str)(C f:Addr):Str×Addr×Addr:=(x,C,f)
noncomputable def Se:List (Str×Addr×Addr):=
 mp "is_spot" 141 138::mp "is_on" 194 177::mp "turn" 194 184::mp "go" 194 191::mp "device" 301 253::mp "put_figure" 301 258::mp "put_circle" 301 263::mp "aside" 301 270::mp "put_line" 301 277::mp "put_join" 301 284::mp "put_cap" 301 291::mp "draw" 301 298::[]
def ZT(K:Frag)(x:Str):GV→Prop
 | .fn f=>nsIn K mainGlobals x=some (some (.ref f))∧keepIn K (.ref f)=true
 | .lend f=>nsIn K mainGlobals x=some (some (.ref f))∧keepIn K (.ref f)=true
 | .cls C fI=>nsIn K mainGlobals x=some (some (.ref C))∧keepIn K (.ref C)=true∧makesIn K C=true∧findIn K (.ref C) "__init__"=some (some (.ref fI))∧typeIn K (.ref fI)=some (.type "function")
 | .dat d=>∃t,nsIn K mainGlobals x=some (some (.int d t))
 | .bi=>nsIn K mainGlobals x=some none∧x≠"__name__"
structure Cw(K:Frag):Prop where
 glo:∀p∈LP,ZT K p.1 p.2
 fld:∀C f,XA C f=true→CE K C∧BO K C f
 meth:∀p∈Se,CE K p.2.1∧IN K p.2.1 p.1 p.2.2
theorem EG{α β:Type}[BEq α][LawfulBEq α]{x:α}{b:β}{l:List (α×β)}(h:l.lookup x=some b):(x,b)∈l:=by
 obtain⟨_,_,rfl,_⟩:=List.lookup_eq_some_iff.mp h
 exact mem_append_right _ (.head _)
noncomputable def Py(sc:Scope)(x:Str):Bool:=sc.names.lookup x==some .globalImplicit
theorem HD{sc:Scope}{x:Str}(h:Py sc x=true):sc.names.lookup x=some .globalImplicit:=eq_of_beq h
noncomputable def bD:AG→Bool
 | .dat _=>false
 |_=>true
theorem Vu{a:AG}(h:bD a=true)(x:Str):UV x a=.own x:=by cases a<;>first|rfl|cases h
noncomputable def Pz(m:Str)(C:Addr):Option Addr:=(Se.lookup m).bind fun p=>bif Nat.beq p.1 C then some p.2 else none
theorem FF{K:Frag}(T:Cw K){m:Str}{C f:Addr}(h:Pz m C=some f):CE K C∧IN K C m f:=
 match Option.bind_eq_some_iff.mp h with
 |⟨p,e,q⟩=>match hb:Nat.beq p.1 C,q with
  |true,q=>Option.some.inj q▸eq_of_beq_eq_true hb▸T.meth _ (EG e)
  |false,q=>IF q
noncomputable def LQ(e:Expr):Bool:=Nat.beq e.ctorIdx 26
noncomputable def cc{α:Type}(a:AG)(f:Addr→List (Str×Cu)→R α):R α:=match a with
 | .obj C fs=>f C fs
 |_=>.fail
noncomputable def Lw(x:Str)(a:AG):R Unit:=.bind .get fun st=>.set (put x a st)
noncomputable def LR(x:Str):R AG:=.bind .get fun st=>.opt (look x st)
noncomputable def PA{α:Type}(x:Str)(k:Addr→List (Str×Cu)→R α):R α:=.bind (LR x) fun a=>cc a k
noncomputable def aj(f:Expr→Dat→R Unit):List Expr→List Dat→R Unit
 |[],[]=>.pure ()
 |t::ts,d::ds=>.bind (f t d) fun _=>aj f ts ds
 |_,_=>.fail
noncomputable def PC(sc:Scope):Nat→Expr→Dat→R Unit
 |0,_,_=>.fail
 |k+1,t,d=>CF t (fun x _=>.bind (.chk (BN sc x)) fun _=>Lw x (.dat d))<|
  Hz t (fun ts _ _=>.bind (.opt (Fk d)) fun ds=>.bind (.chk (Bn ts&&Nat.beq ts.length ds.length)) fun _=>aj (PC sc k) ts ds) .fail
noncomputable def bE:AG→Option Int
 | .dat d=>GX d
 |_=>none
noncomputable def bF:Cu→Option Int
 | .dat d=>GX d
 |_=>none
noncomputable def ce{α:Type}(a:Cu)(f:Addr→List Dat→R α):R α:=match a with
 | .own i ds=>f i ds
 |_=>.fail
noncomputable def Sf{α:Type}(x f:Str)(k:Addr→List (Str×Cu)→Addr→List Dat→R α):R α:=PA x fun C fs=>.bind (.opt (fs.lookup f)) fun u=>ce u (k C fs)
noncomputable def bG(a:EV):R Dat:=match a with
 | .dat d=>.pure d
 | .own x=>.bind .get fun st=>.bind (.opt (look x st)) fun a=>.bind (.set (put x (.dat (GH a)) st)) fun _=>.pure (GH a)
noncomputable def rdR(a:EV):R Dat:=.bind .get fun st=>.opt (rd st a)
noncomputable def Yn(a:EV):R Int:=.bind (rdR a) fun d=>.opt (GX d)
noncomputable def PG(a:EV):R Bool:=.bind (rdR a) fun d=>.opt (Pl d)
noncomputable def Yo(a:EV):R (List Dat):=.bind (rdR a) fun d=>.opt (ME d)
noncomputable def Yp(op:Operator)(x y:Dat):Bool:=match op with
 | .Add | .Sub=>(GX x).isSome&&(GX y).isSome
 |_=>false
noncomputable def ak(op:Operator)(x y:Dat):R Dat:=match Yp op x y with
 |true=>.pure (II op x y)
 |false=>.bind (.ob (Cv op x y)) fun _=>.pure (II op x y)
noncomputable def Yq(op:CmpOp)(x y:Dat):Bool:=match op with
 | .Lt | .LtE | .Gt | .GtE | .Eq | .NotEq=>(GX x).isSome&&(GX y).isSome
 |_=>false
noncomputable def Yr(op:CmpOp)(x y:Dat):R Bool:=match Yq op x y with
 |true=>.pure (Cd op x y)
 |false=>.bind (.ob (Ds op x y)) fun _=>.pure (Cd op x y)
noncomputable def Ys(x:Dat)(k:Int):R Dat:=.bind (.opt (Fk x)) fun ds=>match x with
 | .tuple _=>.bind (.chk (Nat.ble ds.length 1000)) fun _=>.opt (AK ds k)
 |_=>.bind .val fun d=>.bind (.ob (ds.length<2^62)) fun _=>.bind (.ob (AK ds k=some d)) fun _=>.pure d
noncomputable def Vv(f:Expr→R Dat):List Expr→R (List Dat)
 |[]=>.pure []
 |e::es=>.bind (f e) fun d=>.bind (Vv f es) fun ds=>.pure (d::ds)
structure VR where
 e:Scope→Expr→R EV
 f:Scope→Expr→R AG
 t:Scope→Expr→R Bool
noncomputable def VR.d(v:VR)(sc:Scope)(e:Expr):R Dat:=.bind (v.e sc e) bG
noncomputable def VR.a(v:VR)(sc:Scope)(es:List Expr):R (List Dat):=.bind (.chk (Bn es)) fun _=>Vv (v.d sc) es
noncomputable def am(f:Expr→R Bool):List Expr→R Bool
 |[]=>.pure true
 |e::es=>.bind (f e) fun c=>.cs c (am f es) (.pure false)
noncomputable def orR(f:Expr→R Bool):List Expr→R Bool
 |[]=>.pure false
 |e::es=>.bind (f e) fun c=>.cs c (.pure true) (orR f es)
section
variable(O:Program)(w:World)(U:Heap)(n:Nat)
noncomputable def Kn(sc:Scope)(e:Expr):R EV:=.ask fun st Q=>Ev O w U sc n e st Q
noncomputable def XB(sc:Scope)(e:Expr):R AG:=.own fun st Q=>Ef O w U sc n e st Q
noncomputable def fnR(f:Addr)(ds:List Dat):R EV:=.bind .val fun d=>.bind (.ob (FnP O w U n f ds (· =d))) fun _=>.pure (.dat d)
noncomputable def Vw(f:Addr)(x:Str)(ds:List Dat):R EV:=.bind (LR x) fun a=>.bind .lent fun p=>.bind (.ob (FnL O w U n f a ds fun d a'=>d=p.1∧a'=p.2)) fun _=>.bind (Lw x p.2) fun _=>.pure (.dat p.1)
noncomputable def Uk(f:Addr)(x:Str)(a:AG):R EV:=.bind .lent fun p=>.bind (.ob (FnL O w U n f a [] fun d a'=>d=p.1∧a'=p.2)) fun _=>.bind (Lw x p.2) fun _=>.pure (.dat p.1)
noncomputable def biR(v:VR)(sc:Scope)(g:Str)(e1 e:Expr):R EV:=
 if g="len" then .bind (v.e sc e1) fun a=>.bind (rdR a) fun x=>.bind (.opt (Fk x)) fun ds=>.bind (.ob (ds.length<2^62)) fun _=>.pure (.dat (.int ds.length))
 else if g="abs" then .bind (v.e sc e1) fun a=>.bind (Yn a) fun i=>.pure (.dat (.int (if i<0 then-i else i)))
 else Kn O w U n sc e
noncomputable def Yt(v:VR)(sc:Scope)(g:Str)(gv:GV)(es:List Expr)(e:Expr):R EV:=match gv with
 | .fn f=>match es with
  |[]=>.fail
  |e1::es=>.bind (v.a sc (e1::es)) (fnR O w U n f)
 | .lend f=>match es with
  |[]=>.fail
  |a::es=>CF a (fun x _=>.bind (.chk (DT x)) fun _=>.bind (LR x) fun a0=>.bind (.chk (bD a0)) fun _=>.bind (v.a sc es) (Vw O w U n f x)) .fail
 | .cls _ _=>.bind (v.f sc e) fun av=>.pure (.dat (GH av))
 | .dat _=>.fail
 | .bi=>match es with
  |[e1]=>.bind (.chk (Bn [e1])) fun _=>biR O w U n v sc g e1 e
  |_=>.fail
noncomputable def Vx(v:VR)(sc:Scope)(g:Str)(es:List Expr)(e:Expr):R EV:=match Py sc g with
 |true=>match LP.lookup g with
  |some gv=>Yt O w U n v sc g gv es e
  |none=>Kn O w U n sc e
 |false=>Kn O w U n sc e
noncomputable def bH(x:Str)(d:Dat):R EV:=.bind (LR x) fun a=>.bind (.opt (Yl a)) fun ds=>.bind (.ob (ds.length+1≤sizeLine)) fun _=>.bind (Lw x (.lst (ds++[d]))) fun _=>.pure (.dat .none)
noncomputable def Vy(v:VR)(sc:Scope)(x m:Str)(es:List Expr)(e:Expr)(a0:AG):R EV:=match a0 with
 | .obj C fs=>.bind (.opt (Pz m C)) fun f=>.bind (.chk (!(fs.map (·.1)).contains m&&Bn es&&Nat.blt es.length 30)) fun _=>match es with
  |[]=>Uk O w U n f x a0
  |e1::es=>.bind (v.a sc (e1::es)) (Vw O w U n f x)
 | .dat d=>match d with
  | .inst C fs=>match es with
   |[]=>.bind (.opt (Pz m C)) fun f=>.bind (.chk (!(fs.map (·.1)).contains m)) fun _=>fnR O w U n f [.inst C fs]
   |_=>.fail
  |_=>.fail
 | .lst _=>match es with
  |[e1]=>if m="append" then .bind (.chk (Bn [e1])) fun _=>.bind (v.d sc e1) (bH x)
   else Kn O w U n sc e
  |_=>Kn O w U n sc e
noncomputable def bI(x f:Str)(C i:Addr)(d:Dat):R EV:=Sf x f fun C1 fs i1 ds=>.bind (.ob (C1=C∧i1=i)) fun _=>.bind (.ob (ds.length+1≤sizeLine)) fun _=>.bind (Lw x (.obj C (DC f (.own i (ds++[d])) fs))) fun _=>.pure (.dat .none)
noncomputable def bJ(x f:Str)(C i:Addr)(d:Dat):R EV:=Sf x f fun C1 fs i1 ds=>.bind (.ob (C1=C∧i1=i)) fun _=>.bind (.opt (ME d)) fun es=>.bind (.ob (ds.length+es.length≤sizeLine)) fun _=>.bind (Lw x (.obj C (DC f (.own i (ds++es)) fs))) fun _=>.pure (.dat .none)
noncomputable def bK(v:VR)(sc:Scope)(x f:Str)(e1:Expr)(line:Bool)(g:Addr→Addr→Dat→R EV):R EV:=.bind (.chk (DT x&&line&&Bn [e1])) fun _=>Sf x f fun C _ i _=>.bind (.chk (XA C f)) fun _=>.bind (v.d sc e1) (g C i)
noncomputable def an(v:VR)(sc:Scope)(x f m:Str)(es:List Expr)(e:Expr)(line:Bool):R EV:=match es with
 |[e1]=>if m="append" then bK v sc x f e1 line (bI x f)else if m="extend" then bK v sc x f e1 line (bJ x f)else Kn O w U n sc e
 |_=>Kn O w U n sc e
noncomputable def cg(o:Option GV)(m:R EV):R EV:=match o with
 |some g=>match g with
  | .dat d=>.pure (.dat (.int d))
  |_=>m
 |none=>m
noncomputable def ci(o:Option GV)(k:Addr→Addr→R AG)(m:R AG):R AG:=match o with
 |some g=>match g with
  | .cls C f=>k C f
  |_=>m
 |none=>m
noncomputable def Yu(sc:Scope)(x:Str)(e:Expr):R EV:=.bind (.chk (DT x)) fun _=>.bind .get fun st=>match look x st with
 |some a=>.pure (UV x a)
 |none=>match Py sc x with
  |true=>cg (LP.lookup x) (Kn O w U n sc e)
  |false=>Kn O w U n sc e
noncomputable def Yv(sc:Scope)(x f:Str)(e:Expr):R EV:=.bind (.chk (DT x)) fun _=>.bind .get fun st=>match NE x f st with
 |some (C,d)=>.bind (.chk (XA C f)) fun _=>.pure (.dat d)
 |none=>Kn O w U n sc e
noncomputable def Ul(c:Const):R EV:=match c with
 | .int i=>.pure (.dat (.int i))
 | .str s=>.pure (.dat (.str s))
 | .bool b=>.pure (.dat (.bool b))
 | .none=>.pure (.dat .none)
 |_=>.fail
noncomputable def bL(v:VR)(sc:Scope)(l:Expr)(ops:List CmpOp)(rs:List Expr):R EV:=match ops,rs with
 |[op],[r]=>.bind (.chk (!behindInMarks op r)) fun _=>.bind (v.e sc l) fun a=>.bind (v.e sc r) fun b=>.bind (rdR a) fun x=>.bind (rdR b) fun y=>.bind (Yr op x y) fun c=>.pure (.dat (.bool c))
 |_,_=>.fail
noncomputable def ao(v:VR)(sc:Scope)(l i:Expr)(p:Pos):R EV:=match LQ i with
 |true=>.bind .peek fun b=>match b with
  |true=>Kn O w U n sc (.Subscript l i p)
  |false=>.bind (v.f sc (.Subscript l i p)) fun av=>.pure (.dat (GH av))
 |false=>.bind (v.e sc l) fun a=>.bind (v.e sc i) fun b=>.bind (rdR a) fun x=>.bind (Yn b) fun k=>.bind (Ys x k) fun d=>.pure (.dat d)
noncomputable def cj(v:VR)(sc:Scope)(op:UnaryOp)(x:Expr)(p:Pos):R EV:=match op with
 | .USub=>.bind (v.e sc x) fun a=>.bind (Yn a) fun i=>.pure (.dat (.int (-i)))
 |op=>Kn O w U n sc (.UnaryOp op x p)
noncomputable def Yw(v:VR)(sc:Scope)(op:BoolOp)(es:List Expr):R EV:=match es with
 |[x,y]=>.bind (v.e sc x) fun a=>.bind (PG a) fun c=>match op with
  | .And=>.cs c (v.e sc y) (.pure (.dat (.bool false)))
  | .Or=>.cs c (.pure (.dat (.bool true))) (v.e sc y)
 |_=>.fail
noncomputable def Vz(v:VR)(sc:Scope)(o:Expr)(m:Str)(ap:Pos)(es:List Expr)(pos:Pos):R EV:=
 CF o (fun x q=>.bind (.chk (DT x&&(ap.endLine==pos.line))) fun _=>.bind (LR x) (Vy O w U n v sc x m es (.Call (.Attribute (.Name x q) m ap) es [] pos)))<|
 Ca o (fun o f q=>CF o (fun x r=>an O w U n v sc x f m es (.Call (.Attribute (.Attribute (.Name x r) f q) m ap) es [] pos) (ap.endLine==pos.line)) (Kn O w U n sc (.Call (.Attribute (.Attribute o f q) m ap) es [] pos)))<|
 Kn O w U n sc (.Call (.Attribute o m ap) es [] pos)
noncomputable def Yx(v:VR)(sc:Scope)(f:Expr)(es:List Expr)(kws:List Keyword)(pos:Pos):R EV:=match kws with
 |[]=>CF f (fun g p=>Vx O w U n v sc g es (.Call (.Name g p) es [] pos))<|Ca f (fun o m ap=>Vz O w U n v sc o m ap es pos) .fail
 |_=>.fail
noncomputable def VA(v:VR)(sc:Scope)(e:Expr):R EV:=
 CF e (fun x p=>Yu O w U n sc x (.Name x p))<|
 IW e (fun c _ _=>Ul c)<|
 KH e (fun f es kws pos=>Yx O w U n v sc f es kws pos)<|
 DL e (fun l i p=>ao O w U n v sc l i p)<|
 Ca e (fun o f p=>CF o (fun x q=>Yv O w U n sc x f (.Attribute (.Name x q) f p)) (Kn O w U n sc (.Attribute o f p)))<|
 Ps e (fun l op r _=>.bind (v.e sc l) fun a=>.bind (v.e sc r) fun b=>.bind (rdR a) fun x=>.bind (rdR b) fun y=>.bind (ak op x y) fun d=>.pure (.dat d))<|
 HA e (fun l ops rs _=>bL v sc l ops rs)<|
 Hz e (fun es _ _=>.bind (v.a sc es) fun ds=>.bind (.chk (Nat.ble ds.length 1000)) fun _=>.pure (.dat (.tuple ds)))<|
 Pu e (fun es p=>.bind (v.f sc (.List es p)) fun av=>.pure (.dat (GH av)))<|
 HB e (fun op x p=>cj O w U n v sc op x p)<|
 Pv e (fun t b o _=>.bind (v.t sc t) fun c=>.cs c (v.e sc b) (v.e sc o))<|
 Jz e (fun op es _=>Yw v sc op es)<|
 Kn O w U n sc e
noncomputable def cst(e:Expr):Bool:=Nat.beq e.ctorIdx 19||Nat.beq e.ctorIdx 3
noncomputable def Um(v:VR)(sc:Scope)(l s:Expr)(G:Int→Option (List Dat→List Dat)):R AG:=.bind (v.e sc l) fun a=>.bind (v.e sc s) fun b=>.bind (Yn b) fun k=>.bind (.opt (G k)) fun g=>.bind (Yo a) fun ds=>.bind (.ob (ds.length≤sizeLine)) fun _=>.pure (.lst (g ds))
noncomputable def ZU(k:Int):Option (List Dat→List Dat):=if k=1 then some (List.drop 1)else if k=2 then some (List.drop 2)else none
noncomputable def Sg(k:Int):Option (List Dat→List Dat):=if k=1 then some (List.take 1)else if k= -1 then some List.dropLast else if k=63 then some (List.take 63)else none
noncomputable def ZV(k:Int):Option (List Dat→List Dat):=if k= -1 then some List.reverse else none
noncomputable def Un(v:VR)(sc:Scope)(l s e:Expr)(G:Int→Option (List Dat→List Dat)):R AG:=match cst s with
 |true=>Um v sc l s G
 |false=>XB O w U n sc e
noncomputable def Yy(v:VR)(sc:Scope)(C fI:Addr)(es:List Expr):R AG:=match n with
 |0=>.fail
 |n'+1=>match es with
  |[]=>.fail
  |e1::es=>.bind (v.a sc (e1::es)) fun ds=>.bind .lent fun p=>.bind (.ob (FnL O w U n' fI (.obj C []) ds fun d a'=>d=.none∧a'=p.2)) fun _=>.pure p.2
noncomputable def VB(v:VR)(sc:Scope)(g:Str)(es:List Expr)(e:Expr):R AG:=match Py sc g with
 |true=>ci (LP.lookup g) (fun C fI=>Yy O w U n v sc C fI es) (XB O w U n sc e)
 |false=>XB O w U n sc e
noncomputable def Yz(v:VR)(sc:Scope)(l:Expr)(lo hi stp:Option Expr)(e:Expr):R AG:=match lo with
 |some lo=>match hi with
  |none=>match stp with
   |none=>Un O w U n v sc l lo e ZU
   |some _=>.fail
  |some _=>.fail
 |none=>match hi with
  |some hi=>match stp with
   |none=>Un O w U n v sc l hi e Sg
   |some _=>.fail
  |none=>match stp with
   |none=>.fail
   |some s=>Un O w U n v sc l s e ZV
noncomputable def VC(v:VR)(sc:Scope)(e:Expr):R AG:=
 Pu e (fun es _=>.bind (v.a sc es) fun ds=>.bind (.chk (Nat.ble ds.length 1000)) fun _=>.pure (.lst ds))<|
 DL e (fun l i p=>Px i (fun lo hi stp q=>Yz O w U n v sc l lo hi stp (.Subscript l (.Slice lo hi stp q) p)) .fail)<|
 KH e (fun f es kws p=>match kws with
  |[]=>CF f (fun g q=>VB O w U n v sc g es (.Call (.Name g q) es [] p)) .fail
  |_=>.fail)<|
 XB O w U n sc e
noncomputable def cm(v:VR)(sc:Scope)(l:Expr)(ops:List CmpOp)(rs:List Expr):R Bool:=match ops,rs with
 |[op],[r]=>.bind (.chk (!behindInMarks op r)) fun _=>.bind (v.e sc l) fun a=>.bind (v.e sc r) fun b=>.bind (rdR a) fun x=>.bind (rdR b) fun y=>Yr op x y
 |_,_=>.fail
noncomputable def VD(v:VR)(sc:Scope)(e:Expr):R Bool:=
 HA e (fun l ops rs _=>cm v sc l ops rs)<|
 HB e (fun op x _=>match op with
  | .Not=>.bind (v.t sc x) fun b=>.pure (!b)
  |_=>.fail)<|
 Jz e (fun op es _=>match op with
  | .And=>am (v.t sc) es
  | .Or=>orR (v.t sc) es)<|
 CF e (fun x p=>.bind (v.e sc (.Name x p)) PG)<|
 Ca e (fun o f p=>.bind (v.e sc (.Attribute o f p)) PG)<|
 KH e (fun f es kws p=>.bind (v.e sc (.Call f es kws p)) PG) .fail
noncomputable def VV(k:Nat):VR:=Nat.rec (motive:=fun _=>VR) ⟨Kn O w U n,XB O w U n,fun _ _=>.fail⟩ (fun _ v=>⟨VA O w U n v,VC O w U n v,VD v⟩) k
end
end
theorem HE{α:Type}(k:Nat)(l:List α):Gh (some (k:Int)) none l=l.drop k:=by
 unfold Gh kms_lo kms_hi
 dsimp only
 refine rr (if_neg (by exact(not_lt.mpr (natCast_nonneg (k))))) ?_
 apply take_of_length_le _ |>.trans
 ·rcases le_total k l.length with h|h
  ·refine rr (toNat_natCast ..) (rr (min_eq_left h) ?_);rfl
  ·refine rr (toNat_natCast ..) (rr (min_eq_right h) ?_);refine rr (List.drop_of_length_le h) (rr (List.drop_of_length_le (le_refl _)) ?_);rfl
 ·refine rr length_drop ?_;exact le_refl _
theorem LS{α:Type}(k:Nat)(l:List α):Gh none (some (k:Int)) l=l.take k:=by
 unfold Gh kms_lo kms_hi
 dsimp only
 refine rr (if_neg (by lia)) ?_
 refine rr List.drop_zero ?_;refine rr (toNat_natCast ..) (rr (Nat.sub_zero ..) ?_)
 rcases le_total k l.length with h|h
 ·refine rr (min_eq_left h) ?_;rfl
 ·refine rr (min_eq_right h) ?_;refine rr (take_of_length_le h) (rr (take_of_length_le (le_refl _)) ?_);rfl
theorem PH{α:Type}(l:List α):Gh none (some (-1)) l=l.dropLast:=by
 unfold Gh kms_lo kms_hi
 dsimp only
 refine rr (if_pos DX) ?_;refine rr List.drop_zero (rr List.dropLast_eq_take ?_)
 rfl
section
variable{O:Program}{w:World}{U:Heap}{sc:Scope}{n:Nat}{st:St}{tgt elt:Expr}{ifs:List Expr}{body:List Stmt}
theorem YA{x y:Expr}{pos:Pos}{Q:EV→St→Prop}(h:Ev O w U sc n x st fun a st1=>TrP st1 a fun b st2=>(b=false→Ev O w U sc n y st2 Q)∧(b=true→Q (.dat (.bool true)) st2)):
 Ev O w U sc n (.BoolOp .Or [x,y] pos) st Q:=by
 intro A env R as s hR hE r
 refine wpAny_Or2 (h.go hR hE r fun v a st1 as1 h1 t1 e1 r1 x1 qq=>?_)
 obtain⟨b,eb,q1,q2⟩:=qq
 refine Now.boolP (r1.now x1 eb) ?_
 refine wpAny_truthy_bool ?_
 rcases b with _|_
 ·exact wpAny_mono (q1 rfl A env R as1 _ hR hE r1) (fun _ _ p=>PE.after e1 p) fun _ _ x=>x
 ·exact PE.after (t1:=t1) e1 (PE.grown (t1:=t1) r1 rfl (fun _ _ e=>e) (.bool _) (q2 rfl))
end
theorem szl:16777216≤sizeLine:=by decide
theorem Fm{ds:List Dat}{d:Dat}:AK (ds++[d]) (-1)=some d:=by
 have h1:seqIndex? (-1) (ds++[d]).length=some ds.length:=by
  unfold seqIndex?
  simp;lia
 unfold AK
 refine rr h1 ?_;simp
theorem NM{α:Type}(l:List α):Gh (some 1) none l=l.drop 1:=HE 1 l
theorem NN{α:Type}(l:List α):Gh (some 2) none l=l.drop 2:=HE 2 l
theorem Sh{α:Type}(l:List α):Gh none (some 1) l=l.take 1:=LS 1 l
theorem JA{ds:List Dat}{d:Dat}:AK (d::ds) 0=some d:=by
 have h1:seqIndex? 0 (d::ds).length=some 0:=by
  unfold seqIndex?
  simp
 unfold AK
 refine rr h1 ?_;rfl
theorem Gn{ds:List Dat}{k:Nat}{d:Dat}(e:ds[k]?=some d):AK ds (k:Int)=some d:=by
 have hk:k<ds.length:=(List.getElem?_eq_some_iff.mp e).1
 have h1:seqIndex? (k:Int) ds.length=some k:=by
  unfold seqIndex?
  simp;lia
 unfold AK
 refine rr h1 ?_;exact e
section
variable{O:Program}{w:World}{U:Heap}{sc:Scope}{n:Nat}{st:St}
end
section
variable{O:Program}{w:World}{U:Heap}{n:Nat}{v:VR}{K:Frag}{sc:Scope}{st:St}
theorem El.mono{es:List Expr}{Q Q':List Dat→St→Prop}(h:El O w U sc n es st Q)(k:∀a st,Q a st→Q' a st):El O w U sc n es st Q':=
 fun A env R as s pos hR hE r=>wpAny_mono (h A env R as s pos hR hE r) (by rintro _ _ ⟨ev,st',as',h',tk',e,a,b,c,q⟩;exact⟨ev,st',as',h',tk',e,a,b,c,k _ _ q⟩) fun _ _ x=>x
theorem Ef.mono{e:Expr}{Q Q':AG→St→Prop}(h:Ef O w U sc n e st Q)(k:∀a st,Q a st→Q' a st):Ef O w U sc n e st Q':=
 fun A env R as s hR hE r=>wpAny_mono (h A env R as s hR hE r) (by rintro _ _ ⟨av,st',as',h',tk',cs,e,a,b,c,f,q⟩;exact⟨av,st',as',h',tk',cs,e,a,b,c,f,k _ _ q⟩) fun _ _ x=>x
abbrev SE(O:Program)(w:World)(U:Heap)(n:Nat)(sc:Scope)(e:Expr)(m:R EV):Prop:=Aa m fun st Q=>Ev O w U sc n e st Q
structure VR.Ok(O:Program)(w:World)(U:Heap)(n:Nat)(v:VR):Prop where
 e:∀sc e,Aa (v.e sc e) fun st Q=>Ev O w U sc n e st Q
 f:∀sc e,Aa (v.f sc e) fun st Q=>Ef O w U sc n e st Q
 t:∀sc e,Aa (v.t sc e) fun st Q=>Et O w U sc n e st Q
theorem Aa.lookT{α:Type}{x:Str}{f:AG→R α}{J:St→(α→St→Prop)→Prop}(F:∀a,Aa (f a) fun st Q=>look x st=some a→J st Q):Aa (R.bind (LR x) f) J:=
 (Aa.bind (Aa.bind Aa.get fun st=>Aa.opt (look x st)) F).imp (by rintro _ _ ⟨_,e,h⟩;exact h e)
theorem Aa.put(x:Str)(a:AG):Aa (Lw x a) fun st Q=>Q () (Mine.put x a st):=Aa.bind Aa.get fun st=>Aa.set (Mine.put x a st)
theorem Aa.objT{α:Type}{x:Str}{k:Addr→List (Str×Cu)→R α}{J:St→(α→St→Prop)→Prop}(F:∀C fs,Aa (k C fs) fun st Q=>look x st=some (.obj C fs)→J st Q):Aa (PA x k) J:=Aa.lookT fun a=>by
 cases a with
 |obj C fs=>exact F C fs
 |_=>exact Aa.fail
theorem Aa.ownT{α:Type}{x f:Str}{k:Addr→List (Str×Cu)→Addr→List Dat→R α}{J:St→(α→St→Prop)→Prop}(F:∀C fs i ds,Aa (k C fs i ds) fun st Q=>fs.lookup f=some (.own i ds)→look x st=some (.obj C fs)→J st Q):Aa (Sf x f k) J:=Aa.objT fun C fs=>Aa.optT fun u eu=>by
 cases u with
 |own i ds=>exact(F C fs i ds).imp fun _ _ h=>h eu
 |_=>exact Aa.fail
theorem VE(a:EV):Aa (bG a) fun st Q=>Xx st a Q:=by
 cases a with
 |dat d=>exact(Aa.pure d).imp fun _ _ q=>Jy q
 |own x=>exact(Aa.bind Aa.get fun st=>Aa.bind (Aa.opt (look x st)) fun a=>Aa.bind (Aa.set (put x (.dat (GH a)) st)) fun _=>Aa.pure (GH a)).imp (by rintro _ _ ⟨_,e,q⟩;exact Vr e q)
theorem Ek(a:EV):Aa (rdR a) fun st Q=>∃x,rd st a=some x∧Q x st:=Aa.bind Aa.get fun st=>Aa.opt (rd st a)
theorem JB(a:EV):Aa (Yn a) fun st Q=>∃i,rd st a=some (.int i)∧Q i st:=(Aa.bind (Ek a) fun d=>Aa.opt (GX d)).imp (by rintro _ _ ⟨_,e,_,e',q⟩;exact⟨_,FE e'▸e,q⟩)
theorem FG(a:EV):Aa (PG a) fun st Q=>TrP st a Q:=(Aa.bind (Ek a) fun d=>Aa.opt (Pl d)).imp (by rintro _ _ ⟨_,e,_,e',q⟩;exact⟨_,Pm e'▸e,q⟩)
theorem Si(a:EV):Aa (Yo a) fun st Q=>∃i,rd st a=some (.list i)∧Q i st:=(Aa.bind (Ek a) fun d=>Aa.opt (ME d)).imp (by rintro _ _ ⟨_,e,_,e',q⟩;exact⟨_,KE e'▸e,q⟩)
theorem Sj{x:Dat}(h:(GX x).isSome=true):∃i,x=.int i:=(by obtain⟨i,e⟩:=isSome_iff_exists.mp h;exact⟨i,FE e⟩)
theorem Sk{op:Operator}{x y:Dat}(h:Yp op x y=true):Cv op x y:=by
 cases op<;>first
  |cases h
  |(obtain⟨⟨_,rfl⟩,⟨_,rfl⟩⟩:=(⟨Sj (BL h).1,Sj (BL h).2⟩:(∃i,x=.int i)∧∃i,y=.int i);trivial)
theorem Sl{op:CmpOp}{x y:Dat}(h:Yq op x y=true):Ds op x y:=by
 cases op<;>first
  |cases h
  |(obtain⟨⟨_,rfl⟩,⟨_,rfl⟩⟩:=(⟨Sj (BL h).1,Sj (BL h).2⟩:(∃i,x=.int i)∧∃i,y=.int i);first|trivial|exact⟨plain_int _,plain_int _⟩)
theorem VF(op:Operator)(x y:Dat):Aa (ak op x y) fun st Q=>Cv op x y∧Q (II op x y) st:=by
 unfold ak
 split
 ·exact(Aa.pure _).imp fun _ _ q=>⟨Sk ‹_›,q⟩
 ·exact Aa.bind (Aa.ob _) fun _=>Aa.pure _
theorem PI(op:CmpOp)(x y:Dat):Aa (Yr op x y) fun st Q=>Ds op x y∧Q (Cd op x y) st:=by
 unfold Yr
 split
 ·exact(Aa.pure _).imp fun _ _ q=>⟨Sl ‹_›,q⟩
 ·exact Aa.bind (Aa.ob _) fun _=>Aa.pure _
theorem Sm(x:Dat)(k:Int):Aa (Ys x k) fun st Q=>∃ds d,Fk x=some ds∧ds.length<2^62∧AK ds k=some d∧Q d st:=by
 have gen:∀ds,Fk x=some ds→Aa (R.bind .val fun d=>.bind (.ob (ds.length<2^62)) fun _=>.bind (.ob (AK ds k=some d)) fun _=>.pure d) fun st Q=>∃d,ds.length<2^62∧AK ds k=some d∧Q d st:=
  fun ds _=>Aa.bind Aa.val fun d=>Aa.bind (Aa.ob _) fun _=>Aa.bind (Aa.ob _) fun _=>Aa.pure d
 refine(Aa.bind (Aa.opt (Fk x)) fun ds=>(?_:Aa _ fun st Q=>∃d,ds.length<2^62∧AK ds k=some d∧Q d st)).imp (by rintro _ _ ⟨ds,e,d,h⟩;exact⟨ds,d,e,h⟩)
 cases x with
 |tuple _=>exact Aa.chkT fun h=>(Aa.opt (AK ds k)).imp (by rintro _ _ ⟨d,e,q⟩;exact⟨d,lt_of_le_of_lt (le_of_ble_eq_true h) (by decide),e,q⟩)
 |_=>exact Aa.bind Aa.val fun d=>Aa.bind (Aa.ob _) fun _=>Aa.bind (Aa.ob _) fun _=>Aa.pure d
theorem VR.Ok.d(o:v.Ok O w U n)(sc:Scope)(e:Expr):Aa (v.d sc e) fun st Q=>Ed O w U sc n e st Q:=Aa.bind (o.e sc e) VE
theorem Sn(o:v.Ok O w U n)(sc:Scope):∀{es:List Expr},Bn es=true→Aa (Vv (v.d sc) es) fun st Q=>El O w U sc n es st Q:=by
 intro es
 induction es with
 |nil=>
  intro _
  exact(Aa.pure []).imp fun _ _ q=>XO q
 |cons e es ih=>
  intro h
  exact(Aa.bind (o.d sc e) fun d=>Aa.bind (ih (Af h).2) fun ds=>Aa.pure (d::ds)).imp fun _ _ q=>UY q (BJ (Af h).1 es)
theorem VR.Ok.a(o:v.Ok O w U n)(sc:Scope)(es:List Expr):Aa (v.a sc es) fun st Q=>Bn es=true∧El O w U sc n es st Q:=Aa.chkT fun e=>(Sn o sc e).imp fun _ _ q=>⟨e,q⟩
theorem VG(o:v.Ok O w U n):∀{es:List Expr},Aa (am (v.t sc) es) fun st Q=>Ea O w U sc n .And es st Q:=by
 intro es
 induction es with
 |nil=>
  exact(Aa.pure true).imp fun _ _ q=>NB q
 |cons e _ ih=>
  exact(Aa.bind (o.t sc e) fun c=>Aa.cs c (ih) (Aa.pure false)).imp fun _ _ h=>XV h
theorem YB(o:v.Ok O w U n):∀{es:List Expr},Aa (orR (v.t sc) es) fun st Q=>Ea O w U sc n .Or es st Q:=by
 intro es
 induction es with
 |nil=>
  exact(Aa.pure false).imp fun _ _ q=>OS q
 |cons e _ ih=>
  exact(Aa.bind (o.t sc e) fun c=>Aa.cs c (Aa.pure true) (ih)).imp fun _ _ h=>ab (Et.mono h fun _ _ h=>⟨h.2,h.1⟩)
theorem VH(o:v.Ok O w U n)(sc:Scope)(op:CmpOp)(l r:Expr):Aa (R.bind (v.e sc l) fun a=>.bind (v.e sc r) fun b=>.bind (rdR a) fun x=>.bind (rdR b) fun y=>Yr op x y) fun st Q=>Ev O w U sc n l st fun a st1=>Ev O w U sc n r st1 fun b st2=>ZR op st2 a b Q:=
 (Aa.bind (o.e sc l) fun a=>Aa.bind (o.e sc r) fun b=>Aa.bind (Ek a) fun x=>Aa.bind (Ek b) fun y=>PI op x y).imp fun _ _ h=>h.mono fun _ _ h=>h.mono (by rintro _ _ ⟨x,e,y,e',s,q⟩;exact⟨x,y,e,e',s,q⟩)
theorem So(o:v.Ok O w U n)(sc:Scope)(e:Expr):Aa (VD v sc e) fun st Q=>Et O w U sc n e st Q:=by
 unfold VD
 refine Aa.onCompare (G:=fun e st Q=>Et O w U sc n e st Q) (fun l ops rs p=>?_) ?_
 ·rcases ops with _|⟨op,_|⟨_,_⟩⟩<;>rcases rs with _|⟨r,_|⟨_,_⟩⟩<;>first|exact Aa.fail|skip
  exact Aa.chkT fun hb=>(VH o sc op l r).imp fun _ _ h=>XT h (BY hb)
 refine Aa.onUnaryOp (G:=fun e st Q=>Et O w U sc n e st Q) (fun op x p=>?_) ?_
 ·cases op<;>first|exact Aa.fail|exact(Aa.bind (o.t sc x) fun b=>Aa.pure (!b)).imp fun _ _ h=>XU h
 refine Aa.onBoolOp (G:=fun e st Q=>Et O w U sc n e st Q) (fun op es p=>?_) ?_
 ·cases op
  ·exact(VG o).imp fun _ _ h=>OR h
  ·exact(YB o).imp fun _ _ h=>OR h
 refine Aa.onName (G:=fun e st Q=>Et O w U sc n e st Q) (fun x p=>(Aa.bind (o.e sc _) FG).imp fun _ _ h=>OQ h) ?_
 refine Aa.onAttribute (G:=fun e st Q=>Et O w U sc n e st Q) (fun a f p=>(Aa.bind (o.e sc _) FG).imp fun _ _ h=>OQ h) ?_
 exact Aa.onCall (G:=fun e st Q=>Et O w U sc n e st Q) (fun f es k p=>(Aa.bind (o.e sc _) FG).imp fun _ _ h=>OQ h) Aa.fail
end
section
variable{O:Program}{w:World}{U:Heap}{n:Nat}{v:VR}{K:Frag}{sc:Scope}{st:St}
theorem ML{x:Str}{g:GV}(h:LP.lookup x=some g):(x==("__debug__":Str))=false:=by
 have k:∀p∈LP,(p.1==("__debug__":Str))=false:=by decide+kernel
 exact k _ (EG h)
theorem Cw.gl{K:Frag}(T:Cw K){x:Str}{g:GV}(h:LP.lookup x=some g):ZT K x g:=T.glo _ (EG h)
theorem BK(sc:Scope)(e:Expr):Aa (Kn O w U n sc e) fun st Q=>Ev O w U sc n e st Q:=Aa.ask _
theorem Go(sc:Scope)(e:Expr):Aa (XB O w U n sc e) fun st Q=>Ef O w U sc n e st Q:=Aa.own _
theorem FnP.at{f:Addr}{ds:List Dat}{d:Dat}{Q:Dat→Prop}(h:FnP O w U n f ds (· =d))(q:Q d):FnP O w U n f ds Q:=h.mono fun _ e=>e▸q
theorem FnL.at{f:Addr}{a a':AG}{ds:List Dat}{d:Dat}{Q:Dat→AG→Prop}(h:FnL O w U n f a ds fun x y=>x=d∧y=a')(q:Q d a'):FnL O w U n f a ds Q:=h.mono fun _ _ e=>e.1▸e.2▸q
theorem Uo(f:Addr)(ds:List Dat):Aa (fnR O w U n f ds) fun st Q=>FnP O w U n f ds fun d=>Q (.dat d) st:=
 Aa.imp (Aa.bind Aa.val fun d=>Aa.bind (Aa.ob _) fun _=>Aa.pure (EV.dat d)) (by rintro _ _ ⟨_,h,q⟩;exact h.at q)
theorem MM(f:Addr)(x:Str)(ds:List Dat):Aa (Vw O w U n f x ds) fun st Q=>∃a,look x st=some a∧FnL O w U n f a ds fun d a'=>Q (.dat d) (put x a' st):=
 Aa.lookT fun a=>Aa.imp (Aa.bind Aa.lent fun p=>Aa.bind (Aa.ob _) fun _=>Aa.bind (Aa.put x p.2) fun _=>Aa.pure (EV.dat p.1)) (by rintro _ _ ⟨_,h,q⟩ e;exact⟨a,e,h.at q⟩)
theorem Sq(f:Addr)(x:Str)(a:AG):Aa (Uk O w U n f x a) fun st Q=>FnL O w U n f a [] fun d a'=>Q (.dat d) (put x a' st):=
 Aa.imp (Aa.bind Aa.lent fun p=>Aa.bind (Aa.ob _) fun _=>Aa.bind (Aa.put x p.2) fun _=>Aa.pure (EV.dat p.1)) (by rintro _ _ ⟨_,h,q⟩;exact h.at q)
theorem VI(x:Str)(d:Dat):Aa (bH x d) fun st Q=>∃ds,look x st=some (.lst ds)∧ds.length+1≤sizeLine∧Q (.dat .none) (put x (.lst (ds++[d])) st):=
 Aa.lookT fun a=>Aa.optT fun ds ed=>Aa.obT ((Aa.bind (Aa.put x (.lst (ds++[d]))) fun _=>Aa.pure (EV.dat .none)).imp fun _ _ q hz e=>⟨ds,Sd ed▸e,hz,q⟩)
theorem YC(S:Al O K U)(T:Cw K)(o:v.Ok O w U n){g:Str}{px pos:Pos}{e1:Expr}(hg:Py sc g=true)(e2:LP.lookup g=some .bi)(hs:Bn [e1]=true):SE O w U n sc (.Call (.Name g px) [e1] [] pos) (biR O w U n v sc g e1 (.Call (.Name g px) [e1] [] pos)):=by
 have G:=T.gl e2
 have gb:GlB sc K g:=⟨HD hg,G.1,ML e2,G.2⟩
 have s:=BJ (Af hs).1 []
 unfold biR
 split
 ·subst g
  exact Aa.imp (Aa.bind (o.e sc e1) fun a=>Aa.bind (Ek a) fun x=>Aa.bind (Aa.opt (Fk x)) fun ds=>Aa.bind (Aa.ob _) fun _=>Aa.pure (EV.dat (.int ds.length)))
   fun _ _ h=>Pd S gb rfl (h.mono (by rintro _ _ ⟨x,e,ds,e',hz,q⟩;exact⟨x,_,e,Yh e' hz,q⟩)) s
 ·split
  ·subst g
   exact Aa.imp (Aa.bind (o.e sc e1) fun a=>Aa.bind (JB a) fun i=>Aa.pure (EV.dat (.int (if i<0 then-i else i)))) fun _ _ h=>Pd S gb rfl (h.mono (by rintro _ _ ⟨_,e,q⟩;exact⟨_,_,e,Yi,q⟩)) s
  ·exact BK _ _
theorem Sr(S:Al O K U)(T:Cw K)(o:v.Ok O w U n){g:Str}{gv:GV}{px pos:Pos}{es:List Expr}(hg:Py sc g=true)(e2:LP.lookup g=some gv):SE O w U n sc (.Call (.Name g px) es [] pos) (Yt O w U n v sc g gv es (.Call (.Name g px) es [] pos)):=by
 have G:=T.gl e2
 have e3:=ML e2
 have e4:=HD hg
 cases gv with
 |fn f=>
  rcases es with _|⟨a,es⟩
  ·exact Aa.fail
  ·exact Aa.imp (Aa.bind (o.a sc (a::es)) fun ds=>Uo f ds) (by rintro _ _ ⟨hb,h⟩;exact RN S ⟨e4,G.1,e3⟩ G.2 h (BJ (Af hb).1 es) (CV (Af hb).2 pos))
 |lend f=>
  rcases es with _|⟨a,es⟩
  ·exact Aa.fail
  ·refine Aa.onName (G:=fun a st Q=>Ev O w U sc n (.Call (.Name g px) (a::es) [] pos) st Q) (fun x xp=>?_) Aa.fail
   exact Aa.chkT fun hx=>Aa.lookT fun a0=>Aa.chkT fun hc=>Aa.imp (Aa.bind (o.a sc es) fun ds=>MM f x ds)
    (by rintro _ _ ⟨hb,h⟩ ea;exact RO S ⟨e4,G.1,e3⟩ G.2 ea h (Vu hc x) (BJ rfl es) (CV hb pos) (Co hx).1 (Co hx).2)
 |cls C fI=>exact Aa.imp (Aa.bind (o.f sc _) fun av=>Aa.pure (EV.dat (GH av))) fun _ _ h=>AO h
 |dat d=>exact Aa.fail
 |bi=>
  rcases es with _|⟨a,_|⟨b,es⟩⟩<;>first|exact Aa.fail|skip
  have B:=YC (px:=px) (pos:=pos) (e1:=a) S T o hg e2
  exact Aa.chkT B
theorem Su(S:Al O K U)(T:Cw K)(o:v.Ok O w U n){g:Str}{px pos:Pos}{es:List Expr}:SE O w U n sc (.Call (.Name g px) es [] pos) (Vx O w U n v sc g es (.Call (.Name g px) es [] pos)):=by
 unfold Vx
 cases hg:Py sc g with
 |false=>exact BK _ _
 |true=>
  cases e2:LP.lookup g with
  |some gv=>exact Sr S T o hg e2
  |none=>exact BK _ _
set_option tactic.hygienic true in
theorem Sv(S:Al O K U)(T:Cw K)(o:v.Ok O w U n){x m:Str}{ap px pos:Pos}{es:List Expr}(hx:DT x=true)(hl:(ap.endLine==pos.line)=true)(a0:AG):
 Aa (Vy O w U n v sc x m es (.Call (.Attribute (.Name x px) m ap) es [] pos) a0) fun st Q=>look x st=some a0→Ev O w U sc n (.Call (.Attribute (.Name x px) m ap) es [] pos) st Q:=by
 have hn:=Co hx
 cases a0 with
 |obj C fs=>
  rcases es with _|⟨e1,es⟩
  ·
   refine Aa.optT fun f ef=>Aa.chkT fun hb=>Aa.imp (Sq f x (.obj C fs)) fun st Q h ea=>?_
   have k:=FF T ef
   have b1:=BY (BL (BL hb).1).1
   exact OX S ea k.1 k.2 b1 h (fun _=>rfl) hl hn.1 hn.2
  ·
   refine Aa.optT fun f ef=>Aa.chkT fun hb=>Aa.imp (Aa.bind (o.a sc (e1::es)) fun ds=>MM f x ds) fun st Q ⟨hs,h⟩ ea=>?_
   have k:=FF T ef
   have b1:=BY (BL (BL hb).1).1
   exact RQ S ea k.1 k.2 b1 h (MH hs (BL hb).2 pos) hl (BJ (Af hs).1 es) (CV (Af hs).2 pos) hn.1 hn.2
 |dat d=>
  cases d<;>first|exact Aa.fail|skip
  rename_i C fs
  rcases es with _|⟨e1,es⟩
  ·exact Aa.optT fun f ef=>Aa.chkT fun hb=>Aa.imp (Uo f _) fun st Q h ea=>OY S ea (FF T ef).1 (FF T ef).2 (BY hb) h (fun _=>rfl) hl hn.1 hn.2
  ·exact Aa.fail
 |lst ds=>
  rcases es with _|⟨e1,_|⟨e2,es⟩⟩<;>first|exact Aa.imp (BK _ _) fun _ _ h _=>h|skip
  unfold Vy
  dsimp only
  split
  ·subst m
   exact Aa.chkT fun hs=>Aa.imp (Aa.bind (o.d sc e1) fun d=>VI x d) fun _ _ h ea=>NI S ea h hn.1 hn.2 (MH hs rfl pos) hl (BJ (Af hs).1 [])
  ·exact Aa.imp (BK _ _) fun _ _ h _=>h
end
section
variable{O:Program}{w:World}{U:Heap}{n:Nat}{v:VR}{K:Frag}{sc:Scope}{st:St}
theorem Sw(S:Al O K U)(T:Cw K)(x:Str)(p:Pos):SE O w U n sc (.Name x p) (Yu O w U n sc x (.Name x p)):=by
 refine Aa.chkT fun hx=>Aa.imp (Aa.bind Aa.get fun st=>(?_:Aa _ fun s Q=>s=st→Ev O w U sc n (.Name x p) s Q)) fun _ _ h=>h rfl
 cases e:look x st with
 |some a=>exact Aa.imp (Aa.pure (UV x a)) fun s Q q e'=>ag (KG hx) (e'▸e) q
 |none=>
  dsimp only
  cases e1:Py sc x with
  |false=>exact Aa.imp (BK _ _) fun _ _ h _=>h
  |true=>
   cases e2:LP.lookup x with
   |none=>exact Aa.imp (BK _ _) fun _ _ h _=>h
   |some g=>
    cases g with
    |dat d=>
     obtain⟨t,G⟩:=T.gl e2
     exact Aa.imp (Aa.pure (EV.dat (.int d))) fun s Q q _=>Cl S ⟨HD e1,G,ML e2⟩ (.int d t) q
    |_=>exact Aa.imp (BK _ _) fun _ _ h _=>h
theorem Sy(S:Al O K U)(T:Cw K)(x f:Str)(p ap:Pos):SE O w U n sc (.Attribute (.Name x p) f ap) (Yv O w U n sc x f (.Attribute (.Name x p) f ap)):=by
 refine Aa.chkT fun hx=>Aa.imp (Aa.bind Aa.get fun st=>(?_:Aa _ fun s Q=>s=st→Ev O w U sc n (.Attribute (.Name x p) f ap) s Q)) fun _ _ h=>h rfl
 cases e:NE x f st with
 |some r=>exact Aa.chkT fun h=>Aa.imp (Aa.pure (EV.dat r.2)) fun s Q q e'=>Vj S (e'▸e) (T.fld _ _ h).1 (T.fld _ _ h).2 q (Co hx).1 (Co hx).2
 |none=>exact Aa.imp (BK _ _) fun _ _ h _=>h
theorem PJ(c:Const)(k:Nat)(p:Pos):SE O w U n sc (.Constant c k p) (Ul c):=by
 cases c<;>first
  |exact Aa.fail
  |exact Aa.imp (Aa.pure _) fun _ _ q=>XM q
  |exact Aa.imp (Aa.pure _) fun _ _ q=>XN q
  |exact Aa.imp (Aa.pure _) fun _ _ q=>UU q
  |exact Aa.imp (Aa.pure _) fun _ _ q=>UT q
theorem VJ(S:Al O K U)(T:Cw K)(o:v.Ok O w U n)(l i:Expr)(p:Pos):SE O w U n sc (.Subscript l i p) (ao O w U n v sc l i p):=by
 unfold ao
 cases LQ i with
 |true=>
  refine Aa.imp (Aa.bind Aa.peek fun b=>(?_:Aa _ fun st Q=>Ev O w U sc n (.Subscript l i p) st Q)) (by rintro _ _ ⟨_,h⟩;exact h)
  rcases b with _|_
  ·exact Aa.imp (Aa.bind (o.f sc _) fun av=>Aa.pure (EV.dat (GH av))) fun _ _ h=>AO h
  ·exact BK _ _
 |false=>
  exact Aa.imp (Aa.bind (o.e sc l) fun a=>Aa.bind (o.e sc i) fun b=>Aa.bind (Ek a) fun x=>Aa.bind (JB b) fun k=>Aa.bind (Sm x k) fun d=>Aa.pure (EV.dat d)) fun _ _ h=>Vc (h.mono fun _ _ h=>h.mono (by
   rintro _ _ ⟨x,e1,k,e2,ds,d,e3,hz,e4,q⟩
   exact⟨x,ds,k,d,e1,e3,e2,hz,e4,q⟩))
theorem VK(x f:Str)(C i:Addr)(d:Dat):Aa (bI x f C i d) fun st Q=>∃fs ds,look x st=some (.obj C fs)∧fs.lookup f=some (.own i ds)∧ds.length+1≤sizeLine∧Q (.dat .none) (put x (.obj C (DC f (.own i (ds++[d])) fs)) st):=
 Aa.ownT fun _ fs _ ds=>Aa.obT (Aa.obT (Aa.imp (Aa.bind (Aa.put x (.obj C (DC f (.own i (ds++[d])) fs))) fun _=>Aa.pure (EV.dat .none)) fun _ _ q hz k e2 e1=>⟨fs,ds,k.1▸e1,k.2▸e2,hz,q⟩))
theorem VL(x f:Str)(C i:Addr)(d:Dat):Aa (bJ x f C i d) fun st Q=>∃fs ds,look x st=some (.obj C fs)∧fs.lookup f=some (.own i ds)∧∃es,d=.list es∧ds.length+es.length≤sizeLine∧Q (.dat .none) (put x (.obj C (DC f (.own i (ds++es)) fs)) st):=
 Aa.ownT fun _ fs _ ds=>Aa.obT (Aa.optT fun es ee=>Aa.obT (Aa.imp (Aa.bind (Aa.put x (.obj C (DC f (.own i (ds++es)) fs))) fun _=>Aa.pure (EV.dat .none)) fun _ _ q hz k e2 e1=>⟨fs,ds,k.1▸e1,k.2▸e2,es,KE ee,hz,q⟩))
theorem VM(S:Al O K U)(T:Cw K)(o:v.Ok O w U n)(x f m:Str)(es:List Expr)(px ap2 ap pos:Pos):SE O w U n sc (.Call (.Attribute (.Attribute (.Name x px) f ap2) m ap) es [] pos) (an O w U n v sc x f m es (.Call (.Attribute (.Attribute (.Name x px) f ap2) m ap) es [] pos) (ap.endLine==pos.line)):=by
 rcases es with _|⟨e1,_|⟨_,_⟩⟩<;>first|exact BK _ _|skip
 dsimp only[an]
 split
 ·subst m
  exact Aa.chkT fun hb=>Aa.ownT fun C fs i ds0=>Aa.chkT fun ht=>Aa.imp (Aa.bind (o.d sc e1) fun d=>VK x f C i d) fun _ _ h e2 ea=>NJ S ea e2 (T.fld C f ht).1 (T.fld C f ht).2 h (Co (BL (BL hb).1).1).1 (Co (BL (BL hb).1).1).2 (MH (BL hb).2 rfl pos) (BL (BL hb).1).2 (BJ (Af (BL hb).2).1 [])
 ·split
  ·subst m
   exact Aa.chkT fun hb=>Aa.ownT fun C fs i ds0=>Aa.chkT fun ht=>Aa.imp (Aa.bind (o.d sc e1) fun d=>VL x f C i d) fun _ _ h e2 ea=>NK S ea e2 (T.fld C f ht).1 (T.fld C f ht).2 h (Co (BL (BL hb).1).1).1 (Co (BL (BL hb).1).1).2 (MH (BL hb).2 rfl pos) (BL (BL hb).1).2 (BJ (Af (BL hb).2).1 [])
  ·exact BK _ _
theorem Sz(S:Al O K U)(T:Cw K)(o:v.Ok O w U n)(a:Expr)(m:Str)(ap:Pos)(es:List Expr)(p:Pos):SE O w U n sc (.Call (.Attribute a m ap) es [] p) (Vz O w U n v sc a m ap es p):=by
 unfold Vz SE
 refine Aa.onName (G:=fun a st Q=>Ev O w U sc n (.Call (.Attribute a m ap) es [] p) st Q) (fun x px=>?_) ?_
 ·exact Aa.chkT fun hb=>Aa.lookT fun a0=>Sv S T o (BL hb).1 (BL hb).2 a0
 refine Aa.onAttribute (G:=fun a st Q=>Ev O w U sc n (.Call (.Attribute a m ap) es [] p) st Q) (fun a f2 ap2=>?_) (BK _ _)
 refine Aa.onName (G:=fun a st Q=>Ev O w U sc n (.Call (.Attribute (.Attribute a f2 ap2) m ap) es [] p) st Q) (fun x px=>?_) (BK _ _)
 exact VM S T o _ _ _ _ _ _ _ _
theorem SA(S:Al O K U)(T:Cw K)(o:v.Ok O w U n)(f:Expr)(es:List Expr)(kws:List Keyword)(p:Pos):SE O w U n sc (.Call f es kws p) (Yx O w U n v sc f es kws p):=by
 cases kws<;>first|exact Aa.fail|skip
 refine Aa.onName (G:=fun f st Q=>Ev O w U sc n (.Call f es [] p) st Q) (fun g q=>Su S T o) ?_
 exact Aa.onAttribute (G:=fun f st Q=>Ev O w U sc n (.Call f es [] p) st Q) (fun a m ap=>Sz S T o a m ap es p) Aa.fail
theorem SB(o:v.Ok O w U n)(op:BoolOp)(es:List Expr)(p:Pos):SE O w U n sc (.BoolOp op es p) (Yw v sc op es):=by
 rcases es with _|⟨x,_|⟨y,_|⟨_,_⟩⟩⟩<;>first|exact Aa.fail|skip
 cases op with
 |And=>exact Aa.imp (Aa.bind (o.e sc x) fun a=>Aa.bind (FG a) fun c=>Aa.cs c (o.e sc y) (Aa.pure (EV.dat (.bool false)))) fun _ _ h=>Vb h
 |Or=>exact Aa.imp (Aa.bind (o.e sc x) fun a=>Aa.bind (FG a) fun c=>Aa.cs c (Aa.pure (EV.dat (.bool true))) (o.e sc y)) fun _ _ h=>YA (h.mono (by rintro _ _ ⟨b,e,q⟩;exact⟨b,e,q.2,q.1⟩))
theorem VN(o:v.Ok O w U n)(l:Expr)(ops:List CmpOp)(rs:List Expr)(p:Pos):SE O w U n sc (.Compare l ops rs p) (bL v sc l ops rs):=by
 rcases ops with _|⟨op,_|⟨_,_⟩⟩<;>rcases rs with _|⟨r,_|⟨_,_⟩⟩<;>first|exact Aa.fail|skip
 exact Aa.chkT fun hb=>Aa.imp (Aa.bind (o.e sc l) fun a=>Aa.bind (o.e sc r) fun b=>Aa.bind (Ek a) fun x=>Aa.bind (Ek b) fun y=>Aa.bind (PI op x y) fun c=>Aa.pure (EV.dat (.bool c))) fun _ _ h=>
  Ub (h.mono fun _ _ h=>h.mono (by rintro _ _ ⟨x,e,y,e',s,q⟩;exact⟨x,y,e,e',s,q⟩)) (BY hb)
theorem SC(S:Al O K U)(T:Cw K)(o:v.Ok O w U n)(e:Expr):SE O w U n sc e (VA O w U n v sc e):=by
 unfold VA SE
 refine Aa.onName (G:=fun e st Q=>Ev O w U sc n e st Q) (fun x p=>Sw S T _ _) ?_
 refine Aa.onConstant (G:=fun e st Q=>Ev O w U sc n e st Q) (fun c k p=>PJ _ _ _) ?_
 refine Aa.onCall (G:=fun e st Q=>Ev O w U sc n e st Q) (fun f es k p=>SA S T o _ _ _ _) ?_
 refine Aa.onSubscript (G:=fun e st Q=>Ev O w U sc n e st Q) (fun l i p=>VJ S T o _ _ _) ?_
 refine Aa.onAttribute (G:=fun e st Q=>Ev O w U sc n e st Q) (fun a f p=>Aa.onName (G:=fun a st Q=>Ev O w U sc n (.Attribute a f p) st Q) (fun x q=>Sy S T _ _ _ _) (BK _ _)) ?_
 refine Aa.onBinOp (G:=fun e st Q=>Ev O w U sc n e st Q) (fun l op r p=>?_) ?_
 ·exact Aa.imp (Aa.bind (o.e sc l) fun a=>Aa.bind (o.e sc r) fun b=>Aa.bind (Ek a) fun x=>Aa.bind (Ek b) fun y=>Aa.bind (VF op x y) fun d=>Aa.pure (EV.dat d)) fun _ _ h=>
   XQ S (h.mono fun _ _ h=>h.mono (by rintro _ _ ⟨x,e,y,e',s,q⟩;exact⟨x,y,e,e',s,q⟩))
 refine Aa.onCompare (G:=fun e st Q=>Ev O w U sc n e st Q) (fun l ops rs p=>VN o _ _ _ _) ?_
 refine Aa.onTuple (G:=fun e st Q=>Ev O w U sc n e st Q) (fun es k p=>?_) ?_
 ·exact Aa.imp (Aa.bind (o.a sc _) fun ds=>Aa.bind (Aa.chk (Nat.ble ds.length 1000)) fun _=>Aa.pure (EV.dat (.tuple ds))) fun _ _ h=>RB (El.mono h.2 fun _ _ q=>⟨le_trans (le_of_ble_eq_true q.1) (by decide),q.2⟩)
 refine Aa.onList (G:=fun e st Q=>Ev O w U sc n e st Q) (fun es p=>Aa.imp (Aa.bind (o.f sc _) fun av=>Aa.pure (EV.dat (GH av))) fun _ _ h=>AO h) ?_
 refine Aa.onUnaryOp (G:=fun e st Q=>Ev O w U sc n e st Q) (fun op x p=>?_) ?_
 ·cases op<;>first|exact BK _ _|skip
  exact Aa.imp (Aa.bind (o.e sc x) fun a=>Aa.bind (JB a) fun i=>Aa.pure (EV.dat (.int (-i)))) fun _ _ h=>XW h
 refine Aa.onIfExp (G:=fun e st Q=>Ev O w U sc n e st Q) (fun t b e p=>Aa.imp (Aa.bind (o.t sc t) fun c=>Aa.cs c (o.e sc b) (o.e sc e)) fun _ _ h=>RC h) ?_
 exact Aa.onBoolOp (G:=fun e st Q=>Ev O w U sc n e st Q) (fun op es p=>SB o _ _ _) (BK _ _)
theorem PK(o:v.Ok O w U n)(l s:Expr)(G:Int→Option (List Dat→List Dat)):Aa (Um v sc l s G) fun st Q=>Ev O w U sc n l st fun a st1=>Ev O w U sc n s st1 fun b st2=>∃k,rd st2 b=some (.int k)∧∃g,G k=some g∧∃ds,rd st2 a=some (.list ds)∧ds.length≤sizeLine∧Q (.lst (g ds)) st2:=
 Aa.bind (o.e sc l) fun a=>Aa.bind (o.e sc s) fun b=>Aa.bind (JB b) fun k=>Aa.bind (Aa.opt (G k)) fun g=>Aa.bind (Si a) fun ds=>Aa.bind (Aa.ob _) fun _=>Aa.pure (AG.lst (g ds))
theorem VO{k:Int}{g:List Dat→List Dat}(h:ZU k=some g)(l:List Dat):Gh (some k) none l=g l:=by
 unfold ZU at h
 split at h
 ·subst k;exact Option.some.inj h▸NM l
 ·split at h
  ·subst k;exact Option.some.inj h▸NN l
  ·exact Vt h
theorem SD{k:Int}{g:List Dat→List Dat}(h:Sg k=some g)(l:List Dat):Gh none (some k) l=g l:=by
 unfold Sg at h
 split at h
 ·subst k;exact Option.some.inj h▸Sh l
 ·split at h
  ·subst k;exact Option.some.inj h▸PH l
  ·split at h
   ·subst k;exact Option.some.inj h▸LS 63 l
   ·exact Vt h
theorem PM{k:Int}{g:List Dat→List Dat}(h:ZV k=some g):k= -1∧g=List.reverse:=by
 unfold ZV at h
 split at h
 ·exact⟨‹_›,(Option.some.inj h).symm⟩
 ·exact Vt h
theorem LT(o:v.Ok O w U n){l s e:Expr}{G:Int→Option (List Dat→List Dat)}(F:∀st Q,(Ev O w U sc n l st fun a st1=>Ev O w U sc n s st1 fun b st2=>∃k,rd st2 b=some (.int k)∧∃g,G k=some g∧∃ds,rd st2 a=some (.list ds)∧ds.length≤sizeLine∧Q (.lst (g ds)) st2)→Ef O w U sc n e st Q):Aa (Un O w U n v sc l s e G) fun st Q=>Ef O w U sc n e st Q:=by
 unfold Un
 cases cst s with
 |true=>exact Aa.imp (PK o l s G) F
 |false=>exact Go _ _
theorem SF(S:Al O K U)(T:Cw K)(o:v.Ok O w U n){g:Str}{gp p:Pos}{es:List Expr}{C fI:Addr}(h1:Py sc g=true)(h2:LP.lookup g=some (.cls C fI)):Aa (Yy O w U n v sc C fI es) fun st Q=>Ef O w U sc n (.Call (.Name g gp) es [] p) st Q:=by
 have G:=T.gl h2
 cases n with
 |zero=>exact Aa.fail
 |succ n=>
  cases es with
  |nil=>exact Aa.fail
  |cons e1 es=>exact Aa.imp (Aa.bind (o.a sc (e1::es)) fun ds=>Aa.bind Aa.lent fun p=>Aa.bind (Aa.ob _) fun _=>Aa.pure p.2) (by rintro _ _ ⟨hb,h⟩;exact OZ S ⟨HD h1,G.1,ML h2⟩ G.2.1 G.2.2.1 G.2.2.2.1 G.2.2.2.2 (El.mono h fun _ _ ⟨_,h,q⟩=>h.mono fun _ _ e=>⟨e.1,e.2▸q⟩) (BJ (Af hb).1 _) (CV (Af hb).2 p))
theorem SG(S:Al O K U)(T:Cw K)(o:v.Ok O w U n){g:Str}{gp p:Pos}{es:List Expr}:Aa (VB O w U n v sc g es (.Call (.Name g gp) es [] p)) fun st Q=>Ef O w U sc n (.Call (.Name g gp) es [] p) st Q:=by
 unfold VB
 cases h1:Py sc g with
 |false=>exact Go _ _
 |true=>
  cases h2:LP.lookup g with
  |none=>exact Go _ _
  |some gv=>
   cases gv with
   |cls C fI=>exact SF S T o h1 h2
   |_=>exact Go _ _
theorem VP(o:v.Ok O w U n)(l s:Expr)(p pos:Pos):Aa (Un O w U n v sc l s (.Subscript l (.Slice (some s) none none p) pos) ZU) fun st Q=>Ef O w U sc n (.Subscript l (.Slice (some s) none none p) pos) st Q:=
 LT o fun _ _ h=>Hf (Ev.mono h fun _ _ h=>Ev.mono h (by rintro _ _ ⟨k,ek,_,eg,ds,ed,hz,q⟩;exact⟨k,ek,ds,ed,hz,(VO eg ds).symm▸q⟩))
theorem SH(o:v.Ok O w U n)(l s:Expr)(p pos:Pos):Aa (Un O w U n v sc l s (.Subscript l (.Slice none (some s) none p) pos) Sg) fun st Q=>Ef O w U sc n (.Subscript l (.Slice none (some s) none p) pos) st Q:=
 LT o fun _ _ h=>Hf (Ev.mono h fun _ _ h=>Ev.mono h (by rintro _ _ ⟨k,ek,_,eg,ds,ed,hz,q⟩;exact⟨k,ek,ds,ed,hz,(SD eg ds).symm▸q⟩))
theorem VQ(o:v.Ok O w U n)(l s:Expr)(p pos:Pos):Aa (Un O w U n v sc l s (.Subscript l (.Slice none none (some s) p) pos) ZV) fun st Q=>Ef O w U sc n (.Subscript l (.Slice none none (some s) p) pos) st Q:=
 LT o fun _ _ h=>XY (Ev.mono h fun _ _ h=>Ev.mono h (by rintro _ _ ⟨_,ek,_,eg,ds,ed,hz,q⟩;exact⟨(PM eg).1▸ek,ds,ed,hz,(PM eg).2▸q⟩))
theorem SI(S:Al O K U)(T:Cw K)(o:v.Ok O w U n)(e:Expr):Aa (VC O w U n v sc e) fun st Q=>Ef O w U sc n e st Q:=by
 unfold VC
 refine Aa.onList (G:=fun e st Q=>Ef O w U sc n e st Q) (fun es p=>?_) ?_
 ·exact Aa.imp (Aa.bind (o.a sc _) fun ds=>Aa.bind (Aa.chk (Nat.ble ds.length 1000)) fun _=>Aa.pure (AG.lst ds)) fun _ _ h=>Vd (El.mono h.2 fun _ _ q=>⟨le_trans (le_of_ble_eq_true q.1) (by decide),q.2⟩)
 refine Aa.onSubscript (G:=fun e st Q=>Ef O w U sc n e st Q) (fun l i p=>?_) ?_
 ·refine Aa.onSlice (G:=fun i st Q=>Ef O w U sc n (.Subscript l i p) st Q) (fun lo hi stp q=>?_) Aa.fail
  cases lo<;>cases hi<;>cases stp<;>first|exact Aa.fail|exact VP o _ _ _ _|exact SH o _ _ _ _|exact VQ o _ _ _ _
 refine Aa.onCall (G:=fun e st Q=>Ef O w U sc n e st Q) (fun f es kws p=>?_) (Go _ _)
 cases kws<;>first|exact Aa.fail|skip
 exact Aa.onName (G:=fun f st Q=>Ef O w U sc n (.Call f es [] p) st Q) (fun g q=>SG S T o) Aa.fail
theorem KI(S:Al O K U)(T:Cw K):∀k,(VV O w U n k).Ok O w U n:=by
 intro k
 induction k with
 |zero=>
  exact⟨fun _ _=>BK _ _,fun _ _=>Go _ _,fun _ _=>Aa.fail⟩
 |succ k ih=>
  exact⟨fun _ e=>SC S T (ih) e,fun _ e=>SI S T (ih) e,fun sc e=>So (ih) sc e⟩
end
noncomputable section
noncomputable def cp(e:Expr):Bool:=DL e (fun _ i _=>LQ i) (KH e (fun f _ _ _=>CF f (fun g _=>(g=="Dashes")||(g=="Pen")) false) (Nat.beq e.ctorIdx 24))
noncomputable def aq(e:Expr):Bool:=Nat.beq e.ctorIdx 24
noncomputable def VR.o(v:VR)(sc:Scope)(e:Expr):R AG:=match cp e with
 |true=>v.f sc e
 |false=>.bind (v.d sc e) fun d=>.pure (.dat d)
noncomputable def Up(e:Expr):Option Str:=CF e (fun x _=>some x) none
noncomputable def Fn:List Expr→Option (List Str)
 |[]=>some []
 |t::ts=>match Up t,Fn ts with
  |some x,some xs=>some (x::xs)
  |_,_=>none
def VS(sc:Scope)(ts:List Expr)(k:Nat)(p:Pos)(e:Expr)(line:Nat):Prop:=∀env:Env,env.scope=sc→swapsWithSole [.Tuple ts k p] e line env=pure false∧swappedStores [.Tuple ts k p] e env=pure none
def Uq(sc:Scope)(ts:List Expr)(k:Nat)(p:Pos)(e:Expr)(line:Nat)(xs:List Str):Prop:=∀env:Env,env.scope=sc→swapsWithSole [.Tuple ts k p] e line env=pure false∧swappedStores [.Tuple ts k p] e env=pure (some xs)
section
variable(O:Program)(w:World)(U:Heap)(n:Nat)
noncomputable def PN(sc:Scope)(x:Stmt):R Fl:=.run fun st Q=>Sx O w U sc n x st Q
noncomputable def YD(v:VR)(sc:Scope)(ts:List Expr)(k:Nat)(p:Pos)(e:Expr)(y1 y2:Str)(e1 e2:Expr)(line:Nat):R Fl:=.bind (.chk (BN sc y1&&BN sc y2&&Bn [e1,e2])) fun _=>.bind (.ob (Uq sc ts k p e line [y1,y2])) fun _=>.bind (v.o sc e1) fun a=>.bind (v.o sc e2) fun b=>.bind (Lw y2 b) fun _=>.bind (Lw y1 a) fun _=>.pure .next
noncomputable def YE(v:VR)(sc:Scope)(ts:List Expr)(k:Nat)(p:Pos)(e:Expr)(y1 y2 y3:Str)(e1 e2 e3:Expr)(line:Nat):R Fl:=.bind (.chk (BN sc y1&&BN sc y2&&BN sc y3&&Bn [e1,e2,e3])) fun _=>.bind (.ob (Uq sc ts k p e line [y1,y2,y3])) fun _=>.bind (v.o sc e1) fun a=>.bind (v.o sc e2) fun b=>.bind (v.o sc e3) fun c=>.bind (Lw y3 c) fun _=>.bind (Lw y2 b) fun _=>.bind (Lw y1 a) fun _=>.pure .next
noncomputable def YF(v:VR)(sc:Scope)(ts:List Expr)(k:Nat)(p:Pos)(e:Expr)(es:List Expr)(line:Nat):R Fl:=.bind (.opt (Fn ts)) fun ys=>match ys with
 |y1::y2::ys=>match es with
  |e1::e2::es=>match ys with
   |[]=>match es with
    |[]=>YD v sc ts k p e y1 y2 e1 e2 line
    |_=>.fail
   |y3::ys=>match ys with
    |[]=>match es with
     |[e3]=>YE v sc ts k p e y1 y2 y3 e1 e2 e3 line
     |_=>.fail
    |_=>.fail
  |_=>.fail
 |_=>.fail
noncomputable def YG(y g:Str)(d:Dat):R Fl:=PA y fun C fs=>.bind (.chk (XA C g&&Nat.ble fs.length 1000)) fun _=>.bind (Lw y (.obj C (DC g (.dat d) fs))) fun _=>.pure .next
noncomputable def bM(v:VR)(sc:Scope)(y g:Str)(e:Expr):R Fl:=.bind (.chk (DT y&&!NL e)) fun _=>.bind (v.d sc e) (YG y g)
noncomputable def ar(v:VR)(sc:Scope)(t e:Expr)(pos:Pos):R Fl:=
 CF t (fun y p=>bif NL e then PN O w U n sc (.Assign [.Name y p] e pos)else .bind (.chk (BN sc y)) fun _=>.bind (v.o sc e) fun av=>.bind (Lw y av) fun _=>.pure .next)<|
 Hz t (fun ts k p=>bif ai e
  then Hz e (fun es k' p'=>bif es.all (foldedForSure 8)
   then .bind (.ob (VS sc ts k p (.Tuple es k' p') pos.line)) fun _=>.bind (v.d sc (.Tuple es k' p')) fun d=>.bind (PC sc 3 (.Tuple ts k p) d) fun _=>.pure .next
   else YF v sc ts k p (.Tuple es k' p') es pos.line) (PN O w U n sc (.Assign [.Tuple ts k p] e pos))
  else .bind (v.d sc e) fun d=>.bind (PC sc 3 (.Tuple ts k p) d) fun _=>.pure .next)<|
 Ca t (fun o g p=>bif aq e then PN O w U n sc (.Assign [.Attribute o g p] e pos)
  else CF o (fun y _=>bM v sc y g e) (PN O w U n sc (.Assign [.Attribute o g p] e pos)))<|
 PN O w U n sc (.Assign [t] e pos)
noncomputable def au(v:VR)(sc:Scope)(e:Expr):R Int:=.bind (v.d sc e) fun d=>.opt (GX d)
noncomputable def bN(v:VR)(sc:Scope)(y:Str)(op:Operator)(e:Expr):R Fl:=.bind (LR y) fun a=>.bind (.opt (bE a)) fun i=>.bind (.chk (OV op&&BN sc y&&DT y)) fun _=>.bind (au v sc e) fun b=>.bind (Lw y (.dat (.int (GK op i b)))) fun _=>.pure .next
noncomputable def YH(y g:Str)(C:Addr)(op:Operator)(i b:Int):R Fl:=PA y fun C1 fs=>.bind (.chk (Nat.beq C1 C&&Nat.ble fs.length 1000)) fun _=>.bind (Lw y (.obj C (DC g (.dat (.int (GK op i b))) fs))) fun _=>.pure .next
noncomputable def bO(v:VR)(sc:Scope)(y g:Str)(op:Operator)(e:Expr):R Fl:=PA y fun C fs=>.bind (.opt (fs.lookup g)) fun u=>.bind (.opt (bF u)) fun i=>.bind (.chk (OV op&&XA C g&&DT y)) fun _=>.bind (au v sc e) (YH y g C op i)
noncomputable def aw(v:VR)(sc:Scope)(t:Expr)(op:Operator)(e:Expr)(pos:Pos):R Fl:=
 CF t (fun y _=>bN v sc y op e)<|
 Ca t (fun o g p=>CF o (fun y _=>bO v sc y g op e) (PN O w U n sc (.AugAssign (.Attribute o g p) op e pos)))<|
 PN O w U n sc (.AugAssign t op e pos)
noncomputable def VT(m:R Fl)(fl:Fl):R Fl:=match fl with
 | .next=>m
 |fl=>.pure fl
noncomputable def IX(f:Stmt→R Fl):List Stmt→R Fl
 |[]=>.pure .next
 |x::xs=>.bind (f x) (VT (IX f xs))
noncomputable def VU(v:VR)(sc:Scope)(f:Stmt→R Fl)(x:Stmt):R Fl:=
 MJ x (fun ts e pos=>match ts with
  |[t]=>ar O w U n v sc t e pos
  |ts=>PN O w U n sc (.Assign ts e pos))<|
 HC x (fun t op e pos=>aw O w U n v sc t op e pos)<|
 bC x (fun t b o _=>.bind (v.t sc t) fun c=>.cs c (IX f b) (IX f o))<|
 MK x (fun e _=>match e with
  |some e=>.bind (v.d sc e) fun d=>.pure (.ret d)
  |none=>.pure (.ret .none))<|
 Uj x (fun e _=>.bind (.chk (!NL e)) fun _=>.bind (v.e sc e) fun _=>.pure .next)<|
 PN O w U n sc x
noncomputable def XX(sc:Scope)(k:Nat):Stmt→R Fl:=Nat.rec (motive:=fun _=>Stmt→R Fl) (PN O w U n sc) (fun k f=>VU O w U n (VV O w U n k) sc f) k
end
section
variable{O:Program}{w:World}{U:Heap}{n:Nat}{v:VR}{K:Frag}{sc:Scope}{st:St}
theorem Du(sc:Scope)(x:Stmt):Aa (PN O w U n sc x) fun st Q=>Sx O w U sc n x st Q:=Aa.run _
theorem VR.Ok.o(o:v.Ok O w U n)(sc:Scope)(e:Expr):Aa (v.o sc e) fun st Q=>Ef O w U sc n e st Q:=by
 unfold VR.o
 split
 ·exact o.f sc e
 ·exact Aa.imp (Aa.bind (o.d sc e) fun d=>Aa.pure (AG.dat d)) fun _ _ h=>XZ h
theorem As.mono{t:Expr}{d:Dat}{Q Q':St→Prop}(h:As O w U sc n t d st Q)(k:∀st,Q st→Q' st):As O w U sc n t d st Q':=
 fun A env R as s v hR hE r f=>wpAny_mono (h A env R as s v hR hE r f) (by rintro _ _ ⟨st',as',h',tk',e,a,b,q⟩;exact⟨st',as',h',tk',e,a,b,k _ q⟩) fun _ _ x=>x
theorem VW{f:Expr→Dat→R Unit}(F:∀t d,Aa (f t d) fun st Q=>As O w U sc n t d st (Q ())):∀(ts:List Expr) (ds:List Dat),Bn ts=true→Aa (aj f ts ds) fun st Q=>AsL O w U sc n ts ds st (Q ()):=by
 intro ts
 induction ts with
 |nil=>
  intro zz4
  rcases zz4 with _|⟨_,_⟩
  ·intro _
   exact Aa.imp (Aa.pure ()) fun _ _ q=>Vf q
  ·intro _
   exact Aa.fail
 |cons t ts ih=>
  intro zz4
  rcases zz4 with _|⟨d,ds⟩
  ·intro _
   exact Aa.fail
  ·intro h
   exact Aa.imp (Aa.bind (F t d) fun _=>ih ds (Af h).2) fun _ _ q=>RE q (MG (Af h).1 ts)
theorem DM:∀(k:Nat) (t:Expr) (d:Dat),Aa (PC sc k t d) fun st Q=>As O w U sc n t d st (Q ()):=by
 intro k
 induction k with
 |zero=>
  intro _ _
  exact Aa.fail
 |succ k ih=>
  intro t d
  unfold PC
  refine Aa.onName (G:=fun t st Q=>As O w U sc n t d st (Q ())) (fun x p=>Aa.chkT fun h=>Aa.imp (Aa.put x (.dat d)) fun _ _ q=>Ve h q) ?_
  refine Aa.onTuple (G:=fun t st Q=>As O w U sc n t d st (Q ())) (fun ts k' p=>?_) Aa.fail
  exact Aa.optT fun ds e=>Aa.chkT fun hb=>Aa.imp (VW (ih) ts ds (BL hb).1) fun _ _ h=>RF e (eq_of_beq_eq_true (BL hb).2) (Po (BL hb).1) h
theorem PP{e:Expr}{x:Str}:Up e=some x→∃p,e=.Name x p:=
 Pr (P:=fun e o=>o=some x→∃p,e=Expr.Name x p) (fun _ p h=>⟨p,congrArg (Expr.Name · p) (Option.some.inj h)⟩) fun h=>IF h
set_option tactic.hygienic true in
theorem CG{ts:List Expr}{y:Str}{ys:List Str}(h:Fn ts=some (y::ys)):∃p ts',ts=.Name y p::ts'∧Fn ts'=some ys:=by
 rcases ts with _|⟨t,ts⟩
 ·cases h
 ·
  unfold Fn at h
  split at h
  ·rename_i e1 e2
   cases h
   obtain⟨p,rfl⟩:=PP e1
   exact⟨p,ts,rfl,e2⟩
  ·cases h
theorem HF{ts:List Expr}(h:Fn ts=some []):ts=[]:=by
 rcases ts with _|⟨t,ts⟩
 ·rfl
 ·
  unfold Fn at h
  split at h<;>cases h
theorem SJ(o:v.Ok O w U n)(ts:List Expr)(k k':Nat)(p p':Pos)(es:List Expr)(pos:Pos):Aa (YF v sc ts k p (.Tuple es k' p') es pos.line) fun st Q=>Sx O w U sc n (.Assign [.Tuple ts k p] (.Tuple es k' p') pos) st Q:=by
 refine Aa.optT fun ys e=>?_
 rcases ys with _|⟨y1,_|⟨y2,ys⟩⟩<;>first|exact Aa.fail|skip
 rcases es with _|⟨e1,_|⟨e2,es⟩⟩<;>first|exact Aa.fail|skip
 rcases ys with _|⟨y3,ys⟩
 ·
  rcases es with _|⟨_,_⟩
  ·
   refine Aa.chkT fun hb=>Aa.obT ((Aa.bind (o.o sc e1) fun a=>Aa.bind (o.o sc e2) fun b=>Aa.bind (Aa.put y2 b) fun _=>Aa.bind (Aa.put y1 a) fun _=>Aa.pure Fl.next).imp fun _ _ h hs=>?_)
   obtain⟨p1,ts1,rfl,e1⟩:=CG e
   obtain⟨p2,ts2,rfl,e2⟩:=CG e1
   obtain rfl:=HF e2
   have s:=Af (BL hb).2
   exact RG h (BL (BL hb).1).1 (BL (BL hb).1).2 (fun env e=>(hs env e).1) (fun env e=>(hs env e).2) (BJ s.1 _) (BJ (Af s.2).1 _)
  ·exact Aa.fail
 ·
  rcases ys with _|⟨_,_⟩
  ·
   rcases es with _|⟨e3,_|⟨_,_⟩⟩<;>first|exact Aa.fail|skip
   refine Aa.chkT fun hb=>Aa.obT ((Aa.bind (o.o sc e1) fun a=>Aa.bind (o.o sc e2) fun b=>Aa.bind (o.o sc e3) fun c=>Aa.bind (Aa.put y3 c) fun _=>Aa.bind (Aa.put y2 b) fun _=>Aa.bind (Aa.put y1 a) fun _=>Aa.pure Fl.next).imp fun _ _ h hs=>?_)
   obtain⟨p1,ts1,rfl,e1⟩:=CG e
   obtain⟨p2,ts2,rfl,e2⟩:=CG e1
   obtain⟨p3,ts3,rfl,e3⟩:=CG e2
   obtain rfl:=HF e3
   have s:=Af (BL hb).2
   have s2:=Af s.2
   have b:=BL (BL hb).1
   exact RH h (BL b.1).1 (BL b.1).2 b.2 (fun env e=>(hs env e).1) (fun env e=>(hs env e).2) (BJ s.1 _) (BJ s2.1 _) (BJ (Af s2.2).1 _)
  ·exact Aa.fail
theorem VX{a:AG}{i:Int}(e:bE a=some i):a=.dat (.int i):=by
 cases a<;>first|exact congrArg AG.dat (FE e)|cases e
theorem VY{a:Cu}{i:Int}(e:bF a=some i):a=.dat (.int i):=by
 cases a<;>first|exact congrArg Cu.dat (FE e)|cases e
theorem SK(T:Cw K)(y g:Str)(d:Dat):Aa (YG y g d) fun st Q=>∃C fs,look y st=some (.obj C fs)∧CE K C∧BO K C g∧fs.length≤1000∧Q .next (put y (.obj C (DC g (.dat d) fs)) st):=
 Aa.objT fun C fs=>Aa.chkT fun b=>Aa.imp (Aa.bind (Aa.put y (.obj C (DC g (.dat d) fs))) fun _=>Aa.pure Fl.next) fun _ _ q e=>⟨C,fs,e,(T.fld _ _ (BL b).1).1,(T.fld _ _ (BL b).1).2,le_of_ble_eq_true (BL b).2,q⟩
theorem VZ(S:Al O K U)(T:Cw K)(o:v.Ok O w U n)(y g:Str)(e:Expr)(yp p pos:Pos):Aa (bM v sc y g e) fun st Q=>Sx O w U sc n (.Assign [.Attribute (.Name y yp) g p] e pos) st Q:=
 Aa.chkT fun hb=>Aa.imp (Aa.bind (o.d sc e) fun d=>SK T y g d) fun _ _ h=>Vk S h (Co (BL hb).1).1 (Co (BL hb).1).2 (MI (BY (BL hb).2) _ _)
theorem PQ(o:v.Ok O w U n)(sc:Scope)(e:Expr):Aa (au v sc e) fun st Q=>Ed O w U sc n e st fun d st1=>∃b,d=.int b∧Q b st1:=
 Aa.imp (Aa.bind (o.d sc e) fun d=>Aa.opt (GX d)) fun _ _ h=>Ed.mono h (by rintro _ _ ⟨b,e,q⟩;exact⟨b,FE e,q⟩)
theorem Wa(o:v.Ok O w U n)(y:Str)(op:Operator)(e:Expr)(p pos:Pos):Aa (bN v sc y op e) fun st Q=>Sx O w U sc n (.AugAssign (.Name y p) op e pos) st Q:=
 Aa.lookT fun _=>Aa.optT fun i ei=>Aa.chkT fun hb=>Aa.imp (Aa.bind (PQ o sc e) fun b=>Aa.bind (Aa.put y (.dat (.int (GK op i b)))) fun _=>Aa.pure Fl.next)
  fun _ _ h ea=>Yd (VX ei▸ea) h (BL (BL hb).1).2 (BL (BL hb).1).1 (Co (BL hb).2).2
theorem SL(y g:Str)(C:Addr)(op:Operator)(i b:Int):Aa (YH y g C op i b) fun st Q=>∃fs,look y st=some (.obj C fs)∧fs.length≤1000∧Q .next (put y (.obj C (DC g (.dat (.int (GK op i b))) fs)) st):=
 Aa.objT fun _ fs=>Aa.chkT fun k=>Aa.imp (Aa.bind (Aa.put y (.obj C (DC g (.dat (.int (GK op i b))) fs))) fun _=>Aa.pure Fl.next) fun _ _ q e=>⟨fs,eq_of_beq_eq_true (BL k).1▸e,le_of_ble_eq_true (BL k).2,q⟩
theorem Wb(S:Al O K U)(T:Cw K)(o:v.Ok O w U n)(y g:Str)(op:Operator)(e:Expr)(yp p pos:Pos):Aa (bO v sc y g op e) fun st Q=>Sx O w U sc n (.AugAssign (.Attribute (.Name y yp) g p) op e pos) st Q:=
 Aa.objT fun C _=>Aa.optT fun _ eu=>Aa.optT fun i ei=>Aa.chkT fun hb=>Aa.imp (Aa.bind (PQ o sc e) fun b=>SL y g C op i b)
  fun _ _ h ea=>LK S ea (VY ei▸eu) (T.fld _ _ (BL (BL hb).1).2).1 (T.fld _ _ (BL (BL hb).1).2).2 h (BL (BL hb).1).1 (Co (BL hb).2).1 (Co (BL hb).2).2
theorem Wc(S:Al O K U)(T:Cw K)(o:v.Ok O w U n)(t e:Expr)(pos:Pos):Aa (ar O w U n v sc t e pos) fun st Q=>Sx O w U sc n (.Assign [t] e pos) st Q:=by
 unfold ar
 refine Aa.onName (G:=fun t st Q=>Sx O w U sc n (.Assign [t] e pos) st Q) (fun y p=>?_) ?_
 ·exact .cond (fun _=>Du _ _) fun hc=>Aa.chkT fun hb=>Aa.imp (Aa.bind (o.o sc e) fun av=>Aa.bind (Aa.put _ av) fun _=>Aa.pure Fl.next) fun _ _ h=>FA h hb (MI hc _ _)
 refine Aa.onTuple (G:=fun t st Q=>Sx O w U sc n (.Assign [t] e pos) st Q) (fun ts k p=>?_) ?_
 ·refine .cond (fun _=>?_) fun ht=>Aa.imp (Aa.bind (o.d sc e) fun d=>Aa.bind (DM 3 (.Tuple ts k p) d) fun _=>Aa.pure Fl.next) fun _ _ h=>Hh h (fun env _=>MI (Pq ht) (some (.Tuple ts k p)) pos.line env) (fun env _=>Pp ht env)
  refine Aa.onTuple (G:=fun e st Q=>Sx O w U sc n (.Assign [.Tuple ts k p] e pos) st Q) (fun es k' p'=>?_) ?_
  ·refine .cond (fun _=>?_) fun _=>SJ o _ _ _ _ _ _ _
   exact Aa.imp (Aa.bind (Aa.ob _) fun _=>Aa.bind (o.d sc _) fun d=>Aa.bind (DM 3 (.Tuple ts k p) d) fun _=>Aa.pure Fl.next) (by rintro _ _ ⟨hs,h⟩;exact Hh h (fun env e=>(hs env e).1) (fun env e=>(hs env e).2))
  exact Du _ _
 refine Aa.onAttribute (G:=fun t st Q=>Sx O w U sc n (.Assign [t] e pos) st Q) (fun a g p=>?_) ?_
 ·refine .cond (fun _=>Du _ _) fun _=>?_
  refine Aa.onName (G:=fun a st Q=>Sx O w U sc n (.Assign [.Attribute a g p] e pos) st Q) (fun y q=>?_) ?_
  ·exact VZ S T o _ _ _ _ _ _
  exact Du _ _
 exact Du _ _
theorem Wd(S:Al O K U)(T:Cw K)(o:v.Ok O w U n)(t e:Expr)(op:Operator)(pos:Pos):Aa (aw O w U n v sc t op e pos) fun st Q=>Sx O w U sc n (.AugAssign t op e pos) st Q:=by
 unfold aw
 refine Aa.onName (G:=fun t st Q=>Sx O w U sc n (.AugAssign t op e pos) st Q) (fun y p=>?_) ?_
 ·exact Wa o _ _ _ _ _
 refine Aa.onAttribute (G:=fun t st Q=>Sx O w U sc n (.AugAssign t op e pos) st Q) (fun a g p=>?_) ?_
 ·refine Aa.onName (G:=fun a st Q=>Sx O w U sc n (.AugAssign (.Attribute a g p) op e pos) st Q) (fun y p=>?_) ?_
  ·exact Wb S T o _ _ _ _ _ _ _
  exact Du _ _
 exact Du _ _
theorem SM{m:R Fl}{xs:List Stmt}(M:Aa m fun st Q=>Ss O w U sc n xs st Q)(fl:Fl):Aa (VT m fl) fun st Q=>GJ O w U sc n xs Q fl st:=by
 cases fl<;>first|exact M|exact Aa.pure _
theorem CH{f:Stmt→R Fl}(F:∀x,Aa (f x) fun st Q=>Sx O w U sc n x st Q):∀xs:List Stmt,Aa (IX f xs) fun st Q=>Ss O w U sc n xs st Q:=by
 intro xs
 induction xs with
 |nil=>
  exact Aa.imp (Aa.pure Fl.next) fun _ _ q=>Uc q
 |cons x xs ih=>
  exact Aa.imp (Aa.bind (F x) fun fl=>SM (ih) fl) fun _ _ h=>Bm h
theorem SN(S:Al O K U)(T:Cw K)(o:v.Ok O w U n){f:Stmt→R Fl}(F:∀x,Aa (f x) fun st Q=>Sx O w U sc n x st Q)(x:Stmt):Aa (VU O w U n v sc f x) fun st Q=>Sx O w U sc n x st Q:=by
 unfold VU
 refine Aa.atAssign (G:=fun x st Q=>Sx O w U sc n x st Q) (fun ts e p=>?_) ?_
 ·rcases ts with _|⟨t,_|⟨_,_⟩⟩<;>first|exact Du _ _|exact Wc S T o _ _ _
 refine Aa.atAugAssign (G:=fun x st Q=>Sx O w U sc n x st Q) (fun t op e p=>?_) ?_
 ·exact Wd S T o _ _ _ _
 refine Aa.atIf (G:=fun x st Q=>Sx O w U sc n x st Q) (fun t b c p=>?_) ?_
 ·exact Aa.imp (Aa.bind (o.t sc _) fun c=>Aa.cs c (CH F _) (CH F _)) fun _ _ h=>ac h
 refine Aa.atReturn (G:=fun x st Q=>Sx O w U sc n x st Q) (fun e _=>?_) ?_
 ·rcases e with _|⟨e⟩
  ·exact Aa.imp (Aa.pure (Fl.ret .none)) fun _ _ h=>Vg h
  ·exact Aa.imp (Aa.bind (o.d sc e) fun d=>Aa.pure (Fl.ret d)) fun _ _ h=>Ud h
 refine Aa.atExpr (G:=fun x st Q=>Sx O w U sc n x st Q) (fun e _=>?_) ?_
 ·exact Aa.chkT fun hb=>Aa.imp (Aa.bind (o.e sc e) fun _=>Aa.pure Fl.next) fun _ _ h=>Vh h (MI (BY hb) _ _)
 exact Du _ _
theorem LU(S:Al O K U)(T:Cw K):∀(k:Nat) (x:Stmt),Aa (XX O w U n sc k x) fun st Q=>Sx O w U sc n x st Q:=by
 intro k
 induction k with
 |zero=>
  intro x
  exact Du sc x
 |succ k ih=>
  intro x
  exact SN S T (KI S T k) (ih) x
end
end
theorem Aq{α:Type}{p:α→Prop}{a:α}{l:List α}(h:p a)(k:∀x∈l,p x):∀x∈a::l,p x:=forall_mem_cons.mpr ⟨h,k⟩
theorem Dv{α:Type}{p:α→Prop}:∀x∈([]:List α),p x:=Km
noncomputable section
noncomputable def fp(a:Addr)(ps:List Str)(i j:Nat):Addr×List Str×Nat×Nat:=(a,ps,i,j)
noncomputable def fnL:List (Addr×List Str×Nat×Nat):=
 fp 54 ["number","by"] 5 0::fp 61 ["number","by"] 7 0::fp 68 ["m"] 8 0::fp 75 ["m"] 9 0::fp 82 ["m","x","y"] 10 0::fp 89 ["m","x","y"] 11 0::fp 96 ["m","x","y"] 12 0::fp 103 ["x","y"] 13 0::fp 110 ["number"] 14 0::fp 117 ["one","other"] 23 0::fp 131 ["self","points","is_closed"] 24 1::fp 138 ["self"] 24 2::fp 152 ["points","is_closed"] 25 0::fp 157 ["rows"] 26 0::fp 170 ["self","lengths","offset"] 27 1::fp 177 ["self"] 27 2::fp 184 ["self"] 27 3::fp 191 ["self","way"] 27 4::fp 205 ["one","other","way","length"] 28 0::fp 213 ["line","lengths","offset","most"] 29 0::fp 218 ["lines","lengths","offset"] 30 0::fp 225 ["one","other"] 31 0::fp 232 ["one","other","limit"] 32 0::fp 246 ["self","half","cap","join","limit","matrix"] 33 1::fp 253 ["self","point"] 33 2::fp 258 ["self","points"] 33 3::fp 263 ["self","centre"] 33 4::fp 270 ["self","way"] 33 5::fp 277 ["self","one","other"] 33 6::fp 284 ["self","ahead","here","behind"] 33 7::fp 291 ["self","ahead","here"] 33 8::fp 298 ["self","line"] 33 9::fp 310 ["line","matrix"] 34 0::fp 315 ["rows","width","cap","join","limit","lengths","offset","matrix"] 35 0::fp 325 ["tape","many"] 40 0::fp 332 ["tape","many","far","unit"] 41 0::fp 339 ["tape","unit"] 42 0::fp 344 ["tape"] 43 0::fp 349 ["tape","unit"] 44 0::fp 356 ["tape","parts","is_dashed"] 45 0::fp 363 ["space","x","y"] 46 0::fp 370 ["parts","space"] 47 0::fp 375 ["space"] 48 0::fp 382 ["corners"] 49 0::fp 389 ["rows"] 50 0::fp 394 ["space","figure"] 51 0::fp 401 ["figure"] 52 0::fp 406 ["script"] 53 0::[]
noncomputable def LV:Stmt→List Stmt×Expr×Scope
 | .FunctionDef (body:=b) (scope:=s) .. =>(b,.Name "" default,s)
 | .ClassDef (body:=b) .. =>(b,.Name "" default,default)
 | .For t _ b _ _=>(b,t,default)
 | .While t b _ _=>(b,t,default)
 | .If t b o _=>(b++o,t,default)
 | .Assign _ e _=>([],e,default)
 | .Return e _=>([],e.getD (.Name "" default),default)
 | .Expr e _=>([],e,default)
 |_=>([],.Name "" default,default)
noncomputable def Bf(x:Stmt):List Stmt:=(LV x).1
noncomputable def Ap(x:Stmt):Expr:=(LV x).2.1
noncomputable def YI(b:List Stmt)(i:Nat):Stmt:=b[i]?.getD (.Pass default)
noncomputable def We(i j:Nat):Stmt:=match j with
 |0=>YI PySem.Challenge.pw_rh0180_02.main.body i
 |j+1=>YI (Bf (YI PySem.Challenge.pw_rh0180_02.main.body i)) j
noncomputable def atC(f:Addr):Stmt:=match fnL.lookup f with
 |some (_,i,j)=>We i j
 |none=>.Pass default
noncomputable def AQ(f:Addr):List Stmt:=Bf (atC f)
noncomputable def scC(f:Addr):Scope:=(LV (atC f)).2.2
noncomputable def biL:List Str:=["len","int","list","range","zip","enumerate","sum","any","min","sorted"]
def XC(K:Frag)(f:Addr)(ps:List Str):Prop:=Xz K f (IU K f) (AQ f) ps∧(IU K f).scope=scC f
structure KF where
 K:Frag
 tab:Cw K
 fn:∀f ps i j,fnL.lookup f=some (ps,i,j)→XC K f ps
 bi:∀x,biL.contains x=true→nsIn K mainGlobals x=some none
 uni:nsIn K mainGlobals "_law_units"=some (some (.ref 316))
 lim:nsIn K mainGlobals "_law_limits"=some (some (.ref 317))
 pla:nsIn K mainGlobals "_law_plain"=some (some (.ref 318))
 fuz:Fz (fun b o=>K.lookup b=some o) (.ref 316) (.tuple [.int 1,.int 90,.int 1000])
 flz:Fz (fun b o=>K.lookup b=some o) (.ref 317) (.tuple [.int 1000000,.int 1414214,.int 2500000,.int 10000000])
 fpz:Fz (fun b o=>K.lookup b=some o) (.ref 318) (.tuple [.int 1,.int 0,.int 0,.int 1,.int 0,.int 0])
abbrev OkF(P:KF)(f:Addr)(ps:List Str):Prop:=XC P.K f ps
theorem IY(P:KF):OkF P 54 ["number","by"]:=P.fn _ _ _ _ rfl
theorem Dm(P:KF):OkF P 61 ["number","by"]:=P.fn _ _ _ _ rfl
theorem Iw(P:KF):OkF P 68 ["m"]:=P.fn _ _ _ _ rfl
theorem HG(P:KF):OkF P 75 ["m"]:=P.fn _ _ _ _ rfl
theorem KJ(P:KF):OkF P 82 ["m","x","y"]:=P.fn _ _ _ _ rfl
theorem GY(P:KF):OkF P 89 ["m","x","y"]:=P.fn _ _ _ _ rfl
theorem EP(P:KF):OkF P 96 ["m","x","y"]:=P.fn _ _ _ _ rfl
theorem GZ(P:KF):OkF P 103 ["x","y"]:=P.fn _ _ _ _ rfl
theorem Dw(P:KF):OkF P 110 ["number"]:=P.fn _ _ _ _ rfl
theorem Ha(P:KF):OkF P 117 ["one","other"]:=P.fn _ _ _ _ rfl
theorem FH(P:KF):OkF P 131 ["self","points","is_closed"]:=P.fn _ _ _ _ rfl
theorem Em(P:KF):OkF P 138 ["self"]:=P.fn _ _ _ _ rfl
theorem DE(P:KF):OkF P 152 ["points","is_closed"]:=P.fn _ _ _ _ rfl
theorem HH(P:KF):OkF P 157 ["rows"]:=P.fn _ _ _ _ rfl
theorem EZ(P:KF):OkF P 170 ["self","lengths","offset"]:=P.fn _ _ _ _ rfl
theorem HI(P:KF):OkF P 177 ["self"]:=P.fn _ _ _ _ rfl
theorem Ix(P:KF):OkF P 184 ["self"]:=P.fn _ _ _ _ rfl
theorem KK(P:KF):OkF P 191 ["self","way"]:=P.fn _ _ _ _ rfl
theorem Gp(P:KF):OkF P 205 ["one","other","way","length"]:=P.fn _ _ _ _ rfl
theorem JC(P:KF):OkF P 213 ["line","lengths","offset","most"]:=P.fn _ _ _ _ rfl
theorem DU(P:KF):OkF P 218 ["lines","lengths","offset"]:=P.fn _ _ _ _ rfl
theorem FI(P:KF):OkF P 225 ["one","other"]:=P.fn _ _ _ _ rfl
theorem DV(P:KF):OkF P 232 ["one","other","limit"]:=P.fn _ _ _ _ rfl
theorem LW(P:KF):OkF P 246 ["self","half","cap","join","limit","matrix"]:=P.fn _ _ _ _ rfl
theorem JD(P:KF):OkF P 253 ["self","point"]:=P.fn _ _ _ _ rfl
theorem Gq(P:KF):OkF P 258 ["self","points"]:=P.fn _ _ _ _ rfl
theorem Cx(P:KF):OkF P 263 ["self","centre"]:=P.fn _ _ _ _ rfl
theorem KL(P:KF):OkF P 270 ["self","way"]:=P.fn _ _ _ _ rfl
theorem HJ(P:KF):OkF P 277 ["self","one","other"]:=P.fn _ _ _ _ rfl
theorem Db(P:KF):OkF P 284 ["self","ahead","here","behind"]:=P.fn _ _ _ _ rfl
theorem Dx(P:KF):OkF P 291 ["self","ahead","here"]:=P.fn _ _ _ _ rfl
theorem Fo(P:KF):OkF P 298 ["self","line"]:=P.fn _ _ _ _ rfl
theorem FJ(P:KF):OkF P 310 ["line","matrix"]:=P.fn _ _ _ _ rfl
theorem NO(P:KF):OkF P 315 ["rows","width","cap","join","limit","lengths","offset","matrix"]:=P.fn _ _ _ _ rfl
theorem Ep(P:KF):OkF P 325 ["tape","many"]:=P.fn _ _ _ _ rfl
theorem Iy(P:KF):OkF P 332 ["tape","many","far","unit"]:=P.fn _ _ _ _ rfl
theorem JE(P:KF):OkF P 339 ["tape","unit"]:=P.fn _ _ _ _ rfl
theorem JF(P:KF):OkF P 344 ["tape"]:=P.fn _ _ _ _ rfl
theorem HK(P:KF):OkF P 349 ["tape","unit"]:=P.fn _ _ _ _ rfl
theorem Iz(P:KF):OkF P 356 ["tape","parts","is_dashed"]:=P.fn _ _ _ _ rfl
theorem LX(P:KF):OkF P 363 ["space","x","y"]:=P.fn _ _ _ _ rfl
theorem KM(P:KF):OkF P 370 ["parts","space"]:=P.fn _ _ _ _ rfl
theorem IA(P:KF):OkF P 375 ["space"]:=P.fn _ _ _ _ rfl
theorem Gr(P:KF):OkF P 382 ["corners"]:=P.fn _ _ _ _ rfl
theorem HL(P:KF):OkF P 389 ["rows"]:=P.fn _ _ _ _ rfl
theorem FK(P:KF):OkF P 394 ["space","figure"]:=P.fn _ _ _ _ rfl
theorem JG(P:KF):OkF P 401 ["figure"]:=P.fn _ _ _ _ rfl
theorem Aa4(P:KF):OkF P 406 ["script"]:=P.fn _ _ _ _ rfl
theorem PR(P:KF):CE P.K 301:=(P.tab.fld 301 "rows" (by kernel_rfl)).1
theorem GP(P:KF):BO P.K 301 "rows":=(P.tab.fld 301 "rows" (by kernel_rfl)).2
theorem az{x:Str}(h:biL.contains x=true):(x==("__debug__":Str))=false∧x≠"__name__":=by
 have k:∀y∈biL,(y==("__debug__":Str))=false∧y≠"__name__":=by decide+kernel
 exact k x (List.contains_iff_mem.mp h)
theorem glb(P:KF){sc:Scope}{x:Str}(h:Py sc x=true)(e:biL.contains x=true):GlB sc P.K x:=⟨HD h,P.bi x e,az e⟩
noncomputable def fin(r:Option (Res Fl)):Option (Dat×Ms):=match r with
 |some ⟨fl,_,[],ms⟩=>some (flD fl,ms)
 |_=>none
noncomputable def bP(x:Str)(r:Option (Res Fl)):Option (Dat×AG×Ms):=match r with
 |some ⟨fl,st,[],ms⟩=>match look x st with
  |some a=>some (flD fl,a,ms)
  |none=>none
 |_=>none
section
variable{O:Program}{w:World}{P:KF}{U:Heap}{n:Nat}
theorem FnP.ofC(S:Al O P.K U){f:Addr}{ps:List Str}{ds:List Dat}{Q:Dat→Prop}(ok:OkF P f ps)(hlen:ds.length=ps.length)(h:Ss O w U (scC f) n (AQ f) (BP ps ds) (fun fl _=>Q (flD fl))):FnP O w U (n+1) f ds Q:=
 FnP.of S ok.1 hlen (ok.2▸h)
theorem FnL.ofC(S:Al O P.K U){f:Addr}{p:Str}{ps:List Str}{a:AG}{ds:List Dat}{Q:Dat→AG→Prop}(ok:OkF P f (p::ps))(hp:DQ (scC f) p=true)(hlen:ds.length=ps.length)
 (h:Ss O w U (scC f) n (AQ f) ((p,a)::BP ps ds) (fun fl st'=>∃a',look p st'=some a'∧Q (flD fl) a')):FnL O w U (n+1) f a ds Q:=
 FnL.of S ok.1 (ok.2▸hp) hlen (ok.2▸h)
variable(O w U n)in
noncomputable def goR(f:Addr)(st:St)(os:List Or):Option (Res Fl):=IX (XX O w U n (scC f) 20) (AQ f) st os []
set_option tactic.hygienic true in
theorem FnP.go(S:Al O P.K U){f:Addr}{ps:List Str}{ds:List Dat}(ok:OkF P f ps)(hlen:ds.length=ps.length)(os:List Or){d:Dat}{ms:Ms}(h:fin (goR O w U n f (BP ps ds) os)=some (d,ms))(hm:AC ms):FnP O w U (n+1) f ds (· =d):=by
 unfold fin at h
 split at h
 ·rename_i e
  cases h
  exact FnP.ofC S ok hlen (((CH (LU S P.tab 20) _).ok e hm).2 _ rfl)
 ·cases h
set_option tactic.hygienic true in
theorem FnL.go(S:Al O P.K U){f:Addr}{p:Str}{ps:List Str}{a:AG}{ds:List Dat}(ok:OkF P f (p::ps))(hp:DQ (scC f) p=true)(hlen:ds.length=ps.length)(os:List Or){d:Dat}{a':AG}{ms:Ms}
 (h:bP p (goR O w U n f ((p,a)::BP ps ds) os)=some (d,a',ms)) (hm:AC ms):FnL O w U (n+1) f a ds fun x y=>x=d∧y=a':=by
 unfold bP at h
 split at h
 ·rename_i e
  split at h
  ·rename_i a' ea
   cases h
   exact FnL.ofC S ok hp hlen (((CH (LU S P.tab 20) _).ok e hm).2 _ ⟨_,ea,rfl,rfl⟩)
  ·cases h
 ·cases h
end
end
theorem Dn{α:Type}{p:α→Prop}:∀x∈([]:List α),p x:=Km
structure CM where
 it:Addr
 ls:Addr
 vs:List Value
 ds:List Dat
abbrev Hb(h:Heap)(T:Addr)(vs:List Value):Prop:=h.get? T=some {cls:=.type "tuple",data:=.seq vs.toArray}
noncomputable def CM.at(k:Nat)(l:CM):Value:=(l.vs[k]?).getD .none
structure HM(h:Heap)(k:Nat)(l:CM):Prop where
 it:h.IsListIter l.it l.ls k
 ls:h.IsList l.ls l.vs.toArray
theorem HM.keep{h h':Heap}{k:Nat}{l:CM}(x:HM h k l)(h1:∀o,h.get? l.it=some o→h'.get? l.it=some o)(h2:∀o,h.get? l.ls=some o→h'.get? l.ls=some o):HM h' k l:=⟨x.it.at h1,x.ls.at h2⟩
structure Wf(z TI TO:Addr)(l:CM):Prop where
 iz:l.it≠z
 iTI:l.it≠TI
 iTO:l.it≠TO
 lz:l.ls≠z
 lTO:l.ls≠TO
structure ZAp(z TI TO:Addr)(L:List CM):Prop where
 TIz:TI≠z
 TOz:TO≠z
 TITO:TI≠TO
 off:∀l∈L,Wf z TI TO l
 ls:∀l∈L,∀m∈L,l.ls≠m.it
 its:L.Pairwise fun l m=>l.it≠m.it
section
variable{O:Program}{w:World}{A:Around}{E:Value→Shared→Prop}
def Dy(z TO:Addr)(L:List CM)(h h':Heap):Prop:=∀c o,c≠z→c≠TO→(∀l∈L,c≠l.it)→h.get? c=some o→h'.get? c=some o
theorem JH{s:Shared}{T:Addr}{pre post:List Value}{o x:Value}{Q:Unit→Shared→Prop}(hT:Hb s.heap T (pre++o::post))(hz:(pre++o::post).length≤100)
 (h:∀h',Hb h' T (pre++x::post)→Heap.SameBut T s.heap h'→Q () {s with heap:=h'}):wpAny (model O w) A (updateSeq T (·.setIfInBounds pre.length x)) Q E s:=by
 have hs:(pre++o::post).toArray.size≤sizeLine:=le_trans hz (by decide)
 refine wpAny_updateSeq hT rfl (h _ ?_ (Heap.SameBut.update ..)) hs (by refine rr Array.size_setIfInBounds ?_;exact Nat.le_succ_of_le hs)
 have e:(pre++o::post).toArray.setIfInBounds pre.length x=(pre++x::post).toArray:=by
  refine rr (List.setIfInBounds_toArray ..) (rr (List.set_append_right _ _ (le_refl _)) ?_);refine rr (Nat.sub_self ..) (rr List.set_cons_zero ?_);rfl
 refine(get?_update_self _ hT rfl).trans ?_
 unfold Obj.mapSeq
 dsimp only
 refine rr Array.size_setIfInBounds (rr e ?_);refine rr (beq_self_eq_true ..) (rr (if_pos rfl) ?_);rfl
theorem aA{β:Type}{f:Value×Nat→β→Sem (ForInStep β)}{b:β}{z TI TO:Addr}{k:Nat}
 (hf:∀(l:CM) (x o:Value) (pre post:List Value) (s:Shared) (Q:ForInStep β→Shared→Prop),HM s.heap k l→l.vs[k]?=some x→Hb s.heap TO (pre++o::post)→l.it≠TO→(pre++o::post).length≤100→
  (∀h',h'.IsListIter l.it l.ls (k+1)→Hb h' TO (pre++x::post)→(∀c o,c≠TO→c≠l.it→s.heap.get? c=some o→h'.get? c=some o)→h'.objs.size=s.heap.objs.size→Q (.yield b) {s with heap:=h'})→
  wpAny (model O w) A (f (.ref l.it,pre.length) b) Q E s)
 (hg:∀(l:CM) (j:Nat) (s:Shared) (Q:ForInStep β→Shared→Prop),HM s.heap k l→l.vs[k]?=none→IsZip s.heap z TI TO .ellipsis→l.it≠z→
  (∀h' e,(∀c o,c≠z→c≠l.it→s.heap.get? c=some o→h'.get? c=some o)→(∃o,h'.get? e=some o∧o.cls=.type "StopIteration")→E (.ref e) {s with heap:=h'})→
  wpAny (model O w) A (f (.ref l.it,j) b) Q E s) (hzT:z≠TO):
 ∀(L:List CM) (pre old:List Value) (s:Shared) (Q:β→Shared→Prop),(∀l∈L,HM s.heap k l∧l.it≠z∧l.it≠TO∧l.ls≠TO)→(∀l∈L,∀m∈L,l.ls≠m.it)→L.Pairwise (fun l m=>l.it≠m.it)→
  old.length=L.length→Hb s.heap TO (pre++old)→(pre++old).length≤100→IsZip s.heap z TI TO .ellipsis→
  ((∀l∈L,l.vs[k]?=some (l.at k))→∀h',Hb h' TO (pre++L.map (CM.at k))→(∀l∈L,h'.IsListIter l.it l.ls (k+1))→Dy TO TO L s.heap h'→h'.objs.size=s.heap.objs.size→Q b {s with heap:=h'})→
  ((∃l∈L,l.vs[k]?=none)→∀h' e,Dy z TO L s.heap h'→(∃o,h'.get? e=some o∧o.cls=.type "StopIteration")→E (.ref e) {s with heap:=h'})→
  wpAny (model O w) A (forIn ((L.map fun l=>Value.ref l.it).zipIdx pre.length) b f) Q E s:=by
 intro L
 induction L with
 |nil=>
  intro pre old s Q _ _ _ ho hT _ _ hQ _
  rw[List.length_eq_zero_iff.mp ho,append_nil]at hT
  refine rr map_nil ?_;refine rr List.zipIdx_nil (rr forIn_nil ?_)
  exact wpAny_pure (hQ Dn s.heap (by refine rr map_nil (rr (append_nil ..) ?_);exact hT) Dn (fun _ _ _ _ _ e=>e) rfl)
 |cons l L ih=>
  intro pre old s Q hL hls hit ho hT hz hZ hQ hE
  rcases old with _|⟨o,old⟩
  ·cases ho
  have h1:=hL l (.head _)
  have hp:=List.pairwise_cons.mp hit
  refine rr map_cons ?_;refine rr zipIdx_cons (rr (forIn_cons ..) ?_)
  cases hx:l.vs[k]? with
  |none=>exact wpAny_bind (hg l pre.length s _ h1.1 hx hZ h1.2.1 fun h' e k1 q=>hE ⟨l,.head _,hx⟩ h' e (fun c o c1 _ c3 x=>k1 c o c1 (c3 l (.head _)) x) q)
  |some x=>
   refine wpAny_bind (hf l x o pre old s _ h1.1 hx hT h1.2.2.1 hz fun h' i1 t1 k1 z1=>?_)
   have ex:l.at k=x:=by unfold CM.at;refine rr hx ?_;rfl
   have e:pre++x::old=(pre++[x])++old:=by refine rr (append_assoc ..) ?_;rfl
   have el:(pre++[x]).length=pre.length+1:=length_append
   have ez:(pre++o::old).length=(pre++[x]++old).length:=by refine rl e ?_;refine rr length_append (rr length_append ?_);rfl
   show wpAny _ _ (forIn (List.zipIdx _ (pre.length+1)) b f) _ _ _
   refine rl el ?_
   refine ih (pre++[x]) old _ Q (fun m hm=>?_) (fun a ha c hc=>hls a (.tail _ ha) c (.tail _ hc)) hp.2 (Nat.succ.inj ho) (e▸t1) (ez▸hz) (k1 _ _ hzT h1.2.1.symm hZ)
    (fun ha h2 t2 i2 k2 z2=>hQ (forall_mem_cons.mpr ⟨ex▸hx,ha⟩) h2 ?_ (forall_mem_cons.mpr ⟨i1.at fun o=>k2 _ o h1.2.2.1 h1.2.2.1 hp.1,i2⟩) (fun c o c1 c2 c3 x=>k2 c o c1 c2 (fun m hm=>c3 m (.tail _ hm)) (k1 c o c1 (c3 l (.head _)) x)) (z2.trans z1))
    fun hn h2 e2 k2 q=>hE (hn.elim fun m hm=>⟨m,.tail _ hm.1,hm.2⟩) h2 e2 (fun c o c1 c2 c3 x=>k2 c o c1 c2 (fun m hm=>c3 m (.tail _ hm)) (k1 c o c2 (c3 l (.head _)) x)) q
   ·have hm':=hL m (.tail _ hm)
    exact⟨hm'.1.keep (fun o=>k1 _ o hm'.2.2.1 (hp.1 m hm).symm) (fun o=>k1 _ o hm'.2.2.2 (hls m (.tail _ hm) l (.head _))),hm'.2⟩
   ·rw[append_assoc]at t2;refine rr map_cons (rr ex ?_);exact t2
structure ZIn(h:Heap)(z TI TO:Addr)(L:List CM)(k:Nat)(f0:Value):Prop where
 z:IsZip h z TI TO f0
 ti:Hb h TI (L.map fun l=>.ref l.it)
 to:∃old,old.length=L.length∧Hb h TO old
 ls:∀l∈L,HM h k l
theorem cq{s:Shared}{z TI TO:Addr}{k:Nat}{l:CM}{L:List CM}{Q:Value→Shared→Prop}(hh:A.handled=none)(D:ZAp z TI TO (l::L))(hs:(l::L).length≤100)(hZ:ZIn s.heap z TI TO (l::L) k .none)
 (hQ:(∀m∈l::L,m.vs[k]?=some (m.at k))→∀h',ZIn h' z TI TO (l::L) (k+1) (rawInt s.heap.objs.size)→Hb h' s.heap.objs.size ((l::L).map (CM.at k))→Dy z TO (l::L) s.heap h'→Q (.ref s.heap.objs.size) {s with heap:=h'})
 (hE:(∃m∈l::L,m.vs[k]?=none)→∀h' e,Dy z TO (l::L) s.heap h'→(∃o,h'.get? e=some o∧o.cls=.type "StopIteration")→E (.ref e) {s with heap:=h'}):
 wpAny (model O w) A (Builtin.«zip.__next__» ⟨[.ref z],[]⟩) (fun fin s'=>∃v,fin=.done (.ret v)∧Q v s') E s:=by
 obtain⟨hz,hTI,⟨old,ho,hTO⟩,hL⟩:=hZ
 show wpAny _ _ (field (.ref z) 2>>=_) _ _ _
 refine wpAny_bind (wpAny_field hz rfl (x:=.bool false) rfl ?_)
 show wpAny _ _ (field (.ref z) 3>>=_) _ _ _
 refine wpAny_bind (wpAny_field hz rfl (x:=.ref TI) rfl ?_)
 refine wpAny_bind (wpAny_seqItems hTI rfl ?_)
 show wpAny _ _ (Builtin.SmallTypes.ownedTupleIsFree (.ref z)>>=_) _ _ _
 refine wpAny_bind ?_
 unfold Builtin.SmallTypes.ownedTupleIsFree
 refine wpAny_bind (wpAny_field hz rfl (x:=.none) rfl (wpAny_pure ?_))
 refine rr (if_pos rfl) ?_
 refine wpAny_bind (wpAny_rule ?_)
 refine wpAny_bind (wpAny_field hz rfl (x:=.ref TO) rfl ?_)
 refine wpAny_bind (wpAny_setField_rec hz (show 0<5 by decide) fun ha hza sa=>?_)
 replace hza:IsZip ha z TI TO .ellipsis:=hza
 refine wpAny_bind ?_
 refine aA (k:=k) (TO:=TO) (z:=z) (TI:=TI) ?_ ?_ D.TOz.symm (l::L) [] old _ _ (fun m hm=>?_) D.ls D.its ho (sa.extBut _ _ D.TOz hTO) (ho▸hs) hza (fun hall h1 t1 i1 k1 z1=>?_) fun hn h1 e k1 q=>hE hn h1 e (fun c o c1 c2 c3 x=>k1 c o c1 c2 c3 (sa.extBut _ _ c1 x)) q
 ·intro l x o pre post s Q h hx hT hne hlen hQ
  refine wpAny_bind (wpAny_onRaise ?_)
  show wpAny _ _ (Builtin.SmallTypes.nextOf (.ref l.it)>>=_) _ _ _
  refine wpAny_bind (wpAny_nextOf_list_item h.it h.ls (by refine rr (getElem?_toArray) ?_;exact hx) fun h' i' s'=>wpAny_pure ?_)
  have tb:Hb h' TO (pre++o::post):=s'.extBut _ _ hne.symm hT
  refine wpAny_bind (wpAny_seqItems tb rfl ?_)
  refine wpAny_bind (JH tb hlen fun hc tc sc=>?_)
  exact wpAny_bind (wpAny_letGo (wpAny_pure (hQ hc (i'.extBut sc.extBut hne) tc (fun c o c1 c2 e=>sc.extBut _ _ c1 (s'.extBut _ _ c2 e)) (sc.1.trans s'.1))))
 ·intro l j s Q h hx hz' hne hE
  refine wpAny_bind (wpAny_onRaise ?_)
  show wpAny _ _ (Builtin.SmallTypes.nextOf (.ref l.it)>>=_) _ _ _
  refine wpAny_bind (wpAny_nextOf_list_end hh h.it h.ls (by refine rr (getElem?_toArray) ?_;exact hx) fun hb e sb he=>?_)
  have zb:IsZip hb z TI TO .ellipsis:=sb _ _ hne.symm hz'
  obtain⟨oe,hoe,hce⟩:=he
  have hez:e≠z:=fun x=>absurd (show Value.type "zip"=Value.type "StopIteration" from(congrArg Obj.cls (Option.some.inj (zb.symm.trans (x▸hoe)))).trans hce) (by decide)
  exact wpAny_setField_rec zb (show 0<5 by decide) fun hc _ sc=>hE hc e (fun q o q1 q2 x=>sc.extBut _ _ q1 (sb _ _ q2 x)) ⟨oe,sc.extBut _ _ hez hoe,hce⟩
 ·have d:=D.off m hm
  exact⟨(hL m hm).keep (fun o=>sa.extBut _ _ d.iz) (fun o=>sa.extBut _ _ d.lz),d.iz,d.iTO,d.lTO⟩
 rw[nil_append]at t1
 refine wpAny_bind (wpAny_seqItems t1 rfl ?_)
 refine wpAny_bind (wpAny_newTuple ?_)
 have hsz:h1.objs.size=s.heap.objs.size:=z1.trans sa.1
 have k1':Dy z TO (l::L) s.heap h1:=fun c o c1 c2 c3 e=>k1 c o c2 c2 c3 (sa.extBut _ _ c1 e)
 have zg:IsZip h1 z TI TO .ellipsis:=k1 _ _ D.TOz.symm D.TOz.symm (fun m hm=>(D.off m hm).iz.symm) hza
 show wpAny _ _ (Builtin.SmallTypes.ownedTupleHandOut (.ref z) (.ref h1.objs.size)>>=_) _ _ _
 refine wpAny_bind ?_
 unfold Builtin.SmallTypes.ownedTupleHandOut
 refine wpAny_bind (wpAny_setField_rec (get?_push_of_some _ zg) (show 0<5 by decide) fun hm zm sm=>?_)
 refine wpAny_setField_rec zm (show 1<5 by decide) fun hn zn sn=>?_
 have zlt:h1.objs.size≠z:=Nat.ne_of_gt (lt_size zg)
 have up:∀q o,q≠z→h1.get? q=some o→hn.get? q=some o:=fun q o q1 e=>sn.extBut _ _ q1 (sm.extBut _ _ q1 (get?_push_of_some _ e))
 have tn:Hb hn h1.objs.size ((l::L).map (CM.at k)):=sn.extBut _ _ zlt (sm.extBut _ _ zlt (get?_push_size _ rfl))
 replace zn:IsZip hn z TI TO (rawInt h1.objs.size):=zn
 refine wpAny_pure ⟨_,rfl,?_⟩
 show Q (.ref h1.objs.size) _
 rw[hsz]at zn tn⊢
 have kn:Dy z TO (l::L) s.heap hn:=fun q o q1 q2 q3 e=>up q o q1 (k1' q o q1 q2 q3 e)
 exact hQ hall hn ⟨zn,kn _ _ D.TIz D.TITO (fun m hm=>(D.off m hm).iTI.symm) hTI,⟨_,length_map ..,up _ _ D.TOz t1⟩,fun m hm=>⟨(i1 m hm).at fun o=>up _ o (D.off m hm).iz,(hL m hm).ls.at fun o=>kn _ o (D.off m hm).lz (D.off m hm).lTO (D.ls m hm)⟩⟩ tn kn
theorem HN{s:Shared}{z TI TO:Addr}{k:Nat}{l:CM}{L:List CM}{Q:Option Value→Shared→Prop}(hh:A.handled=none)(D:ZAp z TI TO (l::L))(hs:(l::L).length≤100)(hZ:ZIn s.heap z TI TO (l::L) k .none)
 (hQ:(∀m∈l::L,m.vs[k]?=some (m.at k))→∀h',ZIn h' z TI TO (l::L) (k+1) (rawInt s.heap.objs.size)→Hb h' s.heap.objs.size ((l::L).map (CM.at k))→Dy z TO (l::L) s.heap h'→Q (some (.ref s.heap.objs.size)) {s with heap:=h'})
 (hN:(∃m∈l::L,m.vs[k]?=none)→∀h',Dy z TO (l::L) s.heap h'→Q none {s with heap:=h'}):wpAny (model O w) A (pyNext (.ref z)) Q E s:=by
 have hT:s.TypeIs (.ref z) "zip":=⟨_,hZ.z,rfl⟩
 unfold pyNext
 exact wpAny_bind (wpAny_attempt (wpAny_callSpecial?_slot (name:=Str.ofString "__next__") hT F.slot_zip_next
  (wpAny_call_entry F.slot_zip_next hT F.entry_zip_next (cq hh D hs hZ (fun ha h' a1 a2 a3=>wpAny_pure (hQ ha h' a1 a2 a3)) fun hn h' e hk he=>
   wpAny_bind (wpAny_isInstance (T:="StopIteration") (b:=true) he isSubtype_stop (wpAny_pure (hN hn _ hk)))) (F.args_zip_next_1 _))))
end
abbrev Ur(h:Heap)(T:Addr)(a b c:Value):Prop:=h.get? T=some {cls:=.type "tuple",data:=.seq #[a,b,c]}
theorem IB(a b c:Value):checkTypeCall "zip" ⟨[a,b,c],[]⟩=pure ():=by kernel_rfl
theorem JI(a b c:Value):checkBuiltinCall "zip.__new__" ⟨[.type "zip",a,b,c],[]⟩=pure ():=by kernel_rfl
theorem FL(a b c d:Value):argsOk "object.__init__" ⟨[a,b,c,d],[]⟩:=by
 unfold argsOk;kernel_rfl
noncomputable abbrev zq1(h:Heap)(l1:Addr):Heap:=h.push {cls:=.type "list_iterator",data:=.fields #[.ref l1,.int 0 0]}
noncomputable abbrev zq2(h:Heap)(l1 l2:Addr):Heap:=(zq1 h l1).push {cls:=.type "list_iterator",data:=.fields #[.ref l2,.int 0 0]}
noncomputable abbrev zq3(h:Heap)(l1 l2 l3:Addr):Heap:=(zq2 h l1 l2).push {cls:=.type "list_iterator",data:=.fields #[.ref l3,.int 0 0]}
noncomputable abbrev zq4(h:Heap)(l1 l2 l3:Addr):Heap:=(zq3 h l1 l2 l3).push {cls:=.type "tuple",data:=.seq #[.ref h.objs.size,.ref (zq1 h l1).objs.size,.ref (zq2 h l1 l2).objs.size]}
noncomputable abbrev zq5(h:Heap)(l1 l2 l3:Addr):Heap:=(zq4 h l1 l2 l3).push {cls:=.type "tuple",data:=.seq #[.none,.none,.none]}
noncomputable abbrev zq6(h:Heap)(l1 l2 l3:Addr):Heap:=(zq5 h l1 l2 l3).push {cls:=.type "zip",data:=.fields #[.none,.bool false,.bool false,.ref (zq3 h l1 l2 l3).objs.size,.ref (zq4 h l1 l2 l3).objs.size]}
set_option maxHeartbeats 4000000 in
theorem NP(l1 l2 l3:Addr)(xs ys zs:Array Value):
 Meets (Builtin.«zip.__new__» ⟨[.type "zip",.ref l1,.ref l2,.ref l3],[]⟩) (fun _ R s=>s.heap.IsList l1 xs∧s.heap.IsList l2 ys∧s.heap.IsList l3 zs∧
  R (.ok (.ret (.ref (zq5 s.heap l1 l2 l3).objs.size))) {s with heap:=zq6 s.heap l1 l2 l3}):=
 .of_wp fun O w A R s h=>by
  obtain⟨hp,g,d,tk,os⟩:=s;obtain⟨hl1,hl2,hl3,h⟩:=h
  have hsub:=sub_zip
  have hL1:Heap.IsList (Shared.heap ⟨hp,g,d,tk,os⟩) l1 xs:=hl1
  have hL2:Heap.IsList (Shared.heap ⟨hp.push {cls:=.type "list_iterator",data:=.fields #[.ref l1,.int 0 0]},g,d,tk,os⟩) l2 ys:=Heap.IsList.push hl2 _
  have hL3:Heap.IsList (Shared.heap ⟨(hp.push {cls:=.type "list_iterator",data:=.fields #[.ref l1,.int 0 0]}).push {cls:=.type "list_iterator",data:=.fields #[.ref l2,.int 0 0]},g,d,tk,os⟩) l3 zs:=Heap.IsList.push (Heap.IsList.push hl3 _) _
  wp_walk using wpAny_pyIter_list hL1,wpAny_pyIter_list hL2,wpAny_pyIter_list hL3
  exact⟨_,rfl,h⟩
section
variable{O:Program}{w:World}{A:Around}{E:Value→Shared→Prop}{s:Shared}
theorem PU{l1 l2 l3:Addr}{xs ys zs:Array Value}{Q:Value→Shared→Prop}(hl1:s.heap.IsList l1 xs)(hl2:s.heap.IsList l2 ys)(hl3:s.heap.IsList l3 zs)
 (h:∀h',IsZip h' (s.heap.objs.size+5) (s.heap.objs.size+3) (s.heap.objs.size+4) .none→Ur h' (s.heap.objs.size+3) (.ref s.heap.objs.size) (.ref (s.heap.objs.size+1)) (.ref (s.heap.objs.size+2))→
  Ur h' (s.heap.objs.size+4) .none .none .none→h'.IsListIter s.heap.objs.size l1 0→h'.IsListIter (s.heap.objs.size+1) l2 0→h'.IsListIter (s.heap.objs.size+2) l3 0→
  (∀c o,s.heap.get? c=some o→h'.get? c=some o)→Q (.ref (s.heap.objs.size+5)) {s with heap:=h'}):
 wpAny (model O w) A (call (.type "zip") [.ref l1,.ref l2,.ref l3]) Q E s:=by
 refine callType_new F.called_zip (by decide) (IB _ _ _) (JI _ _ _) (fun obj=>FL obj _ _ _) F.entry_zip_new
  (NP l1 l2 l3 xs ys zs) ⟨hl1,hl2,hl3,?_⟩
 have z1:(zq1 s.heap l1).objs.size=s.heap.objs.size+1:=size_push ..
 have z2:(zq2 s.heap l1 l2).objs.size=s.heap.objs.size+2:=by refine rr (size_push ..) (rr z1 ?_);rfl
 have z3:(zq3 s.heap l1 l2 l3).objs.size=s.heap.objs.size+3:=by refine rr (size_push ..) (rr z2 ?_);rfl
 have z4:(zq4 s.heap l1 l2 l3).objs.size=s.heap.objs.size+4:=by refine rr (size_push ..) (rr z3 ?_);rfl
 have z5:(zq5 s.heap l1 l2 l3).objs.size=s.heap.objs.size+5:=by refine rr (size_push ..) (rr z4 ?_);rfl
 have g6:(zq6 s.heap l1 l2 l3).get? (zq5 s.heap l1 l2 l3).objs.size=some _:=get?_push_size _ rfl
 have g5:(zq6 s.heap l1 l2 l3).get? (zq4 s.heap l1 l2 l3).objs.size=some _:=get?_push_of_some _ (get?_push_size _ rfl)
 have g4:(zq6 s.heap l1 l2 l3).get? (zq3 s.heap l1 l2 l3).objs.size=some _:=get?_push_of_some _ (get?_push_of_some _ (get?_push_size _ rfl))
 have g3:(zq6 s.heap l1 l2 l3).get? (zq2 s.heap l1 l2).objs.size=some _:=get?_push_of_some _ (get?_push_of_some _ (get?_push_of_some _ (get?_push_size _ rfl)))
 have g2:(zq6 s.heap l1 l2 l3).get? (zq1 s.heap l1).objs.size=some _:=get?_push_of_some _ (get?_push_of_some _ (get?_push_of_some _ (get?_push_of_some _ (get?_push_size _ rfl))))
 have g1:(zq6 s.heap l1 l2 l3).get? s.heap.objs.size=some _:=get?_push_of_some _ (get?_push_of_some _ (get?_push_of_some _ (get?_push_of_some _ (get?_push_of_some _ (get?_push_size _ rfl)))))
 show _∧_
 rw[z3,z4,z5]at g6
 rw[z1,z2,z3]at g4
 rw[z4]at g5
 rw[z2]at g3
 rw[z1]at g2
 refine rr z5 ?_
 exact⟨⟨_,g6,rfl⟩,h _ g6 g4 g5 ⟨_,g1,rfl,rfl⟩ ⟨_,g2,rfl,rfl⟩ ⟨_,g3,rfl,rfl⟩ fun c o x=>
  get?_push_of_some _ (get?_push_of_some _ (get?_push_of_some _ (get?_push_of_some _ (get?_push_of_some _ (get?_push_of_some _ x)))))⟩
end
noncomputable def JJ(xs ys zs:List Dat):List Dat:=List.zipWith (fun x q=>.tuple [x,q.1,q.2]) xs (ys.zip zs)
theorem PV{xs ys zs:List Dat}{i:Nat}{d:Dat}(e:(JJ xs ys zs)[i]?=some d):∃x y z,xs[i]?=some x∧ys[i]?=some y∧zs[i]?=some z∧d=.tuple [x,y,z]:=by
 obtain⟨x,q,hx,hq,rfl⟩:=List.getElem?_zipWith_eq_some.mp e
 have h:=List.getElem?_zip_eq_some.mp hq
 exact⟨x,q.1,q.2,hx,h.1,h.2,rfl⟩
theorem PW(xs ys zs:List Dat):xs.length≤(JJ xs ys zs).length∨ys.length≤(JJ xs ys zs).length∨zs.length≤(JJ xs ys zs).length:=by
 unfold JJ
 refine rr List.length_zipWith (rr length_zip ?_)
 exact(le_total xs.length (min ys.length zs.length)).elim (fun h=>.inl (le_of_eq (min_eq_left h).symm)) fun h=>.inr ((le_total ys.length zs.length).elim
  (fun g=>.inl (le_of_eq ((min_eq_right h).trans (min_eq_left g)).symm)) fun g=>.inr (le_of_eq ((min_eq_right h).trans (min_eq_right g)).symm))
section
variable{O:Program}{w:World}{U:Heap}{K:Frag}{sc:Scope}{n:Nat}{st:St}
noncomputable abbrev zwr(z TI TO:Addr)(L:List CM):List Addr:=z::TI::TO::L.map CM.it
theorem Dy.off{z TI TO:Addr}{L:List CM}{h h':Heap}(k:Dy z TO L h h'):∀b o,b∉zwr z TI TO L→h.get? b=some o→h'.get? b=some o:=
 fun b o hb e=>k b o (fun x=>hb (x▸ .head _)) (fun x=>hb (x▸ .tail _ (.tail _ (.head _)))) (fun m hm x=>hb (x▸ .tail _ (.tail _ (.tail _ (mem_map_of_mem hm))))) e
theorem ZIn.frame{z TI TO:Addr}{L:List CM}{k:Nat}{f0:Value}{h h':Heap}(x:ZIn h z TI TO L k f0)(hk:∀b∈zwr z TI TO L++L.map CM.ls,∀o,h.get? b=some o→h'.get? b=some o):ZIn h' z TI TO L k f0:=
 ⟨hk _ (.head _) _ x.z,hk _ (.tail _ (.head _)) _ x.ti,x.to.elim fun old q=>⟨old,q.1,hk _ (.tail _ (.tail _ (.head _))) _ q.2⟩,
  fun m hm=>(x.ls m hm).keep (hk _ (mem_append_left _ (.tail _ (.tail _ (.tail _ (mem_map_of_mem hm)))))) (hk _ (mem_append_right _ (mem_map_of_mem hm)))⟩
theorem ZIn.alive{z TI TO:Addr}{L:List CM}{k:Nat}{f0:Value}{h:Heap}(x:ZIn h z TI TO L k f0):∀b∈zwr z TI TO L,∃o,h.get? b=some o:=
 forall_mem_cons.mpr ⟨⟨_,x.z⟩,forall_mem_cons.mpr ⟨⟨_,x.ti⟩,forall_mem_cons.mpr ⟨x.to.elim fun _ q=>⟨_,q.2⟩,List.forall_mem_map.mpr fun m hm=>(x.ls m hm).it.elim fun o q=>⟨o,q.1⟩⟩⟩⟩
theorem Wg{g:BT}{f:CM→Value}{d:CM→Dat}:∀{L:List CM},(∀m∈L,Fz g (f m) (d m))→FzL g (L.map f) (L.map d):=by
 intro L
 induction L with
 |nil=>
  intro _
  exact .nil
 |cons _ _ ih=>
  intro h
  exact .cons (h _ (.head _)) (ih fun m hm=>h m (.tail _ hm))
structure ZDs(L:List CM)(ds:List Dat):Prop where
 item:∀(i:Nat) (d:Dat),ds[i]?=some d→∃f:CM→Dat,d=Dat.tuple (L.map f)∧∀m∈L,m.ds[i]?=some (f m)
 stop:∃m∈L,m.ds.length≤ds.length
theorem Src.zipN{A:Around}(hh:A.handled=none){elts:List Expr}{k:Nat}{pos:Pos}{z TI TO:Addr}{l:CM}{L:List CM}(D:ZAp z TI TO (l::L))(hs:(l::L).length≤100){G:BT}(hG:∀m∈l::L,(∃o,G m.ls o)∧FzL G m.vs m.ds){ds:List Dat}(hd:ZDs (l::L) ds):
 Src O w A (.Tuple elts k pos) z (zwr z TI TO (l::L)++(l::L).map CM.ls) (zwr z TI TO (l::L)) G ds (fun i h=>ZIn h z TI TO (l::L) i .none) (fun i v h=>∃T,v=.ref T∧ZIn h z TI TO (l::L) (i+1) (rawInt T)) where
 sub:=fun _ hb=>mem_append_left _ hb
 seen:=fun b hb=>(mem_append.mp hb).imp id fun q=>(List.forall_mem_map (P:=fun b=>∃o,G b o)).mpr (fun m hm=>(hG m hm).1) b q
 frame:=fun _ _ _ x hk=>x.frame hk
 alive:=fun _ _ x=>x.alive
 item:=fun i s Q E d ed hst hg hQ=>by
  obtain⟨f,rfl,hf⟩:=hd.item i d ed
  refine HN hh D hs hst (fun hall h' hz' ht hk=>hQ (.ref _) h' s.toks (.tuple (n:=0) (.inr ⟨AL _ (le_refl _),ht⟩) (Wg fun m hm=>?_)) ⟨_,rfl,hz'⟩ hk.off) fun⟨m,hm,e⟩=>?_
  ·obtain⟨v,ev,fv⟩:=(hG m hm).2.get (hf m hm)
   refine rr (Option.some.inj ((hall m hm).symm.trans ev)) ?_
   exact fv.mono fun _ _ g=>.inl g
  ·obtain⟨v,ev,_⟩:=(hG m hm).2.get (hf m hm)
   rw[e]at ev
   cases ev
 go:=by
  rintro i v s Q E ⟨T,hv,x⟩ hQ
  refine rr hv ?_
  refine wpAny_letOwnedTupleGo_zip x.z fun h' hz' hs'=>hQ h' ⟨hz',hs'.extBut _ _ D.TIz x.ti,x.to.elim fun old q=>⟨old,q.1,hs'.extBut _ _ D.TOz q.2⟩,fun m hm=>(x.ls m hm).keep (fun o=>hs'.extBut _ o (D.off m hm).iz) (fun o=>hs'.extBut _ o (D.off m hm).lz)⟩ fun c o hc e=>hs'.extBut _ _ (fun q=>hc (q▸ .head _)) e
 done:=fun s Q E hst hQ=>by
  refine HN hh D hs hst (fun hall=>?_) fun _ h' hk=>hQ h' s.toks hk.off
  obtain⟨m,hm,q⟩:=hd.stop
  have e:=hall m hm
  rw[List.getElem?_eq_none ((hG m hm).2.length▸q)]at e
  cases e
 self:=fun i s Q E hst hQ=>wpAny_pyIter_zip hst.z hQ
theorem ZAp.new{s:Nat}{L:List CM}(hi:L.map CM.it=List.range' s L.length)(hl:∀m∈L,m.ls<s):ZAp (s+L.length+2) (s+L.length) (s+L.length+1) L where
 TIz:=ne_of_lt (Nat.lt_add_of_pos_right (by decide))
 TOz:=ne_of_lt (lt_succ_self _)
 TITO:=ne_of_lt (lt_succ_self _)
 off:=fun m hm=>by
  have h1:m.it<s+L.length:=(List.mem_range'_1.mp (hi▸mem_map_of_mem hm)).2
  have h2:=lt_of_lt_of_le (hl m hm) (le_add_right s L.length)
  exact⟨ne_of_lt (Nat.lt_add_right 2 h1),ne_of_lt h1,ne_of_lt (Nat.lt_add_right 1 h1),ne_of_lt (Nat.lt_add_right 2 h2),ne_of_lt (Nat.lt_add_right 1 h2)⟩
 ls:=fun m hm c hc=>ne_of_lt (lt_of_lt_of_le (hl m hm) (List.mem_range'_1.mp (hi▸mem_map_of_mem hc)).1)
 its:=(List.pairwise_map (f:=CM.it) (R:=fun a b:Addr=>a≠b)).mp (hi▸List.Pairwise.imp ne_of_lt List.pairwise_lt_range')
theorem MN{A:Around}{R as:List Addr}{env:Env}{s:Shared}{elts:List Expr}{k:Nat}{pos:Pos}{Q:List Dat→St→Prop}{h':Heap}{st:St}{l:CM}{L:List CM}{ds:List Dat}(hR:CU A n)(r:Rel U R env st as s.heap)(hlt:∀b∈as,∃o,s.heap.get? b=some o)
 (hi:(l::L).map CM.it=List.range' s.heap.objs.size (l::L).length) (hs:(l::L).length≤100) (keep:∀b o,s.heap.get? b=some o→h'.get? b=some o) (hG:∀m∈l::L,(∃o,vis R as s.heap m.ls o)∧FzL (vis R as s.heap) m.vs m.ds)
 (hZ:ZIn h' (s.heap.objs.size+(l::L).length+2) (s.heap.objs.size+(l::L).length) (s.heap.objs.size+(l::L).length+1) (l::L) 0 .none) (hd:ZDs (l::L) ds) (q:Q ds st):
 PS O w U A R env as s (.Tuple elts k pos) Q (.ref (s.heap.objs.size+(l::L).length+2)) {s with heap:=h'}:=by
 have hl:∀m∈l::L,m.ls<s.heap.objs.size:=fun m hm=>(hG m hm).1.elim fun _ g=>lt_size g.2.2
 have new:∀b∈zwr (s.heap.objs.size+(l::L).length+2) (s.heap.objs.size+(l::L).length) (s.heap.objs.size+(l::L).length+1) (l::L),s.heap.get? b=none∧∃o,h'.get? b=some o:=fun b hb=>by
  refine⟨AL _ ?_,hZ.alive b hb⟩
  exact forall_mem_cons.mpr ⟨Nat.le_add_right_of_le (le_add_right _ _),forall_mem_cons.mpr ⟨le_add_right _ _,forall_mem_cons.mpr ⟨Nat.le_add_right_of_le (le_add_right _ _),fun b hb=>(List.mem_range'_1.mp (hi▸hb)).1⟩⟩⟩ b hb
 obtain⟨_,kv⟩:=r.laid keep new hlt
 exact PS.mk' (t2:=s.toks) (Ah.refl _ _) r hlt keep new (Src.zipN hR.handled (ZAp.new hi hl) hs (fun m hm=>⟨(hG m hm).1.imp fun _=>kv _ _,(hG m hm).2.mono kv⟩) hd) hZ q
theorem HO{g:BT}{vs:List Value}{xs ds:List Dat}{P:List Value→Prop}(f:FzL g vs (.list xs::ds))(k:∀(l:Addr) (v:List Value) (m:Nat) (ws:List Value),g l (seqObj "list" v.toArray m)→FzL g v xs→FzL g ws ds→P (.ref l::ws)):P vs:=by
 cases f with
 |cons f r=>cases f with|list h x=>exact k _ _ _ _ h x r
theorem PY{g:BT}{vs:List Value}{P:List Value→Prop}(f:FzL g vs [])(k:P []):P vs:=by cases f;exact k
noncomputable def CM.dat(i:Nat)(m:CM):Dat:=(m.ds[i]?).getD .none
theorem CM.dat_eq{m:CM}{i:Nat}{d:Dat}(e:m.ds[i]?=some d):m.dat i=d:=by unfold CM.dat;refine rr e ?_;rfl
theorem cr{i1 i2 l1 l2:Addr}{v1 v2:List Value}{xs ys:List Dat}:ZDs [⟨i1,l1,v1,xs⟩,⟨i2,l2,v2,ys⟩] (Jx xs ys) where
 item:=fun i d e=>by
  obtain⟨x,y,ex,ey,rfl⟩:=MB e
  have e1:=CM.dat_eq (m:=⟨i1,l1,v1,xs⟩) ex
  have e2:=CM.dat_eq (m:=⟨i2,l2,v2,ys⟩) ey
  exact⟨CM.dat i,by refine rl e1 (rl e2 ?_);rfl,forall_mem_cons.mpr ⟨e1▸ex,forall_mem_cons.mpr ⟨e2▸ey,Dn⟩⟩⟩
 stop:=by
  unfold Jx
  refine rr List.length_zipWith ?_
  exact(le_total xs.length ys.length).elim (fun h=>⟨_,.head _,Nat.le_min.mpr ⟨le_refl _,h⟩⟩) fun h=>⟨_,.tail _ (.head _),Nat.le_min.mpr ⟨h,le_refl _⟩⟩
theorem ct{i1 i2 i3 l1 l2 l3:Addr}{v1 v2 v3:List Value}{xs ys us:List Dat}:ZDs [⟨i1,l1,v1,xs⟩,⟨i2,l2,v2,ys⟩,⟨i3,l3,v3,us⟩] (JJ xs ys us) where
 item:=fun i d e=>by
  obtain⟨x,y,u,ex,ey,eu,rfl⟩:=PV e
  have e1:=CM.dat_eq (m:=⟨i1,l1,v1,xs⟩) ex
  have e2:=CM.dat_eq (m:=⟨i2,l2,v2,ys⟩) ey
  have e3:=CM.dat_eq (m:=⟨i3,l3,v3,us⟩) eu
  exact⟨CM.dat i,by refine rl e1 ?_;refine rl e2 (rl e3 ?_);rfl,forall_mem_cons.mpr ⟨e1▸ex,forall_mem_cons.mpr ⟨e2▸ey,forall_mem_cons.mpr ⟨e3▸eu,Dn⟩⟩⟩⟩
 stop:=(PW xs ys us).elim (fun h=>⟨_,.head _,h⟩) fun h=>h.elim (fun h=>⟨_,.tail _ (.head _),h⟩) fun h=>⟨_,.tail _ (.tail _ (.head _)),h⟩
theorem Wh(S:Al O K U){x:Str}{p pos tp:Pos}{k:Nat}{e:Expr}{es elts:List Expr}{Q:List Dat→St→Prop}(g:GlB sc K x)(hv:bootBuiltins x=some (.type "zip"))
 (h:El O w U sc n (e::es) st fun ds st1=>∃xs ys,ds=[.list xs,.list ys]∧Q (Jx xs ys) st1)
 (he:autoParam (∀env,starEach (e::es) env=(false,eval e env)::starEach es env) au.a1._auto_1) (hp:autoParam (∀env,(backTo pos (starEach es env)).any (·.1)=false) au.a1._auto_1):
 Es O w U sc n (.Call (.Name x p) (e::es) [] pos) (.Tuple elts k tp) st Q:=by
 refine Jw S g hv h ?_ he hp
 rintro A env R as s vs ds st1 hR r hlt fz ⟨xs,ys,rfl,q⟩
 refine HO (P:=fun vs=>wpAny _ A (call _ (vs)) _ _ s) fz fun l1 v1 k1 ws g1 x1 fz=>?_
 refine HO (P:=fun vs=>wpAny _ A (call _ (.ref l1::vs)) _ _ s) fz fun l2 v2 k2 ws g2 x2 fz=>?_
 refine PY (P:=fun vs=>wpAny _ A (call _ (.ref l1:: .ref l2::vs)) _ _ s) fz ?_
 refine call_zip_2 (xs:=v1.toArray) (ys:=v2.toArray) ⟨_,g1.2.2,rfl,_,rfl⟩ ⟨_,g2.2.2,rfl,_,rfl⟩ fun h' a1 a2 a3 a4 a5 _ keep=>wpAny_pyIter_zip a1 ?_
 exact MN (l:=⟨_,l1,v1,xs⟩) (L:=[⟨_,l2,v2,ys⟩]) hR r hlt rfl (show 2≤100 by decide) keep (forall_mem_cons.mpr ⟨⟨⟨_,g1⟩,x1⟩,forall_mem_cons.mpr ⟨⟨⟨_,g2⟩,x2⟩,Dn⟩⟩)
  ⟨a1,a2,⟨[.none,.none],rfl,a3⟩,forall_mem_cons.mpr ⟨⟨a4,_,keep _ _ g1.2.2,rfl,_,rfl⟩,forall_mem_cons.mpr ⟨⟨a5,_,keep _ _ g2.2.2,rfl,_,rfl⟩,Dn⟩⟩⟩ cr q
theorem Wi(S:Al O K U){x:Str}{p pos tp:Pos}{k:Nat}{e:Expr}{es elts:List Expr}{Q:List Dat→St→Prop}(g:GlB sc K x)(hv:bootBuiltins x=some (.type "zip"))
 (h:El O w U sc n (e::es) st fun ds st1=>∃xs ys zs,ds=[.list xs,.list ys,.list zs]∧Q (JJ xs ys zs) st1)
 (he:autoParam (∀env,starEach (e::es) env=(false,eval e env)::starEach es env) au.a1._auto_1) (hp:autoParam (∀env,(backTo pos (starEach es env)).any (·.1)=false) au.a1._auto_1):
 Es O w U sc n (.Call (.Name x p) (e::es) [] pos) (.Tuple elts k tp) st Q:=by
 refine Jw S g hv h ?_ he hp
 rintro A env R as s vs ds st1 hR r hlt fz ⟨xs,ys,zs,rfl,q⟩
 refine HO (P:=fun vs=>wpAny _ A (call _ (vs)) _ _ s) fz fun l1 v1 k1 ws g1 x1 fz=>?_
 refine HO (P:=fun vs=>wpAny _ A (call _ (.ref l1::vs)) _ _ s) fz fun l2 v2 k2 ws g2 x2 fz=>?_
 refine HO (P:=fun vs=>wpAny _ A (call _ (.ref l1:: .ref l2::vs)) _ _ s) fz fun l3 v3 k3 ws g3 x3 fz=>?_
 refine PY (P:=fun vs=>wpAny _ A (call _ (.ref l1:: .ref l2:: .ref l3::vs)) _ _ s) fz ?_
 refine PU (xs:=v1.toArray) (ys:=v2.toArray) (zs:=v3.toArray) ⟨_,g1.2.2,rfl,_,rfl⟩ ⟨_,g2.2.2,rfl,_,rfl⟩ ⟨_,g3.2.2,rfl,_,rfl⟩ fun h' a1 a2 a3 a4 a5 a6 keep=>wpAny_pyIter_zip a1 ?_
 exact MN (l:=⟨_,l1,v1,xs⟩) (L:=[⟨_,l2,v2,ys⟩,⟨_,l3,v3,zs⟩]) hR r hlt rfl (show 3≤100 by decide) keep (forall_mem_cons.mpr ⟨⟨⟨_,g1⟩,x1⟩,forall_mem_cons.mpr ⟨⟨⟨_,g2⟩,x2⟩,forall_mem_cons.mpr ⟨⟨⟨_,g3⟩,x3⟩,Dn⟩⟩⟩)
  ⟨a1,a2,⟨[.none,.none,.none],rfl,a3⟩,forall_mem_cons.mpr ⟨⟨a4,_,keep _ _ g1.2.2,rfl,_,rfl⟩,forall_mem_cons.mpr ⟨⟨a5,_,keep _ _ g2.2.2,rfl,_,rfl⟩,forall_mem_cons.mpr ⟨⟨a6,_,keep _ _ g3.2.2,rfl,_,rfl⟩,Dn⟩⟩⟩⟩ ct q
end
abbrev FM(h:Heap)(z TI TO T:Addr)(b:Bool):Prop:=
 h.get? z=some {cls:=.type "zip",dict:=none,data:=.fields #[rawInt T,.bool b,.bool false,.ref TI,.ref TO],slots:=#[]}
section
variable{O:Program}{w:World}{A:Around}{E:Value→Shared→Prop}{s:Shared}
theorem DY{a:Addr}{o:Obj}{Q:Option Obj→Shared→Prop}(ho:s.heap.get? a=some o)(h:Q (some o) s):wpAny (model O w) A (loadIfAlive a) Q E s:=by
 intro Γ p hΓ
 unfold loadIfAlive
 refine rr (Sem.wp_loadIfAlive ..) (rr ho ?_)
 exact h
theorem FN{z TI TO T:Addr}{b:Bool}{o:Obj}{Q:Bool→Shared→Prop}(hz:FM s.heap z TI TO T b)(hT:s.heap.get? T=some o)
 (hQ:∀h',FM h' z TI TO T true→Heap.SameBut z s.heap h'→Q false {s with heap:=h'}):wpAny (model O w) A (Builtin.SmallTypes.ownedTupleIsFree (.ref z)) Q E s:=by
 unfold Builtin.SmallTypes.ownedTupleIsFree
 refine wpAny_bind (wpAny_field hz rfl (x:=rawInt T) rfl ?_)
 show wpAny _ _ (loadIfAlive (Int.toNat (T:Int))>>=_) _ _ _
 refine wpAny_bind (DY (a:=T) hT ?_)
 simp only[Option.isNone_some,false_eq_true,if_false]
 refine wpAny_bind (wpAny_field hz rfl (x:=.bool b) rfl ?_)
 rcases b with _|_
 ·
  refine rr (if_pos (by decide)) ?_
  refine wpAny_bind (wpAny_setField_rec hz (by simp) fun h1 hz1 hs1=>?_)
  exact wpAny_pure (hQ h1 hz1 hs1)
 ·
  refine rr (if_neg (by decide)) ?_
  exact wpAny_pure (hQ s.heap hz ⟨rfl,fun _ _=>rfl⟩)
theorem JK{z TI TO T i1 i2 l1 l2:Addr}{b:Bool}{o:Obj}{k1 k2:Nat}{xs ys:Array Value}{x y:Value}{Q:Value→Shared→Prop}(D:ZipApart z TI TO i1 i2 l1 l2)
 (hz:FM s.heap z TI TO T b) (hT:s.heap.get? T=some o) (hTI:IsPair s.heap TI (.ref i1) (.ref i2))
 (h1:s.heap.IsListIter i1 l1 k1) (h2:s.heap.IsListIter i2 l2 k2) (hl1:s.heap.IsList l1 xs) (hl2:s.heap.IsList l2 ys) (hx:xs[k1]?=some x) (hy:ys[k2]?=some y)
 (hQ:∀h',FM h' z TI TO T true→h'.IsListIter i1 l1 (k1+1)→h'.IsListIter i2 l2 (k2+1)→IsPair h' s.heap.objs.size x y→h'.objs.size=s.heap.objs.size+1→
  (∀c o,c≠z→c≠i1→c≠i2→s.heap.get? c=some o→h'.get? c=some o)→Q (.ref s.heap.objs.size) {s with heap:=h'}):
 wpAny (model O w) A (Builtin.«zip.__next__» ⟨[.ref z],[]⟩) (fun fin s'=>∃v,fin=.done (.ret v)∧Q v s') E s:=by
 show wpAny _ _ (field (.ref z) 2>>=_) _ _ _
 refine wpAny_bind (wpAny_field hz rfl (x:=.bool false) rfl ?_)
 show wpAny _ _ (field (.ref z) 3>>=_) _ _ _
 refine wpAny_bind (wpAny_field hz rfl (x:=.ref TI) rfl ?_)
 refine wpAny_bind (wpAny_seqItems hTI rfl ?_)
 show wpAny _ _ (Builtin.SmallTypes.ownedTupleIsFree (.ref z)>>=_) _ _ _
 refine wpAny_bind (FN hz hT fun h₁ hz₁ hs₁=>?_)
 simp only[false_eq_true,if_false]
 refine wpAny_bind ?_
 simp only[List.forIn_toArray,forIn_cons,forIn_nil]
 refine wpAny_bind (wpAny_bind (wpAny_holding ?_))
 show wpAny _ _ (Builtin.SmallTypes.nextOf (.ref i1)>>=_) _ _ _
 refine wpAny_bind (wpAny_nextOf_list_item (h1.extBut hs₁.extBut D.i1z) (hl1.extBut hs₁.extBut D.l1z) hx fun h₂ h1₂ hs₂=>wpAny_pure (wpAny_pure ?_))
 refine wpAny_bind (wpAny_bind (wpAny_holding ?_))
 show wpAny _ _ (Builtin.SmallTypes.nextOf (.ref i2)>>=_) _ _ _
 refine wpAny_bind (wpAny_nextOf_list_item ((h2.extBut hs₁.extBut D.i2z).extBut hs₂.extBut D.i12.symm) ((hl2.extBut hs₁.extBut D.l2z).extBut hs₂.extBut D.l2i1) hy fun h₃ h2₃ hs₃=>wpAny_pure (wpAny_pure (wpAny_pure ?_)))
 show wpAny _ _ (newTuple [x,y]>>=_) _ _ _
 refine wpAny_bind (wpAny_newTuple ?_)
 have hsz:h₃.objs.size=s.heap.objs.size:=by refine rr hs₃.1 ?_;refine rr hs₂.1 (rr hs₁.1 ?_);rfl
 refine wpAny_pure ⟨_,rfl,?_⟩
 show Q (.ref h₃.objs.size) {s with heap:=h₃.push {cls:=.type "tuple",data:=.seq #[x,y]}}
 have up:∀c o,c≠z→c≠i1→c≠i2→s.heap.get? c=some o→(h₃.push {cls:=.type "tuple",data:=.seq #[x,y]}).get? c=some o:=fun c o c1 c2 c3 e=>
  get?_push_of_some _ (hs₃.extBut _ _ c3 (hs₂.extBut _ _ c2 (hs₁.extBut _ _ c1 e)))
 have hp:IsPair (h₃.push {cls:=.type "tuple",data:=.seq #[x,y]}) h₃.objs.size x y:=get?_push_size _ rfl
 rw[hsz]at hp⊢
 refine hQ _ (get?_push_of_some _ (hs₃.extBut _ _ D.i2z.symm (hs₂.extBut _ _ D.i1z.symm hz₁))) ?_ ?_ hp (by refine rr (size_push ..) (rr hsz ?_);rfl) up
 ·exact(h1₂.extBut hs₃.extBut D.i12).at fun o e=>get?_push_of_some _ e
 ·exact h2₃.at fun o e=>get?_push_of_some _ e
theorem KN{z TI TO T i1 i2 l1 l2:Addr}{b:Bool}{o:Obj}{k1 k2:Nat}{xs ys:Array Value}{Q:Fin→Shared→Prop}(hh:A.handled=none)(D:ZipApart z TI TO i1 i2 l1 l2)
 (hz:FM s.heap z TI TO T b) (hT:s.heap.get? T=some o) (hTI:IsPair s.heap TI (.ref i1) (.ref i2))
 (h1:s.heap.IsListIter i1 l1 k1) (h2:s.heap.IsListIter i2 l2 k2) (hl1:s.heap.IsList l1 xs) (hl2:s.heap.IsList l2 ys) (hend:xs[k1]?=none∨ys[k2]?=none)
 (hE:∀h' e,(∀c o,c≠z→c≠i1→c≠i2→s.heap.get? c=some o→h'.get? c=some o)→(∃o,h'.get? e=some o∧o.cls=.type "StopIteration")→E (.ref e) {s with heap:=h'}):
 wpAny (model O w) A (Builtin.«zip.__next__» ⟨[.ref z],[]⟩) Q E s:=by
 show wpAny _ _ (field (.ref z) 2>>=_) _ _ _
 refine wpAny_bind (wpAny_field hz rfl (x:=.bool false) rfl ?_)
 show wpAny _ _ (field (.ref z) 3>>=_) _ _ _
 refine wpAny_bind (wpAny_field hz rfl (x:=.ref TI) rfl ?_)
 refine wpAny_bind (wpAny_seqItems hTI rfl ?_)
 show wpAny _ _ (Builtin.SmallTypes.ownedTupleIsFree (.ref z)>>=_) _ _ _
 refine wpAny_bind (FN hz hT fun h₁ hz₁ hs₁=>?_)
 simp only[false_eq_true,if_false]
 refine wpAny_bind ?_
 simp only[List.forIn_toArray,forIn_cons,forIn_nil]
 refine wpAny_bind (wpAny_bind (wpAny_holding ?_))
 show wpAny _ _ (Builtin.SmallTypes.nextOf (.ref i1)>>=_) _ _ _
 cases hx:xs[k1]? with
 |none=>
  refine wpAny_bind (wpAny_nextOf_list_end hh (h1.extBut hs₁.extBut D.i1z) (hl1.extBut hs₁.extBut D.l1z) hx fun h₂ e hs₂ he=>?_)
  exact hE h₂ e (fun c o c1 c2 c3 x=>hs₂ _ _ c2 (hs₁.extBut _ _ c1 x)) he
 |some x=>
  have hy:ys[k2]?=none:=by rcases hend with h|h;rw[hx]at h;cases h;exact h
  refine wpAny_bind (wpAny_nextOf_list_item (h1.extBut hs₁.extBut D.i1z) (hl1.extBut hs₁.extBut D.l1z) hx fun h₂ h1₂ hs₂=>wpAny_pure (wpAny_pure ?_))
  refine wpAny_bind (wpAny_bind (wpAny_holding ?_))
  show wpAny _ _ (Builtin.SmallTypes.nextOf (.ref i2)>>=_) _ _ _
  refine wpAny_bind (wpAny_nextOf_list_end hh ((h2.extBut hs₁.extBut D.i2z).extBut hs₂.extBut D.i12.symm) ((hl2.extBut hs₁.extBut D.l2z).extBut hs₂.extBut D.l2i1) hy fun h₃ e hs₃ he=>?_)
  exact hE h₃ e (fun c o c1 c2 c3 x=>hs₃ _ _ c3 (hs₂.extBut _ _ c2 (hs₁.extBut _ _ c1 x))) he
end
theorem NQ:typeLookup (.type "zip") "__len__"=pure none:=by refine rr (typeLookup_type ..) (rr builtinLookup_eq_fast ?_);kernel_rfl
theorem LY:typeLookup (.type "zip") "__length_hint__"=pure none:=by refine rr (typeLookup_type ..) (rr builtinLookup_eq_fast ?_);kernel_rfl
section
variable{O:Program}{w:World}{A:Around}{E:Value→Shared→Prop}{s:Shared}
theorem Hc{z TI TO T i1 i2 l1 l2:Addr}{b:Bool}{o:Obj}{k1 k2:Nat}{xs ys:Array Value}{x y:Value}{Q:Option Value→Shared→Prop}(D:ZipApart z TI TO i1 i2 l1 l2)
 (hz:FM s.heap z TI TO T b) (hT:s.heap.get? T=some o) (hTI:IsPair s.heap TI (.ref i1) (.ref i2))
 (h1:s.heap.IsListIter i1 l1 k1) (h2:s.heap.IsListIter i2 l2 k2) (hl1:s.heap.IsList l1 xs) (hl2:s.heap.IsList l2 ys) (hx:xs[k1]?=some x) (hy:ys[k2]?=some y)
 (hQ:∀h',FM h' z TI TO T true→h'.IsListIter i1 l1 (k1+1)→h'.IsListIter i2 l2 (k2+1)→IsPair h' s.heap.objs.size x y→h'.objs.size=s.heap.objs.size+1→
  (∀c o,c≠z→c≠i1→c≠i2→s.heap.get? c=some o→h'.get? c=some o)→Q (some (.ref s.heap.objs.size)) {s with heap:=h'}):
 wpAny (model O w) A (pyNext (.ref z)) Q E s:=by
 have hZ:s.TypeIs (.ref z) "zip":=⟨_,hz,rfl⟩
 unfold pyNext
 exact wpAny_bind (wpAny_attempt (wpAny_callSpecial?_slot (name:=Str.ofString "__next__") hZ F.slot_zip_next
  (wpAny_call_entry F.slot_zip_next hZ F.entry_zip_next
   (JK D hz hT hTI h1 h2 hl1 hl2 hx hy fun h' a1 a2 a3 a4 a5 a6=>wpAny_pure (hQ h' a1 a2 a3 a4 a5 a6)) (F.args_zip_next_1 _))))
theorem HP{z TI TO T i1 i2 l1 l2:Addr}{b:Bool}{o:Obj}{k1 k2:Nat}{xs ys:Array Value}{Q:Option Value→Shared→Prop}(hh:A.handled=none)(D:ZipApart z TI TO i1 i2 l1 l2)
 (hz:FM s.heap z TI TO T b) (hT:s.heap.get? T=some o) (hTI:IsPair s.heap TI (.ref i1) (.ref i2))
 (h1:s.heap.IsListIter i1 l1 k1) (h2:s.heap.IsListIter i2 l2 k2) (hl1:s.heap.IsList l1 xs) (hl2:s.heap.IsList l2 ys) (hend:xs[k1]?=none∨ys[k2]?=none)
 (hQ:∀h',(∀c o,c≠z→c≠i1→c≠i2→s.heap.get? c=some o→h'.get? c=some o)→Q none {s with heap:=h'}):wpAny (model O w) A (pyNext (.ref z)) Q E s:=by
 have hZ:s.TypeIs (.ref z) "zip":=⟨_,hz,rfl⟩
 unfold pyNext
 refine wpAny_bind (wpAny_attempt (wpAny_callSpecial?_slot (name:=Str.ofString "__next__") hZ F.slot_zip_next
  (wpAny_call_entry F.slot_zip_next hZ F.entry_zip_next (KN hh D hz hT hTI h1 h2 hl1 hl2 hend fun h' e hk he=>?_) (F.args_zip_next_1 _))))
 obtain⟨o,ho,hc⟩:=he
 refine wpAny_bind (wpAny_isInstance (T:="StopIteration") (b:=true) ⟨o,ho,hc⟩ isSubtype_stop ?_)
 exact wpAny_pure (hQ _ hk)
end
structure ZSt(h:Heap)(z TI TO i1 i2 l1 l2:Addr)(xs ys:Array Value)(k:Nat):Prop where
 zip:IsZip h z TI TO .none∨∃T b o,FM h z TI TO T b∧h.get? T=some o
 ti:IsPair h TI (.ref i1) (.ref i2)
 to:∃a b,IsPair h TO a b
 it1:h.IsListIter i1 l1 k
 it2:h.IsListIter i2 l2 k
 ls1:h.IsList l1 xs
 ls2:h.IsList l2 ys
theorem ZSt.keep{h h':Heap}{z TI TO i1 i2 l1 l2 S:Addr}{xs ys:Array Value}{k:Nat}(Z:ZSt h z TI TO i1 i2 l1 l2 xs ys k)(hS:∃o,h'.get? S=some o)(nS:S∉[z,TI,TO,i1,i2,l1,l2])
 (k':∀b o,b≠S→h.get? b=some o→h'.get? b=some o):ZSt h' z TI TO i1 i2 l1 l2 xs ys k:=by
 obtain⟨h1,h2,⟨a,b,h3⟩,h4,h5,h6,h7⟩:=Z
 simp only[mem_cons,not_mem_nil,or_false,not_or]at nS
 obtain⟨n1,n2,n3,n4,n5,n6,n7⟩:=nS
 refine⟨?_,k' _ _ (Ne.symm n2) h2,⟨a,b,k' _ _ (Ne.symm n3) h3⟩,h4.at fun o e=>k' _ o (Ne.symm n4) e,h5.at fun o e=>k' _ o (Ne.symm n5) e,h6.at fun o e=>k' _ o (Ne.symm n6) e,h7.at fun o e=>k' _ o (Ne.symm n7) e⟩
 rcases h1 with h1|⟨T,b,o,h1,hT⟩
 ·exact .inl (k' _ _ (Ne.symm n1) h1)
 ·by_cases e:T=S
  ·obtain⟨o',ho'⟩:=hS
   exact .inr ⟨T,b,o',k' _ _ (Ne.symm n1) h1,e▸ho'⟩
  ·exact .inr ⟨T,b,o,k' _ _ (Ne.symm n1) h1,k' _ _ e hT⟩
section
variable{O:Program}{w:World}{A:Around}{E:Value→Shared→Prop}{s:Shared}
theorem ZSt.item{z TI TO i1 i2 l1 l2:Addr}{xs ys:Array Value}{k:Nat}{x y:Value}{Q:Option Value→Shared→Prop}(D:ZipApart z TI TO i1 i2 l1 l2)(Z:ZSt s.heap z TI TO i1 i2 l1 l2 xs ys k)
 (hx:xs[k]?=some x) (hy:ys[k]?=some y)
 (hQ:∀h',ZSt h' z TI TO i1 i2 l1 l2 xs ys (k+1)→IsPair h' s.heap.objs.size x y→h'.objs.size=s.heap.objs.size+1→(∀c o,c∉[z,TI,TO,i1,i2]→s.heap.get? c=some o→h'.get? c=some o)→Q (some (.ref s.heap.objs.size)) {s with heap:=h'}):
 wpAny (model O w) A (pyNext (.ref z)) Q E s:=by
 obtain⟨h1,h2,⟨a,b,h3⟩,h4,h5,h6,h7⟩:=Z
 rcases h1 with h1|⟨T,b,o,h1,hT⟩
 ·refine wpAny_pyNext_zip_item D h1 h2 h3 h4 h5 h6 h7 hx hy fun h' a1 a2 a3 a4 a5 a6 hk=>?_
  refine hQ h' ⟨.inr ⟨_,false,_,a1,a5⟩,hk _ _ D.TIz D.TITO D.TIi1 D.TIi2 h2,⟨_,_,a2⟩,a3,a4,h6.at fun o e=>hk _ o D.l1z D.l1TO D.l1i1 D.l1i2 e,h7.at fun o e=>hk _ o D.l2z D.l2TO D.l2i1 D.l2i2 e⟩ a5 a6 fun c o hc e=>?_
  simp only[mem_cons,not_mem_nil,or_false,not_or]at hc
  exact hk c o hc.1 hc.2.2.1 hc.2.2.2.1 hc.2.2.2.2 e
 ·refine Hc D h1 hT h2 h4 h5 h6 h7 hx hy fun h' a1 a3 a4 a5 a6 hk=>?_
  have hTz:∃o',h'.get? T=some o':=by
   by_cases e1:T=z
   ·exact⟨_,by refine rr e1 ?_;exact a1⟩
   by_cases e2:T=i1
   ·obtain⟨o',e,_⟩:=a3;exact⟨o',e2▸e⟩
   by_cases e3:T=i2
   ·obtain⟨o',e,_⟩:=a4;exact⟨o',e3▸e⟩
   exact⟨o,hk T o e1 e2 e3 hT⟩
  obtain⟨o',hT'⟩:=hTz
  refine hQ h' ⟨.inr ⟨T,true,o',a1,hT'⟩,hk _ _ D.TIz D.TIi1 D.TIi2 h2,⟨_,_,hk _ _ D.TOz D.TOi1 D.TOi2 h3⟩,a3,a4,h6.at fun o e=>hk _ o D.l1z D.l1i1 D.l1i2 e,h7.at fun o e=>hk _ o D.l2z D.l2i1 D.l2i2 e⟩ a5 a6 fun c o hc e=>?_
  simp only[mem_cons,not_mem_nil,or_false,not_or]at hc
  exact hk c o hc.1 hc.2.2.2.1 hc.2.2.2.2 e
theorem ZSt.done{z TI TO i1 i2 l1 l2:Addr}{xs ys:Array Value}{k:Nat}{Q:Option Value→Shared→Prop}(hh:A.handled=none)(D:ZipApart z TI TO i1 i2 l1 l2)(Z:ZSt s.heap z TI TO i1 i2 l1 l2 xs ys k)
 (hend:xs[k]?=none∨ys[k]?=none) (hQ:∀h',(∀c o,c∉[z,TI,TO,i1,i2]→s.heap.get? c=some o→h'.get? c=some o)→Q none {s with heap:=h'}):wpAny (model O w) A (pyNext (.ref z)) Q E s:=by
 obtain⟨h1,h2,⟨a,b,h3⟩,h4,h5,h6,h7⟩:=Z
 rcases h1 with h1|⟨T,b,o,h1,hT⟩
 ·refine wpAny_pyNext_zip_end hh D h1 h2 h3 h4 h5 h6 h7 hend fun h' hk=>hQ h' fun c o hc e=>?_
  simp only[mem_cons,not_mem_nil,or_false,not_or]at hc
  exact hk c o hc.1 hc.2.2.1 hc.2.2.2.1 hc.2.2.2.2 e
 ·refine HP hh D h1 hT h2 h4 h5 h6 h7 hend fun h' hk=>hQ h' fun c o hc e=>?_
  simp only[mem_cons,not_mem_nil,or_false,not_or]at hc
  exact hk c o hc.1 hc.2.2.2.1 hc.2.2.2.2 e
def ZW(h₁ h:Heap)(S:Addr)(xs ys:Array Value)(as:List Addr):Prop:=∀(j:Nat) (a:Addr),as[j]?=some a→∃x y,xs[j]?=some x∧ys[j]?=some y∧IsPair h a x y∧h₁.objs.size≤a
theorem Wj{R:Result→Shared→Prop}{S z TI TO i1 i2 l1 l2:Addr}{xs ys:Array Value}(hh:A.handled=none)(D:ZipApart z TI TO i1 i2 l1 l2)(nS:S∉[z,TI,TO,i1,i2,l1,l2])(hn:min xs.size ys.size≤sizeLine)(res:Value){h₁:Heap}
 (old:∀c∈[S,z,TI,TO,i1,i2],c<h₁.objs.size)
 (hR:∀h' tk acc c (as:List Addr),(∀b o,b∉[S,z,TI,TO,i1,i2]→h₁.get? b=some o→h'.get? b=some o)→h'.get? S=some {cls:=.type "list",dict:=none,data:=.seq acc c,slots:=#[]}→as.length=min xs.size ys.size→ZW h₁ h' S xs ys as→
  acc.toList=as.map Value.ref→R (.ok (.ret res)) {s with heap:=h',toks:=tk}):
 ∀(k i:Nat) (h:Heap) (tk c:Nat) (acc:Array Value) (as:List Addr),min xs.size ys.size-i=k→i≤min xs.size ys.size→ZSt h z TI TO i1 i2 l1 l2 xs ys i→(∀b o,b∉[S,z,TI,TO,i1,i2]→h₁.get? b=some o→h.get? b=some o)→h₁.objs.size≤h.objs.size→
  h.get? S=some {cls:=.type "list",dict:=none,data:=.seq acc c,slots:=#[]}→acc.toList=as.map Value.ref→as.length=i→ZW h₁ h S xs ys as→
  codeAny (model O w) A (.builtin "list.extend.loop" ⟨[.ref S,.ref z,res],[]⟩) R {s with heap:=h,toks:=tk}:=by
 have nS5:S∉[z,TI,TO,i1,i2]:=by
  simp only[mem_cons,not_mem_nil,or_false,not_or]at nS⊢
  exact⟨nS.1,nS.2.1,nS.2.2.1,nS.2.2.2.1,nS.2.2.2.2.1⟩
 intro k
 induction k with
 |zero=>
  intro i h tk c acc as hk hi hst hkeep hsz hS hacc hal hG
  refine codeAny_builtin PySem.F.entry_extend_loop ?_
  refine rr (Around.under_plainId PySem.F.plain_extend_loop _) ?_
  show wpAny _ A.in1 (pyNext (.ref z)>>=_) _ _ _
  have hend:xs[i]?=none∨ys[i]?=none:=by
   rcases le_total xs.size ys.size with q|q
   ·exact .inl (Array.getElem?_eq_none (by rw[min_eq_left q]at hk;exact le_of_sub_eq_zero hk))
   ·exact .inr (Array.getElem?_eq_none (by rw[min_eq_right q]at hk;exact le_of_sub_eq_zero hk))
  refine wpAny_bind (ZSt.done (s:={s with heap:=h,toks:=tk}) (A:=A.in1) hh D hst hend fun h' he=>?_)
  refine wpAny_pure (hR h' tk acc c as (fun b o h1 e=>he b o (fun q=>h1 (.tail _ q)) (hkeep b o h1 e)) (he S _ nS5 hS) (hal.trans (Nat.le_antisymm hi (le_of_sub_eq_zero hk))) (fun j a hj=>?_) hacc)
  obtain⟨x,y,e1,e2,e3,e4⟩:=hG j a hj
  exact⟨x,y,e1,e2,he a _ (fun q=>absurd (old a (.tail _ q)) (not_lt_of_le e4)) e3,e4⟩
 |succ k ih=>
  intro i h tk c acc as hk hi hst hkeep hsz hS hacc hal hG
  have hlt:i<min xs.size ys.size:=Nat.lt_of_sub_eq_succ hk
  have hix:i<xs.size:=lt_of_lt_of_le hlt (min_le_left ..)
  have hiy:i<ys.size:=lt_of_lt_of_le hlt (min_le_right ..)
  have hasz:acc.size=i:=by refine rl Array.length_toList (rr hacc ?_);refine rr (length_map ..) (rr hal ?_);rfl
  refine codeAny_builtin PySem.F.entry_extend_loop ?_
  refine rr (Around.under_plainId PySem.F.plain_extend_loop _) ?_
  show wpAny _ A.in1 (pyNext (.ref z)>>=_) _ _ _
  refine wpAny_bind (ZSt.item (s:={s with heap:=h,toks:=tk}) (A:=A.in1) D hst (Array.getElem?_eq_getElem hix) (Array.getElem?_eq_getElem hiy) fun h' hst' ht hz hkp=>?_)
  dsimp only at ht hz hkp⊢
  have hS':=hkp S _ nS5 hS
  have up:∀b o,b≠S→h'.get? b=some o→(h'.update S (Obj.mapSeq (·.push (Value.ref h.objs.size)))).get? b=some o:=fun b o hb e=>(get?_update_other _ _ (Ne.symm hb)).trans e
  have hSl:S<h.objs.size:=lt_size hS
  show wpAny _ A.in1 (updateSeq S (·.push (Value.ref h.objs.size))>>=_) _ _ _
  refine wpAny_bind ?_
  have hS2:=get?_update_self (Obj.mapSeq (·.push (Value.ref h.objs.size))) hS' rfl
  refine wpAny_updateSeq hS' rfl (wpAny_pure ⟨plainId_quiet PySem.F.plain_extend_loop _,ih (i+1) _ tk _ (acc.push (Value.ref h.objs.size)) (as++[h.objs.size]) (congrArg Nat.pred hk) hlt (hst'.keep ⟨_,hS2⟩ nS up)
   (fun b o h1 e=>up b o (fun q=>h1 (q▸ .head _)) (hkp b o (fun q=>h1 (.tail _ q)) (hkeep b o h1 e))) (by refine rr (size_update ..) ?_;show _≤h'.objs.size;exact BM hsz (le_of_eq hz.symm)) hS2 (by refine rr Array.toList_push ?_;refine rr hacc (rr map_append ?_);rfl) (by refine rr length_append (rr hal ?_);rfl) ?_⟩) (by refine rr hasz ?_;exact BM hn hi) (by show(acc.push (Value.ref h.objs.size)).size≤sizeLine+1;refine rr (Array.size_push ..) (rr hasz ?_);exact BM hn hi)
  intro j b hj
  rcases Nat.lt_trichotomy j as.length with h1|h1|h1
  ·rw[List.getElem?_append_left h1]at hj
   obtain⟨x,y,e1,e2,e3,e4⟩:=hG j b hj
   have nb:b∉[S,z,TI,TO,i1,i2]:=fun q=>absurd (old b q) (not_lt_of_le e4)
   exact⟨x,y,e1,e2,up b _ (fun q=>nb (q▸ .head _)) (hkp b _ (fun q=>nb (.tail _ q)) e3),e4⟩
  ·subst h1
   have hb:h.objs.size=b:=by simpa using hj
   subst hb
   exact⟨_,_,by refine rr hal ?_;exact Array.getElem?_eq_getElem hix,by refine rr hal ?_;exact Array.getElem?_eq_getElem hiy,up _ _ (Nat.ne_of_gt hSl) ht,hsz⟩
  ·have hnone:(as++[h.objs.size])[j]?=none:=List.getElem?_eq_none (by refine rr length_append (rr length_singleton ?_);exact Ac h1)
   rw[hnone]at hj;cases hj
theorem PZ{R:Result→Shared→Prop}{S z TI TO i1 i2 l1 l2:Addr}{xs ys:Array Value}(hh:A.handled=none)(D:ZipApart z TI TO i1 i2 l1 l2)(nS:S∉[z,TI,TO,i1,i2,l1,l2])(hn:min xs.size ys.size≤sizeLine)(res:Value)(c₀:Nat)
 (Z:ZSt s.heap z TI TO i1 i2 l1 l2 xs ys 0) (hz:IsZip s.heap z TI TO .none) (hS:s.heap.get? S=some {cls:=.type "list",data:=.seq #[] c₀})
 (hR:∀h' tk acc c (as:List Addr),(∀b o,b∉[S,z,TI,TO,i1,i2]→s.heap.get? b=some o→h'.get? b=some o)→h'.get? S=some {cls:=.type "list",dict:=none,data:=.seq acc c,slots:=#[]}→as.length=min xs.size ys.size→ZW s.heap h' S xs ys as→
  acc.toList=as.map Value.ref→R (.ok (.ret res)) {s with heap:=h',toks:=tk}):
 wpAny (model O w) A.in1 (Builtin.List.listExtendWith (.ref S) (.ref z) res)
  (fun fin s'=>match fin with| .done f=>R (.ok f) s' | .again c'=>c'.quiet=true∧codeAny (model O w) A c' R s') (fun e s'=>R (.error e) s') s:=by
 have hSz:S≠z:=fun q=>nS (q▸ .head _)
 unfold Builtin.List.listExtendWith
 refine wpAny_bind (wpAny_typeOf (T:="zip") ⟨_,hz,rfl⟩ ?_)
 have h1:Builtin.List.listSameRef (.ref S) (.ref z)=false:=by simp[Builtin.List.listSameRef,hSz]
 have h2:(Value.type "zip"==Value.type "list")=false:=by decide
 have h3:(Value.type "zip"==Value.type "tuple")=false:=by decide
 simp only[h1,h2,h3,Bool.or_false,false_eq_true,if_false]
 refine wpAny_bind (wpAny_pyIter_zip hz ?_)
 refine wpAny_bind (wpAny_holding ?_)
 unfold Builtin.List.listLengthHint
 refine wpAny_bind (wpAny_specialOf (T:="zip") ⟨_,hz,rfl⟩ NQ ?_)
 show wpAny _ A.in1 (specialOf (Value.ref z) (Str.ofString "__length_hint__")>>=_) _ _ _
 refine wpAny_bind (wpAny_specialOf (T:="zip") ⟨_,hz,rfl⟩ LY ?_)
 refine wpAny_pure ?_
 show wpAny _ A.in1 (rule "list.extend.makes-room">>=fun _=>Builtin.List.listTouch (.ref S)>>=fun _=>
  again (.builtin "list.extend.loop" ⟨[.ref S,.ref z,res],[]⟩)) _ _ _
 refine wpAny_bind (wpAny_rule ?_)
 refine wpAny_bind ?_
 show wpAny _ A.in1 (updateSeq S (·.push .none)>>=fun _=>updateSeq S (·.pop)) _ _ _
 refine wpAny_bind (wpAny_updateSeq hS rfl ?_)
 have hS₂:=get?_update_self (Obj.mapSeq (·.push Value.none)) hS rfl
 refine wpAny_updateSeq (hz:=by seq_fits) hS₂ rfl ?_
 have hS₃:=get?_update_self (Obj.mapSeq (·.pop)) hS₂ rfl
 have oth:∀b o,b≠S→s.heap.get? b=some o→((s.heap.update S (Obj.mapSeq (·.push Value.none))).update S (Obj.mapSeq (·.pop))).get? b=some o:=
  fun b o hb e=>(get?_update_other _ _ (Ne.symm hb)).trans ((get?_update_other _ _ (Ne.symm hb)).trans e)
 refine wpAny_pure ⟨plainId_quiet PySem.F.plain_extend_loop _,Wj (h₁:=s.heap) hh D nS hn res ?_ hR _ 0 _ _ _ #[] [] rfl (zero_le _) (Z.keep ⟨_,hS₃⟩ nS oth) (fun b o hb e=>oth b o (fun q=>hb (q▸ .head _)) e) (by refine rr (size_update ..) (rr (size_update ..) ?_);exact le_refl _) hS₃ rfl rfl (fun j a hj=>by simp at hj)⟩
 intro c hc
 obtain⟨z1,z2,⟨_,_,z3⟩,⟨_,z4,_⟩,⟨_,z5,_⟩,_,_⟩:=Z
 simp only[mem_cons,not_mem_nil,or_false]at hc
 rcases hc with rfl|rfl|rfl|rfl|rfl|rfl
 ·exact lt_size hS
 ·exact lt_size hz
 ·exact lt_size z2
 ·exact lt_size z3
 ·exact lt_size z4
 ·exact lt_size z5
theorem Wk{R:Result→Shared→Prop}{S z TI TO i1 i2 l1 l2:Addr}{xs ys:Array Value}(hh:A.handled=none)(D:ZipApart z TI TO i1 i2 l1 l2)(nS:S∉[z,TI,TO,i1,i2,l1,l2])(hn:min xs.size ys.size≤sizeLine)
 (Z:ZSt s.heap z TI TO i1 i2 l1 l2 xs ys 0) (hz:IsZip s.heap z TI TO .none) (hS:s.heap.get? S=some {cls:=.type "list",data:=.seq #[]})
 (hR:∀h' tk acc c (as:List Addr),(∀b o,b∉[S,z,TI,TO,i1,i2]→s.heap.get? b=some o→h'.get? b=some o)→h'.get? S=some {cls:=.type "list",dict:=none,data:=.seq acc c,slots:=#[]}→as.length=min xs.size ys.size→ZW s.heap h' S xs ys as→
  acc.toList=as.map Value.ref→R (.ok (.ret .none)) {s with heap:=h',toks:=tk}):
 wpAny (model O w) A.in1 (Builtin.«list.__init__» ⟨[.ref S,.ref z],[]⟩)
  (fun fin s'=>match fin with| .done f=>R (.ok f) s' | .again c'=>c'.quiet=true∧codeAny (model O w) A c' R s') (fun e s'=>R (.error e) s') s:=by
 show wpAny _ _ (do let old←Builtin.List.listItems (.ref S);Builtin.List.listUpdate (.ref S) (fun _=>#[]);letGo old.toList.reverse;Builtin.List.listExtendWith (.ref S) (.ref z) .none) _ _ s
 refine wpAny_bind ?_
 unfold Builtin.List.listItems
 refine wpAny_bind (wpAny_seqItems hS rfl (wpAny_pure ?_))
 show wpAny _ _ (updateSeq S (fun _=>#[])>>=fun _=>letGo (#[]:Array Value).toList.reverse>>=fun _=>Builtin.List.listExtendWith (.ref S) (.ref z) .none) _ _ s
 refine wpAny_bind (wpAny_updateSeq hS rfl ?_)
 have hS₂:=get?_update_self (Obj.mapSeq (fun _=>(#[]:Array Value))) hS rfl
 have oth:∀b o,b≠S→s.heap.get? b=some o→(s.heap.update S (Obj.mapSeq (fun _=>(#[]:Array Value)))).get? b=some o:=
  fun b o hb e=>(get?_update_other _ _ (Ne.symm hb)).trans e
 refine wpAny_bind (wpAny_letGo ?_)
 refine PZ (s:={s with heap:=s.heap.update S (Obj.mapSeq (fun _=>(#[]:Array Value)))}) hh D nS hn .none _ (Z.keep ⟨_,hS₂⟩ nS oth) (oth _ _ (fun q=>nS (q▸ .head _)) hz) hS₂ fun h' tk acc c as hk hS' hl hG hacc=>?_
 refine hR h' tk acc c as (fun b o hb e=>hk b o hb (oth b o (fun q=>hb (q▸ .head _)) e)) hS' hl (fun j a hj=>?_) hacc
 obtain⟨x,y,e1,e2,e3,e4⟩:=hG j a hj
 exact⟨x,y,e1,e2,e3,by have e4:=e4;dsimp only at e4;rw[size_update]at e4;exact e4⟩
theorem JL{z TI TO i1 i2 l1 l2:Addr}{xs ys:Array Value}{Q:Value→Shared→Prop}(hh:A.handled=none)(D:ZipApart z TI TO i1 i2 l1 l2)(hn:min xs.size ys.size≤sizeLine)
 (Z:ZSt s.heap z TI TO i1 i2 l1 l2 xs ys 0) (hz:IsZip s.heap z TI TO .none)
 (hQ:∀h' tk acc c (as:List Addr),(∀b o,b∉[z,TI,TO,i1,i2]→s.heap.get? b=some o→h'.get? b=some o)→h'.get? s.heap.objs.size=some {cls:=.type "list",dict:=none,data:=.seq acc c,slots:=#[]}→as.length=min xs.size ys.size→
  (∀(j:Nat) (a:Addr),as[j]?=some a→∃x y,xs[j]?=some x∧ys[j]?=some y∧IsPair h' a x y∧s.heap.objs.size<a)→acc.toList=as.map Value.ref→Q (.ref s.heap.objs.size) {s with heap:=h',toks:=tk}):
 wpAny (model O w) A (call (.type "list") [.ref z]) Q E s:=by
 refine callType_codes (Q₁:=fun obj s₁=>obj=.ref s.heap.objs.size∧s₁={s with heap:=s.heap.push {cls:=.type "list",data:=.seq #[]}}) PySem.F.called_list (PySem.F.typeCall_list_1 _) PySem.F.entry_list_init
  (code_list_new _ ⟨rfl,rfl⟩) fun obj s₁ h₁=>?_
 obtain⟨rfl,rfl⟩:=h₁
 have hS:(s.heap.push {cls:=.type "list",data:=.seq #[]}).get? s.heap.objs.size=some {cls:=.type "list",data:=.seq #[]}:=get?_push_size _ rfl
 have low:∀c∈[z,TI,TO,i1,i2,l1,l2],c<s.heap.objs.size:=by
  intro c hc
  obtain⟨z1,z2,⟨_,_,z3⟩,⟨_,z4,_⟩,⟨_,z5,_⟩,⟨_,z6,_⟩,⟨_,z7,_⟩⟩:=Z
  simp only[mem_cons,not_mem_nil,or_false]at hc
  rcases hc with rfl|rfl|rfl|rfl|rfl|rfl|rfl
  ·exact lt_size hz
  ·exact lt_size z2
  ·exact lt_size z3
  ·exact lt_size z4
  ·exact lt_size z5
  ·exact lt_size z6
  ·exact lt_size z7
 have nS:s.heap.objs.size∉[z,TI,TO,i1,i2,l1,l2]:=fun q=>lt_irrefl _ (low _ q)
 have up:∀b o,b≠s.heap.objs.size→s.heap.get? b=some o→(s.heap.push {cls:=.type "list",data:=.seq #[]}).get? b=some o:=fun b o _ e=>get?_push_of_some _ e
 refine⟨⟨_,hS,rfl⟩,PySem.F.args_list_init_2 _ _,Wk (A:=A.in1) hh D nS hn (Z.keep ⟨_,hS⟩ nS up) (get?_push_of_some _ hz) hS fun h' tk acc c as hk hS' hl hG hacc=>?_⟩
 refine⟨rfl,hQ h' tk acc c as (fun b o hb e=>hk b o (fun q=>?_) (get?_push_of_some _ e)) hS' hl (fun j a hj=>?_) hacc⟩
 ·rcases mem_cons.mp q with q|q
  ·exact absurd (lt_size e) (by refine rr q ?_;exact lt_irrefl _)
  ·exact hb q
 ·obtain⟨x,y,e1,e2,e3,e4⟩:=hG j a hj
  exact⟨x,y,e1,e2,e3,by dsimp only at e4;rw[size_push]at e4;exact Ac e4⟩
end
theorem FzL.of_get{g:BT}:∀{vs:List Value}{ds:List Dat},vs.length=ds.length→(∀(j:Nat) v d,vs[j]?=some v→ds[j]?=some d→Fz g v d)→FzL g vs ds:=by
 intro vs
 induction vs with
 |nil=>
  intro zz4
  rcases zz4 with _|⟨_,_⟩
  ·intro _ _
   exact .nil
  ·intro h _
   simp at h
 |cons v vs ih=>
  intro zz4
  rcases zz4 with _|⟨d,ds⟩
  ·intro h _
   simp at h
  ·intro h k
   exact .cons (k 0 v d rfl rfl) (ih (by simpa using h) fun j v' d' e1 e2=>k (j+1) v' d' (by simpa using e1) (by simpa using e2))
section
variable{O:Program}{w:World}{U:Heap}{K:Frag}{sc:Scope}{n:Nat}{st:St}
@[elab_as_elim] theorem YJ{g:BT}{motive:List Value→Prop}{vs:List Value}{xs ys:List Dat}(f:FzL g vs [.list xs,.list ys])(k:∀l1 v1 k1 l2 v2 k2,g l1 (seqObj "list" v1.toArray k1)→FzL g v1 xs→g l2 (seqObj "list" v2.toArray k2)→FzL g v2 ys→motive [.ref l1,.ref l2]):motive vs:=
 f.consP fun _ _ fa f=>f.consP fun _ _ fb f=>f.nilP (fa.listP fun _ _ _ h1 f1=>fb.listP fun _ _ _ h2 f2=>k _ _ _ _ _ _ h1 f1 h2 f2)
theorem Wl{g g':BT}{v1 v2:List Value}{xs ys:List Dat}{as:List Addr}(fx:FzL g v1 xs)(fy:FzL g v2 ys)(kv:∀b o,g b o→g' b o)(hl:as.length=(Jx xs ys).length)
 (G:∀(j:Nat) a,as[j]?=some a→∃x y,v1.toArray[j]?=some x∧v2.toArray[j]?=some y∧g' a (seqObj "tuple" #[x,y] 0)):FzL g' (as.map Value.ref) (Jx xs ys):=
 FzL.of_get (by refine rr (length_map ..) (rr hl ?_);rfl) fun j v d ev ed=>by
  rw[getElem?_map]at ev
  obtain⟨a,ea,rfl⟩:=map_eq_some_iff.mp ev
  obtain⟨dx,dy,ex,ey,rfl⟩:=MB ed
  obtain⟨u,ev1,fu⟩:=fx.get ex
  obtain⟨u2,ev2,fu2⟩:=fy.get ey
  obtain⟨x,y,e1,e2,hp⟩:=G j a ea
  obtain rfl:=Option.some.inj (ev1.symm.trans (getElem?_toArray.symm.trans e1))
  obtain rfl:=Option.some.inj (ev2.symm.trans (getElem?_toArray.symm.trans e2))
  exact .tuple (vs:=[u,u2]) (n:=0) hp (.cons (fu.mono kv) (.cons (fu2.mono kv) .nil))
theorem LZ{A:Around}{env:Env}{R as:List Addr}{s:Shared}{pos:Pos}{l1 l2:Addr}{k1 k2:Nat}{v1 v2:List Value}{xs ys:List Dat}{P:Value→Shared→Prop}(hh:A.handled=none)(r:Rel U R env st as s.heap)(hlt:∀b∈as,∃o,s.heap.get? b=some o)
 (o1:vis R as s.heap l1 (seqObj "list" v1.toArray k1)) (fx:FzL (vis R as s.heap) v1 xs) (o2:vis R as s.heap l2 (seqObj "list" v2.toArray k2)) (fy:FzL (vis R as s.heap) v2 ys) (hz:xs.length≤sizeLine)
 (fin:∀D h' tk,(∀b o,s.heap.get? b=some o→h'.get? b=some o)→s.heap.get? D=none→Rel U ([D]++R) env st as h'→Ct (vis ([D]++R) as h') h' (.ref D) (.lst (Jx xs ys)) [D]→P (.ref D) {s with heap:=h',toks:=tk}):
 wpAny (model O w) A (call (.type "zip") [.ref l1,.ref l2]) (fun v s₁=>wpAny (model O w) A (spliced (backTo pos (starEach [] env))) (fun vs s₂=>wpAny (model O w) A (call (.type "list") (v::vs)) P (fun _ _=>False) s₂) (fun _ _=>False) s₁) (fun _ _=>False) s:=by
 refine call_zip_2 (xs:=v1.toArray) (ys:=v2.toArray) ⟨_,o1.2.2,rfl,_,rfl⟩ ⟨_,o2.2.2,rfl,_,rfl⟩ fun h2 a1 a2 a3 a4 a5 a6 keep=>?_
 refine wpAny_items_nil ?_
 have lt1:=lt_size o1.2.2
 have lt2:=lt_size o2.2.2
 have hl:(Jx xs ys).length=min xs.length ys.length:=by unfold Jx;refine rr List.length_zipWith ?_;rfl
 have hmin:min v1.toArray.size v2.toArray.size=(Jx xs ys).length:=by refine rr hl ?_;refine rr size_toArray (rr size_toArray ?_);refine rr fx.length (rr fy.length ?_);rfl
 have low:∀k,s.heap.get? (s.heap.objs.size+k)=none:=fun k=>AL _ (le_add_right _ _)
 refine JL (s:={s with heap:=h2}) hh (Yg _ _ _ lt1 lt2) (by refine rr hmin (rr hl ?_);exact le_trans (min_le_left ..) hz) ⟨.inl a1,a2,⟨_,_,a3⟩,a4,a5,⟨_,keep _ _ o1.2.2,rfl,_,rfl⟩,⟨_,keep _ _ o2.2.2,rfl,_,rfl⟩⟩ a1 fun h3 tk acc c as3 hk hD hl3 hG hacc=>?_
 dsimp only at hk hD hG⊢
 have hk3:∀b o,s.heap.get? b=some o→h3.get? b=some o:=fun b o e=>hk b o (fun q=>by
  have off:∀k,b≠s.heap.objs.size+k:=fun k q=>Gj (low k) (q▸e)
  simp only[mem_cons,not_mem_nil,or_false]at q
  exact q.elim (off 4) fun q=>q.elim (off 2) fun q=>q.elim (off 3) fun q=>q.elim (off 0) (off 1)) (keep b o e)
 have hnD:s.heap.get? h2.objs.size=none:=AL _ (by refine rr a6 ?_;exact le_add_right _ _)
 obtain⟨r2,kv⟩:=r.laid (cs:=[h2.objs.size]) hk3 (fun b hb=>Ay hb▸⟨hnD,_,hD⟩) hlt
 obtain rfl:acc=(as3.map Value.ref).toArray:=toList_inj.mp hacc
 refine fin _ _ _ hk3 hnD r2 (.lst hD (Wl fx fy kv (hl3.trans hmin) fun j a ea=>?_))
 obtain⟨x,y,e1,e2,hp,hle⟩:=hG j a ea
 have na:s.heap.get? a=none:=AL _ (le_trans (by refine rr a6 ?_;exact le_add_right _ _) (Nat.le_of_lt hle))
 exact⟨x,y,e1,e2,fun q=>(mem_append.mp q).elim (fun q=>lt_irrefl _ (Ay q▸hle)) fun q=>BR na (r.inb a q),fun q=>BR na (hlt a q),hp⟩
theorem KO(S:Al O K U){x z:Str}{p p2 pos pos2:Pos}{e:Expr}{es:List Expr}{Q:AG→St→Prop}(g:GlB sc K x)(hv:bootBuiltins x=some (.type "list"))(gz:GlB sc K z)(hvz:bootBuiltins z=some (.type "zip"))
 (h:El O w U sc n (e::es) st fun ds st1=>∃xs ys,ds=[.list xs,.list ys]∧xs.length≤sizeLine∧Q (.lst (Jx xs ys)) st1)
 (he:autoParam (∀env,starEach (e::es) env=(false,eval e env)::starEach es env) au.a1._auto_1) (hp:autoParam (∀env,(backTo pos2 (starEach es env)).any (·.1)=false) au.a1._auto_1)
 (ho:autoParam (∀env,starEach [Expr.Call (.Name z p2) (e::es) [] pos2] env=(false,eval (Expr.Call (.Name z p2) (e::es) [] pos2) env)::starEach [] env) au.a1._auto_1):
 Ef O w U sc n (.Call (.Name x p) [.Call (.Name z p2) (e::es) [] pos2] [] pos) st Q:=by
 intro A env R as s hR hE r
 refine Call_Name rfl (GN S g hv hE r (PyProof.Rows.callWith_type1 (wpAny_items_cons ?_ (ho env)) (ho env)))
 refine Call_Name rfl (GN S gz hvz hE r (PyProof.Rows.callWith_type1 ?_ (he env) (hp env)))
 refine h.go hR hE r fun vs ds st1 as0 h1 t1 e0 r0 f0 qq=>?_
 obtain⟨xs,ys,rfl,hz,q⟩:=qq
 refine r0.trimP fun as1 sub hlt r1=>?_
 have e1:=e0.trans (Ah.less sub)
 refine YJ (FzL.mono (Ah.less sub).vis f0) fun l1 v1 k1 l2 v2 k2 o1 fx o2 fy=>?_
 exact LZ (s:={s with heap:=h1,toks:=t1}) hR.handled r1 hlt o1 fx o2 fy hz fun D h3 tk hk hn r2 rep=>⟨_,st1,as1,h3,tk,[D],rfl,e1.trans (Ah.grow _ hk),r2,rep,fun b hb=>Ay hb▸e1.live.none hn,q⟩
end
noncomputable section
noncomputable def FO(xs:List Stmt):List Nat→Stmt
 |[]=>.Pass default
 |i::is=>match is with
  |[]=>YI xs i
  |_=>FO (Bf (YI xs i)) is
noncomputable def Qa:Expr→List Expr×Scope
 | .Call _ es _ _=>(es,default)
 | .List es _=>(es,default)
 | .BoolOp _ es _=>(es,default)
 | .Compare l _ _ _=>([l],default)
 | .ListComp e gs s _=>(e::gs.flatMap fun g=>g.target::g.iter::g.ifs,s)
 |e=>([e],default)
noncomputable def aB(e:Expr):List Expr:=(Qa e).1
noncomputable def kid(e:Expr)(i:Nat):Expr:=(aB e).getD i e
noncomputable def Iu(L:List Str)(st:St):St:=st.filter fun p=>!(L.contains p.1)
noncomputable def JM{α:Type}(L:List Str)(r:Option (Res α)):Option (α×St×Ms):=match r with
 |some ⟨a,st,[],ms⟩=>some (a,Iu L st,ms)
 |_=>none
noncomputable def XD:Fl→Bool
 | .next=>true
 | .cont=>true
 |_=>false
section
variable(O:Program)(w:World)(U:Heap)(n:Nat)(sc:Scope)
noncomputable def goD(e:Expr):R Dat:=(VV O w U n 20).d sc e
noncomputable def goA(es:List Expr):R (List Dat):=(VV O w U n 20).a sc es
noncomputable def goE(e:Expr):R EV:=(VV O w U n 20).e sc e
noncomputable def goS(xs:List Stmt):R Fl:=IX (XX O w U n sc 20) xs
noncomputable def SO(t:Expr)(body:List Stmt):R Bool:=.bind ((VV O w U n 20).t sc t) fun c=>.cs c (.bind (goS O w U n sc body) fun fl=>.bind (.chk (XD fl)) fun _=>.pure true) (.pure false)
noncomputable def Wm(tgt:Expr)(body:List Stmt)(d:Dat):R Fl:=.bind (PC sc 3 tgt d) fun _=>goS O w U n sc body
noncomputable def Ma(tgt:Expr)(ifs:List Expr)(elt:Expr)(d:Dat):R (Option Dat):=.bind (PC sc 3 tgt d) fun _=>match ifs with
 |[]=>.bind (goD O w U n sc elt) fun y=>.pure (some y)
 |[c]=>.bind ((VV O w U n 20).t sc c) fun b=>.cs b (.bind (goD O w U n sc elt) fun y=>.pure (some y)) (.pure none)
 |_=>.fail
end
section
variable{O:Program}{w:World}{P:KF}{U:Heap}{n:Nat}{sc:Scope}{st st':St}{os:List Or}{ms:Ms}
theorem Do(S:Al O P.K U){e:Expr}{d:Dat}(h:goD O w U n sc e st os []=some ⟨d,st',[],ms⟩)(hm:AC ms){Q:Dat→St→Prop}(q:Q d st'):Ed O w U sc n e st Q:=(((KI S P.tab 20).d sc e).ok h hm).2 Q q
theorem Fa(S:Al O P.K U){es:List Expr}{ds:List Dat}(h:goA O w U n sc es st os []=some ⟨ds,st',[],ms⟩)(hm:AC ms){Q:List Dat→St→Prop}(q:Q ds st'):El O w U sc n es st Q:=((((KI S P.tab 20).a sc es).ok h hm).2 Q q).2
theorem AH(S:Al O P.K U){e:Expr}{d:EV}(h:goE O w U n sc e st os []=some ⟨d,st',[],ms⟩)(hm:AC ms){Q:EV→St→Prop}(q:Q d st'):Ev O w U sc n e st Q:=(((KI S P.tab 20).e sc e).ok h hm).2 Q q
theorem AB(S:Al O P.K U){xs:List Stmt}{fl:Fl}(h:goS O w U n sc xs st os []=some ⟨fl,st',[],ms⟩)(hm:AC ms){Q:Fl→St→Prop}(q:Q fl st'):Ss O w U sc n xs st Q:=((CH (LU S P.tab 20) xs).ok h hm).2 Q q
theorem HQ{fl:Fl}(h:XD fl=true){Q:Fl→St→Prop}{next:St→Prop}(q:next st):GO Q next fl st:=by
 cases fl<;>first|exact q|cases h
theorem MO(S:Al O P.K U)(t:Expr)(body:List Stmt):Aa (SO O w U n sc t body) fun st Q=>Et O w U sc n t st fun b st1=>(b=true→Ss O w U sc n body st1 fun fl st2=>XD fl=true∧Q true st2)∧(b=false→Q false st1):=
 Aa.bind ((KI S P.tab 20).t sc t) fun c=>Aa.cs c (Aa.bind (CH (LU S P.tab 20) body) fun fl=>Aa.bind (Aa.chk (XD fl)) fun _=>Aa.pure true) (Aa.pure false)
theorem Cy(S:Al O P.K U){t:Expr}{body:List Stmt}{Q:Fl→St→Prop}{N:Nat}(os:List Or)(q:Ce O w U sc n t body Q N st')(h:SO O w U n sc t body st os []=some ⟨true,st',[],ms⟩)(hm:AC ms):Ce O w U sc n t body Q (N+1) st:=
 Et.mono (((MO S t body).ok h hm).2 (fun b s=>b=true∧s=st') ⟨rfl,rfl⟩) fun _ _ h=>⟨fun e=>(h.1 e).mono fun _ _ k=>HQ k.1 (k.2.2▸q),fun e=>nomatch (h.2 e).1⟩
theorem Er(S:Al O P.K U){t:Expr}{body:List Stmt}{Q:Fl→St→Prop}{N:Nat}(os:List Or)(q:Q .next st')(h:SO O w U n sc t body st os []=some ⟨false,st',[],ms⟩)(hm:AC ms):Ce O w U sc n t body Q (N+1) st:=
 Et.mono (((MO S t body).ok h hm).2 (fun b s=>b=false∧s=st') ⟨rfl,rfl⟩) fun _ _ h=>⟨fun e=>(h.1 e).mono fun _ _ k=>(nomatch k.2.1),fun e=>(h.2 e).2▸q⟩
theorem MP(S:Al O P.K U)(tgt:Expr)(body:List Stmt)(d:Dat):Aa (Wm O w U n sc tgt body d) fun st Q=>As O w U sc n tgt d st fun st1=>Ss O w U sc n body st1 Q:=
 Aa.bind (DM 3 tgt d) fun _=>CH (LU S P.tab 20) body
theorem EH(L:List Str)(st:St):(Iu L st).Sublist st:=List.filter_sublist
theorem EI{α:Type}{L:List Str}{r:Option (Res α)}{a:α}{s:St}(h:JM L r=some (a,s,ms)):∃st',r=some ⟨a,st',[],ms⟩∧s=Iu L st':=by
 unfold JM at h
 split at h
 ·cases h;exact⟨_,rfl,rfl⟩
 ·cases h
theorem AD(S:Al O P.K U){tgt:Expr}{body:List Stmt}{Q:Fl→St→Prop}{d:Dat}{ds:List Dat}{fl:Fl}(L:List Str)(os:List Or)(q:Bc O w U sc n tgt body Q ds st')(h:JM L (Wm O w U n sc tgt body d st os [])=some (fl,st',ms))(hm:AC ms)(F:AP Q)(hf:autoParam (XD fl=true) au.a3._auto_1):Bc O w U sc n tgt body Q (d::ds) st:=by
 obtain⟨s,e,rfl⟩:=EI h
 exact((MP S tgt body d).ok e hm).2 _ (HQ hf (q.forget (EH L s) F))
set_option tactic.hygienic true in
theorem SP(S:Al O P.K U){rest:List Stmt}{Q:Fl→St→Prop}:∀(pre:List Stmt) {st:St}{os os':List Or}{ms0 ms:Ms},goS O w U n sc pre st os ms0=some ⟨Fl.next,st',os',ms⟩→AC ms→Ss O w U sc n rest st' Q→Ss O w U sc n (pre++rest) st Q:=by
 intro pre
 induction pre with
 |nil=>intro st os os' ms0 ms h _ q;cases h;exact q
 |cons x pre ih=>
  intro st os os' ms0 ms h hm q
  have h:R.bind (XX O w U n sc 20 x) (VT (goS O w U n sc pre)) st os ms0=_:=h
  unfold R.bind at h
  split at h
  ·rename_i fl s os1 ms1 e
   cases fl<;>first|cases h|skip
   have k:=((CH (LU (w:=w) (n:=n) (sc:=sc) S P.tab 20) pre).ok h hm).1
   exact Bm (((LU S P.tab 20 x).ok e k).2 _ (ih h hm q))
  ·cases h
theorem At(S:Al O P.K U){xs:List Stmt}{Q:Fl→St→Prop}(k:Nat)(L:List Str)(os:List Or)(h:JM L (goS O w U n sc (xs.take k) st os [])=some (Fl.next,st',ms))(hm:AC ms)(q:Ss O w U sc n (xs.drop k) st' Q):Ss O w U sc n xs st Q:=by
 obtain⟨s,e,rfl⟩:=EI h
 have:=SP (w:=w) (n:=n) S (rest:=xs.drop k) (Q:=Q) (xs.take k) e hm (q.forget (EH L s))
 rwa [List.take_append_drop]at this
theorem Fb(S:Al O P.K U){tgt iter:Expr}{body rest:List Stmt}{pos:Pos}{Q:Fl→St→Prop}{d:Dat}{ds:List Dat}(os:List Or)(h:goD O w U n sc iter st os []=some ⟨d,st',[],ms⟩)(hd:Fk d=some ds)(hm:AC ms)(q:Bc O w U sc n tgt body (GJ O w U sc n rest Q) ds st')(hs:autoParam (∀env x,foldedSetIterable iter env x=pure x) au.a5._auto_1):Ss O w U sc n (.For tgt iter body [] pos::rest) st Q:=
 Bm (EY (Ei (Do S h hm ⟨ds,hd,q⟩)) hs)
theorem Qb(S:Al O P.K U){x:Str}{p ip tp pos:Pos}{k:Nat}{e:Expr}{es elts:List Expr}{body rest:List Stmt}{Q:Fl→St→Prop}{xs ys:List Dat}(os:List Or)(h:goA O w U n sc (e::es) st os []=some ⟨[.list xs,.list ys],st',[],ms⟩)(hm:AC ms)(q:Bc O w U sc n (.Tuple elts k tp) body (GJ O w U sc n rest Q) (Jx xs ys) st')(g:GlB sc P.K x)(hv:bootBuiltins x=some (.type "zip"))(hs:Bn (e::es)=true):Ss O w U sc n (.For (.Tuple elts k tp) (.Call (.Name x p) (e::es) [] ip) body [] pos::rest) st Q:=
 Bm (EY (Wh S g hv (Fa S h hm ⟨xs,ys,rfl,q⟩) (BJ (Af hs).1 es) (CV (Af hs).2 ip)))
theorem JN(S:Al O P.K U)(tgt:Expr)(ifs:List Expr)(elt:Expr)(d:Dat):Aa (Ma O w U n sc tgt ifs elt d) fun st Q=>As O w U sc n tgt d st fun st1=>EtL O w U sc n ifs st1 fun b st2=>(b=true→Ed O w U sc n elt st2 fun y st3=>Q (some y) st3)∧(b=false→Q none st2):=by
 have E:Aa _ fun st Q=>Ed O w U sc n elt st fun y st3=>Q (some y) st3:=Aa.bind ((KI S P.tab 20).d sc elt) fun y=>Aa.pure (some y)
 rcases ifs with _|⟨c,_|⟨_,_⟩⟩
 ·exact Aa.imp (Aa.bind (DM 3 tgt d) fun _=>E) fun _ _ h=>As.mono h fun _ h=>⟨fun _=>h,fun e=>Bool.noConfusion e⟩
 ·exact Aa.imp (Aa.bind (DM 3 tgt d) fun _=>Aa.bind ((KI S P.tab 20).t sc c) fun b=>Aa.cs b E (Aa.pure none)) fun _ _ h=>h
 ·exact Aa.imp (Aa.bind (DM 3 tgt d) fun _=>(Aa.fail:Aa R.fail fun _ _=>False)) fun _ _ h=>As.mono h fun _ h=>h.elim
theorem Qc(S:Al O P.K U){tgt elt:Expr}{ifs:List Expr}{Q:List Dat→St→Prop}{d y:Dat}{ds acc:List Dat}(os:List Or)(q:Bh O w U sc n tgt ifs elt Q ds (acc++[y]) st')(h:Ma O w U n sc tgt ifs elt d st os []=some ⟨some y,st',[],ms⟩)(hm:AC ms)(hz:acc.length+1≤sizeLine):Bh O w U sc n tgt ifs elt Q (d::ds) acc st:=
 ((JN S tgt ifs elt d).ok h hm).2 (fun o s=>match o with
  |some y=>acc.length+1≤sizeLine∧Bh O w U sc n tgt ifs elt Q ds (acc++[y]) s
  |none=>Bh O w U sc n tgt ifs elt Q ds acc s) ⟨hz,q⟩
theorem Qd(S:Al O P.K U){tgt elt:Expr}{ifs:List Expr}{Q:List Dat→St→Prop}{d:Dat}{ds acc:List Dat}(os:List Or)(q:Bh O w U sc n tgt ifs elt Q ds acc st')(h:Ma O w U n sc tgt ifs elt d st os []=some ⟨none,st',[],ms⟩)(hm:AC ms)(hz:acc.length+1≤sizeLine):Bh O w U sc n tgt ifs elt Q (d::ds) acc st:=
 ((JN S tgt ifs elt d).ok h hm).2 (fun o s=>match o with
  |some y=>acc.length+1≤sizeLine∧Bh O w U sc n tgt ifs elt Q ds (acc++[y]) s
  |none=>Bh O w U sc n tgt ifs elt Q ds acc s) q
end
end
noncomputable def SQ(sc scope:Scope):Bool:=
 scope.names.all (fun y=>y.2!= .cell)&&(scope.kind== .function)&&scope.names.all (fun y=>y.2!= .local||scope.names.lookup y.1==some .local)&&Hv (By scope sc)
 &&(BX scope).all (fun x=>sc.names.lookup x==some .cell||sc.names.lookup x==some .free)&&(BX scope).all (fun x=>(By scope sc).names.lookup x==some .cell||(By scope sc).names.lookup x==some .free)
 &&(By scope sc).names.all (fun y=>(y.2!= .cell&&y.2!= .free)||(BX scope).contains y.1)&&(BX scope).all (fun x=>!DQ sc x||DQ (By scope sc) x)
theorem Bz.of{sc scope:Scope}(h:SQ sc scope=true):Bz sc scope:=by
 unfold SQ at h
 simp only[and_eq_true,all_eq_true,Bool.or_eq_true,bne_iff_ne,ne_eq,beq_iff_eq,List.contains_iff_mem,Bool.not_eq_true']at h
 obtain⟨⟨⟨⟨⟨⟨⟨h1,h2⟩,h3⟩,h4⟩,h5⟩,h6⟩,h7⟩,h8⟩:=h
 refine⟨h1,h2,fun y hy e=>(h3 y hy).resolve_left fun q=>q e,h4,h5,h6,fun y hy e=>(h7 y hy).resolve_left fun q=>?_,fun x hx e=>(h8 x hx).resolve_left fun q=>?_⟩
 ·rcases e with e|e
  ·exact q.1 e
  ·exact q.2 e
 ·rw[e]at q;cases q
theorem SR{O:Program}{w:World}{U:Heap}{sc:Scope}{n:Nat}{ifs:List Expr}{st:St}{Q Q':Bool→St→Prop}(h:EtL O w U sc n ifs st Q)(k:∀b st,Q b st→Q' b st):EtL O w U sc n ifs st Q':=by
 rcases ifs with _|⟨c,_|⟨_,_⟩⟩
 ·exact k _ _ h
 ·exact Et.mono h k
 ·exact h.elim
noncomputable def EQ(e:Expr):Expr:=kid e 0
noncomputable def ER(e:Expr):Expr:=kid e 1
noncomputable def ES(e:Expr):List Expr:=(aB e).drop 3
noncomputable def Lx(e:Expr):Scope:=(Qa e).2
theorem Qe{L:List Str}{x:Str}(h:L.contains x=false):∀s:St,look x (Iu L s)=look x s:=by
 intro s
 induction s with
 |nil=>
  exact rfl
 |cons hd r ih=>
  obtain⟨y,a⟩:=hd
  unfold Iu
  refine rr filter_cons ?_
  have ih:=ih
  by_cases e:x=y
  ·subst e
   refine rr h ?_
   simp[look]
  ·split
   ·simp only[look,if_neg e];exact ih
   ·simp only[look,if_neg e];exact ih
set_option tactic.hygienic true in
theorem AY{fr L:List Str}(h:fr.all (fun x=>!L.contains x)=true)(st s:St):EO fr st (Iu L s)=EO fr st s:=by
 unfold EO
 refine congrArg (fun f=>List.filterMap f st) (funext fun p=>?_)
 split
 ·rename_i c
  rewrite[Qe (BY (all_eq_true.mp h p.1 (List.contains_iff_mem.mp c)))];(with_reducible rfl)
 ·rfl
section
variable{O:Program}{w:World}{U:Heap}{sc:Scope}{n:Nat}{st st':St}
theorem Bh.drop{tgt elt:Expr}{ifs:List Expr}{Q:List Dat→St→Prop}{ds acc:List Dat}(h:Bh O w U sc n tgt ifs elt Q ds acc st')(k:st'.Sublist st)(hQ:Q acc st'→Q acc st):Bh O w U sc n tgt ifs elt Q ds acc st:=by
 rcases ds with _|⟨d,ds⟩
 ·exact hQ h
 ·exact As.forget h k
end
noncomputable section
section
variable(O:Program)(w:World)(U:Heap)(n:Nat)(sc:Scope)
noncomputable def JO(tgt:Expr)(ifs:List Expr)(elt:Expr):List Dat→List Dat→R (List Dat)
 |[],acc=>.pure acc
 |d::ds,acc=>.bind (Ma O w U n sc tgt ifs elt d) fun o=>match o with
  |some y=>JO tgt ifs elt ds (acc++[y])
  |none=>JO tgt ifs elt ds acc
end
section
variable{O:Program}{w:World}{P:KF}{U:Heap}{n:Nat}{sc:Scope}{st st':St}{os:List Or}{ms:Ms}
theorem NR(S:Al O P.K U)(tgt:Expr)(ifs:List Expr)(elt:Expr):∀(ds acc:List Dat),Aa (JO O w U n sc tgt ifs elt ds acc) fun st Q=>acc.length+ds.length≤sizeLine→Bh O w U sc n tgt ifs elt Q ds acc st:=by
 intro ds
 induction ds with
 |nil=>
  intro acc
  exact Aa.imp (Aa.pure acc) fun _ _ q _=>q
 |cons d ds ih=>
  intro acc
  refine Aa.imp (Aa.bind (JN S tgt ifs elt d) fun o=>(?_:Aa _ fun st Q=>acc.length+(ds.length+1)≤sizeLine→match o with
   |some y=>acc.length+1≤sizeLine∧Bh O w U sc n tgt ifs elt Q ds (acc++[y]) st
   |none=>Bh O w U sc n tgt ifs elt Q ds acc st)) fun st Q h hz=>?_
  ·rcases o with _|⟨y⟩
   ·exact Aa.imp (ih acc) fun _ _ h hz=>h (by exact Ac hz)
   ·exact Aa.imp (ih (acc++[y])) fun _ _ h hz=>⟨by exact Ac hz,h (by refine rr length_append (rr length_singleton ?_);exact Ac hz)⟩
  ·exact As.mono h fun _ h=>SR h fun b st2 k=>⟨fun e=>Ed.mono (k.1 e) fun y st3 q=>q hz,fun e=>k.2 e hz⟩
theorem FP(S:Al O P.K U){tgt elt:Expr}{ifs:List Expr}{Q:List Dat→St→Prop}{ds acc:List Dat}(os:List Or)(h:JO O w U n sc tgt ifs elt ds [] st os []=some ⟨acc,st',[],ms⟩)(hm:AC ms)(hz:Nat.ble ds.length 1000=true)(q:Q acc st'):Bh O w U sc n tgt ifs elt Q ds [] st:=
 ((NR S tgt ifs elt ds []).ok h hm).2 Q q (le_trans (le_of_eq (zero_add _)) (le_trans (le_of_ble_eq_true hz) (by decide)))
theorem Ss.at{xs:List Stmt}{Q:Fl→St→Prop}(s:St)(q:Ss O w U sc n xs s Q)(e:st=s):Ss O w U sc n xs st Q:=e▸q
theorem Gs(S:Al O P.K U){y:Str}{py spos pos:Pos}{elt tgt iter:Expr}{ifs:List Expr}{scope:Scope}{rest:List Stmt}{Q:Fl→St→Prop}{d:Dat}{ds:List Dat}(s0:St)(os:List Or)(h:goD O w U n sc iter st os []=some ⟨d,st',[],ms⟩)(hd:Fk d=some ds)(hm:AC ms)
 (q:Bh O w U (By scope sc) n tgt ifs elt (fun acc stI=>Ss O w U sc n rest (put y (.lst acc) (EO (BX scope) st' stI)) Q) ds [] s0) (hk:Iv (BX scope) st'=s0)
 (ok:SQ sc scope=true) (hy:BN sc y=true) (hsw:∀env,env.scope=sc→swapsWith (.ListComp elt [⟨tgt,iter,ifs,0⟩] scope pos) (some (.Name y py)) spos.line env=pure true)
 (hs:autoParam (∀env x,foldedSetIterable iter env x=pure x) au.a5._auto_1):Ss O w U sc n (.Assign [.Name y py] (.ListComp elt [⟨tgt,iter,ifs,0⟩] scope pos) spos::rest) st Q:=
 Bm (Dt (Bz.of ok) (Ei (Do S h hm ⟨ds,hd,hk▸q⟩)) hy hsw hs)
theorem AZ(S:Al O P.K U){tgt elt:Expr}{ifs:List Expr}{Q:List Dat→St→Prop}{d y:Dat}{ds acc:List Dat}(L:List Str)(os:List Or)(q:Bh O w U sc n tgt ifs elt Q ds (acc++[y]) st')(h:JM L (Ma O w U n sc tgt ifs elt d st os [])=some (some y,st',ms))(hm:AC ms)(hz:acc.length+1≤sizeLine)(F:∀acc s,Q acc (Iu L s)→Q acc s):Bh O w U sc n tgt ifs elt Q (d::ds) acc st:=by
 obtain⟨s,e,rfl⟩:=EI h
 exact Qc S os (q.drop (EH L s) (F _ s)) e hm hz
theorem EJ{tgt:Expr}{body:List Stmt}{Q:Fl→St→Prop}{d:Dat}{ds:List Dat}(h:PC sc 3 tgt d st [] []=some ⟨(),st',[],[]⟩)(q:Ss O w U sc n body st' (GO Q (Bc O w U sc n tgt body Q ds))):Bc O w U sc n tgt body Q (d::ds) st:=((DM 3 tgt d).ok h .nil).2 (fun _ s=>Ss O w U sc n body s _) q
theorem CB(S:Al O P.K U){tgt:Expr}{xs body:List Stmt}{Q:Fl→St→Prop}{ds:List Dat}{fl:Fl}(L:List Str)(os:List Or)(q:Bc O w U sc n tgt body Q ds st')(h:JM L (goS O w U n sc xs st os [])=some (fl,st',ms))(hm:AC ms)(F:AP Q)(hf:autoParam (XD fl=true) au.a3._auto_1):Ss O w U sc n xs st (GO Q (Bc O w U sc n tgt body Q ds)):=by
 obtain⟨s,e,rfl⟩:=EI h
 exact AB S e hm (HQ hf (q.forget (EH L s) F))
end
end
theorem IZ(n:Nat):Builtin.Range.rangeSize 0 (n:Int) 1=n:=by
 unfold Builtin.Range.rangeSize
 simp
 lia
theorem NS(n:Nat):Cm 0 1 (Builtin.Range.rangeSize 0 (n:Int) 1).toNat=(List.range n).map fun i:Nat=>.int (i:Int):=by
 refine rr (IZ ..) ?_
 unfold Cm
 refine map_congr_left fun i _=>?_
 simp
theorem Mb{n:Nat}(h:n≤1000000):Builtin.Range.small 0 (n:Int) 1=true:=by
 unfold Builtin.Range.small Builtin.Range.rangeFitsLong
 refine rr (IZ ..) ?_
 simp
 omega
theorem Wn{a b:Bool}:Bo (.bool a)∧Bo (.bool b):=⟨IV a,IV b⟩
theorem aD{a b:Pt}:Bo (pD a)∧Bo (pD b):=⟨(Pk a).plain,(Pk b).plain⟩
theorem YK{a b:Str}(ha:PyData.strOk a=true)(hb:PyData.strOk b=true):Bo (.str a)∧Bo (.str b):=⟨(Ph ha).plain,(Ph hb).plain⟩
theorem au.b(h:True:=by
 repeat' with_reducible first
 |assumption|exact Bd.num|apply Bd.add|apply Bd.sub|apply Bd.mul|apply Bd.neg|apply Bd.divI|apply Bd.rootI):True:=trivial
theorem YL{k l:Nat}{a b:Int}(ha:autoParam (Bd k a) au.b._auto_1)(hb:autoParam (Bd l b) au.b._auto_1)(h:autoParam (((k+l:Nat):Int)≤bitsLine) au.a4._auto_1):AT a b:=Ae ha hb h
theorem obA{p:Prop}{ms:Ms}(k:AC ms)(h:p:=by
 first
 |with_reducible first|assumption|exact Fm
 |assumption|exact JA
 |exact le_of_ble_eq_true rfl
 |exact .of_left (by decide)|exact .of_right (by decide)
 |exact Wn|exact aD|exact YK (by kernel_rfl) (by kernel_rfl)
 |exact rfl|exact⟨rfl,rfl⟩|(intro env h;cases env;dsimp only at h;subst h;exact⟨by rfl,by kernel_rfl⟩)|(show Cv _ _ _;exact YL)):AC (p::ms):=.cons h k
theorem obN:AC []:=.nil
theorem obC{p:Prop}{ms:Ms}(h:p)(k:AC ms):AC (p::ms):=.cons h k
theorem obs{ms:Ms}(h:AC ms:=by repeat' first|exact obN|refine obA ?_|apply obC):AC ms:=h
section
variable{O:Program}{w:World}{P:KF}{U:Heap}{n:Nat}{sc:Scope}{st st':St}{ms:Ms}
theorem DF(S:Al O P.K U){x:Str}{p pos:Pos}{e tgt:Expr}{es:List Expr}{Q:List Dat→St→Prop}{k:Nat}(os:List Or)(h:goA O w U n sc (e::es) st os []=some ⟨[.int k],st',[],ms⟩)(hm:AC ms)(hk:k≤1000000)(q:Q ((List.range k).map fun i:Nat=>.int (i:Int)) st')
 (g:GlB sc P.K x) (hv:bootBuiltins x=some (.type "range")) (hs:Bn (e::es)=true):Es O w U sc n (.Call (.Name x p) (e::es) [] pos) tgt st Q:=
 FC S g hv (Fa S h hm ⟨0,k,1,.one _,by decide,Mb hk,(NS k).symm▸q⟩) (BJ (Af hs).1 es) (CV (Af hs).2 pos)
theorem Qf(S:Al O P.K U){x:Str}{p ip tp pos:Pos}{k j:Nat}{e:Expr}{Q:Fl→St→Prop}(d:Dat)(os:List Or)(h:goD O w U n sc e st os []=some ⟨d,st',[],ms⟩)(hm:AC ms){ds:List Dat}{st2:St}(q:Q .next st2)(hx:look x st'=some (.lst ds)∧st2=put x (.lst (ds.set j d)) st')(hj:autoParam (Nat.blt j ds.length=true) au.a3._auto_1)
 (hd:autoParam ((x==("__debug__":Str))=false) au.a2._auto_1) (hc:autoParam ((x==("__classdict__":Str))=false) au.a2._auto_1) (hf:autoParam ((j:Int)<2^63) au.a4._auto_1)
 (hw:autoParam (∀env,swapsWith e (some (.Subscript (.Name x p) (.Constant (.int j) k ip) tp)) pos.line env=pure false) au.a1._auto_1):
 Sx O w U sc n (.Assign [.Subscript (.Name x p) (.Constant (.int j) k ip) tp] e pos) st Q:=
 IJ S (Do S h hm ⟨ds,hx.1,le_of_ble_eq_true hj,hf,hx.2▸q⟩) hd hc hw
end
noncomputable def DG(a b:Int):Int:=
 let q:=(2*(if a<0 then-a else a)+(if b<0 then-b else b)).fdiv (2*(if b<0 then-b else b))
 if decide (a<0)==decide (b<0)then q else-q
noncomputable def Oz(a b:Int):Int:=if decide (b<0)then DG (-a) (-b)else DG a b
noncomputable def XE(a b c d e f:Int):Dat:=.list [.int a,.int b,.int c,.int d,.int e,.int f]
section
variable{O:Program}{w:World}{P:KF}{U:Heap}{n:Nat}
theorem Cp(S:Al O P.K U){a b:Int}(hb:b≠0):FnP O w U (n+1) 54 [.int a,.int b] (· =.int (DG a b)):=by
 have h:(2:Int)*(if b<0 then-b else b)≠0:=by split<;>lia
 unfold DG
 cases hc:decide (a<0)==decide (b<0)
 ·refine FnP.go S (IY P) rfl [.br false] rfl ?_
  repeat' first|exact obN|refine obA ?_|apply obC
 ·refine FnP.go S (IY P) rfl [.br true] rfl ?_
  repeat' first|exact obN|refine obA ?_|apply obC
theorem DH(S:Al O P.K U){a b:Int}(hb:b≠0):FnP O w U (n+2) 61 [.int a,.int b] (· =.int (Oz a b)):=by
 have h1:=Cp (w:=w) (n:=n) S hb (a:=a)
 have h2:=Cp (w:=w) (n:=n) S (b:= -b) (fun e=>hb (Int.neg_eq_zero.mp e)) (a:= -a)
 unfold Oz
 cases hc:decide (b<0)
 ·refine FnP.go S (Dm P) rfl [.br false,.val _] rfl ?_
  repeat' first|exact obN|refine obA ?_|apply obC
 ·refine FnP.go S (Dm P) rfl [.br true,.val _] rfl ?_
  repeat' first|exact obN|refine obA ?_|apply obC
theorem JP(S:Al O P.K U){a b c d e f:Int}(h1:AT a d)(h2:AT b c):FnP O w U (n+1) 68 [XE a b c d e f] (· =.int (a*d-b*c)):=by
 refine FnP.go S (Iw P) rfl [.val (.int a),.val (.int d),.val (.int b),.val (.int c)] rfl ?_
 repeat' first|exact obN|refine obA ?_|apply obC
theorem Fc(S:Al O P.K U){a b c d e f:Int}(h1:AT a d)(h2:AT b c)(hd:a*d-b*c≠0):FnP O w U (n+2) 75 [XE a b c d e f] (· =.int (a*d-b*c)):=by
 have h:=JP (w:=w) (n:=n) (e:=e) (f:=f) S h1 h2
 have hd':=decide_eq_false hd
 refine FnP.go S (HG P) rfl [.val (.int (a*d-b*c)),.br false] rfl ?_
 repeat' first|exact obN|refine obA ?_|apply obC
theorem Mc(S:Al O P.K U){a b c d e f x y:Int}(h1:AT a x)(h2:AT c y)(h3:AT b x)(h4:AT d y):
 FnP O w U (n+2) 82 [XE a b c d e f,.int x,.int y] (· =.tuple [.int (DG (a*x+c*y) 1000000+e),.int (DG (b*x+d*y) 1000000+f)]):=by
 have k:=fun z=>Cp (w:=w) (n:=n) S (a:=z) (b:=1000000) (by decide)
 refine FnP.go S (KJ P) rfl [.val (.int a),.val (.int c),.val (.int (DG (a*x+c*y) 1000000)),.val (.int e),.val (.int b),.val (.int d),.val (.int (DG (b*x+d*y) 1000000)),.val (.int f)] rfl ?_
 repeat' first|exact obN|refine obA ?_|apply obC
 ·exact k _
 ·exact k _
structure YM(a b c d x y:Int):Prop where
 ad:AT a d
 bc:AT b c
 dx:AT d x
 cy:AT c y
 ay:AT a y
 bx:AT b x
theorem HR(S:Al O P.K U){a b c d e f x y:Int}(M:YM a b c d x y)(hd:a*d-b*c≠0):
 FnP O w U (n+3) 89 [XE a b c d e f,.int x,.int y] (· =.tuple [.int (Oz ((d*x-c*y)*1000000) (a*d-b*c)),.int (Oz ((a*y-b*x)*1000000) (a*d-b*c))]):=by
 have m1:=M.dx
 have m2:=M.cy
 have m3:=M.ay
 have m4:=M.bx
 have m5:=Fc (w:=w) (n:=n) (e:=e) (f:=f) S M.ad M.bc hd
 refine FnP.go S (GY P) rfl [.val (.int (a*d-b*c)),.val (.int d),.val (.int c),.val (.int (Oz ((d*x-c*y)*1000000) (a*d-b*c))),.val (.int a),.val (.int b),.val (.int (Oz ((a*y-b*x)*1000000) (a*d-b*c)))] rfl ?_
 repeat' first|exact obN|refine obA ?_|apply obC
 ·exact DH S hd
 ·exact DH S hd
theorem Fp(S:Al O P.K U){a b c d e f x y:Int}(M:YM a b c d (x-e) (y-f))(hd:a*d-b*c≠0):
 FnP O w U (n+4) 96 [XE a b c d e f,.int x,.int y] (· =.tuple [.int (Oz ((d*(x-e)-c*(y-f))*1000000) (a*d-b*c)),.int (Oz ((a*(y-f)-b*(x-e))*1000000) (a*d-b*c))]):=by
 refine FnP.go S (EP P) rfl [.val (.int e),.val (.int f),.val _] rfl ?_
 repeat' first|exact obN|refine obA ?_|apply obC
 exact HR S M hd
end
def Ja(x k:Int):Prop:=(x<2→k=x)∧(2≤x→0<k∧k*k≤x∧x<(k+1)*(k+1))
theorem HS(x:Int):∃k,Ja x k:=by
 have nat:∀n:Nat,∃k:Nat,k*k≤n∧n<(k+1)*(k+1):=by
  intro n
  induction n with
  |zero=>exact⟨0,by decide,by decide⟩
  |succ n ih=>
   obtain⟨k,h1,h2⟩:=ih
   by_cases h:n+1<(k+1)*(k+1)
   ·exact⟨k,by exact Ac h1,h⟩
   ·refine⟨k+1,by exact Ac (le_of_not_lt h),?_⟩
    have:(k+1+1)*(k+1+1)=(k+1)*(k+1)+2*(k+1)+1:=by
     refine rr (Nat.add_mul ..) (rr (Nat.mul_add ..) ?_);exact DX
    exact BM h2 (le_of_eq this.symm)
 by_cases hx:x<2
 ·exact⟨x,fun _=>rfl,fun h=>by omega⟩
 ·obtain⟨k,h1,h2⟩:=nat x.toNat
  have hk:0<k:=by
   rcases Nat.eq_zero_or_pos k with h|h
   ·subst h;lia
   ·exact h
  refine⟨k,fun h=>by lia,fun _=>⟨by lia,?_,?_⟩⟩
  ·have:((k*k:Nat):Int)≤x:=by omega
   simpa using this
  ·have:x<(((k+1)*(k+1):Nat):Int):=by omega
   simpa using this
noncomputable def CP(x:Int):Int:=(HS x).choose
theorem Br(x:Int):Ja x (CP x):=(HS x).choose_spec
theorem Ja.unique{x k l:Int}(h:Ja x k)(h':Ja x l):k=l:=by
 by_cases hx:x<2
 ·refine rr (h.1 hx) (rr (h'.1 hx) ?_);rfl
 ·obtain⟨a1,a2,a3⟩:=h.2 (by exact Ab (not_lt.mp hx))
  obtain⟨b1,b2,b3⟩:=h'.2 (by exact Ab (not_lt.mp hx))
  have m:∀p q:Int,0<p→0<q→p*p<(q+1)*(q+1)→p≤q:=by
   intro p q hp hq h
   rcases Int.lt_or_le q p with hlt|hge
   ·exfalso
    have h1:(q+1)*(q+1)≤p*p:=Int.mul_le_mul (by exact Ab hlt) (by exact Ab hlt) (by exact Ab hq) (by exact Ab hp)
    exact(absurd (Bb h h1:(1:Int)≤0) (by decide))
   ·exact hge
  exact le_antisymm (m k l a1 b1 (by exact Bb a2 b3)) (m l k b1 a1 (by exact Bb a3 b2))
theorem SS{x:Int}(hx:0≤x):0≤CP x∧CP x≤x:=by
 by_cases h:x<2
 ·refine rr ((Br x).1 h) ?_;exact⟨(Ab hx),DX⟩
 ·obtain⟨a1,a2,a3⟩:=(Br x).2 (by exact Ab (not_lt.mp h))
  refine⟨by exact Ab a1,Int.le_trans ?_ a2⟩
  have:=Int.mul_le_mul_of_nonneg_left (show 1≤CP x by exact Ab a1) (show 0≤CP x by exact Ab a1)
  exact Ab this
theorem FQ{x:Int}(hx:0<x):0<CP x:=by
 by_cases h:x<2
 ·refine rr ((Br x).1 h) ?_;omega
 ·exact((Br x).2 (by exact Ab (not_lt.mp h))).1
section
variable{O:Program}{w:World}{P:KF}{U:Heap}{n:Nat}
noncomputable def Us(x lo hi:Int)(tl:St):St:=("number",.dat (.int x))::("low",.dat (.int lo))::("high",.dat (.int hi))::tl
noncomputable def rtX(k:Nat):Stmt:=FO (AQ 110) [k]
theorem aE{a x:Int}(h1:1≤a)(h2:a≤x):(a*2).natAbs≤2*x.natAbs:=by omega
theorem YN{a b:Int}(h:a+1<b):a<(a+b).fdiv 2∧(a+b).fdiv 2<b:=by
 refine rr (fdiv_eq_ediv_of_nonneg _ (by decide)) ?_;omega
theorem Wo(S:Al O P.K U){x:Int}(hx:Bd 1000 x):∀(N:Nat) (lo hi:Int),(x+1-lo).toNat<N→1≤lo→lo*lo≤x→hi=lo*2→∃lo',1≤lo'∧lo'≤x∧lo'*lo'≤x∧x<(lo'*2)*(lo'*2)∧
 ∀Q,Q .next (Us x lo' (lo'*2) [])→Ce O w U (scC 110) n (Ap (rtX 2)) (Bf (rtX 2)) Q N (Us x lo hi []):=by
 intro N
 induction N with
 |zero=>intro lo hi hN;exact absurd hN (Nat.not_lt_zero _)
 |succ N ih=>
  intro lo hi hN h1 h2 e
  subst e
  have lox:lo≤x:=Int.le_trans (by have:=Int.mul_le_mul_of_nonneg_left h1 (show 0≤lo by exact Ab h1);exact Ab this) h2
  have hm:AT (lo*2) (lo*2):=Ae (hx.twice (aE h1 lox)) (hx.twice (aE h1 lox))
  by_cases hc:(lo*2)*(lo*2)≤x
  ·obtain⟨lo',k1,k2,k3,k4,k5⟩:=ih (lo*2) _ (US hN (by exact Ab lox) (by exact Ab h1)) (by exact Bb h1 h1) hc rfl
   refine⟨lo',k1,k2,k3,k4,fun Q q=>Cy S [.br true] (k5 Q q) rfl ?_⟩
   have hc:=decide_eq_true hc
   repeat' first|exact obN|refine obA ?_|apply obC
  ·refine⟨lo,h1,lox,h2,by exact Ab (not_le.mp hc),fun Q q=>Er S [.br false] q rfl ?_⟩
   have hc:=decide_eq_false hc
   repeat' first|exact obN|refine obA ?_|apply obC
theorem Wp(S:Al O P.K U){x:Int}:∀(N:Nat) (lo hi:Int) (tl:St),(tl=[]∨∃d:AG,tl=[(("middle":Str),d)])→(hi-lo).toNat<N→1≤lo→Bd 1001 hi→lo*lo≤x→x<hi*hi→lo<hi→∃lo' tl',(tl'=[]∨∃d:AG,tl'=[(("middle":Str),d)])∧1≤lo'∧lo'*lo'≤x∧x<(lo'+1)*(lo'+1)∧
 ∀Q,Q .next (Us x lo' (lo'+1) tl')→Ce O w U (scC 110) n (Ap (rtX 3)) (Bf (rtX 3)) Q N (Us x lo hi tl):=by
 intro N
 induction N with
 |zero=>intro lo hi tl ht hN;exact absurd hN (Nat.not_lt_zero _)
 |succ N ih=>
  intro lo hi tl ht hN h1 hbd h2 hh hl
  have hm:(lo+hi).fdiv 2=(lo+hi)/2:=fdiv_eq_ediv_of_nonneg _ (by decide)
  by_cases hc:lo+1<hi
  ·obtain⟨b1,b2⟩:=YN hc
   have hbm:Bd 1001 ((lo+hi).fdiv 2):=hbd.le (Hd (by exact Bb h1 b1) (le_of_lt b2))
   have hmm:AT ((lo+hi).fdiv 2) ((lo+hi).fdiv 2):=Ae hbm hbm
   have hc:=decide_eq_true hc
   have two:(2:Int)≠0:=by decide
   by_cases hq:(lo+hi).fdiv 2*(lo+hi).fdiv 2≤x
   ·obtain⟨lo',tl',k1,k2,k3,k4,k5⟩:=ih ((lo+hi).fdiv 2) hi [("middle",.dat (.int ((lo+hi).fdiv 2)))] (.inr ⟨_,rfl⟩) (US hN (Int.sub_pos_of_lt hl) (by exact Ab b1)) (by exact Bb h1 b1) hbd hq hh b2
    have hq:=decide_eq_true hq
    refine⟨lo',tl',k1,k2,k3,k4,fun Q q=>?_⟩
    rcases ht with rfl|⟨d,rfl⟩
    ·refine Cy S [.br true,.br true] (k5 Q q) rfl ?_
     repeat' first|exact obN|refine obA ?_|apply obC
    ·refine Cy S [.br true,.br true] (k5 Q q) rfl ?_
     repeat' first|exact obN|refine obA ?_|apply obC
   ·obtain⟨lo',tl',k1,k2,k3,k4,k5⟩:=ih lo ((lo+hi).fdiv 2) [("middle",.dat (.int ((lo+hi).fdiv 2)))] (.inr ⟨_,rfl⟩) (US hN (Int.sub_pos_of_lt hl) (by exact Ab b2)) h1 hbm h2 (by exact Ab (not_le.mp hq)) b1
    have hq:=decide_eq_false hq
    refine⟨lo',tl',k1,k2,k3,k4,fun Q q=>?_⟩
    rcases ht with rfl|⟨d,rfl⟩
    ·refine Cy S [.br true,.br false] (k5 Q q) rfl ?_
     repeat' first|exact obN|refine obA ?_|apply obC
    ·refine Cy S [.br true,.br false] (k5 Q q) rfl ?_
     repeat' first|exact obN|refine obA ?_|apply obC
  ·have e:hi=lo+1:=by exact(le_antisymm (Ab (not_lt.mp hc)) (Ab hl))
   subst e
   have hc:=decide_eq_false hc
   refine⟨lo,tl,ht,h1,h2,hh,fun Q q=>Er S [.br false] q rfl ?_⟩
   repeat' first|exact obN|refine obA ?_|apply obC
theorem FR(S:Al O P.K U){x:Int}(hx:Bd 1000 x):FnP O w U (n+1) 110 [.int x] (· =.int (CP x)):=by
 by_cases h:x<2
 ·refine rr ((Br x).1 h) ?_
  have hc:=decide_eq_true h
  refine FnP.go S (Dw P) rfl [.br true] rfl ?_
  repeat' first|exact obN|refine obA ?_|apply obC
 ·have hc:=decide_eq_false h
  obtain⟨a,a1,a2,a3,a4,a5⟩:=Wo (w:=w) (n:=n) S hx _ 1 2 (lt_succ_self _) (by decide) (by exact Ab (not_lt.mp h)) rfl
  obtain⟨b,tl,b1,b2,b3,b4,b5⟩:=Wp (w:=w) (n:=n) S _ a (a*2) [] (.inl rfl) (lt_succ_self _) a1 (hx.twice (aE a1 a2)) a3 a4 (by exact Ab a1)
  obtain rfl:b=CP x:=Ja.unique ⟨fun h'=>absurd h' h,fun _=>⟨by exact Ab b2,b3,b4⟩⟩ (Br x)
  rcases b1 with rfl|⟨d,rfl⟩
  ·refine FnP.go S (Dw P) rfl [.br false,.run .next (Us x a (a*2) []),.run .next (Us x (CP x) (CP x+1) [])] rfl ?_
   repeat' first|exact obN|refine obA ?_|apply obC
   ·exact fun Q q=>EE _ (b5 Q q)
   ·exact fun Q q=>EE _ (a5 Q q)
  ·refine FnP.go S (Dw P) rfl [.br false,.run .next (Us x a (a*2) []),.run .next (Us x (CP x) (CP x+1) [("middle",d)])] rfl ?_
   repeat' first|exact obN|refine obA ?_|apply obC
   ·exact fun Q q=>EE _ (b5 Q q)
   ·exact fun Q q=>EE _ (a5 Q q)
theorem Eu(S:Al O P.K U){x y:Int}(hx:Bd 400 x)(hy:Bd 400 y):FnP O w U (n+2) 103 [.int x,.int y] (· =.int (CP (x*x+y*y))):=by
 have h1:AT x x:=Ae hx hx
 have h2:AT y y:=Ae hy hy
 have h:=FR (w:=w) (n:=n) S ((Bd.add (Bd.mul hx hx) (Bd.mul hy hy)).up (by decide))
 refine FnP.go S (GZ P) rfl [.val _] rfl ?_
 repeat' first|exact obN|refine obA ?_|apply obC
noncomputable abbrev ptD(x y:Int):Dat:=pD (x,y)
theorem HT(S:Al O P.K U){x y u v:Int}(hx:Bd 400 (u-x))(hy:Bd 400 (v-y)):FnP O w U (n+3) 117 [ptD x y,ptD u v] (· =.int (CP ((u-x)*(u-x)+(v-y)*(v-y)))):=by
 refine FnP.go S (Ha P) rfl [.val _] rfl ?_
 repeat' first|exact obN|refine obA ?_|apply obC
 exact Eu S hx hy
end
section
variable{O:Program}{w:World}{P:KF}{U:Heap}{n:Nat}
theorem Ut(a:Int):0≤if a<0 then-a else a:=by
 split
 ·exact Int.neg_nonneg_of_nonpos (le_of_lt ‹_›)
 ·exact not_lt.mp ‹_›
theorem Bd.divI{k:Nat}{a b:Int}(ha:Bd k a):Bd k (Mine.DG a b):=by
 have key:∀A B:Int,0≤A→0≤B→((2*A+B).fdiv (2*B)).natAbs≤A.natAbs:=by
  intro A B hA hB
  refine rr (fdiv_eq_ediv_of_nonneg _ (by exact Bb hB hB)) ?_
  rcases Int.lt_or_eq_of_le hB with h|h
  ·have h2:(2*A+B)/(2*B)≤A:=by
    have h3:2*A+B<(A+1)*(2*B):=by
     have:A*1≤A*B:=Int.mul_le_mul_of_nonneg_left (by exact Ab h) hA
     have e:(A+1)*(2*B)=2*(A*B)+2*B:=by refine rr (add_mul ..) ?_;refine rr (one_mul ..) (rr (Int.mul_left_comm ..) ?_);rfl
     rw[Int.mul_one]at this
     refine rr e ?_;exact LA this this h
    have:=Int.ediv_lt_of_lt_mul (by exact Bb hB h:0<2*B) h3
    exact Ab this
   have h0:0≤(2*A+B)/(2*B):=ediv_nonneg (by exact LA hA hA hB) (by exact Bb hB hB)
   exact Hd h0 h2
  ·subst h;simp
 have h1:(if a<0 then-a else a).natAbs=a.natAbs:=by split<;>first|rfl|exact Int.natAbs_neg a
 have h2:=key (if a<0 then-a else a) (if b<0 then-b else b) (Ut a) (Ut b)
 unfold Mine.DG
 dsimp only
 split
 ·exact ha.le (by exact BM (le_of_eq h1) h2)
 ·exact ha.le (by refine rr (Int.natAbs_neg ..) (rl h1 ?_);exact h2)
theorem Bd.rootI{k:Nat}{x:Int}(h:Bd k x):Bd k (Mine.CP x):=by
 by_cases hx:x<2
 ·refine rr ((Br x).1 hx) ?_;exact h
 ·have:=SS (x:=x) (by exact Ab (not_lt.mp hx))
  exact h.le (Hd this.1 this.2)
noncomputable def Wq(points:List Dat)(closed:Bool):Dat:=.inst 141 [("points",.list points),("is_closed",.bool closed)]
theorem DI(S:Al O P.K U){p c:Dat}:FnL O w U (n+1) 131 (.obj 141 []) [p,c] (fun r a=>r=.none∧a=.obj 141 [("points",.dat p),("is_closed",.dat c)]):=
 FnL.go S (FH P) (by kernel_rfl) rfl [] rfl obs
theorem KP(S:Al O P.K U){ps:List Dat}{c:Bool}(hz:ps.length<2^62):FnP O w U (n+1) 138 [Wq ps c] (· =.bool (decide ((ps.length:Int)=1))):=
 FnP.go S (Em P) rfl [] rfl obs
end
noncomputable abbrev Ln:=List Pt×Bool
inductive Row where
 |m (p:Pt)|l (p:Pt)|c (p q r:Pt)|z
noncomputable def BZ:Row→Dat
 | .m p=>.tuple [.str "m",.int p.1,.int p.2]
 | .l p=>.tuple [.str "l",.int p.1,.int p.2]
 | .c p q r=>.tuple [.str "c",.int p.1,.int p.2,.int q.1,.int q.2,.int r.1,.int r.2]
 | .z=>.tuple [.str "z"]
structure Mx where
 (a b c d e f:Int)
noncomputable def Mx.D(m:Mx):Dat:=XE m.a m.b m.c m.d m.e m.f
noncomputable def Au(m:Mx)(p:Pt):Pt:=(DG (m.a*p.1+m.c*p.2) 1000000+m.e,DG (m.b*p.1+m.d*p.2) 1000000+m.f)
noncomputable def MQ(m:Mx)(p:Pt):Pt:=(Oz ((m.d*(p.1-m.e)-m.c*(p.2-m.f))*1000000) (m.a*m.d-m.b*m.c),Oz ((m.a*(p.2-m.f)-m.b*(p.1-m.e))*1000000) (m.a*m.d-m.b*m.c))
noncomputable def Aj(last:Pt):List Pt→List Pt
 |[]=>[]
 |q::qs=>if q=last then Aj last qs else q::Aj q qs
noncomputable def AR:List Pt→List Pt
 |[]=>[]
 |p::ps=>p::Aj p ps
noncomputable def Fq(ps:List Pt):List Pt:=if 1<ps.length∧ps.getLast? =ps.head? then ps.dropLast else ps
noncomputable def Ak(ps:List Pt)(cl:Bool):Option Ln:=
 if ps.length<2∧cl=false then none else some (if cl then Fq (AR ps)else AR ps,cl)
noncomputable def lnD(l:Ln):Dat:=Wq (l.1.map pD) l.2
noncomputable def lnO:Option Ln→Dat
 |none=>.none
 |some l=>lnD l
noncomputable def Cq:List Row→List (Option Ln)→List Pt→List (Option Ln)
 |[],f,ps=>f++[Ak ps false]
 | .m p::r,f,ps=>Cq r (f++[Ak ps false]) [p]
 | .l p::r,f,ps=>Cq r f (ps++[p])
 | .z::r,f,ps=>Cq r (f++[Ak ps true]) (ps.take 1)
 | .c _ _ _::r,f,ps=>Cq r f ps
noncomputable def DJ(fs:List (Option Ln)):List Ln:=(fs.filterMap id).filter fun l=>!l.1.isEmpty
noncomputable def Bs(rows:List Row):List Ln:=DJ (Cq rows [] [])
noncomputable def BQ(m:Mx)(l:Ln):Ln:=(Ak (l.1.map (MQ m)) l.2).getD (l.1.map (MQ m),l.2)
noncomputable def AW(p q:Pt):Pt:=(p.1+q.1,p.2+q.2)
noncomputable def AU(p q:Pt):Pt:=(p.1-q.1,p.2-q.2)
noncomputable def AE(p q:Pt):Int:=p.1*q.2-p.2*q.1
noncomputable def HU(ps:List Pt):List (Pt×Pt):=ps.zip (ps.drop 1++ps.take 1)
noncomputable def Av(ps:List Pt):Int:=(HU ps).foldl (fun s q=>s+AE q.1 q.2) 0
noncomputable def Bk:List Pt→List Row
 |[]=>[]
 |p::ps=>.m p::(ps.map .l++[.z])
noncomputable def Aw(ps:List Pt):List Pt:=if Av ps<0 then ps.reverse else ps
noncomputable def CC(m:Mx)(pts:List Pt):List Row:=if Av (pts.map (Au m))=0 then[]else Bk (Aw (pts.map (Au m)))
noncomputable def BA(half reach:Int)(one other:Pt):Pt:=(one.1+DG (other.1*reach) half,one.2+DG (other.2*reach) half)
noncomputable def NT(m:Mx)(half reach:Int)(c one other:Pt):Row:=.c (Au m (AW c (BA half reach one other))) (Au m (AW c (BA half reach other one))) (Au m (AW c other))
noncomputable def Ax(turned:Bool)(half:Int):Pt×Pt×Pt×Pt:=if turned then((half,0),(0,-half),(-half,0),(0,half))else((half,0),(0,half),(-half,0),(0,-half))
noncomputable def Ar(half:Int):Int:=DG (half*552285) 1000000
noncomputable def CD(m:Mx)(turned:Bool)(half:Int)(c:Pt):List Row:=
 if half=0 then[]else
 let k:=Ax turned half
 let r:=Ar half
 [.m (Au m (AW c k.1)),NT m half r c k.1 k.2.1,NT m half r c k.2.1 k.2.2.1,NT m half r c k.2.2.1 k.2.2.2,NT m half r c k.2.2.2 k.1,.z]
noncomputable def Ag(half:Int)(w:Pt):Pt:=
 (DG (-w.2*half*1000000) (CP ((w.1*1000000)*(w.1*1000000)+(w.2*1000000)*(w.2*1000000))),DG (w.1*half*1000000) (CP ((w.1*1000000)*(w.1*1000000)+(w.2*1000000)*(w.2*1000000))))
structure AV where
 (half cap join limit:Int)
 m:Mx
noncomputable def AV.turned(p:AV):Bool:=decide (p.m.a*p.m.d-p.m.b*p.m.c<0)
inductive Fig where
 |poly (ps:List Pt)
 |circ (c:Pt)
noncomputable def Ai(p:AV):Fig→List Row
 | .poly ps=>CC p.m ps
 | .circ c=>CD p.m p.turned p.half c
noncomputable def AM(half:Int)(one other:Pt):Fig:=
 let s:=Ag half (AU other one)
 .poly [AW one s,AU one s,AU other s,AW other s]
noncomputable def AS(one other:Pt):Int:=CP ((one.1*one.1+one.2*one.2)*(other.1*other.1+other.2*other.2)*1000000*1000000)
noncomputable def BB(one other:Pt):Int:=AS one other+1000000*(one.1*other.1+one.2*other.2)
noncomputable def HV(whole both limit:Int):Bool:=decide (both≤0)||decide (limit*limit*both<2*whole*1000000*1000000)
noncomputable def Am(p:AV)(a h b:Pt):List Fig:=
 let one:=AU h a
 let other:=AU b h
 let turn:=AE one other
 if p.join=1 then[.circ h]else
 if turn=0 then[]else
 let sign:Int:=if 0<turn then-1 else 1
 let n0:=Ag p.half one
 let f0:=Ag p.half other
 let near:Pt:=(sign*n0.1,sign*n0.2)
 let far:Pt:=(sign*f0.1,sign*f0.2)
 let whole:=AS one other
 let both:=BB one other
 if p.join=0∧HV whole both p.limit=false then
  [.poly [h,AW h near,(h.1+DG ((near.1+far.1)*whole) both,h.2+DG ((near.2+far.2)*whole) both),AW h far]]
 else[.poly [h,AW h near,AW h far]]
noncomputable def Bj(p:AV)(a h:Pt):List Fig:=
 if p.cap=1 then[.circ h]else
 if p.cap=2 then
  let s:=Ag p.half (AU h a)
  let on:Pt:=(s.2,-s.1)
  [.poly [AW h s,AU h s,AW (AU h s) on,AW (AW h s) on]]
 else[]
noncomputable def at'(ps:List Pt)(k:Nat):Pt:=ps.getD k (0,0)
noncomputable def Qg(as bs cs:List Pt):List (Pt×Pt×Pt):=as.zip (bs.zip cs)
noncomputable def Dz(p:AV)(l:Ln):List Fig:=
 let ps:=l.1
 if l.2 then(if 2<ps.length then Am p (at' ps (ps.length-2)) (at' ps (ps.length-1)) (at' ps 0)else Am p (at' ps 0) (at' ps 1) (at' ps 0))++Am p (at' ps (ps.length-1)) (at' ps 0) (at' ps 1)
 else Bj p (at' ps 1) (at' ps 0)++Bj p (at' ps (ps.length-2)) (at' ps (ps.length-1))
noncomputable def AI(p:AV)(l:Ln):List Fig:=
 if l.1.length=1 then(if p.cap=1 then[.circ (at' l.1 0)]else[])else
 let ring:=if l.2 then l.1++l.1.take 1 else l.1
 (ring.zip (ring.drop 1)).map (fun q=>AM p.half q.1 q.2)++(Qg l.1 (l.1.drop 1) (l.1.drop 2)).flatMap (fun q=>Am p q.1 q.2.1 q.2.2)++Dz p l
noncomputable def Bw(p:AV)(i:Addr)(rs:List Row):AG:=
 .obj 301 [("half",.dat (.int p.half)),("cap",.dat (.int p.cap)),("join",.dat (.int p.join)),("limit",.dat (.int p.limit)),("matrix",.dat p.m.D),("is_turned",.dat (.bool p.turned)),("rows",.own i (rs.map BZ))]
section
variable{O:Program}{w:World}{P:KF}{U:Heap}{n:Nat}
theorem YO(S:Al O P.K U){x:Int}(hx:Bd 1000 x):FnP O w U (n+1) 110 [.int x] (fun r=>r=.int (CP x)):=FR S hx
theorem ST(S:Al O P.K U){x y:Int}(hx:Bd 400 x)(hy:Bd 400 y):FnP O w U (n+2) 103 [.int x,.int y] (fun r=>r=.int (CP (x*x+y*y))):=Eu S hx hy
noncomputable def Ew(p q:Pt):Int:=(q.1-p.1)*(q.1-p.1)+(q.2-p.2)*(q.2-p.2)
theorem HW(S:Al O P.K U){p q:Pt}(hx:Bd 400 (q.1-p.1))(hy:Bd 400 (q.2-p.2)):FnP O w U (n+3) 117 [pD p,pD q] (fun r=>r=.int (CP (Ew p q))):=HT S hx hy
theorem Md(S:Al O P.K U){m:Mx}{p:Pt}(ha:Bd 64 m.a)(hb:Bd 64 m.b)(hc:Bd 64 m.c)(hd:Bd 64 m.d)(hx:Bd 1000 p.1)(hy:Bd 1000 p.2):
 FnP O w U (n+2) 82 [m.D,.int p.1,.int p.2] (fun r=>r=pD (Au m p)):=
 Mc S (Ae ha hx) (Ae hc hy) (Ae hb hx) (Ae hd hy)
theorem Qh(S:Al O P.K U){m:Mx}{p:Pt}(ha:Bd 64 m.a)(hb:Bd 64 m.b)(hc:Bd 64 m.c)(hd:Bd 64 m.d)(hx:Bd 1000 (p.1-m.e))(hy:Bd 1000 (p.2-m.f))(h0:m.a*m.d-m.b*m.c≠0):
 FnP O w U (n+4) 96 [m.D,.int p.1,.int p.2] (fun r=>r=pD (MQ m p)):=
 Fp S ⟨Ae ha hd,Ae hb hc,Ae hd hx,Ae hc hy,Ae ha hy,Ae hb hx⟩ h0
end
section
variable{O:Program}{w:World}{P:KF}{U:Heap}{n:Nat}
theorem JQ:∀(qs:List Pt) (p:Pt),(Aj p qs).Sublist qs:=by
 intro qs
 induction qs with
 |nil=>
  intro _
  exact .slnil
 |cons q qs ih=>
  intro p
  rewrite[Aj]
  split
  ·exact(ih p).cons _
  ·exact(ih q).cons_cons _
theorem FS(g:List Pt):(AR g).Sublist g:=by
 rcases g with _|⟨p,g⟩
 ·exact .slnil
 ·exact(JQ g p).cons_cons _
theorem KQ(g:List Pt):(AR g).length≤g.length:=(FS g).length_le
noncomputable def YP(ps:List Pt)(cl:Bool)(f:List Dat):St:=[("points",.dat (.list (ps.map pD))),("is_closed",.dat (.bool cl)),("found",.lst f)]
noncomputable def Qi(ds:List Dat)(c:Bool):AG:=.obj 141 [("points",.dat (.list ds)),("is_closed",.dat (.bool c))]
noncomputable def slX(k:List Nat):Stmt:=FO (AQ 152) k
theorem Qj{p q:Pt}(h:p=q):Cd .Eq (pD p) (pD q)=true:=(KD p q).mpr h
theorem Qk{p q:Pt}(h:p≠q):Cd .Eq (pD p) (pD q)=false:=(Bool.not_eq_true _).mp fun e=>h ((KD p q).mp e)
theorem Ql{p q:Pt}(h:p≠q):Cd .NotEq (pD p) (pD q)=true:=congrArg not (Qk h)
theorem Qm{p q:Pt}(h:p=q):Cd .NotEq (pD p) (pD q)=false:=congrArg not (Qj h)
theorem Wr(S:Al O P.K U){ps:List Pt}{cl:Bool}{Q:Fl→St→Prop}(F:AP Q):∀(rs acc:List Pt) (last:Pt),acc.length+rs.length+1≤1000000→Q .next (YP ps cl ((acc++last::Aj last rs).map pD))→
 Bc O w U (scC 152) (n+2) (Ap (slX [2])) (Bf (slX [2])) Q (rs.map pD) (YP ps cl (acc.map pD++[pD last])):=by
 intro rs
 induction rs with
 |nil=>
  intro acc last _ q
  rw[map_append]at q
  exact q
 |cons r rs ih=>
  intro acc last hl q
  rw[length_cons]at hl
  have hz:(acc.map pD++[pD last]).length<2^62:=by refine rr length_append ?_;refine rr (length_map ..) (rr length_singleton ?_);exact Ac hl
  by_cases h:r=last
  ·refine AD S ["point"] [.val (pD last),.br false] (ih acc last (by exact Ac hl) (by rwa [Aj,if_pos h]at q)) rfl ?_ F
   repeat' first|exact obN|refine obA ?_|apply obC
   ·exact Qm h
  ·have k:=ih (acc++[last]) r (by refine rr length_append (rr length_singleton ?_);exact Ac hl) (by rw[Aj,if_neg h]at q;rwa [append_assoc])
   rw[map_append]at k
   refine AD S ["point"] [.val (pD last),.br true] k rfl ?_ F
   repeat' first|exact obN|refine obA ?_|apply obC
   ·exact le_trans (show _≤16777216 by refine rr length_append ?_;refine rr (length_map ..) (rr length_singleton ?_);exact Ac hl) szl
   ·exact Ql h
theorem YQ(S:Al O P.K U){ps fs:List Pt}{cl:Bool}(hz:fs.length≤1000000)(h0:cl=true→fs≠[]):Ss O w U (scC 152) (n+2) ((AQ 152).drop 3) (YP ps cl (fs.map pD)) (fun fl _=>flD fl=Wq ((if cl=true then Fq fs else fs).map pD) cl):=by
 have hl:(fs.map pD).length<2^62:=by refine rr (length_map ..) ?_;exact Ac hz
 have mk:=fun p c=>DI (w:=w) (n:=n) S (p:=p) (c:=c)
 rcases cl with _|_
 ·
  refine AB S (os:=[.br false,.br false,.lent .none (Qi (fs.map pD) false)]) rfl ?_ rfl
  repeat' first|exact obN|refine obA ?_|apply obC
  exact mk _ _
 ·
  obtain⟨a,as,rfl⟩:=exists_cons_of_ne_nil (h0 rfl)
  by_cases h1:1<(a::as).length
  ·obtain⟨l,b,e⟩:∃l b,a::as=l++[b]:=⟨_,_,(List.dropLast_concat_getLast (by simp)).symm⟩
   have e1:AK ((a::as).map pD) (-1)=some (pD b):=by refine rr e (rr map_append ?_);exact Fm
   have c1:decide ((1:Int)<(((a::as).map pD).length:Nat))=true:=decide_eq_true (by refine rr (length_map ..) ?_;lia)
   have hlast:(a::as).getLast?=some b:=by refine rr e ?_;exact List.getLast?_concat
   by_cases hb:b=a
   ·have et:Fq (a::as)=l:=by rewrite[Fq];refine rr (if_pos ⟨h1,by refine rr hlast (rr hb ?_);rfl⟩) ?_;refine rr e (rr List.dropLast_concat ?_);(with_reducible rfl)
    refine rr (if_pos rfl) (rr et ?_)
    have e2:(a::as).map pD=l.map pD++[pD b]:=by refine rr e (rr map_append ?_);rfl
    have hz':(l.map pD).length+1≤sizeLine:=le_trans (show _≤16777216 by have:=congrArg List.length e;rw[length_append,length_singleton]at this;refine rr (length_map ..) ?_;exact BM hz (le_of_eq this.symm)) szl
    refine AB S (os:=[.br true,.br true,.val (pD b),.val (pD a),.br true,.br true,.ask (.dat (pD b)) (YP ps true (l.map pD)),.lent .none (Qi (l.map pD) true)]) rfl ?_ rfl
    repeat' first|exact obN|refine obA ?_|apply obC
    ·exact mk _ _
    ·exact fun Q q=>Ue S (congrArg (fun z=>some (AG.lst z)) e2) hz' q
    ·exact Qj hb
   ·have et:Fq (a::as)=a::as:=by rewrite[Fq];refine rr (if_neg fun h=>hb (by have:=h.2;rw[hlast]at this;exact Option.some.inj this)) ?_;(with_reducible rfl)
    refine rr (if_pos rfl) (rr et ?_)
    refine AB S (os:=[.br true,.br true,.val (pD b),.val (pD a),.br false,.br false,.lent .none (Qi ((a::as).map pD) true)]) rfl ?_ rfl
    repeat' first|exact obN|refine obA ?_|apply obC
    ·exact mk _ _
    ·exact Qk hb
  ·obtain rfl:as=[]:=by cases as with|nil=>rfl|cons _ _=>exact absurd (by simp) h1
   refine AB S (os:=[.br true,.br false,.br false,.lent .none (Qi [pD a] true)]) rfl ?_ rfl
   repeat' first|exact obN|refine obA ?_|apply obC
   exact mk _ _
theorem BE(S:Al O P.K U){ps:List Pt}{cl:Bool}(hz:ps.length≤1000000)(h0:ps=[]→cl=false):FnP O w U (n+3) 152 [.list (ps.map pD),.bool cl] (· =lnO (Ak ps cl)):=by
 have len:∀b,decide (ps.length<2)=b→Cd .Lt (.int (ps.map pD).length) (.int 2)=b:=fun b e=>by
  refine rr (length_map ..) (rl e ?_)
  show decide _=_
  exact decide_eq_decide.mpr (by lia)
 have hl:(ps.map pD).length<2^62:=by refine rr (length_map ..) ?_;exact Ac hz
 have hl2:(ps.map pD).length≤sizeLine:=le_trans (show _≤16777216 by refine rr (length_map ..) ?_;exact Ac hz) szl
 by_cases hc:ps.length<2∧cl=false
 ·obtain⟨h1,rfl⟩:=hc
  have c1:=len true (decide_eq_true h1)
  rewrite[Ak];refine rr (if_pos ⟨h1,rfl⟩) ?_
  refine FnP.go S (DE P) rfl [.br true,.br true,.br true] rfl ?_
  repeat' first|exact obN|refine obA ?_|apply obC
 ·obtain⟨p,qs,rfl⟩:∃p qs,ps=p::qs:=by
   rcases ps with _|⟨p,qs⟩
   ·exact absurd ⟨by decide,h0 rfl⟩ hc
   ·exact⟨p,qs,rfl⟩
  refine FnP.ofC S (DE P) rfl ?_
  have rest:Ss O w U (scC 152) (n+2) ((AQ 152).drop 2) (YP (p::qs) cl [pD p]) (fun fl _=>flD fl=lnO (Ak (p::qs) cl)):=by
   refine Fb S [] rfl rfl obs ?_
   refine Wr S Ad qs [] p (by rw[length_cons]at hz;refine rr length_nil ?_;exact Ac hz) ?_
   have:=YQ (w:=w) (n:=n) S (ps:=p::qs) (fs:=AR (p::qs)) (cl:=cl) (le_trans (KQ _) hz) (fun _=>cons_ne_nil _ _)
   refine this.mono fun fl s h=>?_
   refine rr h ?_;rewrite[Ak];refine rr (if_neg hc) ?_;rfl
  by_cases h1:(p::qs).length<2
  ·have c1:=len true (decide_eq_true h1)
   obtain rfl:cl=true:=by cases cl<;>first|rfl|exact absurd ⟨h1,rfl⟩ hc
   refine At S 2 [] [.br true,.br false,.br false] rfl ?_ rest
   repeat' first|exact obN|refine obA ?_|apply obC
  ·have c1:=len false (decide_eq_false h1)
   refine At S 2 [] [.br false,.br false] rfl ?_ rest
   repeat' first|exact obN|refine obA ?_|apply obC
end
def Ex:List Row→List Pt→Prop
 |[],_=>True
 | .m p::r,_=>Ex r [p]
 | .l p::r,ps=>Ex r (ps++[p])
 | .z::r,ps=>ps≠[]∧Ex r (ps.take 1)
 | .c _ _ _::_,_=>False
theorem DN{α β:Type}(f:α→β)(l:List α)(a:α):(l++[a]).map f=l.map f++[f a]:=by simp
theorem NU(x:Option Ln)(fs:List (Option Ln)):DJ (x::fs)=(match x with|none=>[]|some l=>if l.1.isEmpty then[]else[l])++DJ fs:=by
 rcases x with _|⟨l⟩
 ·rfl
 ·simp only[DJ,filterMap_cons,id,filter_cons];cases l.1.isEmpty<;>simp
section
variable{O:Program}{w:World}{P:KF}{U:Heap}{n:Nat}
theorem Gu(S:Al O P.K U){sc:Scope}{st st':St}{ms:Ms}{tgt elt:Expr}{ifs:List Expr}{Q:List Dat→St→Prop}{d:Dat}{ds acc:List Dat}(L:List Str)(os:List Or)(q:Bh O w U sc n tgt ifs elt Q ds acc st')(h:JM L (Ma O w U n sc tgt ifs elt d st os [])=some (none,st',ms))(hm:AC ms)(hz:acc.length+1≤sizeLine)(F:∀acc s,Q acc (Iu L s)→Q acc s):Bh O w U sc n tgt ifs elt Q (d::ds) acc st:=by
 obtain⟨s,e,rfl⟩:=EI h
 exact Qd S os (q.drop (EH L s) (F _ s)) e hm hz
noncomputable def aF(rows:List Row)(ps:List Dat)(fs:List Dat):St:=[("rows",.dat (.list (rows.map BZ))),("points",.lst ps),("found",.lst fs)]
noncomputable def lsX(k:List Nat):Stmt:=FO (AQ 157) k
theorem Ws(S:Al O P.K U){rows:List Row}{Q:Fl→St→Prop}(F:AP Q):∀(rs:List Row) (fs:List (Option Ln)) (ps:List Pt),fs.length+rs.length≤1000→ps.length+rs.length≤1000→Ex rs ps→
 (∀fs' ps',fs'.length≤1000→ps'.length≤1000→fs'++[Ak ps' false]=Cq rs fs ps→Q .next (aF rows (ps'.map pD) (fs'.map lnO)))→Bc O w U (scC 157) (n+3) (Ap (lsX [1])) (Bf (lsX [1])) Q (rs.map BZ) (aF rows (ps.map pD) (fs.map lnO)):=by
 intro rs
 induction rs with
 |nil=>exact fun fs ps hf hp _ q=>q fs ps hf hp rfl
 |cons r rs ih=>
  intro fs ps hf hp hr q
  rw[length_cons]at hf hp
  have hfz:(fs.map lnO).length+1≤sizeLine:=le_trans (show _≤16777216 by refine rr (length_map ..) ?_;exact Ac hf) szl
  have hpz:(ps.map pD).length+1≤sizeLine:=le_trans (show _≤16777216 by refine rr (length_map ..) ?_;exact Ac hp) szl
  have hpz':(ps.map pD).length≤sizeLine:=Nat.le_of_succ_le hpz
  cases r with
  |m p=>
   have k:=ih (fs++[Ak ps false]) [p] (by refine rr length_append (rr length_singleton ?_);exact Ac hf) (by refine rr length_singleton ?_;exact Ac hf) hr q
   rw[map_append]at k
   have f:=BE (w:=w) (n:=n) (ps:=ps) (cl:=false) S (by exact Ac hp) (fun _=>rfl)
   refine AD S ["row"] [.br true,.val (lnO (Ak ps false))] k rfl ?_ F
   repeat' first|exact obN|refine obA ?_|apply obC
  |l p=>
   have k:=ih fs (ps++[p]) (by exact Ac hf) (by refine rr length_append (rr length_singleton ?_);exact Ac hp) hr q
   rw[map_append]at k
   refine AD S ["row"] [.br false,.br true] k rfl ?_ F
   repeat' first|exact obN|refine obA ?_|apply obC
  |z=>
   have k:=ih (fs++[Ak ps true]) (ps.take 1) (by refine rr length_append (rr length_singleton ?_);exact Ac hf) (by refine rr length_take ?_;exact(BM hf (min_le_left (1) (ps.length)))) hr.2 q
   rw[map_append,map_take]at k
   have f:=BE (w:=w) (n:=n) (ps:=ps) (cl:=true) S (by exact Ac hp) (fun h=>absurd h hr.1)
   refine AD S ["row"] [.br false,.br false,.br true,.val (lnO (Ak ps true))] k rfl ?_ F
   repeat' first|exact obN|refine obA ?_|apply obC
  |c _ _ _=>exact hr.elim
noncomputable def lsE:Expr:=Ap (lsX [3])
theorem Wt(S:Al O P.K U){Q:List Dat→St→Prop}(F:∀acc s,Q acc (Iu ["line"] s)→Q acc s):∀(gs:List (Option Ln)) (acc:List Dat),acc.length+gs.length≤1001→Q (acc++(DJ gs).map lnD) []→
 Bh O w U (By (Lx lsE) (scC 157)) (n+3) (ER lsE) (ES lsE) (EQ lsE) Q (gs.map lnO) acc []:=by
 intro gs
 induction gs with
 |nil=>intro acc _ q;exact(append_nil acc)▸q
 |cons g gs ih=>
  intro acc hl q
  rw[length_cons]at hl
  have hz:acc.length+1≤sizeLine:=le_trans (show _≤16777216 by exact Ac hl) szl
  rw[NU]at q
  rcases g with _|⟨l⟩
  ·
   refine Gu S ["line"] [.br false,.br false] (ih acc (by exact Ac hl) q) rfl ?_ hz F
   repeat' first|exact obN|refine obA ?_|apply obC
   all_goals exact trivial
  ·
   have pl:Bo (.list (l.1.map pD))∧Bo (.list []):=⟨(Ej _).plain,(Ej []).plain⟩
   have e:(!deq (.list (l.1.map pD)) (.list []))=!l.1.isEmpty:=by refine rr (Dl ..) ?_;simp
   cases c:l.1.isEmpty with
   |true=>
    rw[c]at e
    refine Gu S ["line"] [.br true,.br false,.br false] (ih acc (by exact Ac hl) (by simpa[c]using q)) rfl ?_ hz F
    repeat' first|exact obN|refine obA ?_|apply obC
    all_goals exact trivial
   |false=>
    rw[c]at e
    refine AZ S ["line"] [.br true,.br true,.br true] (ih (acc++[lnD l]) (by refine rr length_append (rr length_singleton ?_);exact Ac hl) (by simpa[c]using q)) rfl ?_ hz F
    repeat' first|exact obN|refine obA ?_|apply obC
    all_goals exact trivial
theorem SU(S:Al O P.K U){Q:List Dat→St→Prop}{ds:List Dat}{gs:List (Option Ln)}(e:ds=gs.map lnO)(F:∀acc s,Q acc (Iu ["line"] s)→Q acc s)(hl:gs.length≤1001)(q:Q ((DJ gs).map lnD) []):
 Bh O w U (By (Lx lsE) (scC 157)) (n+3) (ER lsE) (ES lsE) (EQ lsE) Q ds [] []:=e▸Wt S F gs [] (by refine rr length_nil ?_;exact Ac hl) q
theorem IC(S:Al O P.K U){rows:List Row}(hz:rows.length≤1000)(hr:Ex rows []):FnP O w U (n+4) 157 [.list (rows.map BZ)] (fun r=>r=.list ((Bs rows).map lnD)):=by
 refine FnP.ofC S (HH P) rfl ?_
 refine At (st':=aF rows [] []) S 1 [] [] rfl obs ?_
 refine Fb S [] rfl rfl obs ?_
 refine Ws S Ad rows [] [] (by refine rr length_nil ?_;exact Ac hz) (by refine rr length_nil ?_;exact Ac hz) hr fun fs ps hf hp e=>?_
 have hfz:(fs.map lnO).length+1≤sizeLine:=le_trans (show _≤16777216 by refine rr (length_map ..) ?_;exact Ac hf) szl
 have f:=BE (w:=w) (n:=n) (ps:=ps) (cl:=false) S (by exact Ac hp) (fun _=>rfl)
 have es:Bs rows=DJ (fs++[Ak ps false]):=by rewrite[Bs];refine rr e ?_;(with_reducible rfl)
 refine rr es ?_
 have em:(fs++[Ak ps false]).map lnO=fs.map lnO++[lnO (Ak ps false)]:=map_append
 refine AB S (os:=[.val (lnO (Ak ps false)),.ask (.dat (.list ((DJ (fs++[Ak ps false])).map lnD))) [("rows",.dat (.list (rows.map BZ))),("points",.dat (.list (ps.map pD))),("found",.dat (.list (fs.map lnO++[lnO (Ak ps false)])))]]) rfl ?_ rfl
 repeat' first|exact obN|refine obA ?_|apply obC
 refine fun Q q=>AO (Da (Bz.of (by kernel_rfl)) (Ei (Do S (os:=[]) rfl obs ⟨_,rfl,?_⟩)))
 refine SU S em.symm ?_ (by refine rr length_append (rr length_singleton ?_);exact Ac hf) q
 intro acc s q
 rwa [AY (by kernel_rfl)]at q
end
section
variable{O:Program}{w:World}{P:KF}{U:Heap}{n:Nat}
noncomputable def lbE:Expr:=Ap (FO (AQ 310) [0])
theorem Wu(S:Al O P.K U){m:Mx}(ha:Bd 64 m.a)(hb:Bd 64 m.b)(hc:Bd 64 m.c)(hd:Bd 64 m.d)(h0:m.a*m.d-m.b*m.c≠0){Q:List Dat→St→Prop}(F:∀acc s,Q acc (Iu ["point"] s)→Q acc s):∀(qs:List Pt) (acc:List Dat),acc.length+qs.length≤1000→(∀p∈qs,Bd 1000 (p.1-m.e)∧Bd 1000 (p.2-m.f))→Q (acc++(qs.map (MQ m)).map pD) [("matrix",.dat m.D)]→
 Bh O w U (By (Lx lbE) (scC 310)) (n+4) (ER lbE) (ES lbE) (EQ lbE) Q (qs.map pD) acc [("matrix",.dat m.D)]:=by
 intro qs
 induction qs with
 |nil=>intro acc _ _ q;exact(append_nil acc)▸q
 |cons a qs ih=>
  intro acc hl hq q
  rw[length_cons]at hl
  have k:=ih (acc++[pD (MQ m a)]) (by refine rr length_append (rr length_singleton ?_);exact Ac hl) (fun p h=>hq p (.tail _ h)) (by refine rr (append_assoc ..) ?_;exact q)
  have iv:=Qh (w:=w) (n:=n) S ha hb hc hd (hq a (.head _)).1 (hq a (.head _)).2 h0
  refine AZ S ["point"] [.val (pD (MQ m a))] k rfl ?_ (le_trans (show _≤16777216 by exact Ac hl) szl) F
  repeat' first|exact obN|refine obA ?_|apply obC
theorem Gv(S:Al O P.K U){l:Ln}{m:Mx}(hz:l.1.length≤1000)(hl:l.1≠[])(ha:Bd 64 m.a)(hb:Bd 64 m.b)(hc:Bd 64 m.c)(hd:Bd 64 m.d)(hp:∀p∈l.1,Bd 1000 (p.1-m.e)∧Bd 1000 (p.2-m.f))(h0:m.a*m.d-m.b*m.c≠0):
 FnP O w U (n+5) 310 [lnD l,m.D] (fun r=>r=lnD (BQ m l)):=by
 obtain⟨ps,cl⟩:=l
 refine FnP.ofC S (FJ P) rfl ?_
 refine Gs S [("matrix",.dat m.D)] [] rfl rfl obs (Wu S ha hb hc hd h0 ?_ ps [] (by refine rr length_nil (rr (zero_add ..) ?_);exact hz) hp ?_) (by kernel_rfl) (by kernel_rfl) (by kernel_rfl) (by intro env h;cases env;dsimp only at h;subst h;kernel_rfl)
 ·intro acc s q
  rwa [AY (by kernel_rfl)]at q
 refine Ss.at [("line",.dat (lnD (ps,cl))),("matrix",.dat m.D),("points",.lst ((ps.map (MQ m)).map pD))] ?_ (by kernel_rfl)
 have f:=BE (w:=w) (n:=n+1) (ps:=ps.map (MQ m)) (cl:=cl) S (by refine rr (length_map ..) ?_;exact le_trans hz (by decide)) (fun h=>absurd (List.map_eq_nil_iff.mp h) hl)
 have mk:=DI (w:=w) (n:=n+2) S (p:=.list ((ps.map (MQ m)).map pD)) (c:=.bool cl)
 unfold BQ
 dsimp only
 cases e:Ak (ps.map (MQ m)) cl with
 |none=>
  rw[e]at f
  refine AB S (os:=[.val .none,.br false,.lent .none (Qi ((ps.map (MQ m)).map pD) cl)]) rfl ?_ rfl
  repeat' first|exact obN|refine obA ?_|apply obC
  all_goals first|exact mk|exact trivial
 |some l=>
  rw[e]at f
  refine AB S (os:=[.val (lnD l),.br true]) rfl ?_ rfl
  repeat' first|exact obN|refine obA ?_|apply obC
  all_goals exact trivial
end
noncomputable abbrev Ba:=List Int×Int
noncomputable def AA(t:Ba):AG:=.lst [.list (t.1.map .int),.int t.2]
def AJ(t:Ba):Prop:=t.1.length≤1000
noncomputable def dv(t:Ba)(many:Int):Int:=match t.1 with
 |[]=>(5*(t.2+1)+(t.2+1).fdiv 3).fmod many
 |d::_=>d.fmod many
noncomputable def dt(t:Ba)(many:Int):Ba:=match t.1 with
 |[]=>([],t.2+1)
 |d::ds=>(if 0<d.fdiv many then d.fdiv many::ds else ds,t.2)
theorem CI{t:Ba}{many:Int}(hm:0<many):0≤dv t many∧dv t many<many:=by
 have hb:∀x:Int,0≤x.fmod many∧x.fmod many<many:=fun x=>by refine rr (fmod_eq_emod_of_nonneg _ (le_of_lt hm)) ?_;exact⟨emod_nonneg _ (ne_of_gt hm),Int.emod_lt_of_pos _ hm⟩
 unfold dv
 split<;>exact hb _
theorem BC{t:Ba}{many:Int}(ht:AJ t):AJ (dt t many):=by
 obtain⟨ds,k⟩:=t
 rcases ds with _|⟨d,ds⟩
 ·exact ht
 ·
  unfold dt
  dsimp only
  split
  ·exact ht
  ·exact Nat.le_of_succ_le ht
section
variable{O:Program}{w:World}{P:KF}{U:Heap}{n:Nat}
noncomputable def aG(a b:Dat)(many:Int)(tl:St):St:=("tape",.lst [a,b])::("many",.dat (.int many))::tl
theorem Cr(S:Al O P.K U){t:Ba}{many:Int}(ht:AJ t)(hm:0<many):FnL O w U (n+1) 325 (AA t) [.int many] (fun d a=>d=.int (dv t many)∧a=AA (dt t many)):=by
 obtain⟨ds,k⟩:=t
 have hne:many≠0:=ne_of_gt hm
 have three:(3:Int)≠0:=by decide
 have pl0:Bo (.list (ds.map .int))∧Bo (.list []):=⟨(Cn (EF (k:=1) _)).plain,(Cn (EF (k:=1) [])).plain⟩
 have hl:(ds.map Dat.int).length≤1000:=by refine rr (length_map ..) ?_;exact ht
 have hl1:(ds.map Dat.int).length<2^62:=lt_of_le_of_lt hl (by decide)
 rcases ds with _|⟨d,ds⟩
 ·
  refine FnL.go S (Ep P) (by kernel_rfl) rfl [.val (.list []),.br true,.run .next (aG (.list []) (.int (k+1)) many []),.val (.int (k+1)),.val (.int (k+1))] rfl ?_
  repeat' first|exact obN|refine obA ?_|apply obC
  exact fun Q q=>Qf (j:=1) S (.int (k+1)) [.val (.int k)] rfl obs q ⟨rfl,rfl⟩
 ·
  have hl3:(ds.map Dat.int).length≤sizeLine:=le_trans (Nat.le_of_succ_le hl) (by decide)
  have hl2:((d::ds).map Dat.int).length≤sizeLine:=le_trans hl (by decide)
  have pl1:deq (.list ((d::ds).map .int)) (.list [])=false:=rfl
  by_cases hc:0<d.fdiv many
  ·have c:=decide_eq_true hc
   have hl4:[Dat.int (d.fdiv many)].length+(ds.map Dat.int).length≤sizeLine:=le_trans (show _≤1000 from add_comm 1 _▸hl) (by decide)
   refine rr (show dt (d::ds,k) many=(d.fdiv many::ds,k)from Prod.ext (if_pos hc) rfl) ?_
   refine FnL.go S (Ep P) (by kernel_rfl) rfl [.val (.list ((d::ds).map .int)),.br false,.val (.list ((d::ds).map .int)),.val (.int d),.val (.list ((d::ds).map .int)),.val (.int d),.run .next (aG (.list ((d.fdiv many::ds).map .int)) (.int k) many [("rest",.dat (.int (d.fdiv many))),("digit",.dat (.int (d.fmod many)))])] rfl ?_
   repeat' first|exact obN|refine obA ?_|apply obC
   exact fun Q q=>Qf (j:=0) S (.list ((d.fdiv many::ds).map .int)) [.br true,.val (.list ((d::ds).map .int))] rfl obs q ⟨rfl,rfl⟩
  ·have c:=decide_eq_false hc
   have hl4:([]:List Dat).length+(ds.map Dat.int).length≤sizeLine:=le_trans (le_of_eq (zero_add _)) hl3
   refine rr (show dt (d::ds,k) many=(ds,k)from Prod.ext (if_neg hc) rfl) ?_
   refine FnL.go S (Ep P) (by kernel_rfl) rfl [.val (.list ((d::ds).map .int)),.br false,.val (.list ((d::ds).map .int)),.val (.int d),.val (.list ((d::ds).map .int)),.val (.int d),.run .next (aG (.list (ds.map .int)) (.int k) many [("rest",.dat (.int (d.fdiv many))),("digit",.dat (.int (d.fmod many)))])] rfl ?_
   repeat' first|exact obN|refine obA ?_|apply obC
   exact fun Q q=>Qf (j:=0) S (.list (ds.map .int)) [.br false,.val (.list ((d::ds).map .int))] rfl obs q ⟨rfl,rfl⟩
def MR(unit far:Int)(p:Pt):Prop:=∃x y,p=(x*unit,y*unit)∧ -far≤x∧x≤far∧ -far≤y∧y≤far
def Uu(unit:Int)(many:Nat)(far:Int)(l:Ln):Prop:=1≤l.1.length∧l.1.length≤many∧∀p∈l.1,MR unit far p
def JR(unit:Int)(parts:List Ln):Prop:=∃a rest,parts=a::rest∧Uu unit 4 3 a∧(a.2=true→a.1.length≤3)∧(rest=[]∨∃b,rest=[b]∧Uu unit 2 1 b)
noncomputable def CQ(l:Ln):Dat:=.tuple [.list (l.1.map pD),.bool l.2]
noncomputable def ptF(unit far:Int)(t:Ba):Pt:=((dv t (2*far+1)-far)*unit,(dv (dt t (2*far+1)) (2*far+1)-far)*unit)
noncomputable def ptT(far:Int)(t:Ba):Ba:=dt (dt t (2*far+1)) (2*far+1)
noncomputable def OA(unit far:Int):Nat→Ba→List Pt
 |0,_=>[]
 |k+1,t=>ptF unit far t::OA unit far k (ptT far t)
noncomputable def XF(far:Int):Nat→Ba→Ba
 |0,t=>t
 |k+1,t=>XF far k (ptT far t)
theorem FT(unit far:Int):∀k t,(OA unit far k t).length=k:=by
 intro k
 induction k with
 |zero=>
  intro _
  exact rfl
 |succ k ih=>
  intro t
  exact congrArg (· +1) (ih (ptT far t))
theorem KR{unit far:Int}(h:0≤far):∀k t,∀p∈OA unit far k t,MR unit far p:=by
 intro k
 induction k with
 |zero=>
  intro z0 z1 z2
  cases z2
 |succ k ih=>
  intro t p hp
  have d:=fun t=>CI (t:=t) (many:=2*far+1) (by exact Bb h h)
  rcases mem_cons.mp hp with rfl|hp
  ·have d1:=d t
   have d2:=d (dt t (2*far+1))
   exact⟨_,_,rfl,by exact Ab d1.1,by exact Ab d1.2,by exact Ab d2.1,by exact Ab d2.2⟩
  ·exact ih _ p hp
theorem JS{far:Int}:∀k {t:Ba},AJ t→AJ (XF far k t):=by
 intro k
 induction k with
 |zero=>
  intro _ h
  exact h
 |succ k ih=>
  intro _ h
  exact ih (BC (BC h))
noncomputable def aH(t:Ba)(many:Nat)(far unit:Int)(acc:List Dat):St:=[("tape",AA t),("many",.dat (.int many)),("far",.dat (.int far)),("unit",.dat (.int unit)),("found",.lst acc)]
noncomputable def ptX:Stmt:=FO (AQ 332) [1]
theorem Wv(S:Al O P.K U){many:Nat}{far unit:Int}(hf:0≤far∧far≤3)(hu:Bd 20 unit){Q:Fl→St→Prop}(F:AP Q):∀(xs:List Dat) (acc:List Dat) (t:Ba),AJ t→acc.length+xs.length≤1000→Q .next (aH (XF far xs.length t) many far unit (acc++(OA unit far xs.length t).map pD))→
 Bc O w U (scC 332) (n+1) (Ap ptX) (Bf ptX) Q xs (aH t many far unit acc):=by
 intro xs
 induction xs with
 |nil=>intro acc t _ _ q;exact(append_nil acc)▸q
 |cons x xs ih=>
  intro acc t ht hl q
  rw[length_cons]at hl q
  have pos:(0:Int)<2*far+1:=by exact Bb hf.1 hf.1
  have k:=ih (acc++[pD (ptF unit far t)]) (ptT far t) (BC (BC ht)) (by refine rr length_append (rr length_singleton ?_);exact Ac hl) (by refine rr (append_assoc ..) ?_;exact q)
  have d1:=Cr (w:=w) (n:=n) S ht pos
  have d2:=Cr (w:=w) (n:=n) S (BC (many:=2*far+1) ht) pos
  have r1:=CI (t:=t) pos
  have r2:=CI (t:=dt t (2*far+1)) pos
  have b0:AT (2:Int) far:=.of_left (by decide)
  have b1:AT (dv t (2*far+1)-far) unit:=Ae (k:=20) (show Int.natAbs _<2^20 by omega) hu
  have b2:AT (dv (dt t (2*far+1)) (2*far+1)-far) unit:=Ae (k:=20) (show Int.natAbs _<2^20 by omega) hu
  have hz:acc.length+1≤sizeLine:=le_trans (show _≤16777216 by exact Ac hl) szl
  refine AD S ["turn","x","y"] [.lent (.int (dv t (2*far+1))) (AA (dt t (2*far+1))),.lent (.int (dv (dt t (2*far+1)) (2*far+1))) (AA (ptT far t))] k rfl ?_ F
  repeat' first|exact obN|refine obA ?_|apply obC
theorem MS(S:Al O P.K U){t:Ba}{many:Nat}{far unit:Int}(ht:AJ t)(hm:many≤4)(hf:0≤far∧far≤3)(hu:Bd 20 unit):
 FnL O w U (n+2) 332 (AA t) [.int many,.int far,.int unit] (fun d a=>d=.list ((OA unit far many t).map pD)∧a=AA (XF far many t)):=by
 refine FnL.ofC S (Iy P) (by kernel_rfl) rfl ?_
 refine At (st':=aH t many far unit []) S 1 [] [] rfl obs ?_
 refine Bm (EY (DF (k:=many) S [] rfl obs (by exact Ac hm) ?_ (glb P (by kernel_rfl) (by kernel_rfl)) rfl rfl))
 refine Wv S hf hu Ad _ [] t ht (by refine rr length_nil ?_;refine rr (length_map ..) (rr length_range ?_);exact Ac hm) ?_
 refine rr (length_map ..) ?_;refine rr length_range (rr (nil_append ..) ?_)
 refine AB S (os:=[]) rfl obs ⟨_,rfl,rfl,rfl⟩
end
structure Sp where
 (a b c d e f:Int)
noncomputable def Sp.D(s:Sp):Dat:=.tuple [.int s.a,.int s.b,.int s.c,.int s.d,.int s.e,.int s.f]
structure Qn(s:Sp):Prop where
 a: -2≤s.a∧s.a≤2
 b: -2≤s.b∧s.b≤2
 c: -2≤s.c∧s.c≤2
 d: -2≤s.d∧s.d≤2
 e: -1000001≤s.e∧s.e≤1000001
 f: -1000001≤s.f∧s.f≤1000001
 reg:s.a*s.d-s.b*s.c≠0
noncomputable def led(s:Sp)(p:Pt):Pt:=(s.a*p.1+s.c*p.2+s.e,s.b*p.1+s.d*p.2+s.f)
noncomputable def Sp.M(s:Sp):Mx:=⟨s.a*1000000,s.b*1000000,s.c*1000000,s.d*1000000,s.e,s.f⟩
def Ey(unit:Int)(ls:List Int):Prop:=ls.length≤3∧(∀x∈ls,x=0∨x=8*unit∨x=11*unit)∧(ls=[]∨0<ls.sum)
theorem HX{u:Int}(hu:u=1∨u=90∨u=1000): -1000≤u∧u≤1000:=by rcases hu with rfl|rfl|rfl<;>decide
theorem Me{u:Int}(hu:u=1∨u=90∨u=1000):Bd 20 u:=.of (b:=1000) (HX hu).1 (HX hu).2
noncomputable def mN(t:Ba)(many:Int):Nat:=(dv t many).toNat
theorem YR{t:Ba}{many:Int}(hm:0<many):dv t many=(mN t many:Int):=(Int.toNat_of_nonneg (CI hm).1).symm
theorem SV{t:Ba}{many:Int}(hm:0<many):(mN t many:Int)<many:=YR hm▸(CI hm).2
section
variable{O:Program}{w:World}{P:KF}{U:Heap}{n:Nat}
theorem Qo(S:Al O P.K U){t:Ba}{many:Int}(ht:AJ t)(hm:0<many):FnL O w U (n+1) 325 (AA t) [.int many] (fun d a=>d=.int (mN t many:Nat)∧a=AA (dt t many)):=YR hm▸Cr S ht hm
noncomputable def paM(t:Ba):Nat:=1+mN t 4
noncomputable def paP(u:Int)(t:Ba):List Pt:=OA u 3 (paM t) (dt t 4)
noncomputable def OB(t:Ba):Ba:=XF 3 (paM t) (dt t 4)
noncomputable def paC(t:Ba):Bool:=if paM t<4 then decide (dv (OB t) 2=1)else false
noncomputable def paT(t:Ba):Ba:=if paM t<4 then dt (OB t) 2 else OB t
noncomputable def pbM(t:Ba):Nat:=1+mN (dt t 3) 2
noncomputable def pbP(u:Int)(t:Ba):List Pt:=OA u 1 (pbM t) (dt (dt t 3) 2)
noncomputable def pbT(t:Ba):Ba:=XF 1 (pbM t) (dt (dt t 3) 2)
noncomputable def pbL(u:Int)(t:Ba):List Ln:=if dv t 3=1 then[(pbP u t,decide (dv (pbT t) 2=1))]else[]
noncomputable def pbE(t:Ba):Ba:=if dv t 3=1 then dt (pbT t) 2 else dt t 3
noncomputable def Jb(u:Int)(t:Ba):List Ln:=(paP u t,paC t)::pbL u (paT t)
noncomputable def DW(t:Ba):Ba:=pbE (paT t)
noncomputable def aI(t:Ba)(u:Int)(m:Nat)(l:Ln):St:=[("tape",AA t),("unit",.dat (.int u)),("many",.dat (.int m)),("points",.dat (.list (l.1.map pD))),("found",.lst [CQ l])]
theorem Qp(S:Al O P.K U){t:Ba}{u:Int}{m:Nat}{l:Ln}(ht:AJ t)(hu:Bd 20 u):Ss O w U (scC 339) (n+2) ((AQ 339).drop 3) (aI t u m l) (fun fl st'=>∃a',look "tape" st'=some a'∧flD fl=.list ((l::pbL u t).map CQ)∧a'=AA (pbE t)):=by
 have d1:=Cr (w:=w) (n:=n+1) S ht (many:=3) (by decide)
 unfold pbL pbE
 by_cases h:dv t 3=1
 ·refine rr (if_pos h) (rr (if_pos h) ?_)
  have c:=decide_eq_true h
  have t1:=BC (many:=3) ht
  have d2:=Qo (w:=w) (n:=n+1) S t1 (many:=2) (by decide)
  have lt:=SV (t:=dt t 3) (many:=2) (by decide)
  have d3:=MS (w:=w) (n:=n) S (t:=dt (dt t 3) 2) (many:=pbM t) (far:=1) (unit:=u) (BC t1) (by unfold pbM;lia) (by decide) hu
  have d4:=Cr (w:=w) (n:=n+1) S (t:=pbT t) (JS (far:=1) (pbM t) (BC (many:=2) t1)) (many:=2) (by decide)
  exact AB S (os:=[.lent (.int (dv t 3)) (AA (dt t 3)),.br true,.lent (.int (mN (dt t 3) 2:Nat)) (AA (dt (dt t 3) 2)),.lent (.list ((pbP u t).map pD)) (AA (pbT t)),.lent (.int (dv (pbT t) 2)) (AA (dt (pbT t) 2))]) rfl obs ⟨_,rfl,rfl,rfl⟩
 ·refine rr (if_neg h) (rr (if_neg h) ?_)
  have c:=decide_eq_false h
  exact AB S (os:=[.lent (.int (dv t 3)) (AA (dt t 3)),.br false]) rfl obs ⟨_,rfl,rfl,rfl⟩
theorem Ww(S:Al O P.K U){t:Ba}{u:Int}(ht:AJ t)(hu:Bd 20 u):FnL O w U (n+3) 339 (AA t) [.int u] (fun d a=>d=.list ((Jb u t).map CQ)∧a=AA (DW t)):=by
 have lt:=SV (t:=t) (many:=4) (by decide)
 have d1:=Qo (w:=w) (n:=n+1) S ht (many:=4) (by decide)
 have t1:=BC (many:=4) ht
 have d2:=MS (w:=w) (n:=n) S (t:=dt t 4) (many:=paM t) (far:=3) (unit:=u) t1 (by unfold paM;lia) (by decide) hu
 have t2:AJ (OB t):=JS (far:=3) (paM t) t1
 refine FnL.ofC S (JE P) (by kernel_rfl) rfl ?_
 unfold Jb DW paT paC
 by_cases h:paM t<4
 ·refine rr (if_pos h) (rr (if_pos h) ?_)
  have c:decide ((paM t:Int)<4)=true:=decide_eq_true (by exact(Int.lt_toNat.mp h))
  have d3:=Cr (w:=w) (n:=n+1) S t2 (many:=2) (by decide)
  refine At (st':=aI (dt (OB t) 2) u (paM t) (paP u t,decide (dv (OB t) 2=1))) S 3 [] [.lent (.int (mN t 4:Nat)) (AA (dt t 4)),.lent (.list ((paP u t).map pD)) (AA (OB t)),.br true,.lent (.int (dv (OB t) 2)) (AA (dt (OB t) 2))] rfl obs (Qp S (BC t2) hu)
 ·refine rr (if_neg h) (rr (if_neg h) ?_)
  have c:decide ((paM t:Int)<4)=false:=decide_eq_false (by lia)
  refine At (st':=aI (OB t) u (paM t) (paP u t,false)) S 3 [] [.lent (.int (mN t 4:Nat)) (AA (dt t 4)),.lent (.list ((paP u t).map pD)) (AA (OB t)),.br false] rfl obs (Qp S t2 hu)
theorem YS(S:Al O P.K U){s:Sp}{p:Pt}(ha:Bd 64 s.a)(hb:Bd 64 s.b)(hc:Bd 64 s.c)(hd:Bd 64 s.d)(hx:Bd 1000 p.1)(hy:Bd 1000 p.2):
 FnP O w U (n+1) 363 [s.D,.int p.1,.int p.2] (fun d=>d=pD (led s p)):=by
 have m1:=Ae ha hx
 have m2:=Ae hc hy
 have m3:=Ae hb hx
 have m4:=Ae hd hy
 refine FnP.go S (LX P) rfl [] rfl ?_
 repeat' first|exact obN|refine obA ?_|apply obC
theorem Qq(S:Al O P.K U){s:Sp}:FnP O w U (n+1) 375 [s.D] (· =.list ([.int (s.a*1000000),.int (s.b*1000000),.int (s.c*1000000),.int (s.d*1000000)]++[.int s.e,.int s.f])):=by
 refine FnP.go S (IA P) rfl [.ask (.dat (.list [.int (s.a*1000000),.int (s.b*1000000),.int (s.c*1000000),.int (s.d*1000000)])) [("space",.dat s.D)]] rfl (.cons (show 4+2≤sizeLine by decide) (.cons (fun Q q=>?_) .nil))
 exact AO (Da (Bz.of (by kernel_rfl)) (Ei (Sa (BV (AH S (os:=[]) rfl .nil (AH S (os:=[]) rfl .nil ⟨_,rfl,⟨[.int s.a,.int s.b,.int s.c,.int s.d,.int s.e,.int s.f],rfl,show 6≤sizeLine by decide,⟨_,_,rfl,⟨_,rfl,FP S (ds:=[.int s.a,.int s.b,.int s.c,.int s.d]) [] rfl obs rfl q⟩⟩⟩⟩))))))
theorem SW(S:Al O P.K U){s:Sp}:FnP O w U (n+1) 375 [s.D] (fun d=>d=s.M.D):=Qq S
theorem SX{sc scope:Scope}{st:St}{ts:List Expr}{k:Nat}{p spos pos:Pos}{elt tgt iter:Expr}{ifs:List Expr}{rest:List Stmt}{Q:Fl→St→Prop}(ok:SQ sc scope=true)
 (h:Es O w U sc n iter tgt st fun ds st1=>Bh O w U (By scope sc) n tgt ifs elt (fun acc stI=>∃st2,PC sc 3 (.Tuple ts k p) (.list acc) (EO (BX scope) st1 stI) [] []=some ⟨(),st2,[],[]⟩∧Ss O w U sc n rest st2 Q) ds [] (Iv (BX scope) st1))
 (hw:∀env,env.scope=sc→swapsWithSole [.Tuple ts k p] (.ListComp elt [⟨tgt,iter,ifs,0⟩] scope pos) spos.line env=pure false) (hv:∀env,env.scope=sc→swappedStores [.Tuple ts k p] (.ListComp elt [⟨tgt,iter,ifs,0⟩] scope pos) env=pure none)
 (hs:autoParam (∀env x,foldedSetIterable iter env x=pure x) au.a5._auto_1):Ss O w U sc n (.Assign [.Tuple ts k p] (.ListComp elt [⟨tgt,iter,ifs,0⟩] scope pos) spos::rest) st Q:=
 Bm (Hh (Sa (AO (Ef.mono (Da (Q:=fun av st1=>∃st2,PC sc 3 (.Tuple ts k p) (GH av) st1 [] []=some ⟨(),st2,[],[]⟩∧Ss O w U sc n rest st2 Q) (Bz.of ok) h hs) (by rintro av st1 ⟨st2,e,q⟩;exact Jy (((DM 3 _ _).ok e .nil).2 (fun _ s=>Ss O w U sc n rest s Q) q))))) hw hv)
noncomputable def spV(t:Ba):Int:=dv t 5-2
noncomputable def spW(t:Ba):Int:=dv t 2000003-1000001
noncomputable def spF(t:Ba):Sp:=
 let t1:=dt t 5;let t2:=dt t1 5;let t3:=dt t2 5;let t4:=dt t3 5;let t5:=dt t4 2000003
 if spV t*spV t3=spV t1*spV t2 then⟨1,spV t1,0,-1,spW t4,spW t5⟩else⟨spV t,spV t1,spV t2,spV t3,spW t4,spW t5⟩
noncomputable def spT(t:Ba):Ba:=dt (dt (dt (dt (dt (dt t 5) 5) 5) 5) 2000003) 2000003
noncomputable def bQ(t:Ba)(a b c d:Int)(tl:St):St:=("tape",AA t)::("a",.dat (.int a))::("b",.dat (.int b))::("c",.dat (.int c))::("d",.dat (.int d))::tl
theorem Gw(t:Ba): -2≤spV t∧spV t≤2:=by
 have:=CI (t:=t) (many:=5) (by decide)
 unfold spV;exact⟨(Ab this.1),(Ab this.2)⟩
theorem JT(t:Ba): -1000001≤spW t∧spW t≤1000001:=by
 have:=CI (t:=t) (many:=2000003) (by decide)
 unfold spW;exact⟨(Ab this.1),(Ab this.2)⟩
set_option tactic.hygienic true in
theorem YT(t:Ba):Qn (spF t):=by
 unfold spF
 dsimp only
 split
 ·exact⟨show-2≤(1:Int)∧(1:Int)≤2 by decide,Gw _,show-2≤(0:Int)∧(0:Int)≤2 by decide,show-2≤(-1:Int)∧(-1:Int)≤2 by decide,JT _,JT _,show(1:Int)* -1-spV _*0≠0 by exact(fun hq0=>(absurd (Ab (Int.le_of_eq hq0.symm):(1:Int)≤0) (by decide)))⟩
 ·rename_i h
  exact⟨Gw _,Gw _,Gw _,Gw _,JT _,JT _,fun e=>h (by dsimp only at e;exact(le_antisymm (Ab (Int.le_of_eq e)) (Ab (Int.le_of_eq e.symm))))⟩
theorem Wx(S:Al O P.K U){t:Ba}(ht:AJ t):FnL O w U (n+2) 344 (AA t) [] (fun d a=>d=(spF t).D∧a=AA (spT t)):=by
 refine FnL.ofC S (JF P) (by kernel_rfl) rfl ?_
 have t1:=BC (many:=5) ht
 have t2:=BC (many:=5) t1
 have t3:=BC (many:=5) t2
 have t4:=BC (many:=5) t3
 have t5:=BC (many:=2000003) t4
 have d:∀{t:Ba},AJ t→FnL O w U (n+1) 325 (AA t) [.int 5] (fun d a=>d=.int (dv t 5)∧a=AA (dt t 5)):=fun ht=>Cr S ht (by decide)
 have e:∀{t:Ba},AJ t→FnL O w U (n+1) 325 (AA t) [.int 2000003] (fun d a=>d=.int (dv t 2000003)∧a=AA (dt t 2000003)):=fun ht=>Cr S ht (by decide)
 refine SX (by kernel_rfl) (DF (k:=4) S [] rfl obs (by decide) ?_ (glb P (by kernel_rfl) (by kernel_rfl)) rfl rfl) (fun env h=>rfl) (fun env h=>by cases env;dsimp only at h;subst h;kernel_rfl)
 refine FP S (ds:=[.int 0,.int 1,.int 2,.int 3]) (acc:=[.int (spV t),.int (spV (dt t 5)),.int (spV (dt (dt t 5) 5)),.int (spV (dt (dt (dt t 5) 5) 5))]) [.lent (.int (dv t 5)) (AA (dt t 5)),.lent (.int (dv (dt t 5) 5)) (AA (dt (dt t 5) 5)),.lent (.int (dv (dt (dt t 5) 5) 5)) (AA (dt (dt (dt t 5) 5) 5)),.lent (.int (dv (dt (dt (dt t 5) 5) 5) 5)) (AA (dt (dt (dt (dt t 5) 5) 5) 5))] rfl (.cons (d t3) (.cons (d t2) (.cons (d t1) (.cons (d ht) .nil)))) rfl ⟨bQ (dt (dt (dt (dt t 5) 5) 5) 5) (spV t) (spV (dt t 5)) (spV (dt (dt t 5) 5)) (spV (dt (dt (dt t 5) 5) 5)) [],by kernel_rfl,?_⟩
 refine Bm (Dt (Bz.of (by kernel_rfl)) (DF (k:=2) S [] rfl obs (by decide) ?_ (glb P (by kernel_rfl) (by kernel_rfl)) rfl rfl) (by kernel_rfl) (fun env h=>by cases env;dsimp only at h;subst h;kernel_rfl))
 refine FP S (ds:=[.int 0,.int 1]) (acc:=[.int (spW (dt (dt (dt (dt t 5) 5) 5) 5)),.int (spW (dt (dt (dt (dt (dt t 5) 5) 5) 5) 2000003))]) [.lent (.int (dv (dt (dt (dt (dt t 5) 5) 5) 5) 2000003)) (AA (dt (dt (dt (dt (dt t 5) 5) 5) 5) 2000003)),.lent (.int (dv (dt (dt (dt (dt (dt t 5) 5) 5) 5) 2000003) 2000003)) (AA (spT t))] rfl (.cons (e t5) (.cons (e t4) .nil)) rfl ?_
 refine Ss.at (bQ (spT t) (spV t) (spV (dt t 5)) (spV (dt (dt t 5) 5)) (spV (dt (dt (dt t 5) 5) 5)) [("moves",.lst [.int (spW (dt (dt (dt (dt t 5) 5) 5) 5)),.int (spW (dt (dt (dt (dt (dt t 5) 5) 5) 5) 2000003))])]) ?_ (by kernel_rfl)
 have b:∀t,Bd 30 (spV t):=fun t=>show Int.natAbs _<2^30 by have:=Gw t;omega
 have m1:AT (spV t) (spV (dt (dt (dt t 5) 5) 5)):=Ae (b _) (b _)
 have m2:AT (spV (dt t 5)) (spV (dt (dt t 5) 5)):=Ae (b _) (b _)
 unfold spF
 by_cases h:spV t*spV (dt (dt (dt t 5) 5) 5)=spV (dt t 5)*spV (dt (dt t 5) 5)
 ·have c:=decide_eq_true h
  refine AB S (os:=[.br true,.val (.int (spW (dt (dt (dt (dt t 5) 5) 5) 5))),.val (.int (spW (dt (dt (dt (dt (dt t 5) 5) 5) 5) 2000003)))]) rfl obs ⟨_,rfl,?_,rfl⟩
  dsimp only
  refine rr (if_pos h) ?_;rfl
 ·have c:=decide_eq_false h
  refine AB S (os:=[.br false,.val (.int (spW (dt (dt (dt (dt t 5) 5) 5) 5))),.val (.int (spW (dt (dt (dt (dt (dt t 5) 5) 5) 5) 2000003)))]) rfl obs ⟨_,rfl,?_,rfl⟩
  dsimp only
  refine rr (if_neg h) ?_;rfl
theorem Cf(ls:List Int):Bo (.list (ls.map .int))∧Bo (.list []):=⟨(Cn (EF (k:=1) _)).plain,(Cn (EF (k:=1) [])).plain⟩
theorem Hk{ls:List Int}(h:ls≠[]):deq (.list (ls.map .int)) (.list [])=false:=by
 rcases ls with _|⟨_,_⟩
 ·exact absurd rfl h
 ·rfl
noncomputable def YU(e:Expr):List Expr:=aB (kid e 2)
noncomputable def lnN(v:Int):Nat:=(v-1).toNat
noncomputable def lnK(v:Int):Int:=if v=0 then 0 else if v=1 then 8 else 11
noncomputable def lnF(u:Int):Nat→Ba→List Int
 |0,_=>[]
 |k+1,t=>lnK (dv t 3)*u::lnF u k (dt t 3)
noncomputable def lnT:Nat→Ba→Ba
 |0,t=>t
 |k+1,t=>lnT k (dt t 3)
noncomputable def Bq(u:Int)(t:Ba):List Int:=if lnF u (lnN (dv t 5)) (dt t 5)=[]∨0<(lnF u (lnN (dv t 5)) (dt t 5)).sum then lnF u (lnN (dv t 5)) (dt t 5)else[8*u]
noncomputable def Bg(t:Ba):Ba:=lnT (lnN (dv t 5)) (dt t 5)
theorem Qr(u:Int):∀k t,(lnF u k t).length=k:=by
 intro k
 induction k with
 |zero=>
  intro _
  exact rfl
 |succ k ih=>
  intro t
  exact congrArg (· +1) (ih (dt t 3))
theorem Wy(u:Int):∀k t,∀x∈lnF u k t,x=0∨x=8*u∨x=11*u:=by
 intro k
 induction k with
 |zero=>
  intro z0 z1 z2
  cases z2
 |succ k ih=>
  intro t x hx
  rcases mem_cons.mp hx with rfl|hx
  ·unfold lnK
   split
   ·exact .inl (Int.zero_mul u)
   ·split
    ·exact .inr (.inl rfl)
    ·exact .inr (.inr rfl)
  ·exact ih _ x hx
theorem YV:∀k {t:Ba},AJ t→AJ (lnT k t):=by
 intro k
 induction k with
 |zero=>
  intro _ h
  exact h
 |succ k ih=>
  intro _ h
  exact ih (BC h)
theorem YW(t:Ba):lnN (dv t 5)≤3:=by
 have:=CI (t:=t) (many:=5) (by decide)
 unfold lnN;omega
set_option tactic.hygienic true in
theorem Mf{u:Int}(hu:1≤u)(t:Ba):Ey u (Bq u t):=by
 unfold Bq
 split
 ·rename_i h
  exact⟨by refine rr (Qr ..) ?_;exact YW t,Wy _ _ _,h⟩
 ·exact⟨show 1≤3 by decide,fun x hx=>.inr (.inl (mem_singleton.mp hx)),.inr (show 0<8*u+0 by lia)⟩
noncomputable def lnE:Expr:=Ap (FO (AQ 349) [0])
noncomputable def NV(t:Ba)(u:Int):St:=[("tape",AA t),("unit",.dat (.int u))]
theorem Wz(S:Al O P.K U){u:Int}(hu:Bd 20 u){Q:List Dat→St→Prop}(F:∀acc s,Q acc (Iu ["turn"] s)→Q acc s):∀(xs acc:List Dat) (t:Ba),AJ t→acc.length+xs.length≤100→Q (acc++(lnF u xs.length t).map .int) (NV (lnT xs.length t) u)→
 Bh O w U (By (Lx lnE) (scC 349)) (n+1) (ER lnE) (ES lnE) (EQ lnE) Q xs acc (NV t u):=by
 intro xs
 induction xs with
 |nil=>intro acc t _ _ q;exact(append_nil acc)▸q
 |cons x xs ih=>
  intro acc t ht hl q
  rw[length_cons]at hl q
  have k:=ih (acc++[.int (lnK (dv t 3)*u)]) (dt t 3) (BC ht) (by refine rr length_append (rr length_singleton ?_);exact Ac hl) (by refine rr (append_assoc ..) ?_;exact q)
  have d:=Cr (w:=w) (n:=n) S ht (many:=3) (by decide)
  have hz:acc.length+1≤sizeLine:=le_trans (show _≤16777216 by exact Ac hl) szl
  have r:=CI (t:=t) (many:=3) (by decide)
  have H:∀v c:Int,lnK v=c→v=dv t 3→JM ["turn"] (Ma O w U (n+1) (By (Lx lnE) (scC 349)) (ER lnE) (ES lnE) (EQ lnE) x (NV t u) [.lent (.int v) (AA (dt t 3))] [])=some (some (.int (c*u)),NV (dt t 3) u,[Cv .Mult (.int c) (.int u),FnL O w U (n+1) 325 (AA t) [.int 3] (fun d a=>d=.int v∧a=AA (dt t 3))])→AT c u→Bh O w U (By (Lx lnE) (scC 349)) (n+1) (ER lnE) (ES lnE) (EQ lnE) Q (x::xs) acc (NV t u):=by
   rintro v c rfl rfl e m
   exact AZ S ["turn"] _ k e (.cons m (.cons d .nil)) hz F
  have e:dv t 3=0∨dv t 3=1∨dv t 3=2:=by lia
  rcases e with e|e|e
  ·exact H 0 0 rfl e.symm rfl (.of_left (by decide))
  ·exact H 1 8 rfl e.symm rfl (.of_left (by decide))
  ·exact H 2 11 rfl e.symm rfl (.of_left (by decide))
theorem Qs(S:Al O P.K U){t:Ba}{u:Int}(ht:AJ t)(hu:Bd 20 u):FnL O w U (n+2) 349 (AA t) [.int u] (fun d a=>d=.list ((Bq u t).map .int)∧a=AA (Bg t)):=by
 refine FnL.ofC S (HK P) (by kernel_rfl) rfl ?_
 have d:=Cr (w:=w) (n:=n) S ht (many:=5) (by decide)
 have r:=CI (t:=t) (many:=5) (by decide)
 have H:∀(v:Int) (k:Nat),v=dv t 5→k=lnN v→k≤3→goA O w U (n+1) (scC 349) (YU lnE) (NV t u) [.lent (.int v) (AA (dt t 5))] []=some ⟨[.int k],NV (dt t 5) u,[],[FnL O w U (n+1) 325 (AA t) [.int 5] (fun d a=>d=.int v∧a=AA (dt t 5))]⟩→Ss O w U (scC 349) (n+1) (AQ 349) (NV t u) (fun fl st'=>∃a',look "tape" st'=some a'∧flD fl=.list ((Bq u t).map .int)∧a'=AA (Bg t)):=by
  rintro v k rfl rfl hk e
  have hz:((lnF u (lnN (dv t 5)) (dt t 5)).map Dat.int).length≤sizeLine:=by refine rr (length_map ..) (rr (Qr ..) ?_);exact le_trans hk (by decide)
  refine Bm (Dt (Bz.of (by kernel_rfl)) (DF (k:=lnN (dv t 5)) S _ e (.cons d .nil) (by exact Ac hk) (Wz S hu ?_ _ [] (dt t 5) (BC ht) (by refine rr length_nil ?_;refine rr (length_map ..) (rr length_range ?_);exact Ac hk) ?_) (glb P (by kernel_rfl) (by kernel_rfl)) rfl rfl) (by kernel_rfl) (fun env h=>by cases env;dsimp only at h;subst h;kernel_rfl))
  ·intro acc s q
   rwa [AY (by kernel_rfl)]at q
  refine rr (length_map ..) ?_;refine rr length_range (rr (nil_append ..) ?_)
  refine Ss.at (NV (Bg t) u++([("found",.lst ((lnF u (lnN (dv t 5)) (dt t 5)).map .int))]:St)) ?_ (by kernel_rfl)
  have sum:∀(p1 p2 p3:Pos) (Q:EV→St→Prop),Q (.dat (.int (lnF u (lnN (dv t 5)) (dt t 5)).sum)) (NV (Bg t) u++([("found",.lst ((lnF u (lnN (dv t 5)) (dt t 5)).map .int))]:St))→Ev O w U (scC 349) (n+1) (.Call (.Name "sum" p1) [.Name "found" p2] [] p3) (NV (Bg t) u++([("found",.lst ((lnF u (lnN (dv t 5)) (dt t 5)).map .int))]:St)) Q:=
   fun _ _ _ Q q=>Pd S (glb P (by kernel_rfl) (by kernel_rfl)) rfl (AH S (os:=[]) rfl obs ⟨_,_,rfl,Ui,q⟩)
  unfold Bq
  generalize lnF u (lnN (dv t 5)) (dt t 5)=ls at hz sum⊢
  have m8:AT (8:Int) u:=.of_left (by decide)
  by_cases h:ls=[]
  ·subst h
   refine rr (if_pos (.inl rfl)) ?_
   refine AB S (os:=[.br true,.br true]) rfl ?_ ⟨_,rfl,rfl,rfl⟩
   repeat' first|exact obN|refine obA ?_|apply obC
   exact Cf []
  ·have c1:deq (.list (ls.map .int)) (.list [])=false:=Hk h
   by_cases h2:0<ls.sum
   ·refine rr (if_pos (.inr h2)) ?_
    have c2:=decide_eq_true h2
    refine AB S (os:=[.br false,.ask (.dat (.int ls.sum)) (NV (Bg t) u++([("found",.lst (ls.map .int))]:St)),.br true,.br true]) rfl ?_ ⟨_,rfl,rfl,rfl⟩
    repeat' first|exact obN|refine obA ?_|apply obC
    ·exact sum _ _ _
    ·exact Cf ls
   ·refine rr (if_neg fun k=>k.elim h h2) ?_
    have c2:=decide_eq_false h2
    refine AB S (os:=[.br false,.ask (.dat (.int ls.sum)) (NV (Bg t) u++([("found",.lst (ls.map .int))]:St)),.br false,.br false]) rfl ?_ ⟨_,rfl,rfl,rfl⟩
    repeat' first|exact obN|refine obA ?_|apply obC
    ·exact sum _ _ _
    ·exact Cf ls
 have e:dv t 5=0∨dv t 5=1∨dv t 5=2∨dv t 5=3∨dv t 5=4:=by lia
 rcases e with e|e|e|e|e
 ·exact H 0 0 e.symm rfl (by decide) rfl
 ·exact H 1 0 e.symm rfl (by decide) rfl
 ·exact H 2 1 e.symm rfl (by decide) rfl
 ·exact H 3 2 e.symm rfl (by decide) rfl
 ·exact H 4 3 e.symm rfl (by decide) rfl
end
def Dc(dashed:Bool)(l l':Ln):Prop:=l'.2=l.2∧(dashed=true→l'=l)∧∃q,(q=l.1∨q=l.1.reverse)∧(l'.1=q∨l.2=true∧∃k,l'.1=q.drop k++q.take k)
class inductive HY(dashed:Bool):List Ln→List Ln→Prop
 |nil:HY dashed [] []
 |cons {l l':Ln}{ls ls':List Ln}:Dc dashed l l'→HY dashed ls ls'→HY dashed (l::ls) (l'::ls')
def KS(dashed:Bool)(ps qs:List Ln):Prop:=∃rs,HY dashed ps rs∧(qs=rs∨qs=rs.reverse)
section
variable{O:Program}{w:World}{U:Heap}{sc:Scope}{n:Nat}{st:St}
theorem MT{l i:Expr}{p pos:Pos}{Q:AG→St→Prop}(h:Ev O w U sc n l st fun a st1=>Ev O w U sc n i st1 fun b st2=>∃(k:Nat) (ds:List Dat),rd st2 b=some (.int k)∧rd st2 a=some (.list ds)∧ds.length≤sizeLine∧Q (.lst (ds.drop k)) st2):
 Ef O w U sc n (.Subscript l (.Slice (some i) none none p) pos) st Q:=
 Hf (Ev.mono h fun _ _ h=>Ev.mono h (by rintro _ _ ⟨k,ds,e1,e2,z,q⟩;exact⟨k,e1,ds,e2,z,by refine rr (HE ..) ?_;exact q⟩))
theorem Uv{l i:Expr}{p pos:Pos}{Q:AG→St→Prop}(h:Ev O w U sc n l st fun a st1=>Ev O w U sc n i st1 fun b st2=>∃(k:Nat) (ds:List Dat),rd st2 b=some (.int k)∧rd st2 a=some (.list ds)∧ds.length≤sizeLine∧Q (.lst (ds.take k)) st2):
 Ef O w U sc n (.Subscript l (.Slice none (some i) none p) pos) st Q:=
 Hf (Ev.mono h fun _ _ h=>Ev.mono h (by rintro _ _ ⟨k,ds,e1,e2,z,q⟩;exact⟨k,e1,ds,e2,z,by refine rr (LS ..) ?_;exact q⟩))
theorem Ss.freeze{xs:List Stmt}{x:Str}{a:AG}{Q:Fl→St→Prop}(e:look x st=some a)(h:Ss O w U sc n xs (put x (.dat (GH a)) st) Q):Ss O w U sc n xs st Q:=by
 intro A env R as s hR hE r
 have r0:=r
 obtain⟨⟨val,cs,hr,_⟩,_⟩:=r0
 have ez:frz st (.own x)=some (GH a,put x (.dat (GH a)) st):=by simp only[frz,e]
 obtain⟨as',sub,r',_⟩:=r.freeze (a:=.own x) (v:=val x) (hr x a (CA e)).1 ez
 exact wpAny_mono (h A env R as' s hR hE r') (fun _ _ p=>PX.after (t1:=s.toks) (Ah.less sub).toS p) fun _ _ x=>x
end
section
variable{O:Program}{w:World}{P:KF}{U:Heap}{n:Nat}
noncomputable def rv(d:Bool)(t:Ba)(ps:List Pt):List Pt:=if d=false∧dv t 2=1 then ps.reverse else ps
noncomputable def rvT(d:Bool)(t:Ba):Ba:=if d then t else dt t 2
noncomputable def roK(t:Ba)(ps:List Pt):Nat:=((dv t 3).fmod (ps.length:Nat)).toNat
noncomputable def ro(d c:Bool)(t:Ba)(ps:List Pt):List Pt:=if(!d&&c)=true then ps.drop (roK t ps)++ps.take (roK t ps)else ps
noncomputable def roT(d c:Bool)(t:Ba):Ba:=if(!d&&c)=true then dt t 3 else t
noncomputable def rtL(d:Bool)(t:Ba)(l:Ln):Ln:=(ro d l.2 (rvT d t) (rv d t l.1),l.2)
noncomputable def rtT(d:Bool)(t:Ba)(l:Ln):Ba:=roT d l.2 (rvT d t)
noncomputable def rtF(d:Bool):Ba→List Ln→List Ln
 |_,[]=>[]
 |t,l::ls=>rtL d t l::rtF d (rtT d t l) ls
noncomputable def rtE(d:Bool):Ba→List Ln→Ba
 |t,[]=>t
 |t,l::ls=>rtE d (rtT d t l) ls
noncomputable def Gx(d:Bool)(t:Ba)(ls:List Ln):List Ln:=if dv (rtE d t ls) 2=1 then(rtF d t ls).reverse else rtF d t ls
noncomputable def Mg(d:Bool)(t:Ba)(ls:List Ln):Ba:=dt (rtE d t ls) 2
theorem Qt{d:Bool}{t:Ba}(h:AJ t):AJ (rvT d t):=by unfold rvT;split<;>first|exact h|exact BC h
theorem Uw{d c:Bool}{t:Ba}(h:AJ t):AJ (roT d c t):=by unfold roT;split<;>first|exact BC h|exact h
theorem YX{d:Bool}:∀(ls:List Ln) {t:Ba},AJ t→AJ (rtE d t ls):=by
 intro ls
 induction ls with
 |nil=>
  intro _ h
  exact h
 |cons _ ls ih=>
  intro _ h
  exact ih (Uw (Qt h))
theorem YY(d:Bool)(t:Ba)(ps:List Pt):(rv d t ps).length=ps.length:=by unfold rv;split<;>first|exact List.length_reverse|exact rfl
set_option tactic.hygienic true in
theorem WA(d:Bool)(t:Ba)(l:Ln):Dc d l (rtL d t l):=by
 refine⟨rfl,fun h=>?_,rv d t l.1,?_,?_⟩
 ·subst h
  exact Prod.ext (by unfold rtL ro rv;simp) rfl
 ·unfold rv;split<;>first|exact .inr rfl|exact .inl rfl
 ·show ro d l.2 (rvT d t) (rv d t l.1)=_∨l.2=true∧∃k,ro d l.2 (rvT d t) (rv d t l.1)=_
  unfold ro
  split
  ·rename_i h
   exact .inr ⟨(and_eq_true_iff.mp h).2,_,rfl⟩
  ·exact .inl rfl
theorem WB(d:Bool):∀(ls:List Ln) (t:Ba),HY d ls (rtF d t ls):=by
 intro ls
 induction ls with
 |nil=>
  intro _
  exact .nil
 |cons l ls ih=>
  intro t
  exact .cons (WA d t l) (ih _)
theorem NW(d:Bool)(t:Ba)(ls:List Ln):KS d ls (Gx d t ls):=by
 refine⟨_,WB d ls t,?_⟩
 unfold Gx
 split
 ·exact .inr rfl
 ·exact .inl rfl
noncomputable def NX(t:Ba)(ps:List Ln)(d:Bool)(acc:List Dat)(tl:St):St:=("tape",AA t)::("parts",.dat (.list (ps.map CQ)))::("is_dashed",.dat (.bool d))::("found",.lst acc)::tl
noncomputable def YZ(q:List Pt)(c:Bool):St:=[("points",.dat (.list (q.map pD))),("is_closed",.dat (.bool c))]
noncomputable def tdX:Stmt:=FO (AQ 356) [1]
theorem Ux(S:Al O P.K U){ps:List Ln}{d c:Bool}{Q:Fl→St→Prop}(F:AP Q){ds acc:List Dat}{t:Ba}{q:List Pt}(tl:St)(hz:acc.length+1≤sizeLine)(q0:Bc O w U (scC 356) (n+1) (Ap tdX) (Bf tdX) Q ds (NX t ps d (acc++[CQ (q,c)]) []))
 (ht:tl=[]∨∃k:Int,tl=([("at",.dat (.int k))]:St)):Ss O w U (scC 356) (n+1) ((Bf tdX).drop 2) (NX t ps d acc (YZ q c++tl)) (GO Q (Bc O w U (scC 356) (n+1) (Ap tdX) (Bf tdX) Q ds)):=by
 rcases ht with rfl|⟨k,rfl⟩
 ·exact CB S ["points","is_closed"] [] q0 rfl obs F
 ·exact CB S ["points","is_closed","at"] [] q0 rfl obs F
theorem WC(S:Al O P.K U){ps:List Ln}{d:Bool}{Q:Fl→St→Prop}(F:AP Q){ds acc:List Dat}{t:Ba}{l:Ln}(ht:AJ t)(h1:1≤l.1.length)(h2:l.1.length≤100)(hz:acc.length+1≤sizeLine)
 (q0:Bc O w U (scC 356) (n+1) (Ap tdX) (Bf tdX) Q ds (NX (rtT d t l) ps d (acc++[CQ (rtL d t l)]) [])):Bc O w U (scC 356) (n+1) (Ap tdX) (Bf tdX) Q (CQ l::ds) (NX t ps d acc []):=by
 obtain⟨pts,c⟩:=l
 refine EJ (st':=NX t ps d acc (YZ pts c)) rfl ?_
 have zl:(pts.map pD).length≤sizeLine:=le_trans (show _≤1000 by refine rr (length_map ..) ?_;lia) (by decide)
 have cut:Ss O w U (scC 356) (n+1) ((Bf tdX).drop 1) (NX (rvT d t) ps d acc (YZ (rv d t pts) c)) (GO Q (Bc O w U (scC 356) (n+1) (Ap tdX) (Bf tdX) Q ds)):=by
  have t2:AJ (rvT d t):=Qt ht
  have hl:(rv d t pts).length=pts.length:=YY d t pts
  have h1:1≤pts.length:=h1
  have h2:pts.length≤100:=h2
  unfold rtT rtL ro roT at q0
  generalize rv d t pts=q at q0 hl⊢
  generalize rvT d t=t at q0 t2⊢
  have c1:d=false→(!d)=true:=fun h=>congrArg not h
  by_cases h:(!d&&c)=true
  ·obtain⟨hd,rfl⟩:=and_eq_true_iff.mp h
   rw[if_pos h,if_pos h]at q0
   have d1:=Cr (w:=w) (n:=n) S t2 (many:=3) (by decide)
   have r:=CI (t:=t) (many:=3) (by decide)
   have hn:(((q.map pD).length:Nat):Int)≠0:=by refine rr (length_map ..) ?_;lia
   have hs:(q.map pD).length≤sizeLine:=le_trans (show _≤1000 by refine rr (length_map ..) ?_;lia) (by decide)
   have hb:(q.map pD).length<2^62:=lt_of_le_of_lt hs (by decide)
   have hk:(dv t 3).fmod (((q.map pD).length:Nat):Int)=(roK t q:Int):=by
    unfold roK
    refine rr (length_map ..) (rr (Int.toNat_of_nonneg (by refine rr (fmod_eq_emod_of_nonneg _ (by exact(Ab (natCast_nonneg (q.length))))) ?_;exact emod_nonneg _ (by lia))) ?_);rfl
   have ha:((q.map pD).drop (roK t q)).length+((q.map pD).take (roK t q)).length≤sizeLine:=le_trans (show _≤1000 by refine rr length_drop ?_;refine rr length_take (rr (length_map ..) ?_);omega) (by decide)
   refine At (st':=NX (dt t 3) ps d acc [("points",.dat (.list ((q.map pD).drop (roK t q)++(q.map pD).take (roK t q)))),("is_closed",.dat (.bool true)),("at",.dat (.int ((dv t 3).fmod (((q.map pD).length:Nat):Int))))]) S 1 []
    [.br true,.br true,.br true,.lent (.int (dv t 3)) (AA (dt t 3)),.own (.lst ((q.map pD).drop (roK t q))) (NX (dt t 3) ps d acc (YZ q true++([("at",.dat (.int ((dv t 3).fmod (((q.map pD).length:Nat):Int))))]:St))),.own (.lst ((q.map pD).take (roK t q))) (NX (dt t 3) ps d acc (YZ q true++([("at",.dat (.int ((dv t 3).fmod (((q.map pD).length:Nat):Int))))]:St)))] rfl ?_ ?_
   ·repeat' first|exact obN|refine obA ?_|apply obC
    ·intro Q k
     refine Uv (AH S (os:=[]) rfl .nil (AH S (os:=[]) rfl .nil ⟨roK t q,_,?_,?_,hs,k⟩))
     ·exact congrArg (fun i=>some (Dat.int i)) hk
     ·rfl
    ·intro Q k
     refine MT (AH S (os:=[]) rfl .nil (AH S (os:=[]) rfl .nil ⟨roK t q,_,?_,?_,hs,k⟩))
     ·exact congrArg (fun i=>some (Dat.int i)) hk
     ·rfl
   ·refine rl map_drop ?_;refine rl map_take (rl map_append ?_)
    exact Ux S F [("at",.dat (.int ((dv t 3).fmod (((q.map pD).length:Nat):Int))))] hz q0 (.inr ⟨_,rfl⟩)
  ·rw[if_neg h,if_neg h]at q0
   have e:=Ux S F [] hz q0 (.inl rfl)
   rcases d with _|_
   ·
    rcases c with _|_
    ·exact At S 1 [] [.br true,.br false,.br false] rfl obs e
    ·exact absurd rfl h
   ·exact At S 1 [] [.br false,.br false] rfl obs e
 rcases d with _|_
 ·
  have d1:=Cr (w:=w) (n:=n) S ht (many:=2) (by decide)
  by_cases h:dv t 2=1
  ·have b:=decide_eq_true h
   rw[show rv false t pts=pts.reverse from if_pos ⟨rfl,h⟩]at cut
   refine At (st':=NX (dt t 2) ps false acc [("points",.lst (pts.map pD).reverse),("is_closed",.dat (.bool c))]) S 1 [] [.br true,.lent (.int (dv t 2)) (AA (dt t 2)),.br true,.br true] rfl obs (Ss.freeze (x:="points") rfl ?_)
   refine rl map_reverse ?_
   exact cut
  ·have b:=decide_eq_false h
   rw[show rv false t pts=pts from if_neg fun k=>h k.2]at cut
   exact At S 1 [] [.br true,.lent (.int (dv t 2)) (AA (dt t 2)),.br false,.br false] rfl obs cut
 ·
  rw[show rv true t pts=pts from if_neg fun h=>Bool.noConfusion h.1]at cut
  exact At S 1 [] [.br false,.br false] rfl obs cut
theorem WD(S:Al O P.K U){ps:List Ln}{d:Bool}{Q:Fl→St→Prop}(F:AP Q):∀(ls:List Ln) (acc:List Dat) (t:Ba),AJ t→acc.length+ls.length≤1000→(∀l∈ls,1≤l.1.length∧l.1.length≤100)→Q .next (NX (rtE d t ls) ps d (acc++(rtF d t ls).map CQ) [])→
 Bc O w U (scC 356) (n+1) (Ap tdX) (Bf tdX) Q (ls.map CQ) (NX t ps d acc []):=by
 intro ls
 induction ls with
 |nil=>intro acc t _ _ _ q;exact(append_nil acc)▸q
 |cons l ls ih=>
  intro acc t ht hl hp q
  rw[length_cons]at hl
  exact WC S F ht (hp l (.head _)).1 (hp l (.head _)).2 (le_trans (show _≤1000 by exact Ac hl) (by decide)) (ih (acc++[CQ (rtL d t l)]) (rtT d t l) (Uw (Qt ht)) (by refine rr length_append (rr length_singleton ?_);exact Ac hl) (fun x h=>hp x (.tail _ h)) (by refine rr (append_assoc ..) ?_;exact q))
theorem WE(d:Bool):∀(ls:List Ln) (t:Ba),(rtF d t ls).length=ls.length:=by
 intro ls
 induction ls with
 |nil=>
  intro _
  exact rfl
 |cons _ ls ih=>
  intro _
  exact congrArg (· +1) (ih _)
theorem SY(S:Al O P.K U){t:Ba}{ps:List Ln}{d:Bool}(ht:AJ t)(hz:ps.length≤100)(hp:∀l∈ps,1≤l.1.length∧l.1.length≤100):FnL O w U (n+2) 356 (AA t) [.list (ps.map CQ),.bool d] (fun r a=>r=.list ((Gx d t ps).map CQ)∧a=AA (Mg d t ps)):=by
 refine FnL.ofC S (Iz P) (by kernel_rfl) rfl ?_
 refine At (st':=NX t ps d [] []) S 1 [] [] rfl obs ?_
 refine Fb S (os:=[]) rfl rfl obs (WD S Ad ps [] t ht (by refine rr length_nil ?_;exact Ac hz) hp ?_)
 have d1:=Cr (w:=w) (n:=n) S (t:=rtE d t ps) (YX ps ht) (many:=2) (by decide)
 have hs:((rtF d t ps).map CQ).length≤sizeLine:=le_trans (show _≤1000 by refine rr (length_map ..) (rr (WE ..) ?_);exact Ac hz) (by decide)
 unfold Gx Mg
 refine rr (nil_append ..) ?_
 by_cases h:dv (rtE d t ps) 2=1
 ·have b:=decide_eq_true h
  refine rr (if_pos h) (rr map_reverse ?_)
  exact AB S (os:=[.lent (.int (dv (rtE d t ps) 2)) (AA (dt (rtE d t ps) 2)),.br true]) rfl obs ⟨_,rfl,rfl,rfl⟩
 ·have b:=decide_eq_false h
  refine rr (if_neg h) ?_
  exact AB S (os:=[.lent (.int (dv (rtE d t ps) 2)) (AA (dt (rtE d t ps) 2)),.br false]) rfl obs ⟨_,rfl,rfl,rfl⟩
end
def Hl(m:Mx):Prop:=Bd 64 m.a∧Bd 64 m.b∧Bd 64 m.c∧Bd 64 m.d∧Bd 64 m.e∧Bd 64 m.f
def BdP(k:Nat)(p:Pt):Prop:=Bd k p.1∧Bd k p.2
theorem BdP.up{k l:Nat}{p:Pt}(h:BdP k p)(kl:autoParam (k≤l) au.a4._auto_1):BdP l p:=⟨h.1.up kl,h.2.up kl⟩
theorem JU{m:Mx}{p:Pt}(hm:Hl m)(hp:BdP 900 p):BdP 1000 (Au m p):=by
 obtain⟨ha,hb,hc,hd,he,hf⟩:=hm
 obtain⟨hx,hy⟩:=hp
 exact⟨(Bd.add (Bd.divI (Bd.add (Bd.mul ha hx) (Bd.mul hc hy))) he).up,(Bd.add (Bd.divI (Bd.add (Bd.mul hb hx) (Bd.mul hd hy))) hf).up⟩
section
variable{O:Program}{w:World}{P:KF}{U:Heap}{n:Nat}
theorem MU(S:Al O P.K U){p:AV}{i:Addr}{rs:List Row}{q:Pt}(hm:Hl p.m)(hq:BdP 900 q):
 FnL O w U (n+3) 253 (Bw p i rs) [pD q] (fun d a=>d=pD (Au p.m q)∧a=Bw p i rs):=by
 have h:=Md (w:=w) (n:=n) S hm.1 hm.2.1 hm.2.2.1 hm.2.2.2.1 hq.1.up hq.2.up
 refine FnL.go S (JD P) (by kernel_rfl) rfl [.val (pD (Au p.m q))] rfl ?_
 repeat' first|exact obN|refine obA ?_|apply obC
theorem JV(S:Al O P.K U){p:AV}{i:Addr}{rs:List Row}{q:Pt}(hh:Bd 64 p.half)(hq:BdP 100 q)(h0:q≠(0,0)):
 FnL O w U (n+4) 270 (Bw p i rs) [pD q] (fun d a=>d=pD (Ag p.half q)∧a=Bw p i rs):=by
 obtain⟨b1,b2⟩:=hq
 have hlen:0<(q.1*1000000)*(q.1*1000000)+(q.2*1000000)*(q.2*1000000):=by
  have k:∀x:Int,x≠0→0<x*x:=fun x hx=>by
   rcases Int.lt_or_gt_of_ne hx with h|h
   ·exact Int.mul_pos_of_neg_of_neg h h
   ·exact mul_pos h h
  have k0:∀x:Int,0≤x*x:=fun x=>by
   by_cases hx:x=0
   ·subst hx;decide
   ·exact le_of_lt (k x hx)
  by_cases h1:q.1=0
  ·have h2:q.2≠0:=fun h=>h0 (Prod.ext h1 h)
   have:=k (q.2*1000000) (by lia)
   have:=k0 (q.1*1000000)
   omega
  ·have:=k (q.1*1000000) (by lia)
   have:=k0 (q.2*1000000)
   omega
 have hr:=FQ hlen
 have h:=ST (w:=w) (n:=n+1) S (Bd.up (Bd.mul b1 (Bd.num (x:=1000000)))) (Bd.up (Bd.mul b2 (Bd.num (x:=1000000))))
 have dv:=fun z=>Cp (w:=w) (n:=n+2) S (a:=z) (ne_of_gt hr)
 have m1:AT (-q.2*p.half) 1000000:=PySem.IntMulOk.of_right (by decide)
 have m2:AT (-q.2) p.half:=Ae b2.neg hh
 have m3:AT q.1 p.half:=Ae b1 hh
 refine FnL.go S (KL P) (by kernel_rfl) rfl [.val (.int (CP ((q.1*1000000)*(q.1*1000000)+(q.2*1000000)*(q.2*1000000)))),.val (.int (Ag p.half q).1),.val (.int (Ag p.half q).2)] rfl ?_
 repeat' first|exact obN|refine obA ?_|apply obC
 all_goals exact dv _
theorem Jc(S:Al O P.K U){p q:Pt}(hp:BdP 100 p)(hq:BdP 100 q):
 FnP O w U (n+3) 225 [pD p,pD q] (fun d=>d=.tuple [.int (AS p q),.int (BB p q)]):=by
 obtain⟨b1,b2⟩:=hp
 obtain⟨b3,b4⟩:=hq
 have bw:Bd 410 ((p.1*p.1+p.2*p.2)*(q.1*q.1+q.2*q.2)):=Bd.up (Bd.mul (Bd.add (Bd.mul b1 b1) (Bd.mul b2 b2)) (Bd.add (Bd.mul b3 b3) (Bd.mul b4 b4)))
 have h:=YO (w:=w) (n:=n+1) S (x:=(p.1*p.1+p.2*p.2)*(q.1*q.1+q.2*q.2)*1000000*1000000) (Bd.up (Bd.mul (Bd.mul bw (Bd.num (x:=1000000))) (Bd.num (x:=1000000))))
 have m1:AT (p.1*p.1+p.2*p.2) (q.1*q.1+q.2*q.2):=Ae (Bd.add (Bd.mul b1 b1) (Bd.mul b2 b2)) (Bd.add (Bd.mul b3 b3) (Bd.mul b4 b4))
 have n1:AT p.1 p.1:=Ae b1 b1
 have n2:AT p.2 p.2:=Ae b2 b2
 have n3:AT q.1 q.1:=Ae b3 b3
 have n4:AT q.2 q.2:=Ae b4 b4
 have n5:AT p.1 q.1:=Ae b1 b3
 have n6:AT p.2 q.2:=Ae b2 b4
 refine FnP.go S (FI P) rfl [.val (.int (AS p q))] rfl ?_
 repeat' first|exact obN|refine obA ?_|apply obC
theorem Uy(S:Al O P.K U){p q:Pt}{limit:Int}(hp:BdP 100 p)(hq:BdP 100 q)(hl:Bd 64 limit):
 FnP O w U (n+4) 232 [pD p,pD q,.int limit] (fun d=>d=.bool (HV (AS p q) (BB p q) limit)):=by
 have b1:Bd 1000 (AS p q):=by
  obtain⟨b1,b2⟩:=hp
  obtain⟨b3,b4⟩:=hq
  exact Bd.up (Bd.rootI (Bd.mul (Bd.mul (Bd.mul (Bd.add (Bd.mul b1 b1) (Bd.mul b2 b2)) (Bd.add (Bd.mul b3 b3) (Bd.mul b4 b4))) (Bd.num (x:=1000000))) (Bd.num (x:=1000000))))
 have b2:Bd 2000 (BB p q):=by
  obtain⟨c1,c2⟩:=hp
  obtain⟨c3,c4⟩:=hq
  exact Bd.up (Bd.add b1 (Bd.mul (Bd.num (x:=1000000)) (Bd.add (Bd.mul c1 c3) (Bd.mul c2 c4))))
 have h:=Jc (w:=w) (n:=n) S hp hq
 have m1:AT limit limit:=Ae hl hl
 have m2:AT (limit*limit) (BB p q):=Ae (Bd.mul hl hl) b2
 unfold HV
 cases c:decide (BB p q≤0)with
 |true=>
  refine FnP.go S (DV P) rfl [.val (.tuple [.int (AS p q),.int (BB p q)]),.br true] rfl ?_
  repeat' first|exact obN|refine obA ?_|apply obC
 |false=>
  refine FnP.go S (DV P) rfl [.val (.tuple [.int (AS p q),.int (BB p q)]),.br false] rfl ?_
  repeat' first|exact obN|refine obA ?_|apply obC
end
noncomputable def KT(e:Pt×Pt):Dat:=.tuple [pD e.1,pD e.2]
theorem JW:∀as bs:List Pt,Jx (as.map pD) (bs.map pD)=(as.zip bs).map KT:=by
 intro as
 induction as with
 |nil=>
  intro _
  exact rfl
 |cons a as ih=>
  intro zz4
  rcases zz4 with _|⟨b,bs⟩
  ·exact rfl
  ·have:=ih bs
   unfold Jx at this⊢
   simp only[map_cons,List.zipWith_cons_cons,List.zip_cons_cons,this]
   rfl
theorem WF{k:Nat}{ts:List Pt}(tb:∀t∈ts,BdP k t):∀e∈HU ts,BdP k e.1∧BdP k e.2:=by
 intro e he
 unfold HU at he
 obtain⟨h1,h2⟩:=of_mem_zip (show(e.1,e.2)∈_ from he)
 refine⟨tb _ h1,?_⟩
 rcases mem_append.mp h2 with h|h
 ·exact tb _ (mem_of_mem_drop h)
 ·exact tb _ (mem_of_mem_take h)
section
variable{O:Program}{w:World}{P:KF}{U:Heap}{n:Nat}
noncomputable def SZ(p:AV)(i:Addr)(ds:List Dat):AG:=.obj 301 [("half",.dat (.int p.half)),("cap",.dat (.int p.cap)),("join",.dat (.int p.join)),("limit",.dat (.int p.limit)),("matrix",.dat p.m.D),("is_turned",.dat (.bool p.turned)),("rows",.own i ds)]
noncomputable def pfX(k:List Nat):Stmt:=FO (AQ 258) k
theorem WG(S:Al O P.K U){p:AV}{i:Addr}{rs:List Row}(hm:Hl p.m){Q:List Dat→St→Prop}(F:∀acc s,Q acc (Iu ["point"] s)→Q acc s):∀(qs:List Pt) (acc:List Dat),acc.length+qs.length≤1000→(∀q∈qs,BdP 900 q)→Q (acc++(qs.map (Au p.m)).map pD) [("self",Bw p i rs)]→
 Bh O w U (By (Lx (Ap (pfX [0]))) (scC 258)) (n+4) (ER (Ap (pfX [0]))) (ES (Ap (pfX [0]))) (EQ (Ap (pfX [0]))) Q (qs.map pD) acc [("self",Bw p i rs)]:=by
 intro qs
 induction qs with
 |nil=>intro acc _ _ q;rw[map_nil,map_nil,append_nil]at q;exact q
 |cons a qs ih=>
  intro acc hl hq q
  rw[length_cons]at hl
  have k:=ih (acc++[pD (Au p.m a)]) (by refine rr length_append (rr length_singleton ?_);exact Ac hl) (fun q h=>hq q (.tail _ h)) (by refine rr (append_assoc ..) ?_;exact q)
  have dv:=MU (w:=w) (n:=n+1) (i:=i) (rs:=rs) S hm (hq a (.head _))
  refine AZ S ["point"] [.lent (pD (Au p.m a)) (Bw p i rs)] k rfl ?_ (le_trans (show _≤16777216 by exact Ac hl) szl) F
  repeat' first|exact obN|refine obA ?_|apply obC
noncomputable def Rx(A:AG)(ps:List Pt)(th:AG)(tl:St):St:=("self",A)::("points",.dat (.list (ps.map pD)))::("there",th)::tl
theorem WH(S:Al O P.K U){A:AG}{ps ts:List Pt}{Q:Fl→St→Prop}(F:AP Q):∀(es:List (Pt×Pt)) (acc:Int),(∀e∈es,BdP 1000 e.1∧BdP 1000 e.2)→Q .next (Rx A ps (.dat (.list (ts.map pD))) [("area",.dat (.int (es.foldl (fun s q=>s+AE q.1 q.2) acc)))])→
 Bc O w U (scC 258) (n+4) (Ap (pfX [2])) (Bf (pfX [2])) Q (es.map KT) (Rx A ps (.dat (.list (ts.map pD))) [("area",.dat (.int acc))]):=by
 intro es
 induction es with
 |nil=>exact fun acc _ q=>q
 |cons e es ih=>
  intro acc hb q
  obtain⟨⟨b1,b2⟩,b3,b4⟩:=hb e (.head _)
  have m1:AT e.1.1 e.2.2:=Ae b1 b4
  have m2:AT e.1.2 e.2.1:=Ae b2 b3
  refine AD S ["one","other"] [] (ih (acc+AE e.1 e.2) (fun e h=>hb e (.tail _ h)) q) rfl ?_ F
  repeat' first|exact obN|refine obA ?_|apply obC
noncomputable def pfE:Expr:=kid (Ap (pfX [6])) 0
theorem MV(S:Al O P.K U){Q:List Dat→St→Prop}(F:∀acc s,Q acc (Iu ["point"] s)→Q acc s):∀(vs:List Pt) (acc:List Dat),acc.length+vs.length≤1000→Q (acc++(vs.map Row.l).map BZ) []→
 Bh O w U (By (Lx pfE) (scC 258)) (n+4) (ER pfE) (ES pfE) (EQ pfE) Q (vs.map pD) acc []:=by
 intro vs
 induction vs with
 |nil=>intro acc _ q;rw[map_nil,map_nil,append_nil]at q;exact q
 |cons a vs ih=>
  intro acc hl q
  rw[length_cons]at hl
  have k:=ih (acc++[BZ (.l a)]) (by refine rr length_append (rr length_singleton ?_);exact Ac hl) (by refine rr (append_assoc ..) ?_;exact q)
  refine AZ S ["point"] [] k rfl ?_ (le_trans (show _≤16777216 by exact Ac hl) szl) F
  repeat' first|exact obN|refine obA ?_|apply obC
theorem Qu(S:Al O P.K U){p:AV}{i:Addr}{rs:List Row}{ps us:List Pt}{t:Pt}{area:Int}{th:AG}(ht:th=.dat (.list ((t::us).map pD))∨th=.lst ((t::us).map pD))(hz:us.length≤100)(hr:rs.length≤100000):
 Ss O w U (scC 258) (n+4) ((AQ 258).drop 5) (Rx (Bw p i rs) ps th [("area",.dat (.int area))]) (fun fl st'=>∃a',look "self" st'=some a'∧flD fl=.none∧a'=Bw p i (rs++Bk (t::us))):=by
 have hl:((t::us).map pD).length<2^62:=by refine rr (length_map ..) (rr length_cons ?_);exact Ac hz
 have hl2:((t::us).map pD).length≤sizeLine:=le_trans (show _≤16777216 by refine rr (length_map ..) (rr length_cons ?_);exact Ac hz) szl
 have h1:(rs.map BZ).length+1≤sizeLine:=le_trans (show _≤16777216 by refine rr (length_map ..) ?_;exact Ac hr) szl
 have h2:(rs.map BZ++[BZ (.m t)]).length+((us.map Row.l).map BZ).length≤sizeLine:=le_trans (show _≤16777216 by simp;exact BM hz hr) szl
 have h3:(rs.map BZ++[BZ (.m t)]++(us.map Row.l).map BZ).length+1≤sizeLine:=le_trans (show _≤16777216 by simp;exact BM hz hr) szl
 have fin:SZ p i (rs.map BZ++[BZ (.m t)]++(us.map Row.l).map BZ++[BZ .z])=Bw p i (rs++Bk (t::us)):=by
  unfold SZ Bw Bk
  simp
 rcases ht with rfl|rfl
 ·refine AB S (os:=[.val (pD t),.val (pD t),.ask (.dat (.list ((us.map Row.l).map BZ))) (Rx (SZ p i (rs.map BZ++[BZ (.m t)])) ps (.dat (.list ((t::us).map pD))) [("area",.dat (.int area))])]) rfl ?_ ⟨_,rfl,rfl,fin⟩
  repeat' first|exact obN|refine obA ?_|apply obC
  ·refine fun Q q=>AO (Da (Bz.of (by kernel_rfl)) (Ei (Do S (os:=[]) rfl obs ⟨_,rfl,MV S ?_ us [] (by refine rr length_nil ?_;exact Ac hz) q⟩)))
   intro acc s q
   rwa [AY (by kernel_rfl)]at q
 ·refine AB S (os:=[.val (pD t),.val (pD t),.ask (.dat (.list ((us.map Row.l).map BZ))) (Rx (SZ p i (rs.map BZ++[BZ (.m t)])) ps (.lst ((t::us).map pD)) [("area",.dat (.int area))])]) rfl ?_ ⟨_,rfl,rfl,fin⟩
  repeat' first|exact obN|refine obA ?_|apply obC
  ·refine fun Q q=>AO (Da (Bz.of (by kernel_rfl)) (Ei (Do S (os:=[]) rfl obs ⟨_,rfl,MV S ?_ us [] (by refine rr length_nil ?_;exact Ac hz) q⟩)))
   intro acc s q
   rwa [AY (by kernel_rfl)]at q
theorem Dp(S:Al O P.K U){p:AV}{i:Addr}{rs:List Row}{ps:List Pt}(hm:Hl p.m)(hq:∀q∈ps,BdP 900 q)(hz:ps.length≤100)(hr:rs.length≤100000):
 FnL O w U (n+5) 258 (Bw p i rs) [.list (ps.map pD)] (fun d a=>d=.none∧a=Bw p i (rs++CC p.m ps)):=by
 refine FnL.ofC S (Gq P) (by kernel_rfl) rfl ?_
 refine Gs S [("self",Bw p i rs)] [] rfl rfl obs (WG S hm ?_ ps [] (by refine rr length_nil ?_;exact Ac hz) hq ?_) (by kernel_rfl) (by kernel_rfl) (by kernel_rfl) (by intro env h;cases env;dsimp only at h;subst h;kernel_rfl)
 ·intro acc s q
  rwa [AY (by kernel_rfl)]at q
 have tb:∀t∈ps.map (Au p.m),BdP 1000 t:=fun t ht=>by
  obtain⟨q,hq',rfl⟩:=mem_map.mp ht
  exact JU hm (hq q hq')
 have tz:(ps.map (Au p.m)).length≤100:=by refine rr (length_map ..) ?_;exact hz
 unfold CC
 generalize ps.map (Au p.m)=ts at tb tz⊢
 refine Ss.at (Rx (Bw p i rs) ps (.lst (ts.map pD)) []) ?_ (by kernel_rfl)
 refine At (st':=Rx (Bw p i rs) ps (.lst (ts.map pD)) [("area",.dat (.int 0))]) S 1 [] [] rfl obs ?_
 have ez:Jx (ts.map pD) ((ts.map pD).drop 1++(ts.map pD).take 1)=(HU ts).map KT:=by refine rl map_drop (rl map_take ?_);refine rl map_append (rr (JW ..) ?_);rfl
 have hl2:(ts.map pD).length≤sizeLine:=le_trans (show _≤16777216 by refine rr (length_map ..) ?_;exact Ac tz) szl
 have ha:((ts.map pD).drop 1).length+((ts.map pD).take 1).length≤sizeLine:=le_trans (show _≤16777216 by simp;exact(Ox tz (sub_le (ts.length) (1)) (min_le_left (1) (ts.length)))) szl
 have lp:=WH (w:=w) (n:=n) S (A:=Bw p i rs) (ps:=ps) (ts:=ts) (Q:=GJ O w U (scC 258) (n+4) ((AQ 258).drop 3) (fun fl st'=>∃a',look "self" st'=some a'∧flD fl=.none∧a'=Bw p i (rs++if Av ts=0 then[]else Bk (Aw ts)))) Ad (HU ts) 0 (WF tb)
 rw[←ez]at lp
 refine Qb S [] rfl ?_ (lp ?_) (glb P (by kernel_rfl) (by kernel_rfl)) rfl rfl
 ·repeat' first|exact obN|refine obA ?_|apply obC
 show Ss _ _ _ _ _ _ (Rx (Bw p i rs) ps (.dat (.list (ts.map pD))) [("area",.dat (.int (Av ts)))]) _
 by_cases h0:Av ts=0
 ·have c0:=decide_eq_true h0
  refine rr (if_pos h0) (rr (append_nil ..) ?_)
  refine AB S (os:=[.br true]) rfl ?_ ⟨_,rfl,rfl,rfl⟩
  repeat' first|exact obN|refine obA ?_|apply obC
 ·have c0:=decide_eq_false h0
  refine rr (if_neg h0) ?_
  have len:(Aw ts).length=ts.length:=by unfold Aw;split<;>simp
  obtain⟨t,us,e⟩:∃t us,Aw ts=t::us:=by
   cases h:Aw ts with
   |nil=>
    rw[h]at len
    obtain rfl:ts=[]:=List.length_eq_zero_iff.mp len.symm
    exact absurd rfl h0
   |cons t us=>exact⟨t,us,rfl⟩
  have zus:us.length≤100:=by rw[e,length_cons]at len;exact BM tz (le_of_eq len)
  by_cases hn:Av ts<0
  ·have cn:=decide_eq_true hn
   have er:(ts.map pD).reverse=(t::us).map pD:=by refine rl e ?_;rewrite[Aw];refine rr (if_pos hn) (rr map_reverse ?_);(with_reducible rfl)
   refine At (st':=Rx (Bw p i rs) ps (.lst (ts.map pD).reverse) [("area",.dat (.int (Av ts)))]) S 2 [] [.br false,.br true] rfl obs ?_
   refine rr er (rr e ?_)
   exact Qu S (.inr rfl) zus hr
  ·have cn:=decide_eq_false hn
   have er:ts=t::us:=by refine rl e ?_;rewrite[Aw];refine rr (if_neg hn) ?_;(with_reducible rfl)
   refine At (st':=Rx (Bw p i rs) ps (.dat (.list (ts.map pD))) [("area",.dat (.int (Av ts)))]) S 2 [] [.br false,.br false] rfl obs ?_
   refine rr e ?_
   exact Qu S (.inl (by refine rr er ?_;rfl)) zus hr
end
theorem BdP.add{k l:Nat}{p q:Pt}(h:BdP k p)(g:BdP l q):BdP (max k l+1) (AW p q):=⟨h.1.add g.1,h.2.add g.2⟩
theorem BdP.sub{k l:Nat}{p q:Pt}(h:BdP k p)(g:BdP l q):BdP (max k l+1) (AU p q):=⟨h.1.sub g.1,h.2.sub g.2⟩
theorem KU{half:Int}{one other:Pt}(hh:Bd 64 half)(h1:BdP 64 one)(h2:BdP 64 other):BdP 200 (BA half (Ar half) one other):=
 ⟨(Bd.add h1.1 (Bd.divI (Bd.mul h2.1 (Bd.divI (Bd.mul hh (Bd.num (x:=552285))))))).up,(Bd.add h1.2 (Bd.divI (Bd.mul h2.2 (Bd.divI (Bd.mul hh (Bd.num (x:=552285))))))).up⟩
section
variable{O:Program}{w:World}{P:KF}{U:Heap}{n:Nat}
noncomputable def Ry(p:AV)(i:Addr)(rs:List Row)(q:Pt)(tl:St):St:=("self",Bw p i rs)::("centre",.dat (pD q))::("reach",.dat (.int (Ar p.half)))::("half",.dat (.int p.half))::tl
noncomputable def WI(m:Mx)(q k0 k1 k2 k3:Pt):St:=[("corners",.dat (.list [pD k0,pD k1,pD k2,pD k3])),("there",.lst [pD (Au m (AW q k0)),pD (Au m (AW q k1)),pD (Au m (AW q k2)),pD (Au m (AW q k3))])]
noncomputable def pcX(k:List Nat):Stmt:=FO (AQ 263) k
theorem dev(S:Al O P.K U){p:AV}(hm:Hl p.m){q:Pt}(hq:BdP 100 q)(i:Addr)(rs:List Row){r:Pt}(h:BdP 500 r):FnL O w U (n+4) 253 (Bw p i rs) [pD (AW q r)] (fun d a=>d=pD (Au p.m (AW q r))∧a=Bw p i rs):=MU S hm (BdP.add hq h).up
noncomputable def aJ(p:AV)(i:Addr)(ds:List Dat):AG:=.obj 301 [("half",.dat (.int p.half)),("cap",.dat (.int p.cap)),("join",.dat (.int p.join)),("limit",.dat (.int p.limit)),("matrix",.dat p.m.D),("is_turned",.dat (.bool p.turned)),("rows",.own i ds)]
theorem JX(p:AV)(i:Addr)(rs:List Row)(r:Row):Bw p i (rs++[r])=aJ p i (rs.map BZ++[BZ r]):=by
 unfold Bw aJ;refine rr (DN ..) ?_;rfl
set_option maxHeartbeats 4000000 in
theorem JY(S:Al O P.K U){p:AV}{i:Addr}{rs:List Row}{q k0 k1 k2 k3 one other:Pt}{num:Int}{ds:List Dat}{Q:Fl→St→Prop}(hm:Hl p.m)(hh:Bd 64 p.half)(hq:BdP 100 q)(h0:p.half≠0)(hr:rs.length≤1000000)
 (e1:AK [pD k0,pD k1,pD k2,pD k3] num=some (pD one)) (e2:AK [pD k0,pD k1,pD k2,pD k3] ((num+1).fmod 4)=some (pD other)) (c1:BdP 64 one) (c2:BdP 64 other) (F:AP Q)
 (hl:Bc O w U (scC 263) (n+4) (Ap (pcX [6])) (Bf (pcX [6])) Q ds (Ry p i (rs++[NT p.m p.half (Ar p.half) q one other]) q (WI p.m q k0 k1 k2 k3))):
 Bc O w U (scC 263) (n+4) (Ap (pcX [6])) (Bf (pcX [6])) Q (.int num::ds) (Ry p i rs q (WI p.m q k0 k1 k2 k3)):=by
 have n1:BdP 500 (BA p.half (Ar p.half) one other):=(KU hh c1 c2).up
 have n2:BdP 500 (BA p.half (Ar p.half) other one):=(KU hh c2 c1).up
 have hrc:Bd 128 (Ar p.half):=(Bd.divI (Bd.mul hh (Bd.num (x:=552285)))).up
 have dv:=fun z=>Cp (w:=w) (n:=n+3) S (a:=z) h0
 have four:(4:Int)≠0:=by decide
 obtain⟨d1,d2⟩:=c1
 obtain⟨d3,d4⟩:=c2
 refine EJ rfl ?_
 refine At (st':=Ry p i rs q (WI p.m q k0 k1 k2 k3++([("number",.dat (.int num)),("other",.dat (pD other)),("one",.dat (pD one)),("near",.dat (pD (BA p.half (Ar p.half) one other))),("far",.dat (pD (BA p.half (Ar p.half) other one)))]:St))) S 3 [] [.val (pD one),.val (pD other),.val (.int (DG (other.1*Ar p.half) p.half)),.val (.int (DG (other.2*Ar p.half) p.half)),.val (.int (DG (one.1*Ar p.half) p.half)),.val (.int (DG (one.2*Ar p.half) p.half))] rfl ?_ ?_
 ·repeat' first|exact obN|refine obA ?_|apply obC
  all_goals exact dv _
 refine Gs S [("self",Bw p i rs),("centre",.dat (pD q))] [] rfl rfl obs (FP S [.lent (pD (Au p.m (AW q (BA p.half (Ar p.half) one other)))) (Bw p i rs),.lent (pD (Au p.m (AW q (BA p.half (Ar p.half) other one)))) (Bw p i rs),.lent (pD (Au p.m (AW q other))) (Bw p i rs)] rfl ?_ rfl ?_) (by kernel_rfl) (by kernel_rfl) (by kernel_rfl) (by intro env h;cases env;dsimp only at h;subst h;kernel_rfl)
 ·repeat' first|exact obN|refine obA ?_|apply obC
  ·exact dev S hm hq i rs (BdP.up ⟨d3,d4⟩)
  ·exact dev S hm hq i rs n2
  ·exact dev S hm hq i rs n1
 refine Ss.at (Ry p i rs q (WI p.m q k0 k1 k2 k3++([("number",.dat (.int num)),("other",.dat (pD other)),("one",.dat (pD one)),("near",.dat (pD (BA p.half (Ar p.half) one other))),("far",.dat (pD (BA p.half (Ar p.half) other one))),("points",.lst [pD (Au p.m (AW q (BA p.half (Ar p.half) one other))),pD (Au p.m (AW q (BA p.half (Ar p.half) other one))),pD (Au p.m (AW q other))])]:St))) ?_ (by kernel_rfl)
 unfold Ry at hl
 rw[JX]at hl
 refine CB S ["number","one","other","near","far","points"] [.val (pD (Au p.m (AW q (BA p.half (Ar p.half) one other)))),.val (pD (Au p.m (AW q (BA p.half (Ar p.half) one other)))),.val (pD (Au p.m (AW q (BA p.half (Ar p.half) other one)))),.val (pD (Au p.m (AW q (BA p.half (Ar p.half) other one)))),.val (pD (Au p.m (AW q other))),.val (pD (Au p.m (AW q other)))] hl rfl ?_ F
 repeat' first|exact obN|refine obA ?_|apply obC
 exact le_trans (show _≤16777216 by refine rr (length_map ..) ?_;exact Ac hr) szl
set_option maxHeartbeats 4000000 in
theorem WJ(S:Al O P.K U){p:AV}{i:Addr}{rs:List Row}{q k0 k1 k2 k3:Pt}(hm:Hl p.m)(hh:Bd 64 p.half)(hq:BdP 100 q)(h0:p.half≠0)(hr:rs.length≤100000)(b0:BdP 64 k0)(b1:BdP 64 k1)(b2:BdP 64 k2)(b3:BdP 64 k3):
 Ss O w U (scC 263) (n+4) ((AQ 263).drop 4) (Ry p i rs q [("corners",.lst [pD k0,pD k1,pD k2,pD k3])]) (fun fl st'=>∃a',look "self" st'=some a'∧flD fl=.none∧a'=Bw p i (rs++[.m (Au p.m (AW q k0)),NT p.m p.half (Ar p.half) q k0 k1,NT p.m p.half (Ar p.half) q k1 k2,NT p.m p.half (Ar p.half) q k2 k3,NT p.m p.half (Ar p.half) q k3 k0,.z])):=by
 refine Gs S [("self",Bw p i rs),("centre",.dat (pD q))] [] rfl rfl obs (FP S [.lent (pD (Au p.m (AW q k0))) (Bw p i rs),.lent (pD (Au p.m (AW q k1))) (Bw p i rs),.lent (pD (Au p.m (AW q k2))) (Bw p i rs),.lent (pD (Au p.m (AW q k3))) (Bw p i rs)] rfl ?_ rfl ?_) (by kernel_rfl) (by kernel_rfl) (by kernel_rfl) (by intro env h;cases env;dsimp only at h;subst h;kernel_rfl)
 ·repeat' first|exact obN|refine obA ?_|apply obC
  ·exact dev S hm hq i rs b3.up
  ·exact dev S hm hq i rs b2.up
  ·exact dev S hm hq i rs b1.up
  ·exact dev S hm hq i rs b0.up
 refine Ss.at (Ry p i rs q (WI p.m q k0 k1 k2 k3)) ?_ (by kernel_rfl)
 have hz:(rs.map BZ).length+1≤sizeLine:=le_trans (show _≤16777216 by refine rr (length_map ..) ?_;exact Ac hr) szl
 refine At (st':=("self",aJ p i (rs.map BZ++[BZ (.m (Au p.m (AW q k0)))]))::("centre",.dat (pD q))::("reach",.dat (.int (Ar p.half)))::("half",.dat (.int p.half))::WI p.m q k0 k1 k2 k3) S 1 [] [.val (pD (Au p.m (AW q k0))),.val (pD (Au p.m (AW q k0)))] rfl ?_ ?_
 ·repeat' first|exact obN|refine obA ?_|apply obC
 refine rl (JX p i rs (.m (Au p.m (AW q k0)))) ?_
 refine Bm (EY (FC S (glb P (by kernel_rfl) (by kernel_rfl)) rfl (Fa S (os:=[]) rfl obs ⟨0,4,1,.one _,by decide,by decide,?_⟩)))
 show Bc _ _ _ _ _ _ _ _ [.int 0,.int 1,.int 2,.int 3] (Ry p i (rs++[.m (Au p.m (AW q k0))]) q (WI p.m q k0 k1 k2 k3))
 refine JY S hm hh hq h0 (by simp;exact Ac hr) rfl rfl b0 b1 Ad ?_
 refine JY S hm hh hq h0 (by simp;exact Ac hr) rfl rfl b1 b2 Ad ?_
 refine JY S hm hh hq h0 (by simp;exact Ac hr) rfl rfl b2 b3 Ad ?_
 refine JY S hm hh hq h0 (by simp;exact Ac hr) rfl rfl b3 b0 Ad ?_
 have hz':((rs++[Row.m (Au p.m (AW q k0))]++[NT p.m p.half (Ar p.half) q k0 k1]++[NT p.m p.half (Ar p.half) q k1 k2]++[NT p.m p.half (Ar p.half) q k2 k3]++[NT p.m p.half (Ar p.half) q k3 k0]).map BZ).length+1≤sizeLine:=le_trans (show _≤16777216 by simp;exact Ac hr) szl
 refine AB S (os:=[]) rfl ?_ ⟨_,rfl,rfl,?_⟩
 ·repeat' first|exact obN|refine obA ?_|apply obC
 ·exact(JX p i _ .z).symm.trans (congrArg (Bw p i) (by simp only[append_assoc,cons_append,nil_append]))
theorem Ez(S:Al O P.K U){p:AV}{i:Addr}{rs:List Row}{q:Pt}(hm:Hl p.m)(hh:Bd 64 p.half)(hq:BdP 100 q)(hr:rs.length≤100000):
 FnL O w U (n+5) 263 (Bw p i rs) [pD q] (fun d a=>d=.none∧a=Bw p i (rs++CD p.m p.turned p.half q)):=by
 have dv:=Cp (w:=w) (n:=n+3) S (a:=p.half*552285) (b:=1000000) (by decide)
 by_cases h0:p.half=0
 ·rewrite[CD];refine rr (if_pos h0) (rr (append_nil ..) ?_)
  have c0:=decide_eq_true h0
  cases ht:p.turned with
  |true=>
   refine FnL.go S (Cx P) (by kernel_rfl) rfl [.val (.int (Ar p.half)),.br true,.val (pD (p.half,0)),.val (pD (0,-p.half)),.val (pD (-p.half,0)),.val (pD (0,p.half)),.br true] rfl ?_
   repeat' first|exact obN|refine obA ?_|apply obC
  |false=>
   refine FnL.go S (Cx P) (by kernel_rfl) rfl [.val (.int (Ar p.half)),.br false,.br true] rfl ?_
   repeat' first|exact obN|refine obA ?_|apply obC
 ·have c0:=decide_eq_false h0
  have B:=fun{k0 k1 k2 k3:Pt}=>WJ (w:=w) (n:=n) S (i:=i) (k0:=k0) (k1:=k1) (k2:=k2) (k3:=k3) hm hh hq h0 hr
  refine FnL.ofC S (Cx P) (by kernel_rfl) rfl ?_
  rewrite[CD];refine rr (if_neg h0) ?_
  have z:Bd 64 0:=Bd.num
  cases ht:p.turned with
  |true=>
   refine At (st':=Ry p i rs q [("corners",.lst [pD (p.half,0),pD (0,-p.half),pD (-p.half,0),pD (0,p.half)])]) S 4 [] [.val (.int (Ar p.half)),.br true,.val (pD (p.half,0)),.val (pD (0,-p.half)),.val (pD (-p.half,0)),.val (pD (0,p.half)),.br false] rfl ?_ (B ⟨hh,z⟩ ⟨z,hh.neg⟩ ⟨hh.neg,z⟩ ⟨z,hh⟩)
   repeat' first|exact obN|refine obA ?_|apply obC
  |false=>
   refine At (st':=Ry p i rs q [("corners",.lst [pD (p.half,0),pD (0,p.half),pD (-p.half,0),pD (0,-p.half)])]) S 4 [] [.val (.int (Ar p.half)),.br false,.br false] rfl ?_ (B ⟨hh,z⟩ ⟨z,hh⟩ ⟨hh.neg,z⟩ ⟨z,hh.neg⟩)
   repeat' first|exact obN|refine obA ?_|apply obC
end
theorem Cg{half:Int}{w:Pt}(hh:Bd 64 half)(hw:BdP 100 w):BdP 300 (Ag half w):=
 ⟨(Bd.divI (Bd.mul (Bd.mul hw.2.neg hh) (Bd.num (x:=1000000)))).up (by decide),(Bd.divI (Bd.mul (Bd.mul hw.1 hh) (Bd.num (x:=1000000)))).up (by decide)⟩
theorem Uz{a b:Pt}(hab:a≠b):AU b a≠(0,0):=fun h=>hab (Prod.ext (Int.sub_eq_zero.mp (congrArg Prod.fst h)).symm (Int.sub_eq_zero.mp (congrArg Prod.snd h)).symm)
section
variable{O:Program}{w:World}{P:KF}{U:Heap}{n:Nat}
theorem NY(S:Al O P.K U){p:AV}{i:Addr}{rs:List Row}{a b:Pt}(hm:Hl p.m)(hh:Bd 64 p.half)(ha:BdP 64 a)(hb:BdP 64 b)(hab:a≠b)(hr:rs.length≤100000):
 FnL O w U (n+6) 277 (Bw p i rs) [pD a,pD b] (fun d x=>d=.none∧x=Bw p i (rs++Ai p (AM p.half a b))):=by
 have hs:BdP 300 (Ag p.half (AU b a)):=Cg hh (BdP.sub hb ha).up
 have ha':BdP 300 a:=ha.up
 have hb':BdP 300 b:=hb.up
 refine FnL.go S (HJ P) (by kernel_rfl) rfl [.lent (pD (Ag p.half (AU b a))) (Bw p i rs),.lent .none (Bw p i (rs++Ai p (AM p.half a b)))] rfl ?_
 repeat' first|exact obN|refine obA ?_|apply obC
 ·exact Dp S (ps:=[AW a (Ag p.half (AU b a)),AU a (Ag p.half (AU b a)),AU b (Ag p.half (AU b a)),AW b (Ag p.half (AU b a))]) hm (Aq (ha'.add hs).up (Aq (ha'.sub hs).up (Aq (hb'.sub hs).up (Aq (hb'.add hs).up Dv)))) (of_decide_eq_true (by kernel_rfl)) hr
 ·exact JV S hh (BdP.sub hb ha).up (Uz hab)
theorem KV(S:Al O P.K U){p:AV}{i:Addr}{rs:List Row}{a b:Pt}(hm:Hl p.m)(hh:Bd 64 p.half)(ha:BdP 64 a)(hb:BdP 64 b)(hab:a≠b)(hr:rs.length≤100000):
 FnL O w U (n+6) 291 (Bw p i rs) [pD a,pD b] (fun d x=>d=.none∧x=Bw p i (rs++(Bj p a b).flatMap (Ai p))):=by
 unfold Bj
 by_cases h1:p.cap=1
 ·have c1:=decide_eq_true h1
  refine rr (if_pos h1) (rr flatMap_cons ?_);refine rr flatMap_nil (rr (append_nil ..) ?_)
  refine FnL.go S (Dx P) (by kernel_rfl) rfl [.br true,.lent .none (Bw p i (rs++Ai p (.circ b)))] rfl ?_
  repeat' first|exact obN|refine obA ?_|apply obC
  exact Ez S hm hh (BdP.up hb) hr
 ·have c1:=decide_eq_false h1
  refine rr (if_neg h1) ?_
  by_cases h2:p.cap=2
  ·have c2:=decide_eq_true h2
   refine rr (if_pos h2) (rr flatMap_cons ?_);refine rr flatMap_nil (rr (append_nil ..) ?_)
   have hs:BdP 300 (Ag p.half (AU b a)):=Cg hh (BdP.sub hb ha).up
   have hb':BdP 300 b:=hb.up
   have hon:BdP 300 ((Ag p.half (AU b a)).2,-(Ag p.half (AU b a)).1):=⟨hs.2,hs.1.neg⟩
   refine FnL.go S (Dx P) (by kernel_rfl) rfl [.br false,.br true,.lent (pD (Ag p.half (AU b a))) (Bw p i rs),.lent .none (Bw p i (rs++Ai p _))] rfl ?_
   repeat' first|exact obN|refine obA ?_|apply obC
   ·exact Dp S (ps:=[AW b (Ag p.half (AU b a)),AU b (Ag p.half (AU b a)),AW (AU b (Ag p.half (AU b a))) ((Ag p.half (AU b a)).2,-(Ag p.half (AU b a)).1),AW (AW b (Ag p.half (AU b a))) ((Ag p.half (AU b a)).2,-(Ag p.half (AU b a)).1)]) hm (Aq (hb'.add hs).up (Aq (hb'.sub hs).up (Aq ((hb'.sub hs).add hon).up (Aq ((hb'.add hs).add hon).up Dv)))) (of_decide_eq_true (by kernel_rfl)) hr
   ·exact JV S hh (BdP.sub hb ha).up (Uz hab)
  ·have c2:=decide_eq_false h2
   refine rr (if_neg h2) ?_;refine rr flatMap_nil (rr (append_nil ..) ?_)
   refine FnL.go S (Dx P) (by kernel_rfl) rfl [.br false,.br false] rfl ?_
   repeat' first|exact obN|refine obA ?_|apply obC
end
section
variable{O:Program}{w:World}{P:KF}{U:Heap}{n:Nat}
theorem Ta{p q:Pt}(h:AE p q≠0):p≠(0,0)∧q≠(0,0):=by
 constructor
 ·rintro rfl;exact h (by simp[AE])
 ·rintro rfl;exact h (by simp[AE])
theorem MW{p q:Pt}(hp:BdP 64 p)(hq:BdP 64 q):Bd 390 (AS p q):=
 Bd.up (Bd.rootI (Bd.mul (Bd.mul (Bd.mul (Bd.add (Bd.mul hp.1 hp.1) (Bd.mul hp.2 hp.2)) (Bd.add (Bd.mul hq.1 hq.1) (Bd.mul hq.2 hq.2))) (Bd.num (x:=1000000))) (Bd.num (x:=1000000))))
noncomputable def Qv(h near far:Pt)(whole both:Int):Pt:=(h.1+DG ((near.1+far.1)*whole) both,h.2+DG ((near.2+far.2)*whole) both)
noncomputable def Za(p:AV)(i:Addr)(rs:List Row)(a hr b one other:Pt)(turn s:Int)(far near:Pt)(ps:List Dat):St:=[("self",Bw p i rs),("ahead",.dat (pD a)),("here",.dat (pD hr)),("behind",.dat (pD b)),("other",.dat (pD other)),("one",.dat (pD one)),("turn",.dat (.int turn)),("sign",.dat (.int s)),("far",.dat (pD far)),("near",.dat (pD near)),("points",.lst ps)]
def pjQ(p:AV)(i:Addr)(rs:List Row)(ps:List Pt)(fl:Fl)(st':St):Prop:=∃a',look "self" st'=some a'∧flD fl=.none∧a'=Bw p i (rs++Ai p (.poly ps))
set_option maxHeartbeats 4000000 in
theorem Zb(S:Al O P.K U){p:AV}{i:Addr}{rs:List Row}{a hr b one other far near:Pt}{turn s:Int}(hm:Hl p.m)(hli:Bd 64 p.limit)(hhr:BdP 60 hr)(c1:BdP 64 one)(c2:BdP 64 other)(bn:BdP 364 near)(bf:BdP 364 far)(hz:rs.length≤100000)(h3:p.join=0)(ho:HV (AS one other) (BB one other) p.limit=false):
 Ss O w U (scC 284) (n+5) ((AQ 284).drop 8) (Za p i rs a hr b one other turn s far near [pD hr,pD (AW hr near)]) (pjQ p i rs [hr,AW hr near,Qv hr near far (AS one other) (BB one other),AW hr far]):=by
 have d4:=decide_eq_true h3
 have bp:0<BB one other:=by
  unfold HV at ho
  simp only[or_eq_false_iff,decide_eq_false_iff_not]at ho
  exact Ab (not_le.mp ho.1)
 have w1:=MW c1 c2
 have bt:BdP 850 (Qv hr near far (AS one other) (BB one other)):=⟨(Bd.add hhr.1 (Bd.divI (Bd.mul (Bd.add bn.1 bf.1) w1))).up (by decide),(Bd.add hhr.2 (Bd.divI (Bd.mul (Bd.add bn.2 bf.2) w1))).up (by decide)⟩
 have k1:AT (near.1+far.1) (AS one other):=Ae (bn.1.add bf.1) w1
 have k2:AT (near.2+far.2) (AS one other):=Ae (bn.2.add bf.2) w1
 have ov:=Uy (w:=w) (n:=n+1) S c1.up c2.up hli
 rw[ho]at ov
 have pr:=Jc (w:=w) (n:=n+2) S c1.up c2.up
 have dv:=fun z=>Cp (w:=w) (n:=n+4) S (a:=z) (b:=BB one other) (by exact(ne_of_gt bp))
 refine AB S (os:=[.br true,.val (.bool false),.br true,.br true,.val (.tuple [.int (AS one other),.int (BB one other)]),.val (.int (DG ((near.1+far.1)*AS one other) (BB one other))),.val (.int (DG ((near.2+far.2)*AS one other) (BB one other))),.lent .none (Bw p i (rs++Ai p (.poly [hr,AW hr near,Qv hr near far (AS one other) (BB one other),AW hr far])))]) rfl ?_ ⟨_,rfl,rfl,rfl⟩
 repeat' first|exact obN|refine obA ?_|apply obC
 ·exact Dp S (ps:=[hr,AW hr near,Qv hr near far (AS one other) (BB one other),AW hr far]) hm (Aq hhr.up (Aq (BdP.add hhr bn).up (Aq bt.up (Aq (BdP.add hhr bf).up Dv)))) (of_decide_eq_true (by kernel_rfl)) hz
 all_goals exact dv _
theorem aK(S:Al O P.K U){p:AV}{i:Addr}{rs:List Row}{a hr b one other far near:Pt}{turn s:Int}(hm:Hl p.m)(hli:Bd 64 p.limit)(hhr:BdP 60 hr)(c1:BdP 64 one)(c2:BdP 64 other)(bn:BdP 364 near)(bf:BdP 364 far)(hz:rs.length≤100000)(h3:¬(p.join=0∧HV (AS one other) (BB one other) p.limit=false)):
 Ss O w U (scC 284) (n+5) ((AQ 284).drop 8) (Za p i rs a hr b one other turn s far near [pD hr,pD (AW hr near)]) (pjQ p i rs [hr,AW hr near,AW hr far]):=by
 have ov:=Uy (w:=w) (n:=n+1) S c1.up c2.up hli
 have fig:=Dp (w:=w) (n:=n) (i:=i) (rs:=rs) S (ps:=[hr,AW hr near,AW hr far]) hm (Aq hhr.up (Aq (BdP.add hhr bn).up (Aq (BdP.add hhr bf).up Dv))) (of_decide_eq_true (by kernel_rfl)) hz
 by_cases hj:p.join=0
 ·have d4:=decide_eq_true hj
  rw[(Bool.not_eq_false _).mp fun e=>h3 ⟨hj,e⟩]at ov
  refine AB S (os:=[.br true,.val (.bool true),.br false,.br false,.lent .none (Bw p i (rs++Ai p (.poly [hr,AW hr near,AW hr far])))]) rfl ?_ ⟨_,rfl,rfl,rfl⟩
  repeat' first|exact obN|refine obA ?_|apply obC
 ·have d4:=decide_eq_false hj
  refine AB S (os:=[.br false,.br false,.lent .none (Bw p i (rs++Ai p (.poly [hr,AW hr near,AW hr far])))]) rfl ?_ ⟨_,rfl,rfl,rfl⟩
  repeat' first|exact obN|refine obA ?_|apply obC
theorem UA(S:Al O P.K U){p:AV}{i:Addr}{rs:List Row}{a hr b one other far near:Pt}{turn s:Int}(hm:Hl p.m)(hli:Bd 64 p.limit)(hhr:BdP 60 hr)(c1:BdP 64 one)(c2:BdP 64 other)(bn:BdP 364 near)(bf:BdP 364 far)(hz:rs.length≤100000):
 Ss O w U (scC 284) (n+5) ((AQ 284).drop 8) (Za p i rs a hr b one other turn s far near [pD hr,pD (AW hr near)]) (fun fl st'=>∃a',look "self" st'=some a'∧flD fl=.none∧a'=Bw p i (rs++(if p.join=0∧HV (AS one other) (BB one other) p.limit=false then[Fig.poly [hr,AW hr near,Qv hr near far (AS one other) (BB one other),AW hr far]]else[.poly [hr,AW hr near,AW hr far]]).flatMap (Ai p))):=by
 split
 ·refine rr flatMap_cons ?_;refine rr flatMap_nil (rr (append_nil ..) ?_)
  exact Zb S hm hli hhr c1 c2 bn bf hz (‹_∧_›:_∧_).1 (‹_∧_›:_∧_).2
 ·refine rr flatMap_cons ?_;refine rr flatMap_nil (rr (append_nil ..) ?_)
  exact aK S hm hli hhr c1 c2 bn bf hz ‹_›
set_option maxHeartbeats 4000000 in
theorem Jd(S:Al O P.K U){p:AV}{i:Addr}{rs:List Row}{a hr b:Pt}(hm:Hl p.m)(hh:Bd 64 p.half)(hli:Bd 64 p.limit)(ha:BdP 60 a)(hhr:BdP 60 hr)(hb:BdP 60 b)(hz:rs.length≤100000):
 FnL O w U (n+6) 284 (Bw p i rs) [pD a,pD hr,pD b] (fun d x=>d=.none∧x=Bw p i (rs++(Am p a hr b).flatMap (Ai p))):=by
 have f1:BdP 64 (AU hr a):=(BdP.sub hhr ha).up
 have f2:BdP 64 (AU b hr):=(BdP.sub hb hhr).up
 have m1:AT (hr.1-a.1) (b.2-hr.2):=Ae f1.1 f2.2
 have m2:AT (hr.2-a.2) (b.1-hr.1):=Ae f1.2 f2.1
 unfold Am
 by_cases h1:p.join=1
 ·have d1:=decide_eq_true h1
  refine rr (if_pos h1) (rr flatMap_cons ?_);refine rr flatMap_nil (rr (append_nil ..) ?_)
  refine FnL.go S (Db P) (by kernel_rfl) rfl [.br true,.lent .none (Bw p i (rs++Ai p (.circ hr)))] rfl ?_
  repeat' first|exact obN|refine obA ?_|apply obC
  exact Ez S hm hh (BdP.up hhr) hz
 have d1:=decide_eq_false h1
 refine rr (if_neg h1) ?_
 by_cases h2:AE (AU hr a) (AU b hr)=0
 ·have d2:decide (AE (AU hr a) (AU b hr)=0)=true:=decide_eq_true h2
  refine rr (if_pos h2) ?_;refine rr flatMap_nil (rr (append_nil ..) ?_)
  refine FnL.go S (Db P) (by kernel_rfl) rfl [.br false,.br true] rfl ?_
  repeat' first|exact obN|refine obA ?_|apply obC
 have d2:decide (AE (AU hr a) (AU b hr)=0)=false:=decide_eq_false h2
 refine rr (if_neg h2) ?_
 obtain⟨z1,z2⟩:=Ta h2
 have a1:=JV (w:=w) (n:=n+1) (i:=i) (rs:=rs) S hh f1.up z1
 have a2:=JV (w:=w) (n:=n+1) (i:=i) (rs:=rs) S hh f2.up z2
 obtain⟨g1,g2⟩:=Cg hh (f1.up:BdP 100 (AU hr a))
 obtain⟨g3,g4⟩:=Cg hh (f2.up:BdP 100 (AU b hr))
 refine FnL.ofC S (Db P) (by kernel_rfl) rfl ?_
 dsimp only
 by_cases h:0<AE (AU hr a) (AU b hr)
 ·have d3:decide (0<AE (AU hr a) (AU b hr))=true:=decide_eq_true h
  refine rr (if_pos h) ?_
  refine At (st':=Za p i rs a hr b (AU hr a) (AU b hr) (AE (AU hr a) (AU b hr)) (-1) (-1*(Ag p.half (AU b hr)).1,-1*(Ag p.half (AU b hr)).2) (-1*(Ag p.half (AU hr a)).1,-1*(Ag p.half (AU hr a)).2) [pD hr,pD (AW hr (-1*(Ag p.half (AU hr a)).1,-1*(Ag p.half (AU hr a)).2))]) S 8 [] [.br false,.br false,.br true,.lent (pD (Ag p.half (AU hr a))) (Bw p i rs),.lent (pD (Ag p.half (AU b hr))) (Bw p i rs)] rfl ?_ (UA S hm hli hhr f1 f2 ⟨Bd.mul (Bd.num (x:= -1)) g1,Bd.mul (Bd.num (x:= -1)) g2⟩ ⟨Bd.mul (Bd.num (x:= -1)) g3,Bd.mul (Bd.num (x:= -1)) g4⟩ hz)
  repeat' first|exact obN|refine obA ?_|apply obC
 ·have d3:decide (0<AE (AU hr a) (AU b hr))=false:=decide_eq_false h
  refine rr (if_neg h) ?_
  refine At (st':=Za p i rs a hr b (AU hr a) (AU b hr) (AE (AU hr a) (AU b hr)) 1 (1*(Ag p.half (AU b hr)).1,1*(Ag p.half (AU b hr)).2) (1*(Ag p.half (AU hr a)).1,1*(Ag p.half (AU hr a)).2) [pD hr,pD (AW hr (1*(Ag p.half (AU hr a)).1,1*(Ag p.half (AU hr a)).2))]) S 8 [] [.br false,.br false,.br false,.lent (pD (Ag p.half (AU hr a))) (Bw p i rs),.lent (pD (Ag p.half (AU b hr))) (Bw p i rs)] rfl ?_ (UA S hm hli hhr f1 f2 ⟨Bd.mul (Bd.num (x:=1)) g1,Bd.mul (Bd.num (x:=1)) g2⟩ ⟨Bd.mul (Bd.num (x:=1)) g3,Bd.mul (Bd.num (x:=1)) g4⟩ hz)
  repeat' first|exact obN|refine obA ?_|apply obC
end
noncomputable def Cb(lens:List Int)(num:Nat)(left:Int):AG:=.obj 194 [("lengths",.dat (.list (lens.map .int))),("number",.dat (.int num)),("left",.dat (.int left))]
noncomputable def Bp(lens:List Int)(k:Nat):Int:=lens.getD (k%lens.length) 0
noncomputable def DZ(lens:List Int)(a:Nat):Nat→Int
 |0=>0
 |k+1=>DZ lens a k+Bp lens (a+k)
theorem MX(lens:List Int)(a k:Nat):∀l,DZ lens a (k+l)=DZ lens a k+DZ lens (a+k) l:=by
 intro l
 induction l with
 |zero=>
  simp[DZ]
 |succ l ih=>
  refine rl (add_assoc ..) ?_;rewrite[DZ];refine rr ih ?_;rewrite[DZ];refine rr (add_assoc ..) ?_;exact DX
theorem Ch{lens:List Int}(h:∀x∈lens,0≤x)(k:Nat):0≤Bp lens k:=by
 unfold Bp
 refine rr (getD_eq_getElem?_getD) ?_
 cases e:lens[k%lens.length]? with
 |none=>simp
 |some x=>exact h x (mem_of_getElem? e)
theorem HZ{lens:List Int}(h:∀x∈lens,0≤x)(a k:Nat):∀l,DZ lens a k≤DZ lens a (k+l):=by
 intro l
 induction l with
 |zero=>
  exact Int.le_refl _
 |succ l ih=>
  have:=ih
  have:=Ch h (a+(k+l))
  refine rl (add_assoc ..) ?_;rewrite[DZ];lia
theorem NZ(lens:List Int)(a:Nat):DZ lens (a+1) lens.length=DZ lens a lens.length:=by
 have h1:DZ lens a (1+lens.length)=DZ lens a 1+DZ lens (a+1) lens.length:=MX lens a 1 lens.length
 have h2:DZ lens a (lens.length+1)=DZ lens a lens.length+Bp lens (a+lens.length):=rfl
 have h3:Bp lens (a+lens.length)=Bp lens a:=by unfold Bp;refine rr (Nat.add_mod_right ..) ?_;rfl
 have h4:DZ lens a 1=Bp lens a:=by simp[DZ]
 rw[add_comm]at h1
 lia
theorem Qw(lens:List Int):∀k,k≤lens.length→DZ lens 0 k=(lens.take k).sum:=by
 intro k
 induction k with
 |zero=>
  intro _
  simp[DZ]
 |succ k ih=>
  intro h
  rewrite[DZ];refine rr (ih (by exact Ac h)) ?_;refine rr take_add_one (rr List.sum_append ?_)
  have:lens[k]?=some (Bp lens k):=by
   unfold Bp
   refine rr (Nat.mod_eq_of_lt (by exact Ac h)) (rr (getD_eq_getElem?_getD) ?_)
   refine rr (getElem?_eq_getElem (by exact Ac h)) ?_;rfl
  simp[this]
theorem Oa(lens:List Int):∀a,DZ lens a lens.length=lens.sum:=by
 intro a
 induction a with
 |zero=>
  refine rr (Qw lens _ (le_refl _)) (rr List.take_length ?_);rfl
 |succ a ih=>
  refine rr (NZ ..) (rr ih ?_);rfl
theorem Fr(lens:List Int)(a:Nat):∀q:Nat,DZ lens a (q*lens.length)=q*lens.sum:=by
 intro q
 induction q with
 |zero=>
  simp[DZ]
 |succ q ih=>
  refine rr (Nat.succ_mul ..) (rr (MX ..) ?_);refine rr ih (rr (Oa ..) ?_)
  have:((q+1:Nat):Int)*lens.sum=q*lens.sum+lens.sum:=by refine rr (Int.natCast_add ..) (rr (add_mul ..) ?_);simp
  exact(le_antisymm (Ab (Int.le_of_eq this.symm)) (Ab (Int.le_of_eq this)))
theorem MY(a b:Nat):Int.fmod (a:Int) (b:Int)=((a%b:Nat):Int):=by
 refine rr (fmod_eq_emod_of_nonneg _ (by exact(Ab (natCast_nonneg (b))))) ?_;exact(Int.natCast_emod a b).symm
noncomputable def goF(lens:List Int):Nat→Nat→Int→Int→Nat×Int
 |0,num,left,way=>(num,left-way)
 |f+1,num,left,way=>if 0<way∧left≤way then goF lens f (num+1) (Bp lens (num+1)) (way-left)else(num,left-way)
section
variable{O:Program}{w:World}{P:KF}{U:Heap}{n:Nat}
noncomputable def Zc(half cap join limit:Int)(m:Mx):AG:=.obj 301 [("half",.dat (.int half)),("cap",.dat (.int cap)),("join",.dat (.int join)),("limit",.dat (.int limit)),("matrix",.dat m.D),("is_turned",.dat (.bool (AV.turned ⟨half,cap,join,limit,m⟩)))]
noncomputable def bS(A:AG)(half cap join limit:Int)(m:Mx):St:=[("self",A),("half",.dat (.int half)),("cap",.dat (.int cap)),("join",.dat (.int join)),("limit",.dat (.int limit)),("matrix",.dat m.D)]
theorem Ob(S:Al O P.K U){half cap join limit:Int}{m:Mx}(hm:Hl m):FnL O w U (n+1) 246 (.obj 301 []) [.int half,.int cap,.int join,.int limit,m.D] (fun r a=>r=.none∧∃i,a=Bw ⟨half,cap,join,limit,m⟩ i []):=by
 obtain⟨h1,h2,h3,h4,_⟩:=hm
 have m1:AT m.a m.d:=Ae h1 h4
 have m2:AT m.b m.c:=Ae h2 h3
 refine FnL.ofC S (LW P) (by kernel_rfl) rfl ?_
 refine At (st':=bS (Zc half cap join limit m) half cap join limit m) S 6 [] [.val (.int m.a),.val (.int m.d),.val (.int m.b),.val (.int m.c)] rfl ?_ ?_
 ·repeat' first|exact obN|refine obA ?_|apply obC
 refine Bm (LJ S ((((KI S P.tab 20).f _ _).ok (st:=bS (Zc half cap join limit m) half cap join limit m) (os:=[]) (ms:=[]) rfl .nil).2 _ ⟨[],301,_,rfl,rfl,PR P,GP P,of_decide_eq_true (by kernel_rfl),fun i=>Uc ⟨_,rfl,rfl,i,rfl⟩⟩))
theorem Qx(S:Al O P.K U){lens:List Int}{num:Nat}{left:Int}:FnL O w U (n+1) 177 (Cb lens num left) [] (fun r a=>r=.bool (decide (num%2=0))∧a=Cb lens num left):=by
 have e:decide (num%2=0)=decide (Int.fmod num 2=0):=by
  refine rr (fmod_eq_emod_of_nonneg _ (by decide)) ?_
  exact decide_eq_decide.mpr (by lia)
 refine rr e ?_
 have two:(2:Int)≠0:=by decide
 refine FnL.go S (HI P) (by kernel_rfl) rfl [] rfl ?_
 repeat' first|exact obN|refine obA ?_|apply obC
theorem UB(S:Al O P.K U){lens:List Int}{num:Nat}{left:Int}(h0:lens≠[])(hz:lens.length≤100):FnL O w U (n+1) 184 (Cb lens num left) [] (fun r a=>r=.none∧a=Cb lens (num+1) (Bp lens (num+1))):=by
 have hpos:0<lens.length:=length_pos_iff.mpr h0
 have c0:(!deq (.list (lens.map .int)) (.list []))=true:=congrArg not (Hk h0)
 have hl:(lens.map Dat.int).length<2^62:=by refine rr (length_map ..) ?_;exact Ac hz
 have ne:((lens.map Dat.int).length:Int)≠0:=by refine rr (length_map ..) ?_;lia
 have hlt:(num+1)%lens.length<lens.length:=Nat.mod_lt _ hpos
 have ei:AK (lens.map .int) (Int.fmod ((num+1:Nat):Int) ((lens.map Dat.int).length:Nat))=some (.int (Bp lens (num+1))):=by
  refine rr (length_map ..) (rr (MY ..) ?_)
  exact Gn (by refine rr (getElem?_map) (rr (getElem?_eq_getElem hlt) ?_);rewrite[Bp];refine rr (getD_eq_getElem?_getD) (rr (getElem?_eq_getElem hlt) ?_);rfl)
 refine FnL.go S (Ix P) (by kernel_rfl) rfl [.br true,.val (.int (Bp lens (num+1)))] rfl ?_
 repeat' first|exact obN|refine obA ?_|apply obC
 exact Cf lens
noncomputable def Zd(lens:List Int)(num:Nat)(left rem:Int):St:=[("self",Cb lens num left),("way",.dat (.int rem))]
noncomputable def goX:Stmt:=FO (AQ 191) [1]
theorem WK(S:Al O P.K U){lens:List Int}{way:Int}(h0:lens≠[])(hz:lens.length≤100)(hn:∀x∈lens,0≤x)(hw2:way<2*lens.sum):∀(f num:Nat) (left rem:Int),f+num=2*lens.length→0≤left→0≤rem→way-rem+left=DZ lens 0 (num+1)→
 ∃num' left' rem',goF lens f num left rem=(num',left'-rem')∧∀Q,Q .next (Zd lens num' left' rem')→Ce O w U (scC 191) (n+1) (Ap goX) (Bf goX) Q (f+1) (Zd lens num left rem):=by
 have stop:∀(N num:Nat) (left rem:Int),¬(0<rem∧left≤rem)→∀Q,Q .next (Zd lens num left rem)→Ce O w U (scC 191) (n+1) (Ap goX) (Bf goX) Q (N+1) (Zd lens num left rem):=by
  intro N num left rem hc Q q
  by_cases h1:0<rem
  ·have c1:=decide_eq_true h1
   have c2:decide (left≤rem)=false:=decide_eq_false fun h=>hc ⟨h1,h⟩
   refine Er S [.br true,.br false,.br false] q rfl ?_
   repeat' first|exact obN|refine obA ?_|apply obC
  ·have c1:=decide_eq_false h1
   refine Er S [.br false,.br false] q rfl ?_
   repeat' first|exact obN|refine obA ?_|apply obC
 intro f
 induction f with
 |zero=>
  intro num left rem hf hl hr hp
  have hnum:num=2*lens.length:=by exact(Nat.le_antisymm (Ac (le_of_eq hf)) (Ac (le_of_eq hf.symm)))
  have big:2*lens.sum≤DZ lens 0 (num+1):=by
   have h1:=HZ hn 0 num 1
   have h2:=Fr lens 0 2
   rw[←hnum]at h2
   have h3:((2:Nat):Int)*lens.sum=2*lens.sum:=rfl
   exact LA h1 (Int.le_of_eq h2.symm) (Int.le_of_eq h3.symm)
  exact⟨num,left,rem,rfl,stop 0 num left rem (by lia)⟩
 |succ f ih=>
  intro num left rem hf hl hr hp
  rewrite[goF]
  by_cases hc:0<rem∧left≤rem
  ·refine rr (if_pos hc) ?_
   obtain⟨num',left',rem',e,k⟩:=ih (num+1) (Bp lens (num+1)) (rem-left) (by exact(Nat.le_antisymm (Ac (le_of_eq hf)) (Ac (le_of_eq hf.symm)))) (Ch hn _) (by exact Ab hc.2) (by rewrite[DZ];refine rr (zero_add ..) ?_;exact(le_antisymm (Ab (Int.le_of_eq hp)) (Ab (Int.le_of_eq hp.symm))))
   have c1:=decide_eq_true hc.1
   have c2:=decide_eq_true hc.2
   have tn:=UB (w:=w) (n:=n) (num:=num) (left:=left) S h0 hz
   refine⟨num',left',rem',e,fun Q q=>Cy S [.br true,.br true,.br true,.lent .none (Cb lens (num+1) (Bp lens (num+1)))] (k Q q) rfl ?_⟩
   repeat' first|exact obN|refine obA ?_|apply obC
  ·refine rr (if_neg hc) ?_
   exact⟨num,left,rem,rfl,stop (f+1) num left rem hc⟩
theorem cu(S:Al O P.K U){lens:List Int}{way:Int}(h0:lens≠[])(hz:lens.length≤100)(hn:∀x∈lens,0≤x)(hs:0<lens.sum)(hw:0≤way)(hw2:way<2*lens.sum):
 FnL O w U (n+2) 191 (Cb lens 0 (Bp lens 0)) [.int way] (fun r a=>r=.none∧a=Cb lens (goF lens (2*lens.length) 0 (Bp lens 0) way).1 (goF lens (2*lens.length) 0 (Bp lens 0) way).2):=by
 obtain⟨num',left',rem',e,k⟩:=WK (w:=w) (n:=n) S h0 hz hn hw2 (2*lens.length) 0 (Bp lens 0) way DX (Ch hn 0) hw (by simp[DZ])
 refine rr e ?_
 have c0:=Hk h0
 refine FnL.go S (KK P) (by kernel_rfl) rfl [.br false,.run .next (Zd lens num' left' rem')] rfl ?_
 repeat' first|exact obN|refine obA ?_|apply obC
 ·exact fun Q q=>EE _ (k Q q)
 ·exact Cf lens
end
noncomputable def AN(lens:List Int)(off:Int):Nat×Int:=if lens=[]then(0,0)else goF lens (2*lens.length) 0 (Bp lens 0) (off.fmod (lens.sum*(1+(lens.length:Int).fmod 2)))
noncomputable def FU(a b:Pt)(way len:Int):Pt:=(a.1+DG ((b.1-a.1)*way) len,a.2+DG ((b.2-a.2)*way) len)
section
variable{O:Program}{w:World}{P:KF}{U:Heap}{n:Nat}
theorem Qy(S:Al O P.K U){a b:Pt}{way len:Int}(ha:BdP 64 a)(hb:BdP 64 b)(hw:Bd 64 way)(h0:len≠0):FnP O w U (n+2) 205 [pD a,pD b,.int way,.int len] (fun d=>d=pD (FU a b way len)):=by
 have m1:AT (b.1-a.1) way:=Ae (Bd.sub hb.1 ha.1) hw
 have m2:AT (b.2-a.2) way:=Ae (Bd.sub hb.2 ha.2) hw
 have dv:=fun z=>Cp (w:=w) (n:=n) S (a:=z) h0
 refine FnP.go S (Gp P) rfl [.val (.int (DG ((b.1-a.1)*way) len)),.val (.int (DG ((b.2-a.2)*way) len))] rfl ?_
 repeat' first|exact obN|refine obA ?_|apply obC
 all_goals exact dv _
noncomputable def diE:Expr:=kid (kid (Ap (FO (AQ 170) [0])) 0) 0
theorem WL(S:Al O P.K U){Q:List Dat→St→Prop}(F:∀acc s,Q acc (Iu ["length"] s)→Q acc s):∀(xs:List Int) (acc:List Dat),acc.length+xs.length≤100→Q (acc++(xs.map fun x=>decide (x<0)).map .bool) []→
 Bh O w U (By (Lx diE) (scC 170)) (n+2) (ER diE) (ES diE) (EQ diE) Q (xs.map .int) acc []:=by
 intro xs
 induction xs with
 |nil=>intro acc _ q;exact(append_nil acc)▸q
 |cons x xs ih=>
  intro acc hl q
  rw[length_cons]at hl
  refine AZ S ["length"] [] (ih (acc++[.bool (decide (x<0))]) (by refine rr length_append (rr length_singleton ?_);exact Ac hl) (by refine rr (append_assoc ..) ?_;exact q)) rfl ?_ (le_trans (show _≤16777216 by exact Ac hl) szl) F
  repeat' first|exact obN|refine obA ?_|apply obC
noncomputable def OC(A:AG)(lens:List Int)(off:Int):St:=[("self",A),("lengths",.dat (.list (lens.map .int))),("offset",.dat (.int off))]
theorem FV(S:Al O P.K U){lens:List Int}{off:Int}(hz:lens.length≤100)(hn:∀x∈lens,0≤x)(hs:lens=[]∨0<lens.sum)(hb:Bd 64 lens.sum):
 FnL O w U (n+3) 170 (.obj 194 []) [.list (lens.map .int),.int off] (fun r a=>r=.none∧a=Cb lens (AN lens off).1 (AN lens off).2):=by
 have hl:(lens.map Dat.int).length<2^62:=by refine rr (length_map ..) ?_;exact Ac hz
 have hl2:(lens.map Dat.int).length≤sizeLine:=le_trans (show _≤16777216 by refine rr (length_map ..) ?_;exact Ac hz) szl
 have any:∀Q:EV→St→Prop,Q (.dat (.bool false)) (OC (.obj 194 []) lens off)→Ev O w U (scC 170) (n+2) (kid (Ap (FO (AQ 170) [0])) 0) (OC (.obj 194 []) lens off) Q:=by
  intro Q q
  refine Pd S (glb P (by kernel_rfl) (by kernel_rfl)) rfl (AO (Da (Bz.of (by kernel_rfl)) (Ei (Do S (os:=[]) rfl obs ⟨_,rfl,WL S ?_ lens [] (by refine rr length_nil ?_;exact Ac hz) ?_⟩))))
  ·intro acc s q
   rwa [AY (by kernel_rfl)]at q
  ·refine⟨_,_,rfl,Yk,?_⟩
   have e:(lens.map fun x=>decide (x<0)).any id=false:=by
    rewrite[List.any_eq_false]
    intro b hb
    obtain⟨x,hx,rfl⟩:=mem_map.mp hb
    have:=hn x hx
    simpa using this
   refine rr e ?_
   exact q
 have sum:∀(A:AG) (p1 p2 p3:Pos) (Q:EV→St→Prop),Q (.dat (.int lens.sum)) (OC A lens off)→Ev O w U (scC 170) (n+2) (.Call (.Name "sum" p1) [.Name "lengths" p2] [] p3) (OC A lens off) Q:=
  fun A _ _ _ Q q=>Pd S (glb P (by kernel_rfl) (by kernel_rfl)) rfl (AH S (os:=[]) rfl obs ⟨_,_,rfl,Ui,q⟩)
 have lst:∀Q:EV→St→Prop,Q (.dat (.list (lens.map .int))) (OC (.obj 194 []) lens off)→Ev O w U (scC 170) (n+2) (Ap (FO (AQ 170) [1])) (OC (.obj 194 []) lens off) Q:=
  fun Q q=>AO (FD S (glb P (by kernel_rfl) (by kernel_rfl)) rfl (AH S (os:=[]) rfl obs ⟨_,_,rfl,rfl,hl2,q⟩))
 by_cases hne:lens=[]
 ·subst hne
  rewrite[AN];refine rr (if_pos rfl) ?_
  refine FnL.go S (EZ P) (by kernel_rfl) rfl [.ask (.dat (.bool false)) (OC (.obj 194 []) [] off),.br false,.br false,.br false,.br false,.ask (.dat (.list [])) (OC (.obj 194 []) [] off),.br false] rfl ?_
  repeat' first|exact obN|refine obA ?_|apply obC
  exact Cf []
 ·have hs:=hs.resolve_left hne
  have hf:(0:Int)≤(1+(((lens.map Dat.int).length:Nat):Int).fmod 2)∧(1+(((lens.map Dat.int).length:Nat):Int).fmod 2)≤2∧1≤(1+(((lens.map Dat.int).length:Nat):Int).fmod 2):=by
   refine rr (fmod_eq_emod_of_nonneg _ (by decide)) ?_;lia
  have hmul:AT lens.sum (1+(((lens.map Dat.int).length:Nat):Int).fmod 2):=Ae (k:=64) (l:=2) hb (show Int.natAbs _<2^2 by omega)
  have hpos:0<lens.sum*(1+(((lens.map Dat.int).length:Nat):Int).fmod 2):=mul_pos hs (by exact Ab hf.2.2)
  have hle:lens.sum*(1+(((lens.map Dat.int).length:Nat):Int).fmod 2)≤2*lens.sum:=by
   rewrite[Int.mul_comm 2];exact Int.mul_le_mul_of_nonneg_left hf.2.1 (by exact Ab hs)
  have hnz:lens.sum*(1+(((lens.map Dat.int).length:Nat):Int).fmod 2)≠0:=by exact(ne_of_gt hpos)
  have go:=cu (n:=n) (w:=w) (way:=off.fmod (lens.sum*(1+(((lens.map Dat.int).length:Nat):Int).fmod 2))) S hne hz hn hs
   (by refine rr (fmod_eq_emod_of_nonneg _ (by exact Ab hpos)) ?_;exact emod_nonneg _ hnz)
   (by refine rr (fmod_eq_emod_of_nonneg _ (by exact Ab hpos)) ?_;exact Int.lt_of_lt_of_le (Int.emod_lt_of_pos _ hpos) hle)
  have c1:decide ((0:Int)<(((lens.map Dat.int).length:Nat):Int))=true:=decide_eq_true (by refine rr (length_map ..) ?_;have:=length_pos_iff.mpr hne;lia)
  have c2:decide (lens.sum=0)=false:=decide_eq_false (by exact(ne_of_gt hs))
  have c3:(!deq (.list (lens.map .int)) (.list []))=true:=congrArg not (Hk hne)
  have two:(2:Int)≠0:=by decide
  have e0:AK (lens.map .int) 0=some (.int (Bp lens 0)):=by
   rcases lens with _|⟨x,xs⟩
   ·exact absurd rfl hne
   ·refine rr (show Bp (x::xs) 0=x by simp[Bp]) ?_;exact JA
  have ed:AN lens off=goF lens (2*lens.length) 0 (Bp lens 0) (off.fmod (lens.sum*(1+(((lens.map Dat.int).length:Nat):Int).fmod 2))):=by rewrite[AN];refine rr (if_neg hne) (rr (length_map ..) ?_);(with_reducible rfl)
  refine rr ed ?_
  generalize goF lens (2*lens.length) 0 (Bp lens 0) (off.fmod (lens.sum*(1+(((lens.map Dat.int).length:Nat):Int).fmod 2)))=g at go⊢
  refine FnL.go S (EZ P) (by kernel_rfl) rfl [.ask (.dat (.bool false)) (OC (.obj 194 []) lens off),.br false,.br true,.ask (.dat (.int lens.sum)) (OC (.obj 194 []) lens off),.br false,.br false,.br false,.ask (.dat (.list (lens.map .int))) (OC (.obj 194 []) lens off),.br true,.val (.int (Bp lens 0)),.ask (.dat (.int lens.sum)) (OC (Cb lens 0 (Bp lens 0)) lens off),.lent .none (Cb lens g.1 g.2)] rfl ?_
  repeat' first|exact obN|refine obA ?_|apply obC
  ·exact sum (Cb lens 0 (Bp lens 0)) _ _ _
  ·exact Cf lens
  ·exact sum _ _ _ _
end
structure Gy where
 num:Nat
 left:Int
 here:Option (List Pt)
 found:List (List Pt)
noncomputable def Dj(lens:List Int)(pt:Pt)(s:Gy):Gy where
 num:=s.num+1
 left:=Bp lens (s.num+1)
 here:=if(s.num+1)%2=0 then some [pt]else none
 found:=match s.here with
  |some h=>s.found++[h++[pt]]
  |none=>s.found
noncomputable def FW(lens:List Int)(a b:Pt)(len:Int):Nat→Int→Gy→Int×Gy
 |0,done,s=>(done,s)
 |f+1,done,s=>if s.left≤len-done then FW lens a b len f (done+s.left) (Dj lens (FU a b (done+s.left) len) s)else(done,s)
noncomputable def Ia(b:Pt):Option (List Pt)→Option (List Pt)
 |some h=>if h.getLast? =some b then some h else some (h++[b])
 |none=>none
noncomputable def Ck(e:Pt×Pt):Int:=CP (Ew e.1 e.2)
noncomputable def KW(lens:List Int)(N:Nat)(s:Gy)(e:Pt×Pt):Gy:=
 let r:=FW lens e.1 e.2 (Ck e) N 0 s
 {num:=r.2.num,left:=r.2.left-(Ck e-r.1),here:=Ia e.2 r.2.here,found:=r.2.found}
noncomputable def Ko(closed on:Bool)(s:Gy):List (List Pt):=match s.here with
 |none=>s.found
 |some h=>if closed=true∧on=true∧s.found≠[]then(match s.found with
  |g::r=>(h.dropLast++g)::r
  |[]=>[])
  else if 1<h.length then s.found++[h]else s.found
noncomputable def EA(lens:List Int)(off:Int)(l:Ln):Gy:=⟨(AN lens off).1,(AN lens off).2,if(AN lens off).1%2=0 then some [at' l.1 0]else none,[]⟩
noncomputable def Az(l:Ln):List Pt:=if l.2 then l.1++l.1.take 1 else l.1
noncomputable def An(l:Ln):List (Pt×Pt):=(Az l).zip ((Az l).drop 1)
noncomputable def Je(lens:List Int)(off:Int)(N:Nat)(l:Ln):List (List Pt):=
 Ko l.2 (decide ((AN lens off).1%2=0)) ((An l).foldl (KW lens N) (EA lens off l))
noncomputable def Bt(gs:List (List Pt)):Nat:=(gs.map fun g=>2*g.length-1).sum
noncomputable def ET:Option (List Pt)→Nat
 |some h=>2*h.length
 |none=>0
theorem Jf(gs:List (List Pt))(g:List Pt):Bt (gs++[g])=Bt gs+(2*g.length-1):=by simp[Bt]
theorem EB{gs:List (List Pt)}(h:∀g∈gs,2≤g.length):gs.length≤Bt gs:=by
 induction gs with
 |nil=>simp[Bt]
 |cons g gs ih=>
  have h1:=h g (.head _)
  have h2:=ih fun g' hg=>h g' (.tail _ hg)
  have h3:Bt (g::gs)=(2*g.length-1)+Bt gs:=by simp[Bt]
  refine rr h3 ?_;refine rr length_cons (rr (add_comm ..) ?_)
  exact add_le_add (Nat.le_sub_of_add_le (le_trans h1 (Nat.le_mul_of_pos_left _ (by decide)))) h2
structure Inv(lens:List Int)(n0:Nat)(L0 done:Int)(E T:Nat)(s:Gy):Prop where
 num:s.num=n0+T
 sum:done+s.left=L0+DZ lens (n0+1) T
 left:0≤s.left
 cost:Bt s.found+ET s.here≤2+3*T+2*E
 herePts:∀h,s.here=some h→h≠[]∧∀p∈h,BdP 60 p
 found:∀g∈s.found,2≤g.length∧∀p∈g,BdP 60 p
theorem Inv.step{lens:List Int}{n0:Nat}{L0 done:Int}{E T:Nat}{s:Gy}(I:Inv lens n0 L0 done E T s)(hn:∀x∈lens,0≤x){pt:Pt}(hp:BdP 60 pt):Inv lens n0 L0 (done+s.left) E (T+1) (Dj lens pt s):=by
 obtain⟨h1,h2,h3,h4,h5,h6⟩:=I
 have hh:ET (Dj lens pt s).here≤2:=by
  show ET (if(s.num+1)%2=0 then some [pt]else none)≤2
  split<;>simp[ET]
 refine⟨by show s.num+1=_;exact(Nat.le_antisymm (Ac (le_of_eq h1)) (Ac (le_of_eq h1.symm))),?_,Ch hn _,?_,?_,?_⟩
 ·show done+s.left+Bp lens (s.num+1)=L0+(DZ lens (n0+1) T+Bp lens (n0+1+T))
  refine rr h1 (rr (show n0+T+1=n0+1+T by exact DX) ?_);exact(le_antisymm (Ab (Int.le_of_eq h2)) (Ab (Int.le_of_eq h2.symm)))
 ·cases e:s.here with
  |none=>
   have:(Dj lens pt s).found=s.found:=by simp[Dj,e]
   refine rr this ?_;rw[e]at h4;simp only[ET]at h4;exact BM h4 hh
  |some h=>
   have:(Dj lens pt s).found=s.found++[h++[pt]]:=by simp[Dj,e]
   refine rr this (rr (Jf ..) ?_);rw[e]at h4;simp only[ET]at h4
   refine rr length_append (rr length_singleton ?_)
   show Bt s.found+(2*h.length+1)+ET _≤_
   exact BM h4 hh
 ·intro h e
  have e:(if(s.num+1)%2=0 then some [pt]else none)=some h:=e
  split at e
  ·cases e;exact⟨by simp,fun p hp'=>by refine rr (mem_singleton.mp hp') ?_;exact hp⟩
  ·cases e
 ·intro g hg
  cases e:s.here with
  |none=>
   have:(Dj lens pt s).found=s.found:=by simp[Dj,e]
   rw[this]at hg;exact h6 g hg
  |some h=>
   have:(Dj lens pt s).found=s.found++[h++[pt]]:=by simp[Dj,e]
   rw[this]at hg
   rcases mem_append.mp hg with q|q
   ·exact h6 g q
   ·refine rr (mem_singleton.mp q) ?_
    obtain⟨z1,z2⟩:=h5 h e
    refine⟨?_,fun p hp'=>?_⟩
    ·have:=length_pos_iff.mpr z1
     refine rr length_append (rr length_singleton ?_);exact Ac this
    ·rcases mem_append.mp hp' with r|r
     ·exact z2 p r
     ·refine rr (mem_singleton.mp r) ?_;exact hp
theorem Inv.edge{lens:List Int}{n0:Nat}{L0 P d len:Int}{E T:Nat}{s:Gy}(I:Inv lens n0 L0 (P+d) E T s)(hl:len-d<s.left){b:Pt}(hb:BdP 60 b):
 Inv lens n0 L0 (P+len) (E+1) T {num:=s.num,left:=s.left-(len-d),here:=Ia b s.here,found:=s.found}:=by
 obtain⟨h1,h2,h3,h4,h5,h6⟩:=I
 refine⟨h1,by dsimp only;exact(le_antisymm (Ab (Int.le_of_eq h2)) (Ab (Int.le_of_eq h2.symm))),by dsimp only;exact Ab hl,?_,?_,h6⟩
 ·have:ET (Ia b s.here)≤ET s.here+2:=by
   cases s.here with
   |none=>simp[Ia,ET]
   |some h=>
    simp only[Ia]
    split
    ·simp+arith only[Nat.reducePow]
    ·simp only[ET,length_append,length_singleton];simp+arith only[Nat.reducePow]
  dsimp only
  exact BM h4 this
 ·intro h e
  cases e2:s.here with
  |none=>rw[e2]at e;cases e
  |some g=>
   rw[e2]at e
   have e:(if g.getLast? =some b then some g else some (g++[b]))=some h:=e
   obtain⟨z1,z2⟩:=h5 g e2
   split at e
   ·cases e;exact⟨z1,z2⟩
   ·cases e
    refine⟨by simp,fun p hp=>?_⟩
    rcases mem_append.mp hp with r|r
    ·exact z2 p r
    ·refine rr (mem_singleton.mp r) ?_;exact hb
theorem Inv.few{lens:List Int}{n0:Nat}{L0 done W:Int}{E T q:Nat}{s:Gy}(I:Inv lens n0 L0 done E T s)(hn:∀x∈lens,0≤x)(hL:0≤L0)(hw:done+s.left≤W)(hW:W<q*lens.sum):T<q*lens.length:=by
 rcases lt_or_ge T (q*lens.length)with h|h
 ·exact h
 ·exfalso
  have h1:=Fr lens (n0+1) q
  obtain⟨k,rfl⟩:=Nat.exists_eq_add_of_le h
  have h2:=HZ hn (n0+1) (q*lens.length) k
  have h3:=I.sum
  exact absurd (Int.lt_of_le_of_lt (Int.le_trans (Int.le_trans (Int.le_of_eq h1.symm) (Int.le_trans h2 (Int.le_add_of_nonneg_left hL))) (Int.le_trans (Int.le_of_eq h3.symm) hw)) hW) (Int.lt_irrefl _)
theorem Ze{h g c:Nat}(w:2≤g):2*(h-1+g)-1+c≤2*g-1+c+2*h:=by omega
set_option tactic.hygienic true in
theorem Qz{lens:List Int}{n0:Nat}{L0 done:Int}{E T:Nat}{s:Gy}(I:Inv lens n0 L0 done E T s)(closed on:Bool):
 Bt (Ko closed on s)≤2+3*T+2*E∧∀g∈Ko closed on s,2≤g.length∧∀p∈g,BdP 60 p:=by
 obtain⟨h1,h2,h3,h4,h5,h6⟩:=I
 unfold Ko
 cases e:s.here with
 |none=>rw[e]at h4;exact⟨h4,h6⟩
 |some h=>
  rw[e]at h4
  simp only[ET]at h4
  obtain⟨z1,z2⟩:=h5 h e
  have z3:=length_pos_iff.mpr z1
  dsimp only
  split
  ·rename_i c
   cases e2:s.found with
   |nil=>exact absurd e2 c.2.2
   |cons g r=>
    rw[e2]at h4 h6
    have k1:∀x y:List Pt,Bt ((x++y)::r)=(2*(x.length+y.length)-1)+Bt r:=by intro x y;simp[Bt]
    have k2:Bt (g::r)=(2*g.length-1)+Bt r:=by simp[Bt]
    obtain⟨w1,w2⟩:=h6 g (.head _)
    refine⟨?_,fun g' hg=>?_⟩
    ·show Bt ((h.dropLast++g)::r)≤_
     refine rr (k1 ..) (rr length_dropLast ?_)
     rw[k2]at h4
     exact le_trans (Ze w1) h4
    ·rcases mem_cons.mp hg with rfl|hg
     ·refine⟨by refine rr length_append ?_;exact Ac w1,fun p hp=>?_⟩
      rcases mem_append.mp hp with q|q
      ·exact z2 p (List.dropLast_subset _ q)
      ·exact w2 p q
     ·exact h6 g' (.tail _ hg)
  ·split
   ·refine⟨by refine rr (Jf ..) ?_;exact(BM h4 (sub_le (2*h.length) (1))),fun g hg=>?_⟩
    rcases mem_append.mp hg with q|q
    ·exact h6 g q
    ·refine rr (mem_singleton.mp q) ?_;exact⟨‹1<h.length›,z2⟩
   ·exact⟨by exact Ac h4,h6⟩
noncomputable def Di(g:List Pt):Dat:=.list (g.map pD)
noncomputable def Mh:Option (List Pt)→Dat
 |some h=>Di h
 |none=>.none
noncomputable def aL(l:Ln)(lens:List Int)(off most:Int)(on:Bool)(num:Nat)(left:Int)(here:Dat)(found:List Dat)(tl:St):St:=("line",.dat (lnD l))::("lengths",.dat (.list (lens.map .int)))::("offset",.dat (.int off))::("most",.dat (.int most))::("found",.lst found)::("dashes",Cb lens num left)::("is_first_on",.dat (.bool on))::("here",.dat here)::("points",.dat (.list ((Az l).map pD)))::tl
noncomputable def wTl(a b:Pt)(len d:Int):St:=[("one",.dat (pD a)),("other",.dat (pD b)),("done",.dat (.int d)),("length",.dat (.int len))]
noncomputable def Eb(l:Ln)(lens:List Int)(off most:Int)(on:Bool)(s:Gy)(tl:St):St:=aL l lens off most on s.num s.left (Mh s.here) (s.found.map Di) tl
theorem MZ{e:Pt×Pt}(h1:BdP 14 e.1)(h2:BdP 14 e.2):Bd 40 (Ck e):=
 (Bd.rootI (Bd.add (Bd.mul (Bd.sub h2.1 h1.1) (Bd.sub h2.1 h1.1)) (Bd.mul (Bd.sub h2.2 h1.2) (Bd.sub h2.2 h1.2)))).up
theorem Oc{e:Pt×Pt}(h:e.1≠e.2):0<Ew e.1 e.2:=by
 have k0:∀x:Int,0≤x*x:=fun x=>by
  rcases Int.le_total 0 x with h|h
  ·exact mul_nonneg h h
  ·exact Int.mul_nonneg_of_nonpos_of_nonpos h h
 have k:∀x:Int,x≠0→0<x*x:=fun x hx=>by
  rcases Int.lt_or_gt_of_ne hx with h|h
  ·exact Int.mul_pos_of_neg_of_neg h h
  ·exact mul_pos h h
 unfold Ew
 have a1:=k0 (e.2.1-e.1.1)
 have a2:=k0 (e.2.2-e.1.2)
 by_cases h1:e.2.1-e.1.1=0
 ·by_cases h2:e.2.2-e.1.2=0
  ·exact absurd (Prod.ext (by exact(le_antisymm (Ab (Int.le_of_eq h1.symm)) (Ab (Int.le_of_eq h1)))) (by exact(le_antisymm (Ab (Int.le_of_eq h2.symm)) (Ab (Int.le_of_eq h2))))) h
  ·have:=k _ h2;exact Bb a1 this
 ·have:=k _ h1;exact Bb a2 this
theorem FX{e:Pt×Pt}(h:e.1≠e.2):0<Ck e:=FQ (Oc h)
section
variable{O:Program}{w:World}{P:KF}{U:Heap}{n:Nat}
theorem DO(S:Al O P.K U){sc:Scope}{st st':St}{ms:Ms}{t:Expr}{body:List Stmt}{Q:Fl→St→Prop}{N:Nat}(L:List Str)(os:List Or)(q:Ce O w U sc n t body Q N st')(h:JM L (SO O w U n sc t body st os [])=some (true,st',ms))(hm:AC ms):Ce O w U sc n t body Q (N+1) st:=by
 obtain⟨s,e,rfl⟩:=EI h
 exact Cy S os (q.forget (EH L s)) e hm
noncomputable def cuX(k:List Nat):Stmt:=FO (AQ 213) k
theorem WM(S:Al O P.K U){l:Ln}{lens:List Int}{off most:Int}{on:Bool}{s:Gy}{a b pt:Pt}{len d:Int}{N:Nat}{Q:Fl→St→Prop}(hne:lens≠[])(hz:lens.length≤100)
 (hc:s.left≤len-d) (hbt:FnP O w U (n+4) 205 [pD a,pD b,.int (d+s.left),.int len] (· =pD pt)) (hm:((Dj lens pt s).found.length:Int)≤most) (hf:s.found.length≤1000000) (hh:∀h,s.here=some h→h.length≤1000000)
 (q:Ce O w U (scC 213) (n+4) (Ap (cuX [4,1])) (Bf (cuX [4,1])) Q N (Eb l lens off most on (Dj lens pt s) (wTl a b len (d+s.left)))):
 Ce O w U (scC 213) (n+4) (Ap (cuX [4,1])) (Bf (cuX [4,1])) Q (N+1) (Eb l lens off most on s (wTl a b len d)):=by
 obtain⟨num,left,here,found⟩:=s
 have c1:=decide_eq_true hc
 have tn:=UB (w:=w) (n:=n+3) (num:=num) (left:=left) S hne hz
 have io:=Qx (w:=w) (n:=n+3) (lens:=lens) (num:=num+1) (left:=Bp lens (num+1)) S
 have hfz:(found.map Di).length+1≤sizeLine:=le_trans (show _≤16777216 by refine rr (length_map ..) ?_;have:found.length≤1000000:=hf;exact Ac this) szl
 unfold Eb at q⊢
 have eh:Mh (Dj lens pt ⟨num,left,here,found⟩).here=if(num+1)%2=0 then .list [pD pt]else .none:=by
  show Mh (if(num+1)%2=0 then some [pt]else none)=_
  split<;>rfl
 rw[eh]at q
 have hm':∀fs:List Dat,fs=(Dj lens pt ⟨num,left,here,found⟩).found.map Di→decide (most<(fs.length:Nat))=false:=fun fs e=>by
  refine rr e (rr (length_map ..) ?_);exact decide_eq_false (by exact(not_lt.mpr hm))
 have hl':∀fs:List Dat,fs=(Dj lens pt ⟨num,left,here,found⟩).found.map Di→fs.length<2^62:=fun fs e=>by
  refine rr e (rr (length_map ..) ?_)
  have:(Dj lens pt ⟨num,left,here,found⟩).found.length≤found.length+1:=by unfold Dj;dsimp only;split<;>simp
  exact lt_of_le_of_lt (le_trans this (Nat.succ_le_succ hf)) (by decide)
 rcases here with _|⟨h⟩
 ·
  have ef:(Dj lens pt ⟨num,left,none,found⟩).found.map Di=found.map Di:=rfl
  have c5:=hm' _ ef.symm
  have c6:=hl' _ ef.symm
  rw[ef]at q
  by_cases hon:(num+1)%2=0
  ·rw[if_pos hon]at q
   rw[decide_eq_true hon]at io
   refine DO S ["point"] [.br true,.val (pD pt),.br false,.lent .none (Cb lens (num+1) (Bp lens (num+1))),.lent (.bool true) (Cb lens (num+1) (Bp lens (num+1))),.br true,.br false] q rfl ?_
   repeat' first|exact obN|refine obA ?_|apply obC
   all_goals exact trivial
  ·rw[if_neg hon]at q
   rw[decide_eq_false hon]at io
   refine DO S ["point"] [.br true,.val (pD pt),.br false,.lent .none (Cb lens (num+1) (Bp lens (num+1))),.lent (.bool false) (Cb lens (num+1) (Bp lens (num+1))),.br false,.br false] q rfl ?_
   repeat' first|exact obN|refine obA ?_|apply obC
   all_goals exact trivial
 ·
  have ef:(Dj lens pt ⟨num,left,some h,found⟩).found.map Di=found.map Di++[.list (h.map pD++[pD pt])]:=by simp[Dj,Di]
  have c5:=hm' _ ef.symm
  have c6:=hl' _ ef.symm
  have hhz:(h.map pD).length+[pD pt].length≤sizeLine:=le_trans (show _≤16777216 by refine rr (length_map ..) (rr length_singleton ?_);have:=hh h rfl;exact Ac this) szl
  rw[ef]at q
  by_cases hon:(num+1)%2=0
  ·rw[if_pos hon]at q
   rw[decide_eq_true hon]at io
   refine DO S ["point"] [.br true,.val (pD pt),.br true,.lent .none (Cb lens (num+1) (Bp lens (num+1))),.lent (.bool true) (Cb lens (num+1) (Bp lens (num+1))),.br true,.br false] q rfl ?_
   repeat' first|exact obN|refine obA ?_|apply obC
   all_goals first|exact trivial|exact hhz|exact c6
  ·rw[if_neg hon]at q
   rw[decide_eq_false hon]at io
   refine DO S ["point"] [.br true,.val (pD pt),.br true,.lent .none (Cb lens (num+1) (Bp lens (num+1))),.lent (.bool false) (Cb lens (num+1) (Bp lens (num+1))),.br false,.br false] q rfl ?_
   repeat' first|exact obN|refine obA ?_|apply obC
   all_goals first|exact trivial|exact hhz|exact c6
theorem WN(S:Al O P.K U){l:Ln}{lens:List Int}{off most:Int}{on:Bool}{a b:Pt}{len Pw L0:Int}{n0 E En N T:Nat}(hne:lens≠[])(hz:lens.length≤100)(hn:∀x∈lens,0≤x)(ha:BdP 14 a)(hb:BdP 14 b)(hlen:0<len)(hlb:Bd 40 len)
 (few:∀{d:Int}{T:Nat}{s:Gy},Inv lens n0 L0 (Pw+d) E T s→d+s.left≤len→T<N) (hE:E≤En) (hm:((2+3*N+2*En:Nat):Int)≤most) (hm2:2+3*N+2*En≤100000):∀(f t:Nat) (d:Int) (s:Gy),f+t=N→Inv lens n0 L0 (Pw+d) E (T+t) s→0≤d→d≤len→T+t≤N→
 ∃d2 s2 T2,FW lens a b len f d s=(d2,s2)∧Inv lens n0 L0 (Pw+d2) E T2 s2∧T2≤N∧len-d2<s2.left∧0≤d2∧d2≤len∧
  ∀Q,Q .next (Eb l lens off most on s2 (wTl a b len d2))→Ce O w U (scC 213) (n+4) (Ap (cuX [4,1])) (Bf (cuX [4,1])) Q (f+1) (Eb l lens off most on s (wTl a b len d)):=by
 have stop:∀(M:Nat) (d:Int) (s:Gy),¬s.left≤len-d→∀Q,Q .next (Eb l lens off most on s (wTl a b len d))→Ce O w U (scC 213) (n+4) (Ap (cuX [4,1])) (Bf (cuX [4,1])) Q (M+1) (Eb l lens off most on s (wTl a b len d)):=by
  intro M d s hc Q q
  have c1:=decide_eq_false hc
  refine Er S [.br false] q rfl ?_
  repeat' first|exact obN|refine obA ?_|apply obC
 intro f
 induction f with
 |zero=>
  intro t d s hf I hd1 hd2 hT
  have hc:¬s.left≤len-d:=fun h=>by have:=few I (by exact Ab h);exact(Nat.not_succ_le_zero 0 (BM (le_of_eq hf.symm) this))
  exact⟨d,s,T+t,rfl,I,hT,by exact Ab (not_le.mp hc),hd1,hd2,stop 0 d s hc⟩
 |succ f ih=>
  intro t d s hf I hd1 hd2 hT
  rewrite[FW]
  by_cases hc:s.left≤len-d
  ·refine rr (if_pos hc) ?_
   have hTN:=few I (by exact Ab hc)
   have l0:=I.left
   have bw:Bd 40 (d+s.left):=hlb.le (Hd (Int.add_nonneg hd1 l0) (by exact Ab hc))
   have hpt:BdP 60 (FU a b (d+s.left) len):=⟨(Bd.add ha.1 (Bd.divI (Bd.mul (Bd.sub hb.1 ha.1) bw))).up (by decide),(Bd.add ha.2 (Bd.divI (Bd.mul (Bd.sub hb.2 ha.2) bw))).up (by decide)⟩
   have I2:=I.step hn hpt
   have hbt:=Qy (n:=n+2) (w:=w) S (a:=a) (b:=b) (way:=d+s.left) (len:=len) ha.up hb.up bw.up (by exact(ne_of_gt hlen))
   generalize FU a b (d+s.left) len=pt at hpt I2 hbt⊢
   have c1:=I.cost
   have c2:=EB fun g hg=>(I.found g hg).1
   have c3:=I2.cost
   have c4:=EB fun g hg=>(I2.found g hg).1
   have hh:∀h,s.here=some h→h.length≤1000000:=fun h e=>by
    rw[e]at c1
    have c1:Bt s.found+2*h.length≤_:=c1
    exact Ac (bud c1 (Nat.le_of_lt hTN) hE hm2)
   obtain⟨d2,s2,T2,k1,k2,k3,k4,k5,k6,k7⟩:=ih (t+1) (d+s.left) (Dj lens pt s) (by exact(Nat.le_antisymm (Ac (le_of_eq hf)) (Ac (le_of_eq hf.symm)))) (by have:=I2;rw[Int.add_assoc,add_assoc]at this;exact this) (by exact Bb hd1 l0) (by exact Ab hc) (by exact Ac hTN)
   exact⟨d2,s2,T2,k1,k2,k3,k4,k5,k6,fun Q q=>WM S hne hz hc hbt (Int.le_trans (Int.ofNat_le.mpr (bud (le_trans c4 (le_trans (le_add_right _ _) c3)) hTN hE (le_refl _))) hm) (le_trans (bud (le_trans c2 (le_trans (le_add_right _ _) c1)) (Nat.le_of_lt hTN) hE hm2) (by decide)) hh (k7 Q q)⟩
  ·refine rr (if_neg hc) ?_
   exact⟨d,s,T+t,rfl,I,hT,by exact Ab (not_le.mp hc),hd1,hd2,stop (f+1) d s hc⟩
theorem Zf(S:Al O P.K U){l:Ln}{lens:List Int}{off most:Int}{on:Bool}{s:Gy}{a b:Pt}{len d:Int}{ds:List Dat}{Q:Fl→St→Prop}(F:AP Q)(hh:∀h,s.here=some h→h≠[]∧h.length≤1000000)
 (q:Bc O w U (scC 213) (n+4) (Ap (cuX [4])) (Bf (cuX [4])) Q ds (Eb l lens off most on {num:=s.num,left:=s.left-(len-d),here:=Ia b s.here,found:=s.found} [])):
 Ss O w U (scC 213) (n+4) ((Bf (cuX [4])).drop 2) (Eb l lens off most on s (wTl a b len d)) (GO Q (Bc O w U (scC 213) (n+4) (Ap (cuX [4])) (Bf (cuX [4])) Q ds)):=by
 obtain⟨num,left,here,found⟩:=s
 rcases here with _|⟨g⟩
 ·
  refine CB S ["one","other","done","length"] [.br false,.br false] q rfl ?_ F
  repeat' first|exact obN|refine obA ?_|apply obC
  all_goals exact trivial
 ·
  obtain⟨z,hz⟩:=hh g rfl
  obtain⟨g',x,rfl⟩:∃g' x,g=g'++[x]:=⟨g.dropLast,g.getLast z,(List.dropLast_concat_getLast z).symm⟩
  have ei:AK ((g'++[x]).map pD) (-1)=some (pD x):=by refine rr map_append ?_;exact Fm
  have hl:((g'++[x]).map pD).length<2^62:=by refine rr (length_map ..) ?_;exact Ac hz
  have hl2:((g'++[x]).map pD).length+[pD b].length≤sizeLine:=le_trans (show _≤16777216 by refine rr (length_map ..) (rr length_singleton ?_);exact Ac hz) szl
  have gl:(g'++[x]).getLast?=some x:=List.getLast?_concat
  unfold Eb at q⊢
  dsimp only[Ia]at q
  by_cases e:x=b
  ·rw[gl,if_pos (congrArg some e)]at q
   have c1:=Qm e
   refine CB S ["one","other","done","length"] [.br true,.val (pD x),.br false,.br false] q rfl ?_ F
   repeat' first|exact obN|refine obA ?_|apply obC
   all_goals exact trivial
  ·rw[gl,if_neg fun h=>e (Option.some.inj h)]at q
   have c1:=Ql e
   have eh:Mh (some (g'++[x]++[b]))=.list ((g'++[x]).map pD++[pD b]):=by show Dat.list _=_;refine rr (map_append (l₂:=[b])) ?_;rfl
   rw[eh]at q
   refine CB S ["one","other","done","length"] [.br true,.val (pD x),.br true,.br true] q rfl ?_ F
   repeat' first|exact obN|refine obA ?_|apply obC
   all_goals first|exact trivial|exact hl2
theorem WO(S:Al O P.K U){l:Ln}{lens:List Int}{off most:Int}{on:Bool}{s:Gy}{a b:Pt}{Pw L0 tot:Int}{n0 E En N T:Nat}{ds:List Dat}{Q:Fl→St→Prop}(hne:lens≠[])(hz:lens.length≤100)(hn:∀x∈lens,0≤x)(hab:a≠b)(ha:BdP 14 a)(hb:BdP 14 b)(I:Inv lens n0 L0 Pw E T s)(hT:T≤N)
 (few:∀{d:Int}{E T:Nat}{s:Gy},Inv lens n0 L0 d E T s→d+s.left≤tot→T<N) (hP:Pw+Ck (a,b)≤tot) (hE:E+1≤En) (hm:((2+3*N+2*En:Nat):Int)≤most) (hm2:2+3*N+2*En≤100000) (F:AP Q):
 ∃T2,Inv lens n0 L0 (Pw+Ck (a,b)) (E+1) T2 (KW lens N s (a,b))∧T2≤N∧(Bc O w U (scC 213) (n+4) (Ap (cuX [4])) (Bf (cuX [4])) Q ds (Eb l lens off most on (KW lens N s (a,b)) [])→
  Bc O w U (scC 213) (n+4) (Ap (cuX [4])) (Bf (cuX [4])) Q (KT (a,b)::ds) (Eb l lens off most on s [])):=by
 have hlen:=FX (e:=(a,b)) hab
 have hlb:Bd 40 (Ck (a,b)):=MZ (e:=(a,b)) ha hb
 have hsl:FnP O w U (n+4) 117 [pD a,pD b] (· =.int (Ck (a,b))):=HW (n:=n+1) (w:=w) S (p:=a) (q:=b) (Bd.up (Bd.sub hb.1 ha.1)) (Bd.up (Bd.sub hb.2 ha.2))
 unfold KW
 dsimp only
 generalize Ck (a,b)=len at hlen hlb hsl hP⊢
 obtain⟨d2,s2,T2,k1,k2,k3,k4,k5,k6,k7⟩:=WN (w:=w) (n:=n) (l:=l) (off:=off) (on:=on) S hne hz hn ha hb hlen hlb (Pw:=Pw) (L0:=L0) (n0:=n0) (E:=E) (En:=En) (N:=N) (T:=T) (fun I h=>few I (by exact Bb hP h)) (by exact Ac hE) hm hm2 N 0 0 s DX (by simpa using I) DX (by exact Ab hlen) (by exact(Ac hT))
 refine rr k1 ?_
 refine⟨T2,k2.edge k4 (b:=b) hb.up,k3,fun q=>?_⟩
 have c1:=k2.cost
 have hh:∀h,s2.here=some h→h≠[]∧h.length≤1000000:=fun h e=>⟨(k2.herePts h e).1,by
  rw[e]at c1
  have c1:Bt s2.found+2*h.length≤_:=c1
  exact Ac (bud c1 k3 (Nat.le_of_succ_le hE) hm2)⟩
 refine EJ rfl ?_
 refine At (st':=Eb l lens off most on s (wTl a b len 0)) S 1 [] [.val (.int len)] rfl obs ?_
 exact Bm (EE _ (k7 _ (Zf S F hh q)))
theorem WP(S:Al O P.K U){l:Ln}{lens:List Int}{off most:Int}{on:Bool}{s:Gy}(hh:∀h,s.here=some h→h≠[]∧h.length≤1000000)(hf:s.found.length≤1000000)(hg:∀g∈s.found,g.length≤1000000)(hm:((Ko l.2 on s).length:Int)≤most)(hz:(Ko l.2 on s).length≤1000000):
 Ss O w U (scC 213) (n+4) ((AQ 213).drop 5) (Eb l lens off most on s []) (fun fl _=>flD fl=.list ((Ko l.2 on s).map Di)):=by
 obtain⟨num,left,here,found⟩:=s
 have hm':∀fs:List Dat,fs=(Ko l.2 on ⟨num,left,here,found⟩).map Di→decide (most<(fs.length:Nat))=false:=fun fs e=>by
  refine rr e (rr (length_map ..) ?_);exact decide_eq_false (by exact(not_lt.mpr hm))
 have hl':∀fs:List Dat,fs=(Ko l.2 on ⟨num,left,here,found⟩).map Di→fs.length<2^62:=fun fs e=>by
  refine rr e (rr (length_map ..) ?_);exact Ac hz
 have hfz:(found.map Di).length+1≤sizeLine:=le_trans (show _≤16777216 by refine rr (length_map ..) ?_;have:found.length≤1000000:=hf;exact Ac this) szl
 rcases here with _|⟨h⟩
 ·
  have ef:(Ko l.2 on ⟨num,left,none,found⟩).map Di=found.map Di:=rfl
  have c5:=hm' _ ef.symm
  have c6:=hl' _ ef.symm
  refine rr ef ?_
  refine AB S (os:=[.br false,.br false]) rfl ?_ rfl
  repeat' first|exact obN|refine obA ?_|apply obC
  all_goals exact trivial
 ·
  obtain⟨hh1,hh2⟩:=hh h rfl
  have hl:(h.map pD).length<2^62:=by refine rr (length_map ..) ?_;exact Ac hh2
  have hl2:(h.map pD).length≤sizeLine:=le_trans (show _≤16777216 by refine rr (length_map ..) ?_;exact Ac hh2) szl
  have pl:Bo (.list (found.map Di))∧Bo (.list []):=⟨(Cn (k:=3) fun d hd=>by obtain⟨g,_,rfl⟩:=mem_map.mp hd;exact Ej g).plain,(Ej []).plain⟩
  --the way when no piece is joined to the first one
  have other:¬(l.2=true∧on=true∧found≠[])→∀(bs:List Or),(bs=[.br false]∧l.2=false)∨(bs=[.br true,.br false]∧l.2=true∧on=false)∨(bs=[.br true,.br true,.br false]∧l.2=true∧on=true∧found=[])→
   Ss O w U (scC 213) (n+4) ((AQ 213).drop 5) (Eb l lens off most on ⟨num,left,some h,found⟩ []) (fun fl _=>flD fl=.list ((Ko l.2 on ⟨num,left,some h,found⟩).map Di)):=by
   intro hno bs hbs
   by_cases h1:1<h.length
   ·have ef:(Ko l.2 on ⟨num,left,some h,found⟩).map Di=found.map Di++[.list (h.map pD)]:=by
     unfold Ko;dsimp only;refine rr (if_neg hno) ?_;refine rr (if_pos h1) (rr map_append ?_);rfl
    have c1:decide ((1:Int)<((h.map pD).length:Nat))=true:=decide_eq_true (by refine rr (length_map ..) ?_;exact ofNat_lt.mpr h1)
    have c5:=hm' _ ef.symm
    have c6:=hl' _ ef.symm
    refine rr ef ?_
    rcases hbs with⟨rfl,e1⟩|⟨rfl,e1,rfl⟩|⟨rfl,e1,rfl,rfl⟩
    ·refine AB S (os:=[.br true,.br false,.br false,.br true,.br false]) rfl ?_ rfl
     repeat' first|exact obN|refine obA ?_|apply obC
     all_goals first|exact trivial|exact c6
    ·refine AB S (os:=[.br true,.br true,.br false,.br false,.br true,.br false]) rfl ?_ rfl
     repeat' first|exact obN|refine obA ?_|apply obC
     all_goals first|exact trivial|exact c6
    ·refine AB S (os:=[.br true,.br true,.br true,.br false,.br false,.br true,.br false]) rfl ?_ rfl
     repeat' first|exact obN|refine obA ?_|apply obC
     all_goals first|exact trivial|exact pl|exact c6
   ·have ef:(Ko l.2 on ⟨num,left,some h,found⟩).map Di=found.map Di:=by
     unfold Ko;dsimp only;refine rr (if_neg hno) (rr (if_neg h1) ?_);rfl
    have c1:decide ((1:Int)<((h.map pD).length:Nat))=false:=decide_eq_false (by refine rr (length_map ..) ?_;exact fun q=>h1 (ofNat_lt.mp q))
    have c5:=hm' _ ef.symm
    have c6:=hl' _ ef.symm
    refine rr ef ?_
    rcases hbs with⟨rfl,e1⟩|⟨rfl,e1,rfl⟩|⟨rfl,e1,rfl,rfl⟩
    ·refine AB S (os:=[.br true,.br false,.br false,.br false,.br false]) rfl ?_ rfl
     repeat' first|exact obN|refine obA ?_|apply obC
     all_goals exact trivial
    ·refine AB S (os:=[.br true,.br true,.br false,.br false,.br false,.br false]) rfl ?_ rfl
     repeat' first|exact obN|refine obA ?_|apply obC
     all_goals exact trivial
    ·refine AB S (os:=[.br true,.br true,.br true,.br false,.br false,.br false,.br false]) rfl ?_ rfl
     repeat' first|exact obN|refine obA ?_|apply obC
     all_goals first|exact trivial|exact pl
  by_cases hj:l.2=true∧on=true∧found≠[]
  ·obtain⟨e1,rfl,e3⟩:=hj
   obtain⟨g,r,rfl⟩:=exists_cons_of_ne_nil e3
   have ef:(Ko l.2 true ⟨num,left,some h,g::r⟩).map Di=.list ((h.map pD).dropLast++g.map pD)::r.map Di:=by
    unfold Ko;dsimp only;refine rr (if_pos ⟨e1,rfl,e3⟩) (rr map_cons ?_);simp[Di,List.map_dropLast]
   have c5:=hm' _ ef.symm
   have c6:=hl' _ ef.symm
   have hgz:g.length≤1000000:=hg g (.head _)
   have hsz:((h.map pD).dropLast).length+(g.map pD).length≤sizeLine:=le_trans (show _≤16777216 by refine rr length_dropLast ?_;refine rr (length_map ..) (rr (length_map ..) ?_);exact(Ox hh2 hgz (sub_le (h.length) (1)))) szl
   have hfl:((g::r).map Di).length<2^62:=by refine rr (length_map ..) ?_;have:(g::r).length≤1000000:=hf;exact Ac this
   refine rr ef ?_
   refine AB S (os:=[.br true,.br true,.br true,.br true,.br true,.run .next (aL l lens off most true num left (.list (h.map pD)) (.list ((h.map pD).dropLast++g.map pD)::r.map Di) []),.br false]) rfl ?_ rfl
   repeat' first|exact obN|refine obA ?_|apply obC
   all_goals first|exact trivial|exact pl|exact c6|skip
   refine fun Q q=>IJ (j:=0) S (Do S (os:=[.val (Di g)]) (d:=.list ((h.map pD).dropLast++g.map pD)) (st':=aL l lens off most true num left (.list (h.map pD)) (Di g::r.map Di) []) rfl ?_ ⟨Di g::r.map Di,rfl,Nat.succ_pos _,by decide,q⟩)
   repeat' first|exact obN|refine obA ?_|apply obC
  ·rcases Bool.eq_false_or_eq_true l.2 with e1|e1
   ·rcases Bool.eq_false_or_eq_true on with e2|e2
    ·exact other hj [.br true,.br true,.br false] (.inr (.inr ⟨rfl,e1,e2,Classical.byContradiction fun h=>hj ⟨e1,e2,h⟩⟩))
    ·exact other hj [.br true,.br false] (.inr (.inl ⟨rfl,e1,e2⟩))
   ·exact other hj [.br false] (.inl ⟨rfl,e1⟩)
theorem Tb{g:List Pt}:∀{gs:List (List Pt)},g∈gs→2*g.length-1≤Bt gs:=by
 intro gs
 induction gs with
 |nil=>
  intro z0
  cases z0
 |cons a gs ih=>
  intro h
  have e:Bt (a::gs)=(2*a.length-1)+Bt gs:=by simp[Bt]
  cases h with
  |head=>exact Ac (le_of_eq e.symm)
  |tail _ h=>have:=ih h;exact BM (le_of_eq e.symm) this
theorem WQ(S:Al O P.K U){l:Ln}{lens:List Int}{off most:Int}{on:Bool}{L0 tot:Int}{n0 En N:Nat}{Q:Fl→St→Prop}(hne:lens≠[])(hz:lens.length≤100)(hn:∀x∈lens,0≤x)
 (few:∀{d:Int}{E T:Nat}{s:Gy},Inv lens n0 L0 d E T s→d+s.left≤tot→T<N) (hm:((2+3*N+2*En:Nat):Int)≤most) (hm2:2+3*N+2*En≤100000) (F:AP Q):∀(es:List (Pt×Pt)) (s:Gy) (Pw:Int) (E T:Nat),(∀e∈es,e.1≠e.2∧BdP 14 e.1∧BdP 14 e.2)→Inv lens n0 L0 Pw E T s→Pw+(es.map Ck).sum≤tot→E+es.length≤En→T≤N→
 ∃Pw' E' T',Inv lens n0 L0 Pw' E' T' (es.foldl (KW lens N) s)∧E'≤En∧T'≤N∧(Q .next (Eb l lens off most on (es.foldl (KW lens N) s) [])→Bc O w U (scC 213) (n+4) (Ap (cuX [4])) (Bf (cuX [4])) Q (es.map KT) (Eb l lens off most on s [])):=by
 intro es
 induction es with
 |nil=>exact fun s Pw E T _ I _ hE hT=>⟨Pw,E,T,I,hE,hT,fun q=>q⟩
 |cons e es ih=>
  intro s Pw E T hes I hP hE hT
  obtain⟨a,b⟩:=e
  obtain⟨hab,ha,hb⟩:=hes _ (.head _)
  rw[map_cons,sum_cons]at hP
  rw[length_cons]at hE
  have hrest:0≤(es.map Ck).sum:=by
   have k:∀xs:List (Pt×Pt),(∀e∈xs,e.1≠e.2)→0≤(xs.map Ck).sum:=by
    intro xs
    induction xs with
    |nil=>intro _;simp
    |cons x xs ih=>
     intro hx
     have h1:=FX (hx x (.head _))
     have h2:=ih fun e he=>hx e (.tail _ he)
     refine rr map_cons (rr sum_cons ?_);exact Bb h1 h2
   exact k es fun e he=>(hes e (.tail _ he)).1
  obtain⟨T2,I2,hT2,k⟩:=WO (w:=w) (n:=n) (l:=l) (off:=off) (on:=on) (ds:=es.map KT) (Q:=Q) S hne hz hn hab ha hb I hT few (by lia) (by exact Ac hE) hm hm2 F
  obtain⟨Pw',E',T',I3,h1,h2,k3⟩:=ih _ (Pw+Ck (a,b)) (E+1) T2 (fun e h=>hes e (.tail _ h)) I2 (by exact Ab hP) (by exact Ac hE) hT2
  exact⟨Pw',E',T',I3,h1,h2,fun q=>k (k3 q)⟩
theorem aM(S:Al O P.K U){l:Ln}{lens:List Int}{off most:Int}{q:Nat}(hl:2≤l.1.length)(hl2:l.1.length≤100)(hz:lens.length≤100)(hn:∀x∈lens,0≤x)(hs:0<lens.sum)(hb:Bd 64 lens.sum)
 (hL:0≤(AN lens off).2) (hp:∀p∈l.1,BdP 14 p) (he:∀e∈An l,e.1≠e.2) (hW:((An l).map Ck).sum<q*lens.sum) (hm:((2+3*(q*lens.length)+2*(An l).length:Nat):Int)≤most) (hm2:2+3*(q*lens.length)+2*(An l).length≤100000):
 FnP O w U (n+5) 213 [lnD l,.list (lens.map .int),.int off,.int most] (fun r=>r=.list ((Je lens off (q*lens.length) l).map Di)):=by
 have hne:lens≠[]:=fun h=>by subst h;simp at hs
 have hr:∀p∈Az l,BdP 14 p:=by
  intro p hpp
  unfold Az at hpp
  split at hpp
  ·rcases mem_append.mp hpp with k|k
   ·exact hp p k
   ·exact hp p (mem_of_mem_take k)
  ·exact hp p hpp
 have bdE:∀e∈An l,e.1≠e.2∧BdP 14 e.1∧BdP 14 e.2:=fun e h=>⟨he e h,hr _ (of_mem_zip (show(e.1,e.2)∈_ from h)).1,hr _ (mem_of_mem_drop (of_mem_zip (show(e.1,e.2)∈_ from h)).2)⟩
 have hrl:(Az l).length≤101:=by unfold Az;split<;>(try refine rr length_append (rr length_take ?_))<;>first|exact add_le_add hl2 (min_le_left ..)|exact Nat.le_succ_of_le hl2
 obtain⟨p0,ps,hps⟩:∃p0 ps,l.1=p0::ps:=by
  cases e:l.1 with
  |nil=>rw[e]at hl;simp at hl
  |cons a b=>exact⟨a,b,rfl⟩
 have I0:Inv lens (AN lens off).1 (AN lens off).2 0 0 0 (EA lens off l):=by
  refine⟨rfl,by simp[EA,DZ],hL,?_,?_,fun g hg=>by cases hg⟩
  ·show Bt []+ET (if(AN lens off).1%2=0 then some [at' l.1 0]else none)≤_
   split<;>simp[Bt,ET]
  ·intro g e
   have e:(if(AN lens off).1%2=0 then some [at' l.1 0]else none)=some g:=e
   split at e
   ·cases e
    refine⟨by simp,fun p hpp=>?_⟩
    refine rr (mem_singleton.mp hpp) (rr hps ?_)
    exact(hp p0 (by refine rr hps ?_;exact .head _)).up
   ·cases e
 have di:=FV (w:=w) (n:=n) (off:=off) S hz hn (.inr hs) hb
 have io:=Qx (w:=w) (n:=n+3) (lens:=lens) (num:=(AN lens off).1) (left:=(AN lens off).2) S
 have few:∀{d:Int}{E T:Nat}{s:Gy},Inv lens (AN lens off).1 (AN lens off).2 d E T s→d+s.left≤((An l).map Ck).sum→T<q*lens.length:=fun I h=>I.few hn hL h hW
 have rest:∀on,decide ((AN lens off).1%2=0)=on→Ss O w U (scC 213) (n+4) ((AQ 213).drop 4) (Eb l lens off most on (EA lens off l) []) (fun fl _=>flD fl=.list ((Je lens off (q*lens.length) l).map Di)):=by
  intro on hon
  obtain⟨Pw,E,T,I,h1,h2,k⟩:=WQ (w:=w) (n:=n) (l:=l) (off:=off) (on:=on) (Q:=GJ O w U (scC 213) (n+4) ((AQ 213).drop 5) fun fl _=>flD fl=.list ((Je lens off (q*lens.length) l).map Di)) S hne hz hn few hm hm2 Ad (An l) (EA lens off l) 0 0 0 bdE I0 DX DX DX
  have ez:Jx ((Az l).map pD) (((Az l).map pD).drop 1)=(An l).map KT:=by refine rl map_drop (rr (JW ..) ?_);rfl
  rw[←ez]at k
  have hsz:((Az l).map pD).length≤sizeLine:=le_trans (show _≤16777216 by refine rr (length_map ..) ?_;exact Ac hrl) szl
  refine Qb S [] rfl obs (k ?_) (glb P (by kernel_rfl) (by kernel_rfl)) rfl rfl
  have c1:=I.cost
  have c2:=EB fun g hg=>(I.found g hg).1
  obtain⟨c3,c4⟩:=Qz I l.2 on
  have c5:=EB fun g hg=>(c4 g hg).1
  have ec:Je lens off (q*lens.length) l=Ko l.2 on ((An l).foldl (KW lens (q*lens.length)) (EA lens off l)):=by rewrite[Je];refine rr hon ?_;(with_reducible rfl)
  refine rr ec ?_
  refine WP S (fun h e=>⟨(I.herePts h e).1,?_⟩) (le_trans (bud (le_trans c2 (le_trans (le_add_right _ _) c1)) h2 h1 hm2) (by decide)) (fun g hg=>?_) (Int.le_trans (Int.ofNat_le.mpr (bud (le_trans c5 c3) h2 h1 (le_refl _))) hm) (le_trans (bud (le_trans c5 c3) h2 h1 hm2) (by decide))
  ·rw[e]at c1
   have c1:Bt _+2*h.length≤_:=c1
   exact Ac (bud c1 h2 h1 hm2)
  ·exact Ac (Nat.sub_le_iff_le_add.mp (bud (le_trans (Tb hg) (le_trans (le_add_right _ _) c1)) h2 h1 hm2))
 have hpz:(l.1.map pD).length≤sizeLine:=le_trans (show _≤16777216 by refine rr (length_map ..) ?_;exact Ac hl2) szl
 have hpz2:(l.1.map pD).length+((l.1.map pD).take 1).length≤sizeLine:=le_trans (show _≤16777216 by refine rr length_take (rr (length_map ..) ?_);exact(BM hl2 (min_le_left (1) (l.fst.length)))) szl
 have hpl:(l.1.map pD).length<2^62:=by refine rr (length_map ..) ?_;exact Ac hl2
 have ei:AK (l.1.map pD) 0=some (pD p0):=by refine rr hps ?_;exact JA
 have e0:∀on,decide ((AN lens off).1%2=0)=on→Mh (EA lens off l).here=if on=true then .list [pD p0]else .none:=by
  intro on hon
  show Mh (if(AN lens off).1%2=0 then some [at' l.1 0]else none)=_
  have:at' l.1 0=p0:=by refine rr hps ?_;rfl
  refine rr this (rl hon ?_)
  by_cases h:(AN lens off).1%2=0
  ·refine rr (if_pos h) (rr (if_pos (decide_eq_true h)) ?_);rfl
  ·refine rr (if_neg h) (rr (if_neg (by simpa using h)) ?_);rfl
 refine FnP.ofC S (JC P) rfl ?_
 have fin:∀(on:Bool) (here:Dat) (pts:List Dat),decide ((AN lens off).1%2=0)=on→here=Mh (EA lens off l).here→pts=(Az l).map pD→Ss O w U (scC 213) (n+4) ((AQ 213).drop 4)
  [("line",.dat (lnD l)),("lengths",.dat (.list (lens.map .int))),("offset",.dat (.int off)),("most",.dat (.int most)),("found",.lst []),("dashes",Cb lens (AN lens off).1 (AN lens off).2),("is_first_on",.dat (.bool on)),("here",.dat here),("points",.dat (.list pts))] (fun fl _=>flD fl=.list ((Je lens off (q*lens.length) l).map Di)):=by
  intro on here pts h1 h2 h3
  subst h2 h3
  exact rest on h1
 cases hon:decide ((AN lens off).1%2=0)with
 |true=>
  rw[hon]at io
  rcases Bool.eq_false_or_eq_true l.2 with hc|hc
  ·refine At (st':=_) S 4 [] [.lent .none (Cb lens (AN lens off).1 (AN lens off).2),.lent (.bool true) (Cb lens (AN lens off).1 (AN lens off).2),.br true,.val (pD p0),.br true] rfl ?_ (fin true _ _ hon (e0 true hon).symm (show l.1.map pD++(l.1.map pD).take 1=_ by unfold Az;refine rr (if_pos hc) ?_;refine rr map_append (rr map_take ?_);rfl))
   repeat' first|exact obN|refine obA ?_|apply obC
  ·refine At (st':=_) S 4 [] [.lent .none (Cb lens (AN lens off).1 (AN lens off).2),.lent (.bool true) (Cb lens (AN lens off).1 (AN lens off).2),.br true,.val (pD p0),.br false] rfl ?_ (fin true _ _ hon (e0 true hon).symm (show l.1.map pD=_ by unfold Az;refine rr (if_neg (by refine rr hc ?_;decide)) ?_;rfl))
   repeat' first|exact obN|refine obA ?_|apply obC
 |false=>
  rw[hon]at io
  rcases Bool.eq_false_or_eq_true l.2 with hc|hc
  ·refine At (st':=_) S 4 [] [.lent .none (Cb lens (AN lens off).1 (AN lens off).2),.lent (.bool false) (Cb lens (AN lens off).1 (AN lens off).2),.br false,.br true] rfl ?_ (fin false _ _ hon (e0 false hon).symm (show l.1.map pD++(l.1.map pD).take 1=_ by unfold Az;refine rr (if_pos hc) ?_;refine rr map_append (rr map_take ?_);rfl))
   repeat' first|exact obN|refine obA ?_|apply obC
  ·refine At (st':=_) S 4 [] [.lent .none (Cb lens (AN lens off).1 (AN lens off).2),.lent (.bool false) (Cb lens (AN lens off).1 (AN lens off).2),.br false,.br false] rfl ?_ (fin false _ _ hon (e0 false hon).symm (show l.1.map pD=_ by unfold Az;refine rr (if_neg (by refine rr hc ?_;decide)) ?_;rfl))
   repeat' first|exact obN|refine obA ?_|apply obC
end
structure KY(lens:List Int)(off:Int)(q:Nat)(l:Ln):Prop where
 two:2≤l.1.length
 few:l.1.length≤100
 bd:∀p∈l.1,BdP 14 p
 ne:∀e∈An l,e.1≠e.2
 way:((An l).map Ck).sum<q*lens.sum
 cost:2+3*(q*lens.length)+2*(An l).length≤100
noncomputable def Bl(lens:List Int)(off:Int)(N:Nat)(l:Ln):List (Option Ln):=
 if l.1.length=1 then[some l]else if l.2=true∧Je lens off N l=[l.1++l.1.take 1]then[some l]else(Je lens off N l).map fun g=>Ak g false
noncomputable def CS(lens:List Int)(off:Int)(N:Nat)(ls:List Ln):List Ln:=if lens=[]then ls else(ls.flatMap (Bl lens off N)).filterMap id
theorem Tc(a b:List Pt):deq (Di a) (Di b)=true↔a=b:=Hj KD a b
theorem KZ{g:List Pt}:∀{gs:List (List Pt)},g∈gs→2*g.length-1≤Bt gs:=by
 intro gs
 induction gs with
 |nil=>
  intro z0
  cases z0
 |cons g' gs ih=>
  intro h
  have e:Bt (g'::gs)=(2*g'.length-1)+Bt gs:=by simp[Bt]
  rcases mem_cons.mp h with rfl|h
  ·exact Ac (le_of_eq e.symm)
  ·have:=ih h;exact BM (le_of_eq e.symm) this
set_option tactic.hygienic true in
theorem QA{lens:List Int}{n0 q:Nat}{L0 Pw W len:Int}{E T:Nat}{a b:Pt}(hn:∀x∈lens,0≤x)(hL:0≤L0)(hW:W<q*lens.sum)(ha:BdP 14 a)(hb:BdP 14 b)(hlb:Bd 40 len)(hP:Pw+len≤W):∀(f t:Nat) (d:Int) (s:Gy),q*lens.length≤f+t→Inv lens n0 L0 (Pw+d) E (T+t) s→0≤d→d≤len→T+t≤q*lens.length→
 ∃T2,T2≤q*lens.length∧Inv lens n0 L0 (Pw+(FW lens a b len f d s).1) E T2 (FW lens a b len f d s).2∧len-(FW lens a b len f d s).1<(FW lens a b len f d s).2.left:=by
 intro f
 induction f with
 |zero=>
  intro t d s hf I h1 h2 h3
  refine⟨T+t,h3,I,?_⟩
  show len-d<s.left
  rcases Int.lt_or_le (len-d) s.left with h|h
  ·exact h
  ·have:=I.few hn hL (W:=W) (by exact Bb hP h) hW
   lia
 |succ f ih=>
  intro t d s hf I h1 h2 h3
  unfold FW
  split
  ·rename_i hc
   have:=I.few hn hL (W:=W) (by exact Bb hP hc) hW
   have l0:=I.left
   have bw:Bd 40 (d+s.left):=hlb.le (by lia)
   have hpt:BdP 60 (FU a b (d+s.left) len):=⟨(Bd.add ha.1 (Bd.divI (Bd.mul (Bd.sub hb.1 ha.1) bw))).up (by decide),(Bd.add ha.2 (Bd.divI (Bd.mul (Bd.sub hb.2 ha.2) bw))).up (by decide)⟩
   have I2:=I.step hn hpt
   rw[Int.add_assoc,add_assoc]at I2
   exact ih (t+1) (d+s.left) _ (by exact Ac hf) I2 (by exact Bb h1 l0) (by exact Ab hc) (by exact Ac this)
  ·rename_i hc
   exact⟨T+t,h3,I,by dsimp only;exact Ab (not_le.mp hc)⟩
theorem Td{lens:List Int}{n0 q N:Nat}{L0 W:Int}(hN:q*lens.length≤N)(hn:∀x∈lens,0≤x)(hL:0≤L0)(hW:W<q*lens.sum):∀(es:List (Pt×Pt)) (s:Gy) (Pw:Int) (E T:Nat),(∀e∈es,e.1≠e.2∧BdP 14 e.1∧BdP 14 e.2)→Inv lens n0 L0 Pw E T s→Pw+(es.map Ck).sum≤W→T≤q*lens.length→
 ∃T2,T2≤q*lens.length∧Inv lens n0 L0 (Pw+(es.map Ck).sum) (E+es.length) T2 (es.foldl (KW lens N) s):=by
 intro es
 induction es with
 |nil=>intro s Pw E T _ I _ hT;exact⟨T,hT,by simpa using I⟩
 |cons e es ih=>
  intro s Pw E T he I hP hT
  obtain⟨h1,h2,h3⟩:=he e (.head _)
  have hlen:=FX h1
  have hrest:0≤(es.map Ck).sum:=by
   have k:∀xs:List (Pt×Pt),(∀e∈xs,e.1≠e.2)→0≤(xs.map Ck).sum:=by
    intro xs
    induction xs with
    |nil=>intro _;simp
    |cons x xs ih=>
     intro hx
     have h1:=FX (hx x (.head _))
     have h2:=ih fun e he=>hx e (.tail _ he)
     simp only[map_cons,sum_cons];exact Bb h1 h2
   exact k es fun e h=>(he e (.tail _ h)).1
  simp only[map_cons,sum_cons,length_cons]at hP⊢
  obtain⟨T2,k1,k2,k3⟩:=QA (n0:=n0) (L0:=L0) (Pw:=Pw) (E:=E) (T:=T) hn hL hW h2 h3 (MZ h2 h3) (by exact Bb hrest hP) N 0 0 s (by exact(Ac hN)) (by simpa using I) DX (by exact Ab hlen) (by exact(Ac hT))
  have k4:=k2.edge k3 (b:=e.2) h3.up
  obtain⟨T3,m1,m2⟩:=ih _ (Pw+Ck e) (E+1) T2 (fun e h=>he e (.tail _ h)) k4 (by exact Ab hP) k1
  refine⟨T3,m1,?_⟩
  refine rr (show Pw+(Ck e+(es.map Ck).sum)=Pw+Ck e+(es.map Ck).sum by exact DX) (rr (show E+(es.length+1)=E+1+es.length by exact DX) ?_)
  exact m2
theorem La{lens:List Int}{off:Int}{q N:Nat}{l:Ln}(hN:q*lens.length≤N)(hn:∀x∈lens,0≤x)(hL:0≤(AN lens off).2)(ok:KY lens off q l):Bt (Je lens off N l)≤2+3*(q*lens.length)+2*(An l).length∧∀g∈Je lens off N l,2≤g.length∧∀p∈g,BdP 60 p:=by
 have bdE:∀e∈An l,BdP 14 e.1∧BdP 14 e.2:=by
  intro e h
  have hr:∀p∈Az l,BdP 14 p:=by
   intro p hpp
   unfold Az at hpp
   split at hpp
   ·rcases mem_append.mp hpp with k|k
    ·exact ok.bd p k
    ·exact ok.bd p (mem_of_mem_take k)
   ·exact ok.bd p hpp
  obtain⟨k1,k2⟩:=of_mem_zip (show(e.1,e.2)∈_ from h)
  exact⟨hr _ k1,hr _ (mem_of_mem_drop k2)⟩
 have I0:Inv lens (AN lens off).1 (AN lens off).2 0 0 0 (EA lens off l):=by
  refine⟨rfl,by simp[EA,DZ],hL,?_,?_,fun g hg=>by cases hg⟩
  ·show Bt []+ET (if(AN lens off).1%2=0 then some [at' l.1 0]else none)≤_
   split<;>simp[Bt,ET]
  ·intro g e
   have e:(if(AN lens off).1%2=0 then some [at' l.1 0]else none)=some g:=e
   split at e
   ·cases e
    refine⟨by simp,fun p hpp=>?_⟩
    refine rr (mem_singleton.mp hpp) ?_
    cases e2:l.1 with
    |nil=>have:=ok.two;rw[e2]at this;simp at this
    |cons a b=>exact(ok.bd a (by refine rr e2 ?_;exact .head _)).up
   ·cases e
 obtain⟨T,h1,h2⟩:=Td hN hn hL ok.way (An l) (EA lens off l) 0 0 0 (fun e h=>⟨ok.ne e h,bdE e h⟩) I0 DX DX
 obtain⟨h3,h4⟩:=Qz h2 l.2 (decide ((AN lens off).1%2=0))
 exact⟨le_trans h3 (by exact Ox h1 h1 h1),h4⟩
theorem WR{lens:List Int}{off:Int}{q:Nat}{l:Ln}(hn:∀x∈lens,0≤x)(hL:0≤(AN lens off).2)(ok:KY lens off q l):Bt (Je lens off (q*lens.length) l)≤100∧∀g∈Je lens off (q*lens.length) l,2≤g.length∧∀p∈g,BdP 60 p:=by
 obtain⟨h1,h2⟩:=La (le_refl _) hn hL ok
 exact⟨by have:=ok.cost;exact BM h1 this,h2⟩
section
variable{O:Program}{w:World}{P:KF}{U:Heap}{n:Nat}
noncomputable def aN(ls:List Ln)(lens:List Int)(off:Int)(fs:List Dat):St:=[("lines",.dat (.list (ls.map lnD))),("lengths",.dat (.list (lens.map .int))),("offset",.dat (.int off)),("found",.lst fs)]
noncomputable def Te(ls:List Ln)(lens:List Int)(off:Int)(fs:List Dat)(l:Ln)(cf:List (List Pt)):St:=[("lines",.dat (.list (ls.map lnD))),("lengths",.dat (.list (lens.map .int))),("offset",.dat (.int off)),("found",.lst fs),("line",.dat (lnD l)),("pieces",.dat (.list (cf.map Di)))]
noncomputable def ddX:Stmt:=FO (AQ 218) [2]
noncomputable def ddE:Expr:=Ap (FO (AQ 218) [3])
noncomputable def ddG:Expr:=kid (Ap (FO (AQ 218) [2,0,2,1])) 0
theorem Zg(S:Al O P.K U){Q:List Dat→St→Prop}(F:∀acc s,Q acc (Iu ["line"] s)→Q acc s):∀(gs:List (Option Ln)) (acc:List Dat),acc.length+gs.length≤1001→Q (acc++(gs.filterMap id).map lnD) []→
 Bh O w U (By (Lx ddE) (scC 218)) (n+5) (ER ddE) (ES ddE) (EQ ddE) Q (gs.map lnO) acc []:=by
 intro gs
 induction gs with
 |nil=>intro acc _ q;exact(append_nil acc)▸q
 |cons g gs ih=>
  intro acc hl q
  rw[length_cons]at hl
  have hz:acc.length+1≤sizeLine:=le_trans (show _≤16777216 by exact Ac hl) szl
  rcases g with _|⟨l⟩
  ·
   refine Gu S ["line"] [.br false] (ih acc (by exact Ac hl) q) rfl ?_ hz F
   repeat' first|exact obN|refine obA ?_|apply obC
   all_goals exact trivial
  ·
   refine AZ S ["line"] [.br true] (ih (acc++[lnD l]) (by refine rr length_append (rr length_singleton ?_);exact Ac hl) (by refine rr (append_assoc ..) ?_;exact q)) rfl ?_ hz F
   repeat' first|exact obN|refine obA ?_|apply obC
   all_goals exact trivial
theorem QB(S:Al O P.K U){Q:List Dat→St→Prop}(F:∀acc s,Q acc (Iu ["points"] s)→Q acc s):∀(gs:List (List Pt)) (acc:List Dat),acc.length+gs.length≤1001→(∀g∈gs,g.length≤1000000)→Q (acc++(gs.map fun g=>Ak g false).map lnO) []→
 Bh O w U (By (Lx ddG) (scC 218)) (n+5) (ER ddG) (ES ddG) (EQ ddG) Q (gs.map Di) acc []:=by
 intro gs
 induction gs with
 |nil=>intro acc _ _ q;exact(append_nil acc)▸q
 |cons g gs ih=>
  intro acc hl hg q
  rw[length_cons]at hl
  have f:=BE (w:=w) (n:=n+2) (ps:=g) (cl:=false) S (hg g (.head _)) (fun _=>rfl)
  refine AZ S ["points"] [.val (lnO (Ak g false))] (ih (acc++[lnO (Ak g false)]) (by refine rr length_append (rr length_singleton ?_);exact Ac hl) (fun g h=>hg g (.tail _ h)) (by refine rr (append_assoc ..) ?_;exact q)) rfl ?_ (le_trans (show _≤16777216 by exact Ac hl) szl) F
  repeat' first|exact obN|refine obA ?_|apply obC
theorem WS(S:Al O P.K U){ls:List Ln}{lens:List Int}{off:Int}{q:Nat}(hc:lens≠[])(hz:lens.length≤100)(hn:∀x∈lens,0≤x)(hs:0<lens.sum)(hb:Bd 64 lens.sum)(hL:0≤(AN lens off).2){Q:Fl→St→Prop}(F:AP Q):
 ∀(rs:List Ln) (acc:List (Option Ln)),acc.length+100*rs.length≤1000→(∀l∈rs,l.1.length=1∨KY lens off q l)→((acc++rs.flatMap (Bl lens off (q*lens.length))).length≤1000→Q .next (aN ls lens off ((acc++rs.flatMap (Bl lens off (q*lens.length))).map lnO)))→
 Bc O w U (scC 218) (n+5) (Ap ddX) (Bf ddX) Q (rs.map lnD) (aN ls lens off (acc.map lnO)):=by
 intro rs
 induction rs with
 |nil=>intro acc hl _ q;rw[flatMap_nil,append_nil]at q;exact q (le_trans (le_add_right _ _) hl)
 |cons l rs ih=>
  intro acc hl hm k
  rw[length_cons]at hl
  rw[flatMap_cons,←append_assoc]at k
  have go:=fun(ds:List (Option Ln)) (e:Bl lens off (q*lens.length) l=ds) (hd:ds.length≤100)=>
   ih (acc++ds) (by refine rr length_append ?_;exact BM hl hd) (fun l h=>hm l (.tail _ h)) (by refine rl e ?_;exact k)
  have hfz:(acc.map lnO).length+1≤sizeLine:=le_trans (show _≤16777216 by refine rr (length_map ..) ?_;exact Ac hl) szl
  have hfl:(acc.map lnO).length<2^62:=by refine rr (length_map ..) ?_;exact Ac hl
  have hlc:l.1.length≤100:=by
   rcases hm l (.head _)with h|h
   ·exact Ac (le_of_eq h)
   ·exact h.few
  have sp:=KP (O:=O) (w:=w) (U:=U) (P:=P) (n:=n+4) (ps:=l.1.map pD) (c:=l.2) S (by refine rr (length_map ..) ?_;exact Ac hlc)
  rw[length_map]at sp
  by_cases hc1:l.1.length=1
  ·have g:=go [some l] (by rewrite[Bl];refine rr (if_pos hc1) ?_;(with_reducible rfl)) (by refine rr length_singleton ?_;exact DX)
   rw[map_append]at g
   rw[decide_eq_true (show(l.1.length:Int)=1 by exact(Int.neg_inj.mp (congrArg Neg.neg (congrArg Nat.cast hc1))))]at sp
   refine AD S ["line"] [.val (.bool true),.br true] g rfl ?_ F
   repeat' first|exact obN|refine obA ?_|apply obC
  ·rw[decide_eq_false (show¬(l.1.length:Int)=1 by exact(Nat.ToInt.of_diseq rfl rfl hc1))]at sp
   have ok:=(hm l (.head _)).resolve_left hc1
   obtain⟨ck1,ck2⟩:=WR hn hL ok
   have cl:=EB fun g hg=>(ck2 g hg).1
   have hcost:=ok.cost
   have cut:=aM (n:=n) (w:=w) (off:=off) (most:=5000-((acc.map lnO).length:Nat)) (q:=q) S ok.two ok.few hz hn hs hb hL ok.bd ok.ne ok.way (by refine rr (length_map ..) ?_;lia) (by exact Ac hcost)
   have key:deq (.list ((Je lens off (q*lens.length) l).map Di)) (.list [.list (l.1.map pD++(l.1.map pD).take 1)])=true↔Je lens off (q*lens.length) l=[l.1++l.1.take 1]:=by
    refine rl map_take (rl map_append ?_)
    exact Hj Tc _ [l.1++l.1.take 1]
   have pl:Bo (.list ((Je lens off (q*lens.length) l).map Di))∧Bo (.list [.list (l.1.map pD++(l.1.map pD).take 1)]):=by
    refine rl map_take (rl map_append ?_)
    exact⟨(Cn (k:=3) fun d hd=>by obtain⟨g,_,rfl⟩:=mem_map.mp hd;exact Ej g).plain,(Cn (k:=3) fun d hd=>by refine rr (mem_singleton.mp hd) ?_;exact Ej _).plain⟩
   have hlz:(l.1.map pD).length≤sizeLine:=le_trans (show _≤16777216 by refine rr (length_map ..) ?_;exact Ac hlc) szl
   have hla:(l.1.map pD).length+((l.1.map pD).take 1).length≤sizeLine:=le_trans (show _≤16777216 by refine rr length_take (rr (length_map ..) ?_);exact(BM hlc (min_le_left (1) (l.fst.length)))) szl
   have dn:Bl lens off (q*lens.length) l=if l.2=true∧Je lens off (q*lens.length) l=[l.1++l.1.take 1]then[some l]else(Je lens off (q*lens.length) l).map fun g=>Ak g false:=by rewrite[Bl];refine rr (if_neg hc1) ?_;(with_reducible rfl)
   generalize Je lens off (q*lens.length) l=cf at*
   by_cases hc2:l.2=true∧cf=[l.1++l.1.take 1]
   ·have g:=go [some l] (by refine rr dn (rr (if_pos hc2) ?_);rfl) (by refine rr length_singleton ?_;exact DX)
    rw[map_append]at g
    obtain⟨h2,h3⟩:=hc2
    have k2:=key.mpr h3
    obtain⟨ps,cl⟩:=l
    cases h2
    refine AD S ["line","pieces"] [.val (.bool false),.br false,.val (.list (cf.map Di)),.br true,.br true,.br true] g rfl ?_ F
    repeat' first|exact obN|refine obA ?_|apply obC
   ·have g:=go (cf.map fun g=>Ak g false) (by refine rr dn (rr (if_neg hc2) ?_);rfl) (by refine rr (length_map ..) ?_;exact BM ck1 cl)
    rw[map_append]at g
    have ev:∀Q:EV→St→Prop,Q (.dat .none) (Te ls lens off (acc.map lnO++(cf.map fun g=>Ak g false).map lnO) l cf)→Ev O w U (scC 218) (n+5) (match FO (AQ 218) [2,0,2,1]with| .Expr e _=>e|_=>default) (Te ls lens off (acc.map lnO) l cf) Q:=by
     intro Q q
     refine IS S rfl (Sa (AO (Da (Bz.of (by kernel_rfl)) (Ei (Do S (os:=[]) rfl obs ⟨_,rfl,QB S ?_ cf [] (by refine rr length_nil ?_;exact BM ck1 cl) (fun g h=>?_) ?_⟩)))))
     ·intro acc s q
      rwa [AY (by kernel_rfl)]at q
     ·have:=KZ h;lia
     ·exact Jy ⟨_,rfl,_,rfl,le_trans (show _≤16777216 by refine rr (length_map ..) (rr (nil_append ..) ?_);refine rr (length_map ..) (rr (length_map ..) ?_);exact Ox hl ck1 cl) szl,q⟩
    cases h2:l.2 with
    |false=>
     refine AD S ["line","pieces"] [.val (.bool false),.br false,.val (.list (cf.map Di)),.br false,.br false,.ask (.dat .none) (Te ls lens off (acc.map lnO++(cf.map fun g=>Ak g false).map lnO) l cf)] g rfl ?_ F
     repeat' first|exact obN|refine obA ?_|apply obC
    |true=>
     have k2:deq (.list (cf.map Di)) (.list [.list (l.1.map pD++(l.1.map pD).take 1)])=false:=Bool.eq_false_iff.mpr fun h=>hc2 ⟨h2,key.mp h⟩
     refine AD S ["line","pieces"] [.val (.bool false),.br false,.val (.list (cf.map Di)),.br true,.br false,.br false,.ask (.dat .none) (Te ls lens off (acc.map lnO++(cf.map fun g=>Ak g false).map lnO) l cf)] g rfl ?_ F
     repeat' first|exact obN|refine obA ?_|apply obC
theorem Tf(S:Al O P.K U){ls:List Ln}{lens:List Int}{off:Int}{q:Nat}(hz:lens.length≤100)(hn:∀x∈lens,0≤x)(hs:lens=[]∨0<lens.sum)(hb:Bd 64 lens.sum)(hL:0≤(AN lens off).2)
 (hls:ls.length≤10) (hok:lens≠[]→∀l∈ls,l.1.length=1∨KY lens off q l):
 FnP O w U (n+6) 218 [.list (ls.map lnD),.list (lens.map .int),.int off] (fun r=>r=.list ((CS lens off (q*lens.length) ls).map lnD)):=by
 have hl:(lens.map Dat.int).length<2^62:=by refine rr (length_map ..) ?_;exact Ac hz
 by_cases hc:lens=[]
 ·subst hc
  rewrite[CS];refine rr (if_pos rfl) ?_
  exact FnP.go S (DU P) rfl [.br true] rfl obs
 rewrite[CS];refine rr (if_neg hc) ?_
 have c1:decide ((((lens.map Dat.int).length:Nat):Int)=0)=false:=decide_eq_false (by refine rr (length_map ..) ?_;have:=length_pos_iff.mpr hc;exact(Int.natCast_ne_zero_iff_pos.mpr this))
 refine FnP.ofC S (DU P) rfl ?_
 refine At (st':=aN ls lens off []) S 2 [] [.br false] rfl obs ?_
 refine Fb S [] rfl rfl obs ?_
 refine WS S hc hz hn (hs.resolve_left hc) hb hL Ad ls [] (by refine rr length_nil ?_;lia) (hok hc) ?_
 refine rr (nil_append ..) ?_
 generalize ls.flatMap (Bl lens off (q*lens.length))=fs
 intro hf
 refine AB S (os:=[.ask (.dat (.list ((fs.filterMap id).map lnD))) [("lines",.dat (.list (ls.map lnD))),("lengths",.dat (.list (lens.map .int))),("offset",.dat (.int off)),("found",.dat (.list (fs.map lnO)))]]) rfl ?_ rfl
 repeat' first|exact obN|refine obA ?_|apply obC
 refine fun Q q=>AO (Da (Bz.of (by kernel_rfl)) (Ei (Do S (os:=[]) rfl obs ⟨_,rfl,Zg S ?_ fs [] (by refine rr length_nil ?_;exact Ac hf) q⟩)))
 intro acc s q
 rwa [AY (by kernel_rfl)]at q
end
noncomputable def EC:List Pt→List Row
 |[]=>[]
 |p::ps=>.m p::ps.map .l
noncomputable def Ao(s:Sp)(parts:List Ln):List Row:=parts.flatMap fun l=>EC (l.1.map (led s))++(if l.2 then[Row.z]else[])
noncomputable def enD(k:Nat)(pts:List Pt):List Dat:=(pts.zipIdx k).map fun e=>.tuple [.int (e.2:Nat),pD e.1]
noncomputable def enR(s:Sp)(k:Nat)(pts:List Pt):List Row:=(pts.zipIdx k).map fun e=>if e.2=0 then .m (led s e.1)else .l (led s e.1)
theorem WT(s:Sp):∀(pts:List Pt) (k:Nat),k≠0→enR s k pts=(pts.map (led s)).map .l:=by
 intro pts
 induction pts with
 |nil=>
  intro _ _
  exact rfl
 |cons p ps ih=>
  intro k h
  have:=ih (k+1) (Nat.succ_ne_zero k)
  unfold enR at this⊢
  simp only[zipIdx_cons,map_cons,if_neg h,this]
theorem Tg(s:Sp)(pts:List Pt):enR s 0 pts=EC (pts.map (led s)):=by
 rcases pts with _|⟨p,ps⟩
 ·rfl
 ·
  have:=WT s ps 1 (by decide)
  unfold enR at this⊢
  simp only[zipIdx_cons,map_cons,if_true,EC,this]
theorem QC(pts:List Pt):Ky (pts.map pD)=enD 0 pts:=by
 unfold Ky enD
 refine rr List.zipIdx_map ?_
 simp[map_map,Function.comp_def]
section
variable{O:Program}{w:World}{P:KF}{U:Heap}{n:Nat}
noncomputable def XG(parts:List Ln)(s:Sp)(acc:List Dat)(tl:St):St:=("parts",.dat (.list (parts.map CQ)))::("space",.dat s.D)::("found",.lst acc)::tl
noncomputable def rwX(k:List Nat):Stmt:=FO (AQ 370) k
theorem aO(S:Al O P.K U){parts:List Ln}{s:Sp}(ha:Bd 64 s.a)(hb:Bd 64 s.b)(hc:Bd 64 s.c)(hd:Bd 64 s.d){pts:List Pt}{cl:Bool}{Q:Fl→St→Prop}(F:AP Q):∀(qs:List Pt) (k:Nat) (acc:List Dat),acc.length+qs.length≤1000→(∀p∈qs,BdP 64 p)→
 Q .next (XG parts s (acc++(enR s k qs).map BZ) [("points",.dat (.list (pts.map pD))),("is_closed",.dat (.bool cl))])→Bc O w U (scC 370) (n+1) (Ap (rwX [1,0])) (Bf (rwX [1,0])) Q (enD k qs) (XG parts s acc [("points",.dat (.list (pts.map pD))),("is_closed",.dat (.bool cl))]):=by
 intro qs
 induction qs with
 |nil=>intro k acc _ _ q;exact(append_nil acc)▸q
 |cons p qs ih=>
  intro k acc hl hq q
  rw[length_cons]at hl
  have hz:acc.length+1≤sizeLine:=le_trans (show _≤1000 by exact Ac hl) (by decide)
  have l:=YS (w:=w) (n:=n) S ha hb hc hd (hq p (.head _)).1.up (hq p (.head _)).2.up
  have B:∀x y z:Dat,[x].length+[y,z].length≤sizeLine:=fun _ _ _=>show 3≤sizeLine by decide
  have nx:=fun r=>ih (k+1) (acc++[r]) (by refine rr length_append (rr length_singleton ?_);exact Ac hl) fun p h=>hq p (.tail _ h)
  by_cases h:k=0
  ·have e:enR s k (p::qs)=.m (led s p)::enR s (k+1) qs:=by
    unfold enR;refine rr zipIdx_cons ?_;refine rr map_cons (rr (if_pos h) ?_);rfl
   have b:decide ((k:Int)=0)=true:=decide_eq_true (by lia)
   rw[e]at q
   exact AD S ["at","x","y"] [.br true,.val (pD (led s p))] (nx (BZ (.m (led s p))) (by refine rr (append_assoc ..) ?_;exact q)) rfl (.cons hz (.cons (B _ _ _) (.cons l (.cons b .nil)))) F
  ·have e:enR s k (p::qs)=.l (led s p)::enR s (k+1) qs:=by
    unfold enR;refine rr zipIdx_cons ?_;refine rr map_cons (rr (if_neg h) ?_);rfl
   have b:decide ((k:Int)=0)=false:=decide_eq_false (by lia)
   rw[e]at q
   exact AD S ["at","x","y"] [.br false,.val (pD (led s p))] (nx (BZ (.l (led s p))) (by refine rr (append_assoc ..) ?_;exact q)) rfl (.cons hz (.cons (B _ _ _) (.cons l (.cons b .nil)))) F
theorem WU(s:Sp)(k:Nat)(ps:List Pt):(enR s k ps).length=ps.length:=by
 unfold enR;refine rr (length_map ..) (rr List.length_zipIdx ?_);rfl
theorem Zh(S:Al O P.K U){parts:List Ln}{s:Sp}(ha:Bd 64 s.a)(hb:Bd 64 s.b)(hc:Bd 64 s.c)(hd:Bd 64 s.d){Q:Fl→St→Prop}(F:AP Q):∀(ls:List Ln) (acc:List Dat),acc.length+20*ls.length≤800→(∀l∈ls,l.1.length≤10∧∀p∈l.1,BdP 64 p)→
 Q .next (XG parts s (acc++(Ao s ls).map BZ) [])→Bc O w U (scC 370) (n+1) (Ap (rwX [1])) (Bf (rwX [1])) Q (ls.map CQ) (XG parts s acc []):=by
 intro ls
 induction ls with
 |nil=>intro acc _ _ q;exact(append_nil acc)▸q
 |cons l ls ih=>
  intro acc hl hp q
  rw[length_cons]at hl
  obtain⟨pts,cl⟩:=l
  obtain⟨z1,z2⟩:=hp (pts,cl) (.head _)
  have z1:pts.length≤10:=z1
  have lm:(acc++(enR s 0 pts).map BZ).length=acc.length+pts.length:=by refine rr length_append ?_;refine rr (length_map ..) (rr (WU ..) ?_);rfl
  refine EJ (st':=XG parts s acc [("points",.dat (.list (pts.map pD))),("is_closed",.dat (.bool cl))]) rfl ?_
  refine Bm (EY (Vp S (glb P (by kernel_rfl) (by kernel_rfl)) rfl (Fa S (os:=[]) rfl obs ⟨pts.map pD,rfl,?_⟩)))
  refine rr (QC ..) ?_
  refine aO S ha hb hc hd Ad pts 0 acc (by exact BM hl z1) z2 ?_
  have e:(Ao s ((pts,cl)::ls)).map BZ=(enR s 0 pts).map BZ++((if cl then[Row.z]else[]).map BZ++(Ao s ls).map BZ):=by
   refine rr (Tg ..) ?_;unfold Ao;refine rr flatMap_cons (rr map_append ?_);refine rr map_append (rr (append_assoc ..) ?_);rfl
  rw[e,←append_assoc]at q
  generalize acc++(enR s 0 pts).map BZ=A at lm q⊢
  have hz:A.length+1≤sizeLine:=le_trans (show _≤1000 by exact Ox hl z1 (le_of_eq lm)) (by decide)
  rcases cl with _|_
  ·exact CB S ["points","is_closed"] [.br false] (ih A (by lia) (fun l h=>hp l (.tail _ h)) q) rfl obs F
  ·exact CB S ["points","is_closed"] [.br true] (ih (A++[BZ .z]) (by refine rr length_append (rr length_singleton ?_);lia) (fun l h=>hp l (.tail _ h)) (by refine rr (append_assoc ..) ?_;exact q)) rfl obs F
theorem Zi(S:Al O P.K U){s:Sp}{parts:List Ln}(ha:Bd 64 s.a)(hb:Bd 64 s.b)(hc:Bd 64 s.c)(hd:Bd 64 s.d)(hz:parts.length≤10)(hp:∀l∈parts,l.1.length≤10∧∀p∈l.1,BdP 64 p):
 FnP O w U (n+2) 370 [.list (parts.map CQ),s.D] (fun r=>r=.list ((Ao s parts).map BZ)):=by
 refine FnP.ofC S (KM P) rfl ?_
 refine At (st':=XG parts s [] []) S 1 [] [] rfl obs ?_
 exact Fb S (os:=[]) rfl rfl obs (Zh S ha hb hc hd Ad parts [] (by refine rr length_nil ?_;lia) hp (AB S (os:=[]) rfl obs rfl))
end
theorem CJ(m:Mx)(ps:List Pt):(CC m ps).length≤ps.length+1:=by
 unfold CC
 split
 ·simp
 ·have len:(Aw (ps.map (Au m))).length=ps.length:=by unfold Aw;split<;>simp
  cases e:Aw (ps.map (Au m))with
  |nil=>simp[Bk]
  |cons a l=>rw[e]at len;simp[Bk]at len⊢;exact Ac (le_of_eq len)
theorem Dq(m:Mx)(t:Bool)(h:Int)(c:Pt):(CD m t h c).length≤6:=by
 unfold CD
 split
 ·simp
 ·simp
theorem GQ(p:AV)(a b:Pt):(Ai p (AM p.half a b)).length≤6:=le_trans (CJ _ _) (by simp)
theorem Ci(p:AV)(a b c:Pt):((Am p a b c).flatMap (Ai p)).length≤6:=by
 unfold Am
 dsimp only
 split
 ·simp only[flatMap_cons,flatMap_nil,append_nil];exact Dq _ _ _ _
 ·split
  ·simp
  ·split
   ·simp only[flatMap_cons,flatMap_nil,append_nil];exact le_trans (CJ _ _) (by simp)
   ·simp only[flatMap_cons,flatMap_nil,append_nil];exact le_trans (CJ _ _) (by simp)
theorem Fs(p:AV)(a b:Pt):((Bj p a b).flatMap (Ai p)).length≤6:=by
 unfold Bj
 dsimp only
 split
 ·simp only[flatMap_cons,flatMap_nil,append_nil];exact Dq _ _ _ _
 ·split
  ·simp only[flatMap_cons,flatMap_nil,append_nil];exact le_trans (CJ _ _) (by simp)
  ·simp
theorem Ib{ps:List Pt}{k:Nat}(h:k<ps.length):ps[k]?=some (at' ps k):=by
 unfold at'
 refine rr (getD_eq_getElem?_getD) (rr (getElem?_eq_getElem h) ?_);rfl
theorem GR{ps:List Pt}{k:Nat}(h:k<ps.length):at' ps k∈ps:=mem_of_getElem? (Ib h)
theorem EK{ps:List Pt}{k:Nat}(h:k<ps.length):AK (ps.map pD) (k:Int)=some (pD (at' ps k)):=Gn (by refine rr (getElem?_map) (rr (Ib h) ?_);rfl)
theorem Hm{ps:List Pt}{k:Nat}(h1:1≤k)(h:k≤ps.length):AK (ps.map pD) (-(k:Int))=some (pD (at' ps (ps.length-k))):=by
 have e:seqIndex? (-(k:Int)) (ps.map pD).length=some (ps.length-k):=by
  unfold seqIndex?
  refine rr (length_map ..) ?_
  simp
  lia
 unfold AK
 refine rr e ?_
 show(ps.map pD)[ps.length-k]?=_
 refine rr (getElem?_map) (rr (Ib (by omega)) ?_);rfl
theorem QD{l:Ln}{k:Nat}(h:k<l.1.length):(Az l)[k]?=some (at' l.1 k):=by
 unfold Az
 split
 ·refine rr (List.getElem?_append_left h) ?_;exact Ib h
 ·exact Ib h
theorem QE{l:Ln}{k:Nat}(h:k+1<l.1.length):(at' l.1 k,at' l.1 (k+1))∈An l:=by
 unfold An
 rewrite[List.mem_iff_getElem?]
 refine⟨k,?_⟩
 rewrite[List.getElem?_zip_eq_some]
 refine⟨QD (by exact Ac h),?_⟩
 refine rr (List.getElem?_drop) (rr (add_comm 1 k) ?_)
 exact QD h
noncomputable def Zj(e:Pt×Pt×Pt):Dat:=.tuple [pD e.1,pD e.2.1,pD e.2.2]
theorem QF(as bs cs:List Pt):JJ (as.map pD) (bs.map pD) (cs.map pD)=(Qg as bs cs).map Zj:=by
 unfold JJ Qg
 refine rr List.zip_map ?_;refine rr List.zipWith_map (rr List.map_zip_eq_zipWith ?_)
 rfl
theorem Na{q:Pt×Pt×Pt}{as bs cs:List Pt}(h:q∈Qg as bs cs):q.1∈as∧q.2.1∈bs∧q.2.2∈cs:=
 have k:=of_mem_zip h
 ⟨k.1,of_mem_zip k.2⟩
theorem Nb(as bs cs:List Pt):(Qg as bs cs).length≤as.length:=le_trans (le_of_eq length_zip) (min_le_left ..)
theorem Lb(p:AV):∀es:List (Pt×Pt),((es.map fun q=>AM p.half q.1 q.2).flatMap (Ai p)).length≤6*es.length:=by
 intro es
 induction es with
 |nil=>
  exact le_refl _
 |cons e es ih=>
  have:=ih
  have:=GQ p e.1 e.2
  refine rr map_cons (rr flatMap_cons ?_);refine rr length_append (rr length_cons ?_);lia
theorem Lc(p:AV):∀es:List (Pt×Pt×Pt),((es.flatMap fun q=>Am p q.1 q.2.1 q.2.2).flatMap (Ai p)).length≤6*es.length:=by
 intro es
 induction es with
 |nil=>
  exact le_refl _
 |cons e es ih=>
  have:=ih
  have:=Ci p e.1 e.2.1 e.2.2
  refine rr flatMap_cons (rr flatMap_append ?_);refine rr length_append (rr length_cons ?_);lia
theorem Nc(l:Ln):(Az l).length≤l.1.length+1:=by
 unfold Az
 split
 ·refine rr length_append (rr length_take ?_);exact(Ac (min_le_left (1) (l.fst.length)))
 ·exact le_succ _
theorem Ic(l:Ln):(An l).length≤l.1.length+1:=by
 have:=Nc l
 unfold An;refine rr length_zip ?_;lia
theorem Nd{l:Ln}{q:Pt}(h:q∈Az l):q∈l.1:=by
 unfold Az at h
 split at h
 ·exact(mem_append.mp h).elim id mem_of_mem_take
 ·exact h
theorem Hn{l:Ln}{e:Pt×Pt}(h:e∈An l):e.1∈l.1∧e.2∈l.1:=
 have k:=of_mem_zip (show(e.1,e.2)∈_ from h)
 ⟨Nd k.1,Nd (mem_of_mem_drop k.2)⟩
section
variable{O:Program}{w:World}{P:KF}{U:Heap}{n:Nat}
noncomputable def XH(p:AV)(i:Addr)(rs:List Row)(l:Ln)(tl:St):St:=("self",Bw p i rs)::("line",.dat (lnD l))::("points",.dat (.list (l.1.map pD)))::tl
noncomputable def UC(l:Ln):St:=[("ring",.dat (.list ((Az l).map pD)))]
noncomputable def pdX(k:List Nat):Stmt:=FO (AQ 298) k
noncomputable abbrev Fe(p:AV)(es:List (Pt×Pt)):List Row:=(es.map fun q=>AM p.half q.1 q.2).flatMap (Ai p)
noncomputable abbrev Fj(p:AV)(es:List (Pt×Pt×Pt)):List Row:=(es.flatMap fun q=>Am p q.1 q.2.1 q.2.2).flatMap (Ai p)
theorem Th(S:Al O P.K U){p:AV}{i:Addr}{l:Ln}(hm:Hl p.m)(hh:Bd 64 p.half){Q:Fl→St→Prop}(F:AP Q):∀(es:List (Pt×Pt)) (rs:List Row),rs.length+6*es.length≤60000→(∀e∈es,BdP 60 e.1∧BdP 60 e.2∧e.1≠e.2)→Q .next (XH p i (rs++Fe p es) l (UC l))→
 Bc O w U (scC 298) (n+6) (Ap (pdX [3])) (Bf (pdX [3])) Q (es.map KT) (XH p i rs l (UC l)):=by
 intro es
 induction es with
 |nil=>intro rs _ _ q;exact(append_nil rs)▸q
 |cons e es ih=>
  intro rs hl he q
  rw[length_cons]at hl
  obtain⟨b1,b2,b3⟩:=he e (.head _)
  have lr:=GQ p e.1 e.2
  have d:=NY (w:=w) (n:=n) (i:=i) (rs:=rs) S hm hh b1.up b2.up b3 (by exact Ac hl)
  exact AD S ["one","other"] [.lent .none (Bw p i (rs++Ai p (AM p.half e.1 e.2)))] (ih (rs++Ai p (AM p.half e.1 e.2)) (by refine rr length_append ?_;exact BM hl lr) (fun e h=>he e (.tail _ h)) (by refine rr (append_assoc ..) ?_;exact q)) rfl (.cons d .nil) F
theorem Ti(S:Al O P.K U){p:AV}{i:Addr}{l:Ln}(hm:Hl p.m)(hh:Bd 64 p.half)(hli:Bd 64 p.limit){Q:Fl→St→Prop}(F:AP Q):∀(es:List (Pt×Pt×Pt)) (rs:List Row),rs.length+6*es.length≤70000→(∀e∈es,BdP 60 e.1∧BdP 60 e.2.1∧BdP 60 e.2.2)→Q .next (XH p i (rs++Fj p es) l (UC l))→
 Bc O w U (scC 298) (n+6) (Ap (pdX [4])) (Bf (pdX [4])) Q (es.map Zj) (XH p i rs l (UC l)):=by
 intro es
 induction es with
 |nil=>intro rs _ _ q;exact(append_nil rs)▸q
 |cons e es ih=>
  intro rs hl he q
  rw[length_cons]at hl
  obtain⟨b1,b2,b3⟩:=he e (.head _)
  have lr:=Ci p e.1 e.2.1 e.2.2
  have d:=Jd (w:=w) (n:=n) (i:=i) (rs:=rs) S hm hh hli b1 b2 b3 (by exact Ac hl)
  have a:rs++Fj p (e::es)=(rs++(Am p e.1 e.2.1 e.2.2).flatMap (Ai p))++Fj p es:=by
   unfold Fj;refine rr flatMap_cons ?_;refine rr flatMap_append (rr (append_assoc ..) ?_);rfl
  exact AD S ["ahead","here","behind"] [.lent .none (Bw p i (rs++(Am p e.1 e.2.1 e.2.2).flatMap (Ai p)))] (ih (rs++(Am p e.1 e.2.1 e.2.2).flatMap (Ai p)) (by refine rr length_append ?_;exact BM hl lr) (fun e h=>he e (.tail _ h)) (a▸q)) rfl (.cons d .nil) F
theorem Zk(S:Al O P.K U){p:AV}{i:Addr}{rs:List Row}{l:Ln}(hm:Hl p.m)(hh:Bd 64 p.half)(hli:Bd 64 p.limit)(h2:2≤l.1.length)(hz:l.1.length≤100)(hp:∀q∈l.1,BdP 60 q)(he:∀e∈An l,e.1≠e.2)(hr:rs.length≤70000):
 Ss O w U (scC 298) (n+6) ((AQ 298).drop 5) (XH p i rs l (UC l)) (fun fl st'=>∃a',look "self" st'=some a'∧flD fl=.none∧a'=Bw p i (rs++(Dz p l).flatMap (Ai p))):=by
 have hlm:(l.1.map pD).length<2^62:=by refine rr (length_map ..) ?_;exact Ac hz
 have i0:AK (l.1.map pD) 0=some (pD (at' l.1 0)):=EK (k:=0) (by exact Ac h2)
 have i1:AK (l.1.map pD) 1=some (pD (at' l.1 1)):=EK (k:=1) (by exact Ac h2)
 have m1:AK (l.1.map pD) (-1)=some (pD (at' l.1 (l.1.length-1))):=Hm (k:=1) DX (by exact Ac h2)
 have m2:AK (l.1.map pD) (-2)=some (pD (at' l.1 (l.1.length-2))):=Hm (k:=2) DX (by exact(Ac h2))
 have b0:=hp _ (GR (ps:=l.1) (k:=0) (by exact Ac h2))
 have b1:=hp _ (GR (ps:=l.1) (k:=1) (by exact Ac h2))
 have c1:=hp _ (GR (ps:=l.1) (k:=l.1.length-1) (by exact(sub_one_lt_of_lt h2)))
 have c2:=hp _ (GR (ps:=l.1) (k:=l.1.length-2) (by omega))
 have n0:at' l.1 0≠at' l.1 1:=he _ (QE (l:=l) (k:=0) (by exact Ac h2))
 have n1:at' l.1 (l.1.length-2)≠at' l.1 (l.1.length-1):=by
  have:=he _ (QE (l:=l) (k:=l.1.length-2) (by omega))
  rwa [show l.1.length-2+1=l.1.length-1 by lia]at this
 obtain⟨ps,c⟩:=l
 unfold Dz
 dsimp only at*
 generalize at' ps 0=q0 at*
 generalize at' ps 1=q1 at*
 generalize at' ps (ps.length-1)=z1 at*
 generalize at' ps (ps.length-2)=z2 at*
 have J:=fun(rs:List Row) (hr:rs.length≤80000) {a b c:Pt} (ha:BdP 60 a) (hb:BdP 60 b) (hc:BdP 60 c)=>Jd (w:=w) (n:=n) (i:=i) (rs:=rs) S hm hh hli ha hb hc (by exact Ac hr)
 rcases c with _|_
 ·
  refine rr (if_neg Bool.false_ne_true) ?_;refine rr flatMap_append (rl (append_assoc ..) ?_)
  have lc:=Fs p q1 q0
  have d1:=KV (w:=w) (n:=n) (i:=i) (rs:=rs) S hm hh b1.up b0.up n0.symm (by exact Ac hr)
  have d2:=KV (w:=w) (n:=n) (i:=i) (rs:=rs++(Bj p q1 q0).flatMap (Ai p)) S hm hh c2.up c1.up n1 (by refine rr length_append ?_;exact BM hr lc)
  exact AB S (os:=[.br false,.val (pD q1),.val (pD q0),.lent .none (Bw p i (rs++(Bj p q1 q0).flatMap (Ai p))),.val (pD z2),.val (pD z1),.lent .none (Bw p i (rs++(Bj p q1 q0).flatMap (Ai p)++(Bj p z2 z1).flatMap (Ai p)))]) rfl obs ⟨_,rfl,rfl,rfl⟩
 ·
  refine rr (if_pos rfl) ?_
  by_cases h3:2<ps.length
  ·refine rr (if_pos h3) ?_;refine rr flatMap_append (rl (append_assoc ..) ?_)
   have c3:decide ((2:Int)<((ps.map pD).length:Nat))=true:=decide_eq_true (by refine rr (length_map ..) ?_;exact(Int.lt_of_toNat_lt h3))
   have lj:=Ci p z2 z1 q0
   have d1:=J rs (by exact Ac hr) c2 c1 b0
   have d2:=J (rs++(Am p z2 z1 q0).flatMap (Ai p)) (by refine rr length_append ?_;exact BM hr lj) c1 b0 b1
   exact AB S (os:=[.br true,.br true,.val (pD z2),.val (pD z1),.val (pD q0),.lent .none (Bw p i (rs++(Am p z2 z1 q0).flatMap (Ai p))),.val (pD z1),.val (pD q0),.val (pD q1),.lent .none (Bw p i (rs++(Am p z2 z1 q0).flatMap (Ai p)++(Am p z1 q0 q1).flatMap (Ai p)))]) rfl obs ⟨_,rfl,rfl,rfl⟩
  ·refine rr (if_neg h3) ?_;refine rr flatMap_append (rl (append_assoc ..) ?_)
   have c3:decide ((2:Int)<((ps.map pD).length:Nat))=false:=decide_eq_false (by refine rr (length_map ..) ?_;lia)
   have lj:=Ci p q0 q1 q0
   have d1:=J rs (by exact Ac hr) b0 b1 b0
   have d2:=J (rs++(Am p q0 q1 q0).flatMap (Ai p)) (by refine rr length_append ?_;exact BM hr lj) c1 b0 b1
   exact AB S (os:=[.br true,.br false,.val (pD q0),.val (pD q1),.val (pD q0),.lent .none (Bw p i (rs++(Am p q0 q1 q0).flatMap (Ai p))),.val (pD z1),.val (pD q0),.val (pD q1),.lent .none (Bw p i (rs++(Am p q0 q1 q0).flatMap (Ai p)++(Am p z1 q0 q1).flatMap (Ai p)))]) rfl obs ⟨_,rfl,rfl,rfl⟩
theorem Od(S:Al O P.K U){p:AV}{i:Addr}{rs:List Row}{l:Ln}(hm:Hl p.m)(hh:Bd 64 p.half)(hli:Bd 64 p.limit)(h1:1≤l.1.length)(hz:l.1.length≤100)(hp:∀q∈l.1,BdP 60 q)
 (he:2≤l.1.length→∀e∈An l,e.1≠e.2) (hr:rs.length≤50000):
 FnL O w U (n+7) 298 (Bw p i rs) [lnD l] (fun d x=>d=.none∧x=Bw p i (rs++(AI p l).flatMap (Ai p))):=by
 have sp:=KP (w:=w) (n:=n+5) (ps:=l.1.map pD) (c:=l.2) S (by refine rr (length_map ..) ?_;exact Ac hz)
 have hs:(l.1.map pD).length≤sizeLine:=le_trans (show _≤1000 by refine rr (length_map ..) ?_;exact Ac hz) (by decide)
 by_cases hc:l.1.length=1
 ·rewrite[AI];refine rr (if_pos hc) ?_
  have c1:decide (((l.1.map pD).length:Int)=1)=true:=decide_eq_true (by refine rr (length_map ..) ?_;exact(Int.neg_inj.mp (congrArg Neg.neg (congrArg Nat.cast hc))))
  rw[c1]at sp
  by_cases h:p.cap=1
  ·refine rr (if_pos h) (rr (List.flatMap_singleton ..) ?_)
   have c2:=decide_eq_true h
   have i0:AK (l.1.map pD) 0=some (pD (at' l.1 0)):=EK (k:=0) (by exact Ac h1)
   have hlm:(l.1.map pD).length<2^62:=by refine rr (length_map ..) ?_;exact Ac hz
   have d:=Ez (w:=w) (n:=n+1) (i:=i) (rs:=rs) (q:=at' l.1 0) S hm hh (hp _ (GR (by exact Ac h1))).up (by exact Ac hr)
   refine FnL.go S (Fo P) (by kernel_rfl) rfl [.val (.bool true),.br true,.br true,.val (pD (at' l.1 0)),.lent .none (Bw p i (rs++Ai p (.circ (at' l.1 0))))] rfl ?_
   repeat' first|exact obN|refine obA ?_|apply obC
  ·refine rr (if_neg h) ?_;refine rr flatMap_nil (rr (append_nil ..) ?_)
   have c2:=decide_eq_false h
   refine FnL.go S (Fo P) (by kernel_rfl) rfl [.val (.bool true),.br true,.br false] rfl ?_
   repeat' first|exact obN|refine obA ?_|apply obC
 ·have h2:2≤l.1.length:=by lia
  have c1:decide (((l.1.map pD).length:Int)=1)=false:=decide_eq_false (by refine rr (length_map ..) ?_;exact(Nat.ToInt.of_diseq rfl rfl hc))
  rw[c1]at sp
  have he:=he h2
  have le:=Lb p (An l)
  have el:=Ic l
  have lj:=Lc p (Qg l.1 (l.1.drop 1) (l.1.drop 2))
  have zl:=Nb l.1 (l.1.drop 1) (l.1.drop 2)
  have hr3:((Az l).map pD).length≤sizeLine:=le_trans (show _≤1000 by have:=Nc l;refine rr (length_map ..) ?_;exact BM hz this) (by decide)
  have rest:Ss O w U (scC 298) (n+6) ((AQ 298).drop 3) (XH p i rs l (UC l)) (fun fl st'=>∃a',look "self" st'=some a'∧flD fl=.none∧a'=Bw p i (rs++(AI p l).flatMap (Ai p))):=by
   rewrite[AI];refine rr (if_neg hc) ?_
   dsimp only
   rewrite[show rs++((((if l.2=true then l.1++l.1.take 1 else l.1).zip ((if l.2=true then l.1++l.1.take 1 else l.1).drop 1)).map fun q=>AM p.half q.1 q.2)++((Qg l.1 (l.1.drop 1) (l.1.drop 2)).flatMap fun q=>Am p q.1 q.2.1 q.2.2)++Dz p l).flatMap (Ai p)=rs++Fe p (An l)++Fj p (Qg l.1 (l.1.drop 1) (l.1.drop 2))++(Dz p l).flatMap (Ai p)by
    refine rr flatMap_append (rr flatMap_append ?_);refine rl (append_assoc ..) (rl (append_assoc ..) ?_);rfl]
   refine Qb S [] (xs:=(Az l).map pD) (ys:=((Az l).map pD).drop 1) rfl obs ?_ (glb P (by kernel_rfl) (by kernel_rfl)) rfl rfl
   refine rl map_drop (rr (JW ..) ?_)
   refine Th S hm hh Ad (An l) rs (by lia) (fun e h=>⟨hp _ (Hn h).1,hp _ (Hn h).2,he e h⟩) ?_
   refine Bm (EY (Wi S (glb P (by kernel_rfl) (by kernel_rfl)) rfl (Fa S (os:=[]) rfl obs ⟨l.1.map pD,(l.1.map pD).drop 1,(l.1.map pD).drop 2,rfl,?_⟩)))
   refine rl map_drop ?_;refine rl map_drop (rr (QF ..) ?_)
   refine Ti S hm hh hli Ad _ _ (by refine rr length_append ?_;lia) (fun e h=>have k:=Na h;⟨hp _ k.1,hp _ (mem_of_mem_drop k.2.1),hp _ (mem_of_mem_drop k.2.2)⟩) ?_
   exact Zk S hm hh hli h2 hz hp he (by refine rr length_append (rr length_append ?_);lia)
  refine FnL.ofC S (Fo P) (by kernel_rfl) rfl ?_
  obtain⟨ps,c⟩:=l
  rcases c with _|_
  ·exact At S 3 [] [.val (.bool false),.br false,.br false] rfl obs rest
  ·
   have e:UC (ps,true)=([("ring",.dat (.list (ps.map pD++(ps.map pD).take 1)))]:St):=by simp[UC,Az]
   rw[e]at rest
   have hb:(ps.map pD).length+((ps.map pD).take 1).length≤sizeLine:=le_trans (show _≤1000 by refine rr length_take (rr (length_map ..) ?_);dsimp only at hz;exact(BM hz (min_le_left (1) (ps.length)))) (by decide)
   exact At S 3 [] [.val (.bool false),.br false,.br true] rfl obs rest
end
theorem Tj(p:AV)(l:Ln):((Dz p l).flatMap (Ai p)).length≤12:=by
 unfold Dz
 dsimp only
 split
 ·refine rr flatMap_append (rr length_append ?_)
  refine add_le_add (b:=6) (d:=6) ?_ (Ci p _ _ _)
  split<;>exact Ci p _ _ _
 ·refine rr flatMap_append (rr length_append ?_)
  exact add_le_add (b:=6) (d:=6) (Fs p _ _) (Fs p _ _)
theorem Tk(p:AV){l:Ln}(h:l.1.length≤22):((AI p l).flatMap (Ai p)).length≤300:=by
 unfold AI
 split
 ·split
  ·refine rr (List.flatMap_singleton ..) ?_;exact le_trans (Dq _ _ _ _) (by decide)
  ·exact zero_le _
 ·have a:=Lb p (An l)
  have b:=Ic l
  have c:=Lc p (Qg l.1 (l.1.drop 1) (l.1.drop 2))
  have d:=Nb l.1 (l.1.drop 1) (l.1.drop 2)
  have e:=Tj p l
  show(List.flatMap (Ai p) (List.map _ (An l)++_++_)).length≤300
  refine rr flatMap_append (rr flatMap_append ?_);refine rr length_append (rr length_append ?_)
  lia
structure ZX(rows:List Row)(m:Mx)(lens:List Int)(off:Int)(q:Nat):Prop where
 few:rows.length≤1000
 ok:Ex rows []
 mx:Hl m
 reg:m.a*m.d-m.b*m.c≠0
 nn:∀x∈lens,0≤x
 sum:lens=[]∨0<lens.sum
 sumB:Bd 64 lens.sum
 lensLen:lens.length≤100
 left:0≤(AN lens off).2
 lines:(Bs rows).length≤10
 line:∀l∈Bs rows,l.1≠[]∧l.1.length≤1000∧∀p∈l.1,Bd 1000 (p.1-m.e)∧Bd 1000 (p.2-m.f)
 back:lens≠[]→∀l∈(Bs rows).map (BQ m),l.1.length=1∨KY lens off q l
 drawn:(CS lens off (q*lens.length) ((Bs rows).map (BQ m))).length≤100
 draw:∀l∈CS lens off (q*lens.length) ((Bs rows).map (BQ m)),1≤l.1.length∧l.1.length≤22∧(∀p∈l.1,BdP 60 p)∧(2≤l.1.length→∀e∈An l,e.1≠e.2)
noncomputable def Ld(p:AV)(lens:List Int)(off:Int)(N:Nat)(rows:List Row):List Fig:=(CS lens off N ((Bs rows).map (BQ p.m))).flatMap (AI p)
noncomputable def Cj(width:Int):Int:=DG (if width<0 then-width else width) 2
section
variable{O:Program}{w:World}{P:KF}{U:Heap}{n:Nat}
structure SqA where
 (rows:List Row) (width:Int) (p:AV) (lens:List Int) (off:Int)
noncomputable def UD(a:SqA)(tl:St):St:=("rows",.dat (.list (a.rows.map BZ)))::("width",.dat (.int a.width))::("cap",.dat (.int a.p.cap))::("join",.dat (.int a.p.join))::("limit",.dat (.int a.p.limit))::("lengths",.dat (.list (a.lens.map .int)))::("offset",.dat (.int a.off))::("matrix",.dat a.p.m.D)::tl
noncomputable def sqX(k:List Nat):Stmt:=FO (AQ 315) k
noncomputable def sqE:Expr:=Ap (sqX [4])
theorem WV(S:Al O P.K U){rows:List Row}{m:Mx}{lens:List Int}{off:Int}{q:Nat}(ok:ZX rows m lens off q){Q:List Dat→St→Prop}(F:∀acc s,Q acc (Iu ["line"] s)→Q acc s):∀(xs:List Ln) (acc:List Dat),acc.length+xs.length≤10→(∀l∈xs,l∈Bs rows)→Q (acc++(xs.map (BQ m)).map lnD) [("matrix",.dat m.D)]→
 Bh O w U (By (Lx sqE) (scC 315)) (n+8) (ER sqE) (ES sqE) (EQ sqE) Q (xs.map lnD) acc [("matrix",.dat m.D)]:=by
 intro xs
 induction xs with
 |nil=>intro acc _ _ q;exact(append_nil acc)▸q
 |cons x xs ih=>
  intro acc hl hm q
  rw[length_cons]at hl
  obtain⟨q1,q2,q3⟩:=ok.line x (hm x (.head _))
  have d:=Gv (w:=w) (n:=n+3) S q2 q1 ok.mx.1 ok.mx.2.1 ok.mx.2.2.1 ok.mx.2.2.2.1 q3 ok.reg
  exact AZ S ["line"] [.val (lnD (BQ m x))] (ih (acc++[lnD (BQ m x)]) (by refine rr length_append (rr length_singleton ?_);exact Ac hl) (fun l h=>hm l (.tail _ h)) (by refine rr (append_assoc ..) ?_;exact q)) rfl (.cons d .nil) (le_trans (show _≤1000 by exact Ac hl) (by decide)) F
theorem WW(S:Al O P.K U){a:SqA}{i:Addr}{A:Dat}(hm:Hl a.p.m)(hh:Bd 64 a.p.half)(hli:Bd 64 a.p.limit){Q:Fl→St→Prop}(F:AP Q):∀(xs:List Ln) (rs:List Row),rs.length+300*xs.length≤40000→(∀l∈xs,1≤l.1.length∧l.1.length≤22∧(∀p∈l.1,BdP 60 p)∧(2≤l.1.length→∀e∈An l,e.1≠e.2))→
 Q .next (UD a [("lines",.dat A),("pen",Bw a.p i (rs++(xs.flatMap (AI a.p)).flatMap (Ai a.p)))])→Bc O w U (scC 315) (n+8) (Ap (sqX [6])) (Bf (sqX [6])) Q (xs.map lnD) (UD a [("lines",.dat A),("pen",Bw a.p i rs)]):=by
 intro xs
 induction xs with
 |nil=>intro rs _ _ q;exact(append_nil rs)▸q
 |cons x xs ih=>
  intro rs hl hx q
  rw[length_cons]at hl
  obtain⟨d1,d2,d3,d4⟩:=hx x (.head _)
  have dl:=Tk a.p d2
  have d:=Od (w:=w) (n:=n+1) (p:=a.p) (i:=i) (rs:=rs) S hm hh hli d1 (by exact Ac d2) d3 d4 (by exact Ac hl)
  have e:rs++((x::xs).flatMap (AI a.p)).flatMap (Ai a.p)=(rs++(AI a.p x).flatMap (Ai a.p))++(xs.flatMap (AI a.p)).flatMap (Ai a.p):=by
   refine rr flatMap_cons ?_;refine rr flatMap_append (rr (append_assoc ..) ?_);rfl
  exact AD S ["line"] [.lent .none (Bw a.p i (rs++(AI a.p x).flatMap (Ai a.p)))] (ih (rs++(AI a.p x).flatMap (Ai a.p)) (by refine rr length_append ?_;exact BM hl dl) (fun l h=>hx l (.tail _ h)) (e▸q)) rfl (.cons d .nil) F
theorem QG(S:Al O P.K U){rows:List Row}{width cap join limit off:Int}{lens:List Int}{m:Mx}{q:Nat}(ok:ZX rows m lens off q)(hw:Bd 60 width)(hcap:cap=0∨cap=1∨cap=2)(hjoin:join=0∨join=1∨join=2)(hlim:1000000≤limit)(hlim2:Bd 64 limit):
 FnP O w U (n+9) 315 [.list (rows.map BZ),.int width,.int cap,.int join,.int limit,.list (lens.map .int),.int off,m.D]
  (fun r=>r=.list (((Ld ⟨Cj width,cap,join,limit,m⟩ lens off (q*lens.length) rows).flatMap (Ai ⟨Cj width,cap,join,limit,m⟩)).map BZ)):=by
 refine FnP.ofC S (NO P) rfl ?_
 have k1:Cd .NotIn (.int cap) (.tuple [.int 0,.int 1,.int 2])=false:=by rcases hcap with rfl|rfl|rfl<;>rfl
 have k2:Cd .NotIn (.int join) (.tuple [.int 0,.int 1,.int 2])=false:=by rcases hjoin with rfl|rfl|rfl<;>rfl
 have k3:decide (limit<1000000)=false:=decide_eq_false (by exact(not_lt.mpr hlim))
 have z2:(lens.map Dat.int).length≤sizeLine:=le_trans (show _≤1000 by have:=ok.lensLen;refine rr (length_map ..) ?_;exact Ac this) (by decide)
 have dd:=FV (w:=w) (n:=n+4) (off:=off) S ok.lensLen ok.nn ok.sum ok.sumB
 have nr:=Fc (w:=w) (n:=n+6) (e:=m.e) (f:=m.f) S (Ae ok.mx.1 ok.mx.2.2.2.1) (Ae ok.mx.2.1 ok.mx.2.2.1) ok.reg
 refine At (st':=UD ⟨rows,width,⟨Cj width,cap,join,limit,m⟩,lens,off⟩ []) S 4 [] [.br false,.br false,.br false,.br false,.ask (.dat (.list (lens.map .int))) (UD ⟨rows,width,⟨Cj width,cap,join,limit,m⟩,lens,off⟩ []),.lent .none (Cb lens (AN lens off).1 (AN lens off).2),.val (.int (m.a*m.d-m.b*m.c))] rfl ?_ ?_
 ·repeat' first|exact obN|refine obA ?_|apply obC
  ·exact fun Q q=>AO (FD S (glb P (by kernel_rfl) (by kernel_rfl)) rfl (AH S (os:=[]) rfl obs ⟨_,_,rfl,rfl,z2,q⟩))
 have sl:=IC (w:=w) (n:=n+4) S ok.few ok.ok
 refine Gs S [("matrix",.dat m.D)] [.val (.list ((Bs rows).map lnD))] rfl rfl obs (WV S ok ?_ (Bs rows) [] (by refine rr length_nil (rr (zero_add ..) ?_);exact ok.lines) (fun _ h=>h) ?_) (by kernel_rfl) (by kernel_rfl) (by kernel_rfl) (by intro env h;cases env;dsimp only at h;subst h;kernel_rfl)
 ·intro acc s q
  rwa [AY (by kernel_rfl)]at q
 refine Ss.at (UD ⟨rows,width,⟨Cj width,cap,join,limit,m⟩,lens,off⟩ [("lines",.lst (((Bs rows).map (BQ m)).map lnD))]) ?_ (by kernel_rfl)
 have dv:=Cp (w:=w) (n:=n+7) (a:=if width<0 then-width else width) (b:=2) S (by decide)
 obtain⟨g1,g2,g3,g4,g5⟩:ZT P.K "Pen" (.cls 301 246):=P.tab.gl rfl
 refine Bm (FA (OZ S (C:=301) (fI:=246) ⟨by kernel_rfl,g1,by decide+kernel⟩ g2 g3 g4 g5 (Fa S (os:=[.val (.int (Cj width))]) rfl obs ?_)) (by kernel_rfl))
 refine(Ob S ok.mx).mono fun d a h=>?_
 obtain⟨rfl,i,rfl⟩:=h
 refine⟨rfl,?_⟩
 refine Ss.at (UD ⟨rows,width,⟨Cj width,cap,join,limit,m⟩,lens,off⟩ [("lines",.lst (((Bs rows).map (BQ m)).map lnD)),("pen",Bw ⟨Cj width,cap,join,limit,m⟩ i [])]) ?_ (by kernel_rfl)
 have hh:Bd 64 (Cj width):=Bd.divI (show Bd 64 (if width<0 then-width else width)from by split<;>first|exact hw.neg.up|exact hw.up)
 have hW:=Tf (n:=n+2) (w:=w) (ls:=(Bs rows).map (BQ m)) S ok.lensLen ok.nn ok.sum ok.sumB ok.left (by refine rr (length_map ..) ?_;exact ok.lines) ok.back
 have hdl:=ok.drawn
 have hdr:=ok.draw
 unfold Ld
 dsimp only
 generalize CS lens off (q*lens.length) ((Bs rows).map (BQ m))=ds at hW hdl hdr⊢
 generalize(Bs rows).map (BQ m)=ls at hW⊢
 refine Fb S (st':=UD ⟨rows,width,⟨Cj width,cap,join,limit,m⟩,lens,off⟩ [("lines",.dat (.list (ls.map lnD))),("pen",Bw ⟨Cj width,cap,join,limit,m⟩ i [])]) [.val (.list (ds.map lnD))] rfl rfl obs (WW S (a:=⟨rows,width,⟨Cj width,cap,join,limit,m⟩,lens,off⟩) ok.mx hh hlim2 Ad ds [] (by refine rr length_nil ?_;lia) hdr ?_)
 generalize((ds.flatMap (AI ⟨Cj width,cap,join,limit,m⟩)).flatMap (Ai ⟨Cj width,cap,join,limit,m⟩))=out
 refine AB S (os:=[.ask (.dat (.list (out.map BZ))) (UD ⟨rows,width,⟨Cj width,cap,join,limit,m⟩,lens,off⟩ [("lines",.dat (.list (ls.map lnD))),("pen",.dat (GH (Bw ⟨Cj width,cap,join,limit,m⟩ i out)))])]) rfl (.cons (fun Q q=>?_) .nil) rfl
 exact Kv S rfl rfl (PR P) (GP P) q
end
noncomputable def FY(ps:List Pt)(k:Nat):Pt:=if k=0 then at' ps (ps.length-1)else at' ps (k-1)
noncomputable def EL(ps:List Pt)(s:Int)(k:Nat):Int:=s+(FY ps k).1*(at' ps k).2-(at' ps k).1*(FY ps k).2
noncomputable def Gz(ps:List Pt):Int:=(List.range ps.length).foldl (EL ps) 0
section
variable{O:Program}{w:World}{P:KF}{U:Heap}{n:Nat}
noncomputable def aP(ps:List Pt)(a:Int):St:=[("corners",.dat (.list (ps.map pD))),("area",.dat (.int a))]
noncomputable def glX:Stmt:=FO (AQ 382) [1]
set_option tactic.hygienic true in
theorem WX(S:Al O P.K U){ps:List Pt}(hz:ps.length≤1000)(hp:∀p∈ps,BdP 1000 p){Q:Fl→St→Prop}(F:AP Q):∀(ks:List Nat) (acc:Int),(∀k∈ks,k<ps.length)→Q .next (aP ps (ks.foldl (EL ps) acc))→
 Bc O w U (scC 382) n (Ap glX) (Bf glX) Q (ks.map fun k:Nat=>Dat.int (k:Int)) (aP ps acc):=by
 intro ks
 induction ks with
 |nil=>intro acc _ q;exact q
 |cons k ks ih=>
  intro acc hk q
  have hk0:=hk k (.head _)
  have hlm:(ps.map pD).length<2^62:=by refine rr (length_map ..) ?_;exact Ac hz
  have i1:AK (ps.map pD) ((k:Int)-1)=some (pD (FY ps k)):=by
   unfold FY
   split
   ·rename_i h;subst h
    exact Hm (k:=1) (by decide) hk0
   ·rename_i h
    refine rr (show(k:Int)-1=((k-1:Nat):Int)by lia) ?_
    exact EK (by exact(BM hk0 (sub_le (k) (1))))
  have i2:AK (ps.map pD) (k:Int)=some (pD (at' ps k)):=EK hk0
  have m1:FY ps k∈ps:=by unfold FY;split<;>exact GR (by lia)
  have nx:=ih (EL ps acc k) (fun k h=>hk k (.tail _ h)) q
  unfold EL at nx
  obtain⟨b1,b2⟩:=hp _ m1
  obtain⟨b3,b4⟩:=hp _ (GR hk0)
  generalize FY ps k=u at i1 b1 b2 nx
  generalize at' ps k=v at i2 b3 b4 nx
  have k1:=Ae b1 b4
  have k2:=Ae b3 b2
  exact AD S ["at","x","y","far_x","far_y"] [.val (pD u),.val (pD v)] nx rfl obs F
theorem Ie(S:Al O P.K U){ps:List Pt}(hz:ps.length≤1000)(hp:∀p∈ps,BdP 1000 p):FnP O w U (n+1) 382 [.list (ps.map pD)] (fun r=>r=.bool (decide (0<Gz ps))):=by
 refine FnP.ofC S (Gr P) rfl ?_
 have hlm:(ps.map pD).length<2^62:=by refine rr (length_map ..) ?_;exact Ac hz
 refine At (st':=aP ps 0) S 1 [] [] rfl obs ?_
 refine Bm (EY (DF (k:=(ps.map pD).length) S [] rfl obs (by refine rr (length_map ..) ?_;exact Ac hz) ?_ (glb P (by kernel_rfl) (by kernel_rfl)) rfl rfl))
 refine rr (length_map ..) ?_
 exact WX S hz hp Ad _ 0 (fun k h=>mem_range.mp h) (AB S (os:=[]) rfl obs rfl)
end
noncomputable def ltL:List Int→List Int→Bool
 |_,[]=>false
 |[],_::_=>true
 |a::as,b::bs=>if a=b then ltL as bs else decide (a<b)
theorem GA:∀a,ltL a a=false:=by
 intro a
 induction a with
 |nil=>
  exact rfl
 |cons a as ih=>
  rewrite[ltL];refine rr (if_pos rfl) ?_;exact ih
theorem Ig:∀{a b:List Int},ltL a b=false→ltL b a=false→a=b:=by
 intro a
 induction a with
 |nil=>
  intro zz4
  rcases zz4 with _|⟨_,_⟩
  ·intro _ _
   exact rfl
  ·intro h _
   cases h
 |cons a as ih=>
  intro zz4
  rcases zz4 with _|⟨b,bs⟩
  ·intro _ h
   cases h
  ·intro h g
   rw[ltL]at h g
   by_cases e:a=b
   ·subst e
    rw[if_pos rfl]at h g
    refine rr (ih h g) ?_;rfl
   ·rw[if_neg e]at h
    rw[if_neg fun q=>e q.symm]at g
    have h:=of_decide_eq_false h
    have g:=of_decide_eq_false g
    lia
theorem Le:∀{a b c:List Int},ltL a b=true→ltL b c=true→ltL a c=true:=by
 intro a
 induction a with
 |nil=>
  intro b c h g
  rcases b with _|⟨b,bs⟩
  ·exact Bool.noConfusion h
  ·rcases c with _|⟨c,cs⟩
   ·exact Bool.noConfusion g
   ·rfl
 |cons a as ih=>
  intro b c h g
  rcases b with _|⟨b,bs⟩
  ·exact Bool.noConfusion h
  rcases c with _|⟨c,cs⟩
  ·exact Bool.noConfusion g
  rw[ltL]at h g⊢
  by_cases e1:a=b
  ·subst e1
   rw[if_pos rfl]at h
   by_cases e2:a=c
   ·subst e2
    rw[if_pos rfl]at g⊢
    exact ih h g
   ·rw[if_neg e2]at g⊢
    exact g
  ·rw[if_neg e1]at h
   have h:=of_decide_eq_true h
   by_cases e2:b=c
   ·subst e2
    refine rr (if_neg e1) ?_
    exact decide_eq_true h
   ·rw[if_neg e2]at g
    have g:=of_decide_eq_true g
    refine rr (if_neg (by lia)) ?_
    exact decide_eq_true (by exact Bb h g)
theorem Dd{a b:List Int}(h:ltL a b=true):ltL b a=false:=by
 cases e:ltL b a with
 |false=>rfl
 |true=>have:=Le h e;rw[GA]at this;cases this
theorem De{a b c:List Int}(h:ltL b a=false)(g:ltL c b=false):ltL c a=false:=by
 cases e:ltL c a with
 |false=>rfl
 |true=>
  cases e2:ltL a b with
  |true=>rw[Le e e2]at g;cases g
  |false=>rw[Ig e2 h]at e;rw[e]at g;cases g
def EU(m:List Int)(l:List (List Int)):Prop:=m∈l∧∀c∈l,ltL c m=false
theorem EU.unique{m m':List Int}{l:List (List Int)}(h:EU m l)(h':EU m' l):m=m':=Ig (h'.2 _ h.1) (h.2 _ h'.1)
theorem GS:∀{l:List (List Int)},l≠[]→∃m,EU m l:=by
 intro l
 induction l with
 |nil=>intro h;exact absurd rfl h
 |cons a l ih=>
  intro _
  rcases l with _|⟨b,l⟩
  ·exact⟨a,.head _,fun c hc=>by refine rr (mem_singleton.mp hc) ?_;exact GA a⟩
  obtain⟨m,h1,h2⟩:=ih (cons_ne_nil b l)
  cases e:ltL a m with
  |true=>
   refine⟨a,.head _,fun c hc=>?_⟩
   rcases mem_cons.mp hc with rfl|hc
   ·exact GA c
   ·exact De (Dd e) (h2 c hc)
  |false=>
   refine⟨m,.tail _ h1,fun c hc=>?_⟩
   rcases mem_cons.mp hc with rfl|hc
   ·exact e
   ·exact h2 c hc
def Ih{α:Type}(a c:List α):Prop:=∃x y,a=x++y∧c=y++x
theorem Ih.same{α:Type}{a b c:List α}(h:Ih a b)(g:Ih a c):Ih b c:=by
 obtain⟨u,v,rfl,rfl⟩:=h
 obtain⟨x,y,e,rfl⟩:=g
 rcases List.append_eq_append_iff.mp e with⟨t,rfl,rfl⟩|⟨t,rfl,rfl⟩
 ·exact⟨t,y++u,by simp,by simp⟩
 ·exact⟨v++x,t,by simp,by simp⟩
theorem Ih.symm{α:Type}{a b:List α}(h:Ih a b):Ih b a:=by
 obtain⟨u,v,rfl,rfl⟩:=h
 exact⟨v,u,rfl,rfl⟩
theorem Ih.ne{α:Type}{a b:List α}(h:Ih a b)(n:a≠[]):b≠[]:=by
 obtain⟨u,v,rfl,rfl⟩:=h
 intro q
 simp at q
 exact n (by simp[q])
noncomputable abbrev Fg:=List (Pt×List Pt)
noncomputable def GT(f:Fg):List Int:=f.flatMap fun e=>e.1.1::e.1.2::e.2.flatMap fun p=>[p.1,p.2]
noncomputable def Lf(f:Fg):List Fg:=(List.range f.length).map fun k=>f.drop k++f.take k
theorem Ho{f c:Fg}(n:f≠[]):c∈Lf f↔Ih f c:=by
 unfold Lf
 rewrite[mem_map]
 constructor
 ·rintro⟨k,_,rfl⟩
  exact⟨f.take k,f.drop k,by simp,rfl⟩
 ·rintro⟨x,y,rfl,rfl⟩
  rcases y with _|⟨b,y⟩
  ·
   refine⟨0,?_,by simp⟩
   rewrite[mem_range]
   simp at n⊢
   exact length_pos_iff.mpr n
  ·
   refine⟨x.length,?_,by simp⟩
   rewrite[mem_range]
   simp
noncomputable def DA(f:Fg):List (List Int):=(Lf f).map GT
theorem Jg{f:Fg}(h:f≠[]):DA f≠[]:=by
 intro q
 have:=congrArg List.length q
 simp[DA,Lf]at this
 exact h this
open Classical in
noncomputable def Bu(f:Fg):List Int:=if h:f≠[]then(GS (Jg h)).choose else[]
theorem GB{f:Fg}(n:f≠[]):EU (Bu f) (DA f):=by
 unfold Bu
 refine rr (dif_pos n) ?_
 exact(GS (Jg n)).choose_spec
theorem CW{f g:Fg}(n:f≠[])(h:Ih f g):Bu f=Bu g:=by
 have n':=h.ne n
 have key:∀c,c∈DA f↔c∈DA g:=by
  intro c
  unfold DA
  rewrite[mem_map];rewrite[mem_map]
  constructor
  ·rintro⟨d,hd,rfl⟩
   exact⟨d,(Ho n').mpr (h.same ((Ho n).mp hd)),rfl⟩
  ·rintro⟨d,hd,rfl⟩
   exact⟨d,(Ho n).mpr (h.symm.same ((Ho n').mp hd)),rfl⟩
 have h1:=GB n
 have h2:=GB n'
 exact EU.unique (l:=DA g) ⟨(key _).mp h1.1,fun c hc=>h1.2 c ((key c).mpr hc)⟩ h2
open PySem.MeetsSeq PySem.MeetsSeq2 PySem.MeetsSeq3 PySem.SeqAt
open PySem.AutoSeq1 (wpAny_loadPart')
noncomputable abbrev ivs(xs:List (Int×Tok)):List Value:=xs.map fun p=>.int p.1 p.2
theorem WY(l b:Addr)(xs ys:List (Int×Tok))(n n2:Nat)(k:Nat):
 ∀i:Nat,xs.length-i=k→i≤xs.length→i≤ys.length→Meets (Builtin.«list.__eq__.loop» ⟨[.ref l,.ref b,rawInt i,rawInt 0],[]⟩)
  (fun _ R s=>s.heap.get? l=some {cls:=.type "list",data:=.seq (ivs xs).toArray n}∧s.heap.get? b=some {cls:=.type "list",data:=.seq (ivs ys).toArray n2}∧
   R (.ok (.ret (.bool (ltL ((xs.map (·.1)).drop i) ((ys.map (·.1)).drop i))))) s):=by
 induction k with
 |zero=>
  intro i hk hi hj O w A R s h
  obtain⟨hp,g,d,tk,os⟩:=s;obtain⟨hl,hb,h⟩:=h
  wp_walk using wpAny_loadPart' hl,wpAny_loadPart' hb
  have hie:i=xs.length:=Nat.le_antisymm hi (le_of_sub_eq_zero hk)
  subst hie
  have hi1:(ivs xs).toArray[((xs.length:Nat):Int).toNat]?=none:=by simp
  have hd:(xs.map (·.1)).drop xs.length=[]:=by simp
  rw[hd]at h
  refine rr hi1 ?_
  cases hi2:(ivs ys).toArray[((xs.length:Nat):Int).toNat]? with
  |none=>
   wp_walk using wpAny_loadPart' hl,wpAny_loadPart' hb
   have hy:ys.length≤xs.length:=by simpa using hi2
   have e2:(ys.map (·.1)).drop xs.length=[]:=by simp;exact hy
   rw[e2]at h
   have e3:decide ((ivs xs).toArray.size<(ivs ys).toArray.size)=false:=by simp;exact hy
   show R (.ok (.ret (.bool (decide ((ivs xs).toArray.size<(ivs ys).toArray.size))))) _
   refine rr e3 ?_;exact h
  |some y=>
   wp_walk using wpAny_loadPart' hl,wpAny_loadPart' hb
   have hy:xs.length<ys.length:=by
    rcases lt_or_ge xs.length ys.length with q|q
    ·exact q
    ·have:(ivs ys).toArray[((xs.length:Nat):Int).toNat]?=none:=by simp;exact q
     rw[this]at hi2;cases hi2
   have e3:decide ((ivs xs).toArray.size<(ivs ys).toArray.size)=true:=by simp;exact hy
   show R (.ok (.ret (.bool (decide ((ivs xs).toArray.size<(ivs ys).toArray.size))))) _
   refine rr e3 ?_
   have hz:((ys.map (·.1)).drop xs.length)≠[]:=by
    intro q
    have:=congrArg List.length q
    simp at this;lia
   obtain⟨c,cs,e4⟩:=exists_cons_of_ne_nil hz
   rw[e4]at h
   exact h
 |succ k ih=>
  intro i hk hi hj O w A R s h
  obtain⟨hp,g,d,tk,os⟩:=s;obtain⟨hl,hb,h⟩:=h
  wp_walk using wpAny_loadPart' hl,wpAny_loadPart' hb
  have hlt:i<xs.length:=Nat.lt_of_sub_eq_succ hk
  have hi1:(ivs xs).toArray[((i:Nat):Int).toNat]?=some (.int xs[i].1 xs[i].2):=by simp[hlt]
  have hd:(xs.map (·.1)).drop i=xs[i].1::(xs.map (·.1)).drop (i+1):=by
   refine rr (List.drop_eq_getElem_cons (by simpa using hlt)) ?_;simp
  have hc:((i:Int)+1)=((i+1:Nat):Int):=by push_cast;rfl
  rw[hd]at h
  rcases lt_or_ge i ys.length with hlt2|hge
  ·have hi2:(ivs ys).toArray[((i:Nat):Int).toNat]?=some (.int ys[i].1 ys[i].2):=by simp[hlt2]
   have hd2:(ys.map (·.1)).drop i=ys[i].1::(ys.map (·.1)).drop (i+1):=by
    refine rr (List.drop_eq_getElem_cons (by simpa using hlt2)) ?_;simp
   rw[hd2,ltL]at h
   refine rr hi1 (rr hi2 ?_)
   refine wpAny_bind (wpAny_eqBool_int ?_)
   by_cases he:xs[i].1=ys[i].1
   ·rw[if_pos he]at h
    refine rr (show(xs[i].1==ys[i].1)=true from by simpa using he) ?_
    wp_walk
    refine rr hc ?_
    exact⟨plainId_quiet plain_eq_loop _,codeAny_builtin entry_eq_loop (by
     refine rr (Around.under_plainId plain_eq_loop _) ?_
     exact ih (i+1) (congrArg Nat.pred hk) (by exact Ac hlt) (by exact Ac hlt2) O w A R _ ⟨hl,hb,h⟩)⟩
   ·rw[if_neg he]at h
    refine rr (show(xs[i].1==ys[i].1)=false from by simpa using he) ?_
    wp_walk using wpAny_loadPart' hl,wpAny_loadPart' hb
    refine rr hi1 (rr hi2 ?_)
    dsimp only
    refine wpAny_bind ?_
    show wpAny _ _ (compareOp .Lt _ _) _ _ _
    refine wpAny_lt_int ?_
    wp_walk
    exact h
  ·have hi2:(ivs ys).toArray[((i:Nat):Int).toNat]?=none:=by simp;exact hge
   have hd2:(ys.map (·.1)).drop i=[]:=by simp;exact hge
   rw[hd2]at h
   refine rr hi1 (rr hi2 ?_)
   wp_walk using wpAny_loadPart' hl,wpAny_loadPart' hb
   have e3:decide ((ivs xs).toArray.size<(ivs ys).toArray.size)=false:=by simp;exact BM hi hge
   show R (.ok (.ret (.bool (decide ((ivs xs).toArray.size<(ivs ys).toArray.size))))) _
   refine rr e3 ?_;exact h
theorem Lg(l b:Addr)(xs ys:List (Int×Tok))(n n2:Nat):
 Meets (Builtin.«list.__lt__» ⟨[.ref l,.ref b],[]⟩)
  (fun _ R s=>s.heap.get? l=some {cls:=.type "list",data:=.seq (ivs xs).toArray n}∧s.heap.get? b=some {cls:=.type "list",data:=.seq (ivs ys).toArray n2}∧
   R (.ok (.ret (.bool (ltL (xs.map (·.1)) (ys.map (·.1)))))) s):=by
 intro O w A R s h
 obtain⟨hp,g,d,tk,os⟩:=s;obtain⟨hl,hb,h⟩:=h
 have f3:=AutoSeq1.sub_list_list
 wp_walk using wpAny_loadPart' hl,wpAny_loadPart' hb
 exact⟨plainId_quiet plain_eq_loop _,codeAny_builtin entry_eq_loop (by
  refine rr (Around.under_plainId plain_eq_loop _) ?_
  exact WY l b xs ys n n2 _ 0 rfl (zero_le _) (zero_le _) O w A R _ ⟨hl,hb,h⟩)⟩
theorem WZ{O:Program}{w:World}{A:Around}{E:Value→Shared→Prop}{s:Shared}{l b:Addr}{xs ys:List (Int×Tok)}{n n2:Nat}{Q:Value→Shared→Prop}(hu:A.units<cLine)
 (ho:s.heap.get? l=some {cls:=.type "list",data:=.seq (ivs xs).toArray n}) (ho2:s.heap.get? b=some {cls:=.type "list",data:=.seq (ivs ys).toArray n2})
 (h:Q (.bool (ltL (xs.map (·.1)) (ys.map (·.1)))) s):wpAny (model O w) A (richCompare .Lt (.ref l) (.ref b)) Q E s:=
 richCompare_meets_room (op:=.Lt) ⟨_,ho,rfl⟩ ⟨_,ho2,rfl⟩ F.slot_list_lt F.entry_list_lt (F.args_list_lt_2 _ _) (Lg l b xs ys n n2)
  ⟨ho,ho2,show Value.bool (ltL (xs.map (·.1)) (ys.map (·.1)))≠Value.notImplemented∧Q (.bool (ltL (xs.map (·.1)) (ys.map (·.1)))) s from⟨(fun x=>nomatch x),h⟩⟩ hu
noncomputable def AX(l:List Int):Dat:=.list (l.map .int)
theorem Ii{g:BT}{v:Value}{l:List Int}(f:Fz g v (AX l)):∃a n xs,v=.ref a∧g a {cls:=.type "list",data:=.seq (ivs xs).toArray n}∧xs.map (·.1)=l:=by
 unfold AX at f
 cases f with
 |list ho fl=>
  obtain⟨xs,rfl,e⟩:=IR fl
  exact⟨_,_,xs,rfl,ho,e⟩
section
variable{O:Program}{w:World}{A:Around}{E:Value→Shared→Prop}
theorem aQ{s:Shared}{g:BT}{u v:Value}{l m:List Int}{Q:Value→Shared→Prop}(hu:A.units<cLine)(k:∀b o,g b o→s.heap.get? b=some o)(fu:Fz g u (AX l))(fv:Fz g v (AX m))(h:Q (.bool (ltL l m)) s):
 wpAny (model O w) A (richCompare .Lt u v) Q E s:=by
 obtain⟨a,n,xs,rfl,h1,rfl⟩:=Ii fu
 obtain⟨b,n2,ys,rfl,h2,rfl⟩:=Ii fv
 exact WZ hu (k _ _ h1) (k _ _ h2) h
theorem EU.snoc_lt{m x:List Int}{l:List (List Int)}(h:EU m l)(c:ltL x m=true):EU x (l++[x]):=by
 refine⟨by simp,fun y hy=>?_⟩
 rcases mem_append.mp hy with q|q
 ·exact De (Dd c) (h.2 y q)
 ·refine rr (mem_singleton.mp q) ?_;exact GA x
theorem EU.snoc_ge{m x:List Int}{l:List (List Int)}(h:EU m l)(c:ltL x m=false):EU m (l++[x]):=by
 refine⟨mem_append_left _ h.1,fun y hy=>?_⟩
 rcases mem_append.mp hy with q|q
 ·exact h.2 y q
 ·refine rr (mem_singleton.mp q) ?_;exact c
theorem Tl{R:Result→Shared→Prop}{I ax S:Addr}{g:BT}{vs:List Value}{ns:List (List Int)}(hh:A.handled=none)(hu:A.units+1<cLine)(hne:ax≠I)(hSI:S≠I)(hSa:S≠ax)(gI:∀o,¬g I o)(gS:∀o,¬g S o)(fl:FzL g vs (ns.map AX)):
 ∀(k j:Nat) (s:Shared) (vb:Value) (c:Nat) (m:List Int),ns.length-(j+1)=k→j+1≤ns.length→s.heap.IsListIter I ax (j+1)→s.heap.IsList ax vs.toArray→(∀b o,g b o→s.heap.get? b=some o)→Fz g vb (AX m)→EU m (ns.take (j+1))→
 s.heap.get? S=some {cls:=.type "list",dict:=none,data:=.seq #[vb,vb] c,slots:=#[]}→
 (∀v m h' tk,Fz g v (AX m)→EU m ns→(∀b o,b≠I→b≠S→s.heap.get? b=some o→h'.get? b=some o)→R (.ok (.ret v)) {s with heap:=h',toks:=tk})→
 codeAny (model O w) A (.builtin "min.loop" ⟨[.ref I,.none,.ref S],[]⟩) R s:=by
 have W:=Walks.list (prog:=O) (w:=w) (A:=A.in1) hh I ax hne vs.toArray
 have hlen:vs.toArray.size=ns.length:=by refine rr size_toArray ?_;refine rr fl.length (rr (length_map ..) ?_);rfl
 have hSf:S∉[I,ax]:=by simp;exact⟨hSI,hSa⟩
 have hSw:S∉[I]:=by simp;exact hSI
 have hname:(toString "min"++toString ".loop":String)="min.loop":=by decide
 intro k
 induction k with
 |zero=>
  intro j s vb c m hk hj hit hl hg fb hm hS hR
  have hin:j+1=vs.toArray.size:=hlen.symm▸Nat.le_antisymm hj (le_of_sub_eq_zero hk)
  refine codeAny_builtin F.entry_min_loop ?_
  refine rr (Around.under_plainId F.plain_min_loop _) ?_
  show wpAny _ A.in1 (seqItems? (.ref S)>>=_) _ _ s
  refine wpAny_bind (wpAny_seqItems hS rfl ?_)
  show wpAny _ A.in1 (tryCatch (pyNext (.ref I)) _>>=_) _ _ s
  refine wpAny_bind (wpAny_tryCatch (W.done s _ _ (hin▸⟨hit,hl⟩) fun h' tk hk'=>?_))
  have hS':=hk' S _ hSw hS
  show wpAny _ A.in1 (updateSeq S (fun _=>#[])>>=_) _ _ _
  refine wpAny_bind ?_
  refine wpAny_updateSeq hS' rfl (wpAny_bind (wpAny_letGo (wpAny_pure ?_)))
  refine hR vb m _ tk fb (by rw[take_of_length_le (by exact BM (le_of_eq hlen.symm) (le_of_eq hin.symm))]at hm;exact hm) fun b o hb hbS e=>(get?_update_other _ _ (Ne.symm hbS)).trans (hk' b o (by simpa using hb) e)
 |succ k ih=>
  intro j s vb c m hk hj hit hl hg fb hm hS hR
  have hlt:j+1<ns.length:=Nat.lt_of_sub_eq_succ hk
  refine codeAny_builtin F.entry_min_loop ?_
  refine rr (Around.under_plainId F.plain_min_loop _) ?_
  show wpAny _ A.in1 (seqItems? (.ref S)>>=_) _ _ s
  refine wpAny_bind (wpAny_seqItems hS rfl ?_)
  show wpAny _ A.in1 (tryCatch (pyNext (.ref I)) _>>=_) _ _ s
  refine wpAny_bind (wpAny_tryCatch (W.item (j+1) s _ _ (by refine rr hlen ?_;exact hlt) ⟨hit,hl⟩ fun v h' tk hP hst' hk'=>?_))
  have hS':=hk' S _ hSw hS
  have ed:(ns.map AX)[j+1]?=some (AX ns[j+1]):=by simp[hlt]
  obtain⟨v',ev,fv⟩:=fl.get ed
  have:v=v':=by
   have hP:vs.toArray[j+1]?=some v:=hP
   rw[getElem?_toArray,ev]at hP
   exact(Option.some.inj hP).symm
  subst this
  have hg':∀b o,g b o→h'.get? b=some o:=fun b o q=>hk' b o (by simp;intro z;exact gI o (z▸q)) (hg b o q)
  show wpAny _ A.in1 (tryCatch (holding [v,v] (richCompare .Lt v vb>>=_)) _>>=_) _ _ _
  refine wpAny_bind (wpAny_tryCatch (wpAny_holding (wpAny_bind (aQ (s:={s with heap:=h',toks:=tk}) hu hg' fv fb ?_))))
  refine wpAny_bind (wpAny_holding (wpAny_truthy_bool ?_))
  refine wpAny_bind (wpAny_letGo (wpAny_pure ?_))
  have htk:ns.take (j+1+1)=ns.take (j+1)++[ns[j+1]]:=by refine rr take_add_one (rr (getElem?_eq_getElem hlt) ?_);rfl
  cases hb:ltL ns[j+1] m with
  |true=>
   simp only[if_true]
   refine wpAny_bind ?_
   refine wpAny_updateSeq hS' rfl (wpAny_bind (wpAny_letGo ?_))
   refine rr hname ?_
   have oth:∀b o,b≠S→h'.get? b=some o→(h'.update S (Obj.mapSeq fun _=>#[v,v])).get? b=some o:=fun b o hb e=>(get?_update_other _ _ (Ne.symm hb)).trans e
   refine wpAny_pure ⟨plainId_quiet F.plain_min_loop _,ih (j+1) _ v _ ns[j+1] (congrArg Nat.pred hk) hlt (hst'.1.at fun o e=>oth I o hSI.symm e) (hst'.2.at fun o e=>oth ax o hSa.symm e) (fun b o q=>oth b o (fun z=>gS o (z▸q)) (hg' b o q)) fv (by refine rr htk ?_;exact hm.snoc_lt hb) (get?_update_self _ hS' rfl)
    fun v' m' h'' tk'' f' hm' hk''=>?_⟩
   exact hR v' m' h'' tk'' f' hm' fun b o hbw hbS e=>hk'' b o hbw hbS ((get?_update_other _ _ (Ne.symm hbS)).trans (hk' b o (by simpa using hbw) e))
  |false=>
   simp only[false_eq_true,if_false]
   refine wpAny_bind (wpAny_letGo ?_)
   refine rr hname ?_
   refine wpAny_pure ⟨plainId_quiet F.plain_min_loop _,ih (j+1) _ vb c m (congrArg Nat.pred hk) hlt hst'.1 hst'.2 hg' fb (by refine rr htk ?_;exact hm.snoc_ge hb) hS' fun v' m' h'' tk'' f' hm' hk''=>?_⟩
   exact hR v' m' h'' tk'' f' hm' fun b o hbw hbS e=>hk'' b o hbw hbS (hk' b o (by simpa using hbw) e)
theorem QH{R:Result→Shared→Prop}{I ax S:Addr}{g:BT}{vs:List Value}{ns:List (List Int)}(hh:A.handled=none)(hu:A.units+1<cLine)(hne:ax≠I)(hSI:S≠I)(hSa:S≠ax)(gI:∀o,¬g I o)(gS:∀o,¬g S o)(fl:FzL g vs (ns.map AX))(hn:0<ns.length){s:Shared}{c:Nat}
 (hit:s.heap.IsListIter I ax 0) (hl:s.heap.IsList ax vs.toArray) (hg:∀b o,g b o→s.heap.get? b=some o)
 (hS:s.heap.get? S=some {cls:=.type "list",dict:=none,data:=.seq #[] c,slots:=#[]})
 (hR:∀v m h' tk,Fz g v (AX m)→EU m ns→(∀b o,b≠I→b≠S→s.heap.get? b=some o→h'.get? b=some o)→R (.ok (.ret v)) {s with heap:=h',toks:=tk}):
 codeAny (model O w) A (.builtin "min.loop" ⟨[.ref I,.none,.ref S],[]⟩) R s:=by
 have W:=Walks.list (prog:=O) (w:=w) (A:=A.in1) hh I ax hne vs.toArray
 have hlen:vs.toArray.size=ns.length:=by refine rr size_toArray ?_;refine rr fl.length (rr (length_map ..) ?_);rfl
 have hSw:S∉[I]:=by simp;exact hSI
 have hname:(toString "min"++toString ".loop":String)="min.loop":=by decide
 refine codeAny_builtin F.entry_min_loop ?_
 refine rr (Around.under_plainId F.plain_min_loop _) ?_
 show wpAny _ A.in1 (seqItems? (.ref S)>>=_) _ _ s
 refine wpAny_bind (wpAny_seqItems hS rfl ?_)
 show wpAny _ A.in1 (tryCatch (pyNext (.ref I)) _>>=_) _ _ s
 refine wpAny_bind (wpAny_tryCatch (W.item 0 s _ _ (by refine rr hlen ?_;exact hn) ⟨hit,hl⟩ fun v h' tk hP hst' hk'=>?_))
 have hS':=hk' S _ hSw hS
 have ed:(ns.map AX)[0]?=some (AX ns[0]):=by simp[hn]
 obtain⟨v',ev,fv⟩:=fl.get ed
 have:v=v':=by
  have hP:vs.toArray[0]?=some v:=hP
  rw[getElem?_toArray,ev]at hP
  exact(Option.some.inj hP).symm
 subst this
 have hg':∀b o,g b o→h'.get? b=some o:=fun b o q=>hk' b o (by simp;intro z;exact gI o (z▸q)) (hg b o q)
 show wpAny _ A.in1 (updateSeq S (fun _=>#[v,v])>>=_) _ _ _
 refine wpAny_bind ?_
 refine wpAny_updateSeq hS' rfl ?_
 refine rr hname ?_
 have oth:∀b o,b≠S→h'.get? b=some o→(h'.update S (Obj.mapSeq fun _=>#[v,v])).get? b=some o:=fun b o hb e=>(get?_update_other _ _ (Ne.symm hb)).trans e
 have htk:ns.take (0+1)=[ns[0]]:=by refine rr take_add_one (rr (getElem?_eq_getElem hn) ?_);rfl
 refine wpAny_pure ⟨plainId_quiet F.plain_min_loop _,Tl hh hu hne hSI hSa gI gS fl _ 0 _ v _ ns[0] rfl hn (hst'.1.at fun o e=>oth I o hSI.symm e) (hst'.2.at fun o e=>oth ax o hSa.symm e) (fun b o q=>oth b o (fun z=>gS o (z▸q)) (hg' b o q)) fv
  (by refine rr htk ?_;exact⟨.head _,fun y hy=>by refine rr (mem_singleton.mp hy) ?_;exact GA _⟩) (get?_update_self _ hS' rfl) fun v' m' h'' tk'' f' hm' hk''=>?_⟩
 exact hR v' m' h'' tk'' f' hm' fun b o hbw hbS e=>hk'' b o hbw hbS ((get?_update_other _ _ (Ne.symm hbS)).trans (hk' b o (by simpa using hbw) e))
end
def BiU(O:Program)(w:World)(f:Value)(x y:Dat):Prop:=
 ∀(A:Around) (s:Shared) (g:BT) (v:Value) (Q:Value→Shared→Prop),A.handled=none→A.units+60<cLine→(∀b o,g b o→s.heap.get? b=some o)→Now g s.heap v x→
  (∀h' tk u,(∀b o,s.heap.get? b=some o→h'.get? b=some o)→Fz g u y→Q u {s with heap:=h',toks:=tk})→wpAny (model O w) A (call f [v]) Q (fun _ _=>False) s
section
variable{O:Program}{w:World}{U:Heap}{K:Frag}{sc:Scope}{n:Nat}{st:St}
theorem Zl(S:Al O K U){x:Str}{id:String}{p pos:Pos}{e:Expr}{Q:EV→St→Prop}(g:GlB sc K x)(hv:bootBuiltins x=some (.builtin id))(h:Ev O w U sc n e st fun a st1=>∃x y,rd st1 a=some x∧BiU O w (.builtin id) x y∧Q (.dat y) st1)
 (he:autoParam (∀env,starEach [e] env=(false,eval e env)::starEach [] env) au.a1._auto_1):Ev O w U sc n (.Call (.Name x p) [e] [] pos) st Q:=by
 intro A env R as s hR hE r
 refine Call_Name rfl (GN S g hv hE r (PyProof.Rows.callWith_builtin1 (El1 h hR hE r ?_ he) (he env)))
 rintro v s1 ⟨a,st1,as1,h1,t1,rfl,e1,r1,x1,xd,yd,ex,B,q⟩
 refine B A {s with heap:=h1,toks:=t1} _ v _ hR.handled (by have:=hR.units;exact Ac this) BI (r1.now x1 ex) fun h' tk u k fu=>?_
 exact PE.after (t1:=t1) e1 (PE.grown (s:={s with heap:=h1,toks:=t1}) (t1:=tk) r1 rfl k (fu.mono (by rintro b o ⟨p,q,e⟩;exact⟨p,q,k b o e⟩)) q)
end
theorem Xa{O:Program}{w:World}{ns:List (List Int)}{m:List Int}(hm:EU m ns):BiU O w (.builtin "min") (.list (ns.map AX)) (AX m):=by
 intro A s g v Q hh hu hg hv k
 refine Now.listP hv hg fun a vs mm ho f=>?_
 have hne0:0<ns.length:=by
  rcases ns with _|⟨_,_⟩
  ·cases hm.1
  ·simp
 have hname:(toString "min"++toString ".loop":String)="min.loop":=by decide
 refine call_function_tree F.kind_min F.plain_min F.entry_min (F.args_min1 _) ?_
 show wpAny _ A.in1 (Builtin.Builtins.bindParams "min" ["key","default"] 0 ⟨[],[]⟩>>=_) _ _ s
 refine wpAny_bind (wpAny_of_eq (show Builtin.Builtins.bindParams "min" ["key","default"] 0 ⟨[],[]⟩=pure [none,none]from rfl) ?_)
 refine wpAny_bind (wpAny_pure ?_)
 refine wpAny_bind (KB (items:=vs.toArray) ⟨_,ho,rfl,_,rfl⟩ fun I h1 up hI hne hit hl=>?_)
 refine wpAny_bind (wpAny_newObj_type ?_)
 refine rr hname ?_
 have gn:∀c o,s.heap.get? c=none→¬g c o:=fun c o e q=>by have:=hg c o q;rw[e]at this;cases this
 have hIs:∃o,h1.get? I=some o:=(by obtain⟨o,e,_⟩:=hit;exact⟨o,e⟩)
 have hSI:h1.objs.size≠I:=by obtain⟨o,e⟩:=hIs;exact Nat.ne_of_gt (lt_size e)
 have hSa:h1.objs.size≠a:=Nat.ne_of_gt (lt_size (up _ _ ho))
 have hSn:s.heap.get? h1.objs.size=none:=by
  cases e:s.heap.get? h1.objs.size with
  |none=>rfl
  |some o=>exact absurd (lt_size (up _ _ e)) (lt_irrefl _)
 refine wpAny_pure ⟨plainId_quiet F.plain_min_loop _,QH (A:=A) (I:=I) (ax:=a) (S:=h1.objs.size) (g:=g) (vs:=vs) (ns:=ns) hh (by exact Ac hu) hne hSI hSa (fun o=>gn I o hI) (fun o=>gn _ o hSn) f hne0
  (hit.at fun o e=>get?_push_of_some _ e) (hl.at fun o e=>get?_push_of_some _ e) (fun b o q=>get?_push_of_some _ (up b o (hg b o q))) (get?_push_size _ rfl) fun v' m' h' tk f' hm' hk=>?_⟩
 rw[hm'.unique hm]at f'
 exact k h' tk v' (fun b o e=>hk b o (fun z=>by rw[z,hI]at e;cases e) (fun z=>by rw[z,hSn]at e;cases e) (get?_push_of_some _ (up b o e))) f'
/-! the decision tree of the kit's sort sorts-/
section
variable{key:Nat→List Int}{n:Nat}{s:Shared}{cmp:Nat→Nat→(Bool→Shared→Prop)→Shared→Prop}
noncomputable def kAt(key:Nat→List Int)(p:Array Nat)(i:Nat):List Int:=key (p.getD i 0)
def Mi(key:Nat→List Int)(p:Array Nat)(m:Nat):Prop:=∀i j,i<j→j<m→ltL (kAt key p j) (kAt key p i)=false
def Rz(key:Nat→List Int)(p:Array Nat)(m:Nat):Prop:=∀i j,i<j→j<m→ltL (kAt key p i) (kAt key p j)=false
def OkP(n:Nat)(p:Array Nat):Prop:=p.Perm (List.range n).toArray
theorem OkP.size{p:Array Nat}(h:OkP n p):p.size=n:=by
 have:=h.size_eq
 simpa using this
theorem OkP.lt{p:Array Nat}(h:OkP n p)(h0:0<n)(i:Nat):p.getD i 0<n:=by
 refine rr (Array.getD_eq_getD_getElem?) ?_
 cases e:p[i]? with
 |none=>exact h0
 |some x=>
  have hx:x∈p:=Array.mem_of_getElem? e
  have:x∈(List.range n).toArray:=(Array.Perm.mem_iff h).mp hx
  simpa using this
theorem JZ{p:Array Nat}{i j:Nat}(hj:j≤p.size)(x:Nat):(kas_rev p i j).getD x 0=if i≤x∧x<j then p.getD (i+j-1-x) 0 else p.getD x 0:=by
 simp only[Array.getD_eq_getD_getElem?]
 unfold kas_rev
 rewrite[getElem?_mirror_all hj]
 split<;>rfl
theorem Tm{p:Array Nat}{k d:Nat}(hk:k<p.size)(hd:d≤k)(x:Nat):(bubble p k d).getD x 0=if x=k-d then p.getD k 0 else if k-d<x∧x≤k then p.getD (x-1) 0 else p.getD x 0:=by
 simp only[Array.getD_eq_getD_getElem?]
 rewrite[getElem?_bubble hk d hd]
 split
 ·rfl
 ·split<;>rfl
theorem OkP.rev{p:Array Nat}(h:OkP n p)(i j:Nat):OkP n (kas_rev p i j):=(mirror_perm _ _ _ _).trans h
theorem OkP.bub{p:Array Nat}(h:OkP n p)(k d:Nat):OkP n (bubble p k d):=(bubble_perm _ _ _).trans h
theorem Ka{i j:Nat}(h:i<j)(ne:¬i=j-1):i<j-1:=lt_of_le_of_ne (Nat.le_sub_one_of_lt h) ne
theorem Tn{j k:Nat}(h:j<k+1)(ne:¬j=k):j<k:=lt_of_le_of_ne (le_of_lt_succ h) ne
theorem bT{a x k:Nat}(h1:a≤x)(h2:x<k):a≤a+k-1-x∧a+k-1-x<k:=by omega
theorem Zm{l r:Nat}(h:¬l≥r):l≤(l+r)/2∧(l+r)/2<r:=by omega
theorem Mi.snoc{p:Array Nat}{k:Nat}(h:Mi key p k)(c:ltL (kAt key p k) (kAt key p (k-1))=false):Mi key p (k+1):=by
 intro i j hij hj
 by_cases e:j=k
 ·subst e
  by_cases e2:i=j-1
  ·refine rr e2 ?_;exact c
  ·exact De (h i (j-1) (Ka hij e2) (sub_one_lt_of_lt hij)) c
 ·exact h i j hij (Tn hj e)
theorem Rz.snoc{p:Array Nat}{k:Nat}(h:Rz key p k)(c:ltL (kAt key p (k-1)) (kAt key p k)=false):Rz key p (k+1):=by
 intro i j hij hj
 by_cases e:j=k
 ·subst e
  by_cases e2:i=j-1
  ·refine rr e2 ?_;exact c
  ·exact De c (h i (j-1) (Ka hij e2) (sub_one_lt_of_lt hij))
 ·exact h i j hij (Tn hj e)
theorem UE(hc:∀i j (C:Bool→Shared→Prop),i<n→j<n→C (ltL (key i) (key j)) s→cmp i j C s){p:Array Nat}(hp:OkP n p)(h0:0<n){Q:Nat→Shared→Prop}:∀(f k:Nat),1≤k→k+f=n→Mi key p k→
 (∀m,k≤m→m≤n→Mi key p m→(m<n→ltL (kAt key p m) (kAt key p (m-1))=true)→Q m s)→(kas_asc p f k).kasWp cmp Q s:=by
 intro f
 induction f with
 |zero=>intro k h1 hk ha hq;exact hq k (le_refl _) (by exact Ac (le_of_eq hk)) ha (fun h=>absurd h (not_lt_of_le (le_of_eq hk.symm)))
 |succ f ih=>
  intro k h1 hk ha hq
  refine hc _ _ _ (hp.lt h0 _) (hp.lt h0 _) ?_
  cases e:ltL (key (p.getD k 0)) (key (p.getD (k-1) 0))with
  |true=>exact hq k (le_refl _) (by exact Ac (le_of_eq hk)) ha (fun _=>e)
  |false=>exact ih (k+1) DX (by exact(Nat.le_antisymm (Ac (le_of_eq hk)) (Ac (le_of_eq hk.symm)))) (ha.snoc e) fun m m1 m2 m3 m4=>hq m (by exact Ac m1) m2 m3 m4
set_option tactic.hygienic true in
theorem Kb{p:Array Nat}{k q:Nat}(hk:k≤p.size)(hq:q+1≤k)(ht:∀x,k-(q+1)≤x→x<k→kAt key p x=kAt key p (k-1)):∀x,kAt key (kas_rev p (k-(q+1)) k) x=kAt key p x:=by
 intro x
 unfold kAt
 rewrite[JZ hk]
 split
 ·rename_i h
  have a:=ht x h.1 h.2
  have b:=ht (k-(q+1)+k-1-x) (bT h.1 h.2).1 (bT h.1 h.2).2
  unfold kAt at a b
  refine rr a (rr b ?_);rfl
 ·rfl
theorem Xb(hc:∀i j (C:Bool→Shared→Prop),i<n→j<n→C (ltL (key i) (key j)) s→cmp i j C s)(h0:0<n){Q:Array Nat×Nat×Nat→Shared→Prop}:∀(f:Nat) (p:Array Nat) (k q:Nat),OkP n p→q+1≤k→k+f=n→Rz key p k→
 (∀x,k-(q+1)≤x→x<k→kAt key p x=kAt key p (k-1))→
 (∀p' m q',OkP n p'→k≤m→m≤n→q'+1≤m→Rz key p' m→(∀x,m-(q'+1)≤x→x<m→kAt key p' x=kAt key p' (m-1))→Q (p',m,q') s)→(kas_desc f p k q).kasWp cmp Q s:=by
 intro f
 induction f with
 |zero=>intro p k q hp hqk hk hd ht hQ;exact hQ p k q hp (le_refl _) (by exact Ac (le_of_eq hk)) hqk hd ht
 |succ f ih=>
  intro p k q hp hqk hk hd ht hQ
  have hz:=hp.size
  refine hc _ _ _ (hp.lt h0 _) (hp.lt h0 _) ?_
  cases e:ltL (key (p.getD k 0)) (key (p.getD (k-1) 0))with
  |true=>
   have e':ltL (kAt key p k) (kAt key p (k-1))=true:=e
   show KasT.kasWp cmp (if q>0 then kas_desc f (kas_rev p (k-(q+1)) k) (k+1) 0 else kas_desc f p (k+1) 0) Q s
   have one:∀r:Array Nat,∀x,k+1-(0+1)≤x→x<k+1→kAt key r x=kAt key r (k+1-1):=fun r x h1 h2=>by refine rr (show x=k+1-1 from Nat.le_antisymm (le_of_lt_succ h2) h1) ?_;rfl
   split
   ·have hr:=Kb (key:=key) (by exact BM (le_of_eq hk) (le_of_eq hz.symm):k≤p.size) hqk ht
    refine ih _ (k+1) 0 (hp.rev _ _) DX (by exact(Nat.le_antisymm (Ac (le_of_eq hk)) (Ac (le_of_eq hk.symm)))) (Rz.snoc (fun i j h1 h2=>by refine rr (hr ..) (rr (hr ..) ?_);exact hd i j h1 h2) ?_) (one _) fun p' m q' a b c d e f=>hQ p' m q' a (by exact Ac b) c d e f
    refine rr (hr ..) (rr (hr ..) ?_);exact Dd e'
   ·exact ih p (k+1) 0 hp DX (by exact(Nat.le_antisymm (Ac (le_of_eq hk)) (Ac (le_of_eq hk.symm)))) (hd.snoc (Dd e')) (one _) fun p' m q' a b c d e f=>hQ p' m q' a (by exact Ac b) c d e f
  |false=>
   have e':ltL (kAt key p k) (kAt key p (k-1))=false:=e
   show KasT.kasWp cmp (KasT.ask (p.getD (k-1) 0) (p.getD k 0) fun d=>if d=true then KasT.ret (p,k,q)else kas_desc f p (k+1) (q+1)) Q s
   refine hc _ _ _ (hp.lt h0 _) (hp.lt h0 _) ?_
   cases e2:ltL (key (p.getD (k-1) 0)) (key (p.getD k 0))with
   |true=>exact hQ p k q hp (le_refl _) (by exact Ac (le_of_eq hk)) hqk hd ht
   |false=>
    have e2':ltL (kAt key p (k-1)) (kAt key p k)=false:=e2
    have eq:kAt key p k=kAt key p (k-1):=Ig e' e2'
    refine ih p (k+1) (q+1) hp (by exact Ac hqk) (by exact(Nat.le_antisymm (Ac (le_of_eq hk)) (Ac (le_of_eq hk.symm)))) (hd.snoc e2') (fun x h1 h2=>?_) fun p' m q' a b c d e f=>hQ p' m q' a (by exact Ac b) c d e f
    show kAt key p x=kAt key p k
    by_cases ex:x=k
    ·refine rr ex ?_;rfl
    ·refine rr eq ?_;exact ht x (Nat.add_sub_add_right k 1 (q+1)▸h1) (Tn h2 ex)
theorem Nf(hc:∀i j (C:Bool→Shared→Prop),i<n→j<n→C (ltL (key i) (key j)) s→cmp i j C s)(h0:0<n){p:Array Nat}{k:Nat}{Q:Nat×Array Nat→Shared→Prop}(hp:OkP n p)(h1:1≤k)(hk:k≤n)(hd:Rz key p k)
 (hQ:∀m p',OkP n p'→1≤m→m≤n→Mi key p' m→Q (m,p') s):(kas_tail3 k n p).kasWp cmp Q s:=by
 unfold kas_tail3
 refine rr (KasT.kasWp_bind ..) ?_
 have hz:=hp.size
 refine UE hc (hp.rev 0 k) h0 (n-k) k h1 (Nat.add_sub_cancel' hk) (fun i j hij hj=>?_) fun m m1 m2 m3 _=>hQ m _ (hp.rev 0 k) (by exact BM h1 m1) m2 m3
 unfold kAt
 rewrite[JZ (by exact BM hk (le_of_eq hz.symm))];rewrite[JZ (by exact BM hk (le_of_eq hz.symm))];refine rr (if_pos ⟨by simp+arith only[Nat.reducePow],by exact(Ac hj)⟩) (rr (if_pos ⟨by simp+arith only[Nat.reducePow],by exact BM hij hj⟩) ?_)
 refine rr (zero_add ..) ?_
 exact hd _ _ (Nat.sub_lt_sub_left (lt_of_lt_of_le hij (Nat.le_sub_one_of_lt hj)) hij) (lt_of_le_of_lt (sub_le _ _) (sub_one_lt_of_lt hj))
theorem Ij(hc:∀i j (C:Bool→Shared→Prop),i<n→j<n→C (ltL (key i) (key j)) s→cmp i j C s)(h0:0<n){p:Array Nat}{k:Nat}{Q:Nat×Array Nat→Shared→Prop}(hp:OkP n p)(hk:k<n)(hd:Rz key p (k+1))
 (hQ:∀m p',OkP n p'→1≤m→m≤n→Mi key p' m→Q (m,p') s):(kas_descPart k n p).kasWp cmp Q s:=by
 unfold kas_descPart
 refine rr (KasT.kasWp_bind ..) ?_
 refine Xb hc h0 (n-(k+1)) p (k+1) 0 hp DX (Nat.add_sub_cancel' hk) hd (fun x h1 h2=>by refine rr (show x=k+1-1 from Nat.le_antisymm (le_of_lt_succ h2) h1) ?_;rfl) fun p' m q' hp' m1 m2 m3 hd' ht'=>?_
 dsimp only
 split
 ·have hr:=Kb (key:=key) (by refine rr hp'.size ?_;exact m2) m3 ht'
  exact Nf hc h0 (hp'.rev _ _) (by exact Ac m1) m2 (fun i j h1 h2=>by refine rr (hr ..) (rr (hr ..) ?_);exact hd' i j h1 h2) hQ
 ·exact Nf hc h0 hp' (by exact Ac m1) m2 hd' hQ
set_option tactic.hygienic true in
theorem To(hc:∀i j (C:Bool→Shared→Prop),i<n→j<n→C (ltL (key i) (key j)) s→cmp i j C s)(h0:0<n){p:Array Nat}{Q:Nat×Array Nat→Shared→Prop}(hp:OkP n p)
 (hQ:∀m p',OkP n p'→1≤m→m≤n→Mi key p' m→Q (m,p') s):(kas_count n p).kasWp cmp Q s:=by
 unfold kas_count
 refine rr (KasT.kasWp_bind ..) ?_
 refine UE hc hp h0 (n-1) 1 (le_refl _) (Nat.add_sub_cancel' h0) (fun i j h1 h2=>absurd h2 (not_lt_of_le (lt_of_le_of_lt (zero_le i) h1))) fun m m1 m2 ha hs=>?_
 by_cases e:m=n
 ·refine rr (if_pos (by simpa using e)) ?_
  exact hQ m p hp m1 m2 ha
 ·refine rr (if_neg (by simpa using e)) ?_
  have hmn:m<n:=lt_of_le_of_ne m2 e
  have hs:=hs hmn
  split
  ·rename_i hm
   refine hc _ _ _ (hp.lt h0 _) (hp.lt h0 _) ?_
   cases e2:ltL (key (p.getD 0 0)) (key (p.getD (m-1) 0))with
   |true=>exact hQ m p hp m1 m2 ha
   |false=>
    have e2':ltL (kAt key p 0) (kAt key p (m-1))=false:=e2
    have eq0:∀x,x<m→kAt key p x=kAt key p 0:=by
     intro x hx
     by_cases hx0:x=0
     ·refine rr hx0 ?_;rfl
     ·have a:ltL (kAt key p x) (kAt key p 0)=false:=ha 0 x (Nat.pos_of_ne_zero hx0) hx
      have b:ltL (kAt key p 0) (kAt key p x)=false:=by
       by_cases hx1:x=m-1
       ·refine rr hx1 ?_;exact e2'
       ·exact De (ha x (m-1) (Ka hx hx1) (sub_one_lt_of_lt hx)) e2'
      exact Ig a b
    have hr:∀x,kAt key (kas_rev p 0 m) x=kAt key p x:=by
     have:=Kb (key:=key) (p:=p) (k:=m) (q:=m-1) (by refine rr hp.size ?_;exact m2) (le_of_eq (Nat.sub_add_cancel m1)) (fun x _ h2=>by refine rr (eq0 x h2) (rr (eq0 (m-1) (sub_one_lt_of_lt m1)) ?_);rfl)
     rwa [Nat.sub_add_cancel m1,Nat.sub_self]at this
    show KasT.kasWp cmp (if false=true then KasT.ret (m,p)else kas_descPart m n (kas_rev p 0 m)) Q s
    refine rr (if_neg (by decide)) ?_
    refine Ij hc h0 (hp.rev 0 m) hmn (Rz.snoc (fun i j h1 h2=>?_) ?_) hQ
    ·refine rr (hr ..) (rr (hr ..) ?_);refine rr (eq0 i (by exact BM h1 h2)) (rr (eq0 j h2) ?_);exact GA _
    ·refine rr (hr ..) (rr (hr ..) ?_);exact Dd hs
  ·rename_i hm
   have:m=1:=Nat.le_antisymm (le_of_not_lt hm) m1
   subst this
   exact Ij hc h0 hp hmn (Rz.snoc (fun i j h1 h2=>absurd h2 (not_lt_of_le (lt_of_le_of_lt (zero_le i) h1))) (Dd hs)) hQ
theorem Tp(hc:∀i j (C:Bool→Shared→Prop),i<n→j<n→C (ltL (key i) (key j)) s→cmp i j C s)(h0:0<n){p:Array Nat}{k:Nat}(hp:OkP n p)(ha:Mi key p k){Q:Nat→Shared→Prop}:∀(f l r:Nat),l≤r→r≤k→r-l≤f→
 (∀x,x<l→ltL (kAt key p k) (kAt key p x)=false)→(∀x,r≤x→x<k→ltL (kAt key p k) (kAt key p x)=true)→
 (∀l',l'≤k→(∀x,x<l'→ltL (kAt key p k) (kAt key p x)=false)→(∀x,l'≤x→x<k→ltL (kAt key p k) (kAt key p x)=true)→Q l' s)→(kas_place p k f l r).kasWp cmp Q s:=by
 intro f
 induction f with
 |zero=>intro l r hlr hr hf hl hg hQ;exact hQ l (by exact BM hlr hr) hl fun x h1 h2=>hg x (le_trans (le_of_sub_eq_zero (Nat.le_zero.mp hf)) h1) h2
 |succ f ih=>
  intro l r hlr hr hf hl hg hQ
  unfold kas_place
  by_cases e:l≥r
  ·refine rr (if_pos e) ?_;exact hQ l (by exact BM hlr hr) hl fun x h1 h2=>hg x (by exact BM e h1) h2
  ·refine rr (if_neg e) ?_
   refine hc _ _ _ (hp.lt h0 _) (hp.lt h0 _) ?_
   obtain⟨m1,m2⟩:=Zm e
   generalize(l+r)/2=m at m1 m2⊢
   cases e2:ltL (key (p.getD k 0)) (key (p.getD m 0))with
   |true=>
    have e2':ltL (kAt key p k) (kAt key p m)=true:=e2
    refine ih l m m1 (le_trans (Nat.le_of_lt m2) hr) (le_of_lt_succ (lt_of_lt_of_le (Nat.sub_lt_sub_right m1 m2) hf)) hl (fun x h1 h2=>?_) hQ
    by_cases ex:x=m
    ·refine rr ex ?_;exact e2'
    ·cases e3:ltL (kAt key p k) (kAt key p x)with
     |true=>rfl
     |false=>
      exact Bool.noConfusion (e2'.symm.trans (De (ha m x (lt_of_le_of_ne h1 (Ne.symm ex)) h2) e3))
   |false=>
    have e2':ltL (kAt key p k) (kAt key p m)=false:=e2
    refine ih (m+1) r m2 hr (le_trans (Nat.sub_le_sub_left (Nat.succ_le_succ m1) r) (Nat.pred_le_pred hf)) (fun x h1=>?_) hg hQ
    by_cases ex:x=m
    ·refine rr ex ?_;exact e2'
    ·exact De (ha x m (Tn h1 ex) (lt_of_lt_of_le m2 hr)) e2'
theorem Zn(hc:∀i j (C:Bool→Shared→Prop),i<n→j<n→C (ltL (key i) (key j)) s→cmp i j C s)(h0:0<n){Q:Array Nat→Shared→Prop}:∀(f:Nat) (p:Array Nat) (k:Nat),OkP n p→k+f=n→Mi key p k→
 (∀p',OkP n p'→Mi key p' n→Q p' s)→(kas_bin f p k).kasWp cmp Q s:=by
 intro f
 induction f with
 |zero=>
  intro p k hp hk ha hQ
  have:k=n:=by exact(Nat.le_antisymm (Ac (le_of_eq hk)) (Ac (le_of_eq hk.symm)))
  subst this
  exact hQ p hp ha
 |succ f ih=>
  intro p k hp hk ha hQ
  show KasT.kasWp cmp ((kas_place p k k 0 k).bind fun l=>kas_bin f (bubble p k (k-l)) (k+1)) Q s
  refine rr (KasT.kasWp_bind ..) ?_
  have hz:=hp.size
  refine Tp hc h0 hp ha k 0 k (zero_le _) (le_refl _) (sub_le k 0) (fun x h=>absurd h (Nat.not_lt_zero _)) (fun x h1 h2=>absurd h2 (not_lt_of_le h1)) fun l hl h1 h2=>?_
  refine ih _ (k+1) (hp.bub k (k-l)) (by exact(Nat.le_antisymm (Ac (le_of_eq hk)) (Ac (le_of_eq hk.symm)))) (fun i j hij hj=>?_) hQ
  have g:∀x,kAt key (bubble p k (k-l)) x=if x=l then kAt key p k else if l<x∧x≤k then kAt key p (x-1)else kAt key p x:=by
   intro x
   unfold kAt
   rewrite[Tm (by exact BM (le_of_eq hk) (le_of_eq hz.symm)) (sub_le k l)];refine rr (Nat.sub_sub_self hl) ?_
   split
   ·rfl
   ·split<;>rfl
  refine rr (g i) (rr (g j) ?_)
  by_cases c1:j=l
  ·have il:i<l:=c1▸hij
   refine rr (if_pos c1) ?_;refine rr (if_neg (ne_of_lt il)) (rr (if_neg fun q=>Nat.lt_asymm q.1 il) ?_);exact h1 i il
  ·refine rr (if_neg c1) ?_
   by_cases c2:l<j∧j≤k
   ·refine rr (if_pos c2) ?_
    have jk:j-1<k:=lt_of_lt_of_le (sub_one_lt_of_lt c2.1) c2.2
    by_cases c3:i=l
    ·refine rr (if_pos c3) ?_;exact Dd (h2 (j-1) (Nat.le_sub_one_of_lt c2.1) jk)
    ·refine rr (if_neg c3) ?_
     by_cases c4:l<i∧i≤k
     ·refine rr (if_pos c4) ?_;exact ha (i-1) (j-1) (Nat.sub_lt_sub_right (lt_of_le_of_lt (zero_le l) c4.1) hij) jk
     ·refine rr (if_neg c4) ?_
      exact ha i (j-1) (Ka hij fun c5=>c4 ⟨lt_of_le_of_ne (c5▸Nat.le_sub_one_of_lt c2.1) (Ne.symm c3),c5▸Nat.le_of_lt jk⟩) jk
   ·have jl:j<l:=lt_of_le_of_ne (le_of_not_lt fun q=>c2 ⟨q,le_of_lt_succ hj⟩) c1
    have il:=Nat.lt_trans hij jl
    refine rr (if_neg c2) ?_;refine rr (if_neg (ne_of_lt il)) (rr (if_neg fun q=>Nat.lt_asymm q.1 il) ?_);exact ha i j hij (lt_of_lt_of_le jl hl)
theorem Xc(hc:∀i j (C:Bool→Shared→Prop),i<n→j<n→C (ltL (key i) (key j)) s→cmp i j C s)(h0:0<n){Q:Array Nat→Shared→Prop}(hQ:∀p',OkP n p'→Mi key p' n→Q p' s):(kas_sort n).kasWp cmp Q s:=by
 unfold kas_sort
 refine rr (KasT.kasWp_bind ..) ?_
 refine To hc h0 (Array.Perm.refl _) fun m p hp m1 m2 ha=>?_
 dsimp only
 split
 ·refine rr (Nat.max_eq_left m1) ?_
  exact Zn hc h0 _ p m hp (Nat.add_sub_cancel' m2) ha hQ
 ·have:m=n:=Nat.le_antisymm m2 (le_of_not_lt ‹_›)
  subst this
  exact hQ p hp ha
end
section
variable{O:Program}{w:World}{A:Around}{E:Value→Shared→Prop}{s:Shared}
theorem Tq{g:BT}{u v:Value}{l m:List Int}{Q:Bool→Shared→Prop}(hu:A.units<cLine)(k:∀b o,g b o→s.heap.get? b=some o)(fu:Fz g u (AX l))(fv:Fz g v (AX m))(h:Q (ltL l m) s):
 wpAny (model O w) A (keyLt' oneType' u v) Q E s:=by
 obtain⟨a,n,xs,rfl,h1,rfl⟩:=Ii fu
 obtain⟨b,n2,ys,rfl,h2,rfl⟩:=Ii fv
 have T:s.TypeIs (.ref a) "list":=⟨_,k _ _ h1,rfl⟩
 refine rr (keyLt'_oneType ..) ?_;refine rr (oneLt'_eq ..) (rr (if_pos rfl) ?_)
 refine wpAny_bind (wpAny_cRoomFor hu ?_)
 refine wpAny_bind (wpAny_callSpecialIfBound?_slot T F.slot_list_lt (call_meets F.slot_list_lt T F.entry_list_lt (F.args_list_lt_2 _ _) (Lg a b xs ys n n2) ⟨k _ _ h1,k _ _ h2,?_⟩))
 exact wpAny_truthy_bool h
theorem Xd{M:Model}{g:BT}{h:Heap}{v:Value}{l:List Int}(k:∀b o,g b o→h.get? b=some o)(f:Fz g v (AX l)):Looks M h (typeOf v) (.type "list"):=by
 obtain⟨a,n,xs,rfl,h1,_⟩:=Ii f
 exact(Looks.ld (k _ _ h1)).andThen .now
theorem Zo{g:BT}{vs:List Value}{ns:List (List Int)}{p:Array Nat}(fl:FzL g vs (ns.map AX))(hp:OkP ns.length p)(ha:Mi (fun i=>ns.getD i []) p ns.length):
 FzL g (p.toList.map fun i=>vs.getD i Value.none) ((p.toList.map fun i=>ns.getD i []).map AX)∧(p.toList.map fun i=>ns.getD i []).Perm ns∧(p.toList.map fun i=>ns.getD i []).Pairwise fun a b=>ltL b a=false:=by
 have hpl:p.toList.Perm (List.range ns.length):=by simpa using Array.perm_iff_toList_perm.mp hp
 have hlen:p.toList.length=ns.length:=by refine rr hpl.length_eq (rr length_range ?_);rfl
 refine⟨FzL.of_get (by simp) fun j v d ev ed=>?_,?_,?_⟩
 ·rw[getElem?_map]at ev ed
  obtain⟨i,ei,rfl⟩:=map_eq_some_iff.mp ev
  rw[getElem?_map,ei]at ed
  obtain rfl:d=AX (ns.getD i []):=by simpa using ed.symm
  have hi:i<ns.length:=mem_range.mp (hpl.mem_iff.mp (mem_of_getElem? ei))
  obtain⟨u,eu,fu⟩:=fl.get (show(ns.map AX)[i]?=some (AX ns[i])by simp[hi])
  have e1:vs.getD i Value.none=u:=by refine rr (getD_eq_getElem?_getD) (rr eu ?_);rfl
  have e2:ns.getD i []=ns[i]:=by refine rr (getD_eq_getElem?_getD) (rr (getElem?_eq_getElem hi) ?_);rfl
  refine rr e1 (rr e2 ?_);exact fu
 ·refine(hpl.map _).trans (.of_eq ?_)
  refine List.ext_getElem (by simp) fun i h1 h2=>?_
  simp at h1
  simp[h1]
 ·rewrite[List.pairwise_iff_getElem]
  intro i j hi hj hij
  simp at hi hj
  have hz:=hp.size
  have:=ha i j hij (by exact BM hj (le_of_eq hz))
  unfold kAt at this
  simp only[Array.getD_eq_getD_getElem?]at this
  simpa[hi,hj]using this
theorem Tr{vs:List Value}{ns:List (List Int)}{g:BT}{s:Shared}(hu:A.units<cLine)(hg6:∀b o,g b o→s.heap.get? b=some o)(fl:FzL g vs (ns.map AX))(hvn:vs.length=ns.length)(h2:2≤vs.length):
 (kas_sort vs.length).kasWp (kas_ask O w A oneType' vs) (fun p s'=>s'=s∧OkP ns.length p∧Mi (fun i=>ns.getD i []) p ns.length) s:=by
 refine rr hvn ?_
 refine Xc (key:=fun i=>ns.getD i []) (fun i j C hi hj hC=>?_) (by exact BM (le_of_eq hvn) h2) fun p hp ha=>⟨rfl,hp,ha⟩
 unfold kas_ask
 obtain⟨u,eu,fu⟩:=fl.get (show(ns.map AX)[i]?=some (AX ns[i])by simp[hi])
 obtain⟨v,ev,fv⟩:=fl.get (show(ns.map AX)[j]?=some (AX ns[j])by simp[hj])
 have e1:vs.getD i Value.none=u:=by refine rr (getD_eq_getElem?_getD) (rr eu ?_);rfl
 have e2:vs.getD j Value.none=v:=by refine rr (getD_eq_getElem?_getD) (rr ev ?_);rfl
 have e3:ns.getD i []=ns[i]:=by refine rr (getD_eq_getElem?_getD) (rr (getElem?_eq_getElem hi) ?_);rfl
 have e4:ns.getD j []=ns[j]:=by refine rr (getD_eq_getElem?_getD) (rr (getElem?_eq_getElem hj) ?_);rfl
 refine rr e1 (rr e2 ?_)
 rw[e3,e4]at hC
 exact Tq hu hg6 fu fv hC
theorem Oe{a:Addr}{vs:List Value}{ns:List (List Int)}{n:Nat}{g:BT}{P:PySem.Fin→Shared→Prop}(hu:A.units<cLine)(ho:s.heap.get? a=some (seqObj "list" vs.toArray n))(hg:∀b o,g b o→s.heap.get? b=some o)(ga:∀o,¬g a o)(fl:FzL g vs (ns.map AX))
 (h64:vs.length<64)
 (h:∀(out:List Value) (ns':List (List Int)),FzL g out (ns'.map AX)→ns'.Perm ns→ns'.Pairwise (fun a b=>ltL b a=false)→P (.done (.ret .none)) {s with heap:=sortedHeap s.heap a vs out.toArray}):
 wpAny (model O w) A (Builtin.«list.sort» ⟨[.ref a],[]⟩) P E s:=by
 have hvn:vs.length=ns.length:=by refine rr fl.length (rr (length_map ..) ?_);rfl
 refine rr (list_sort_plain ..) ?_
 have ha:a<s.heap.objs.size:=lt_size ho
 refine wpAny_bind (listItems_at ho rfl ?_)
 refine wpAny_bind (listUpdate_at ho rfl ?_ (by refine rr size_toArray (rr sizeLine_eq ?_);exact Ac h64) (zero_le _))
 obtain⟨e1,ho1⟩:∃e1,(s.heap.update a (Obj.mapSeq fun _=>#[])).get? a=some (seqObj "list" #[] e1):=⟨_,get?_update_seq ho (fun _=>#[])⟩
 refine wpAny_bind (seqEpoch_at ho1 rfl ?_)
 refine wpAny_bind (wpAny_newTuple ?_ (by show vs.length≤_;refine rr sizeLine_eq ?_;exact Ac h64))
 refine wpAny_bind (wpAny_newList ?_ (zero_le _))
 refine wpAny_holding ?_
 have ho6:(((s.heap.update a (Obj.mapSeq fun _=>#[])).push (seqObj "tuple" vs.toArray 0)).push (seqObj "list" #[] 0)).get? a=some (seqObj "list" #[] e1):=
  get?_push_of_some _ (get?_push_of_some _ ho1)
 have hg6:∀b o,g b o→(((s.heap.update a (Obj.mapSeq fun _=>#[])).push (seqObj "tuple" vs.toArray 0)).push (seqObj "list" #[] 0)).get? b=some o:=fun b o q=>
  get?_push_of_some _ (get?_push_of_some _ ((get?_update_other _ _ (fun z=>ga o (by refine rr z ?_;exact q))).trans (hg b o q)))
 show wpAny (model O w) A _ P E {s with heap:=((s.heap.update a (Obj.mapSeq fun _=>#[])).push (seqObj "tuple" vs.toArray 0)).push (seqObj "list" #[] 0)}
 dsimp only
 by_cases h2:vs.toArray.size<2
 ·refine rr (if_pos h2) (rr (if_pos h2) ?_)
  have h2:vs.length<2:=by simpa using h2
  refine wpAny_bind (wpAny_pure ?_)
  refine rr (StateT.run_pure ..) ?_
  refine wpAny_bind (wpAny_pure ?_)
  dsimp only
  refine wpAny_bind (seqEpoch_at ho6 rfl ?_)
  refine wpAny_bind (listUpdate_at ho6 rfl ?_ (hsz2:=by refine rr Array.size_map ?_;show(pairsOf vs).size≤_;refine rr (pairsOf_size ..) (rr sizeLine_eq ?_);exact Ac h64))
  simp only[bne_self_eq_false,false_eq_true,if_false]
  refine wpAny_pure ?_
  have e:(arrOf (SortSt.mk' general' (vs.toArray.zip vs.toArray) #[] 7 none)).map (·.2)=vs.toArray:=by
   show(pairsOf vs).map (·.2)=vs.toArray
   apply toList_inj.mp
   refine rr Array.toList_map (rr (pairsOf_toList ..) ?_)
   simp[List.map_snd_zip]
  refine rr e ?_
  refine h vs ns fl (.refl _) ?_
  have hs:ns.length<2:=BM (le_of_eq hvn.symm) h2
  clear h
  rcases ns with _|⟨m,_|⟨_,_⟩⟩
  ·exact .nil
  ·exact List.pairwise_singleton _ _
  ·exact absurd hs (Nat.not_lt.mpr (le_add_left 2 _))
 ·refine rr (if_neg h2) (rr (if_neg h2) ?_)
  have h2:2≤vs.length:=by simpa using h2
  refine wpAny_bind (kas_kind (T:=Value.type "list") h2 (fun v hv=>?_) (by decide) (by decide) ?_)
  ·obtain⟨i,hi,rfl⟩:=List.mem_iff_getElem.mp hv
   obtain⟨u,eu,fu⟩:=fl.get (show(ns.map AX)[i]?=some (AX (ns[i]'(by exact BM (le_of_eq hvn) hi)))by simp[show i<ns.length by exact BM (le_of_eq hvn) hi])
   have:u=vs[i]:=by rw[getElem?_eq_getElem hi]at eu;exact(Option.some.inj eu).symm
   subst this
   exact Xd hg6 fu
  have ask:=Tr (O:=O) (w:=w) (A:=A) (s:={s with heap:=((s.heap.update a (Obj.mapSeq fun _=>#[])).push (seqObj "tuple" vs.toArray 0)).push (seqObj "list" #[] 0)}) hu hg6 fl hvn h2
  rw[kas_ask_eq]at ask
  have est:SortSt.mk' oneType' (vs.toArray.zip vs.toArray) #[] 7 none=kas_st oneType' (pairsOf vs) (List.toArray (List.range vs.length)):=by
   have e:=kas_range (pairsOf vs)
   rw[pairsOf_size]at e
   show SortSt.mk' oneType' (pairsOf vs) #[] 7 none=SortSt.mk' oneType' ((List.toArray (List.range vs.length)).map (kas_item (pairsOf vs))) #[] 7 none
   refine rr e ?_;rfl
  have run:=kas_runs (E:=E) (Q:=fun _ st' s'=>∃p:Array Nat,p.size=vs.length∧arrOf st'=p.map (kas_item (pairsOf vs))∧failedOf st'=none∧
   s'={s with heap:=((s.heap.update a (Obj.mapSeq fun _=>#[])).push (seqObj "tuple" vs.toArray 0)).push (seqObj "list" #[] 0)}∧OkP ns.length p∧Mi (fun i=>ns.getD i []) p ns.length)
   h2 h64 (fun p' st' s' a1 a2 a3 a4=>⟨p',a1,a2,a3,a4⟩) ask
  rw[←est]at run
  refine wpAny_bind (wpAny_mono run ?_ fun _ _ e=>e)
  rintro⟨⟨⟩,st'⟩ s' ⟨p,hp,har,hf,rfl,okp,asc⟩
  dsimp only
  have hout:(arrOf st').map (·.2)=List.toArray (p.toList.map fun i=>vs.getD i Value.none):=by
   apply toList_inj.mp
   refine rr har ?_;refine rr Array.map_map (rr Array.toList_map ?_)
   exact map_congr_left fun i _=>by show(kas_item (pairsOf vs) i).2=_;refine rr (kas_item_eq ..) ?_;rfl
  refine rr hout ?_
  refine wpAny_bind (seqEpoch_at ho6 rfl ?_)
  refine wpAny_bind (listUpdate_at ho6 rfl ?_ (hsz2:=by refine rr size_toArray ?_;refine rr (length_map ..) (rr Array.length_toList ?_);refine rr hp (rr sizeLine_eq ?_);exact Ac h64))
  refine rr hf ?_
  simp only[bne_self_eq_false,false_eq_true,if_false]
  obtain⟨o1,o2,o3⟩:=Zo fl okp asc
  exact wpAny_pure (h _ _ o1 o2 o3)
theorem Lh{l:Addr}{vs:List Value}{ns:List (List Int)}{g:BT}{Q:Value→Shared→Prop}(hu:A.units+10<cLine)(hl:s.heap.IsList l vs.toArray)(hg:∀b o,g b o→s.heap.get? b=some o)(fl:FzL g vs (ns.map AX))(h64:vs.length<64)
 (h:∀(out:List Value) (ns':List (List Int)),FzL g out (ns'.map AX)→ns'.Perm ns→ns'.Pairwise (fun a b=>ltL b a=false)→Q (.ref (s.heap.objs.size+1)) {s with heap:=sortedAll s.heap vs out.toArray}):
 wpAny (model O w) A (call (.builtin "sorted") [.ref l]) Q E s:=by
 refine Calls.call_function_entry kind_sorted plain_sorted entry_sorted (args_sorted1 _) ?_
 unfold Builtin.«sorted»
 refine wpAny_bind (m:=checkCount "sorted" 1 1 _) (wpAny_pure ?_)
 refine wpAny_bind (collect_list hl ?_ (by refine rr sizeLine_eq ?_;exact Ac h64))
 refine wpAny_bind (wpAny_newList ?_ (by refine rr sizeLine_eq ?_;exact Ac h64))
 have hsz:((s.heap.push (seqObj "list" #[] 0)).update s.heap.objs.size (Obj.mapSeq (· ++vs.toArray))).objs.size=s.heap.objs.size+1:=by
  refine rr (size_update ..) (rr (size_push' ..) ?_);rfl
 have hoL:(((s.heap.push (seqObj "list" #[] 0)).update s.heap.objs.size (Obj.mapSeq (· ++vs.toArray))).push (seqObj "list" vs.toArray 0)).get? (s.heap.objs.size+1)=some (seqObj "list" vs.toArray 0):=by
  refine rl hsz ?_;exact get?_push_size _ rfl
 have hg6:∀b o,g b o→(((s.heap.push (seqObj "list" #[] 0)).update s.heap.objs.size (Obj.mapSeq (· ++vs.toArray))).push (seqObj "list" vs.toArray 0)).get? b=some o:=fun b o q=>by
  have e:=hg b o q
  have hlt:b<s.heap.objs.size:=lt_size e
  refine rr (get?_push_ne _ _ _ (by refine rr hsz ?_;exact ne_of_lt (lt_succ_of_lt hlt))) ?_;refine rr (Heap.get?_update_ne _ _ _ _ (ne_of_lt hlt)) (rr (get?_push_ne _ _ _ (ne_of_lt hlt)) ?_)
  exact e
 have ga:∀o,¬g (s.heap.objs.size+1) o:=fun o q=>absurd (lt_size (hg _ o q)) (not_lt_of_le (le_succ _))
 show wpAny _ _ _ _ _ {s with heap:=((s.heap.push (seqObj "list" #[] 0)).update s.heap.objs.size (Obj.mapSeq (· ++vs.toArray))).push (seqObj "list" vs.toArray 0)}
 refine rr hsz ?_
 refine wpAny_bind (wpAny_holding (wpAny_call_entry slot_list_sort ⟨_,hoL,rfl⟩ entry_list_sort (Oe (s:={s with heap:=((s.heap.push (seqObj "list" #[] 0)).update s.heap.objs.size (Obj.mapSeq (· ++vs.toArray))).push (seqObj "list" vs.toArray 0)}) ?_ hoL hg6 ga fl h64 fun out ns' a1 a2 a3=>⟨_,rfl,?_⟩) (args_list_sort _)))
 ·show A.units+1+1<cLine
  exact Ac hu
 ·exact wpAny_pure ⟨_,rfl,h out ns' a1 a2 a3⟩
end
theorem ID{h:Heap}{vs:List Value}{out:Array Value}{b:Addr}{o:Obj}(e:h.get? b=some o):(sortedAll h vs out).get? b=some o:=by
 have hlt:=lt_size e
 have hsz:((h.push (seqObj "list" #[] 0)).update h.objs.size (Obj.mapSeq (· ++vs.toArray))).objs.size=h.objs.size+1:=by refine rr (size_update ..) (rr (size_push' ..) ?_);rfl
 have e1:(((h.push (seqObj "list" #[] 0)).update h.objs.size (Obj.mapSeq (· ++vs.toArray))).push (seqObj "list" vs.toArray 0)).get? b=some o:=by
  refine rr (get?_push_ne _ _ _ (by refine rr hsz ?_;exact ne_of_lt (lt_succ_of_lt hlt))) ?_;refine rr (Heap.get?_update_ne _ _ _ _ (ne_of_lt hlt)) (rr (get?_push_ne _ _ _ (ne_of_lt hlt)) ?_)
  exact e
 have nb:h.objs.size+1≠b:=Nat.ne_of_gt (lt_succ_of_lt hlt)
 unfold sortedAll sortedHeap
 exact(get?_update_other _ _ nb).trans (get?_push_of_some _ (get?_push_of_some _ ((get?_update_other _ _ nb).trans e1)))
theorem Li{h:Heap}{vs:List Value}{out:Array Value}:∃c,(sortedAll h vs out).get? (h.objs.size+1)=some (seqObj "list" out c):=by
 have hsz:((h.push (seqObj "list" #[] 0)).update h.objs.size (Obj.mapSeq (· ++vs.toArray))).objs.size=h.objs.size+1:=by refine rr (size_update ..) (rr (size_push' ..) ?_);rfl
 have hoL:(((h.push (seqObj "list" #[] 0)).update h.objs.size (Obj.mapSeq (· ++vs.toArray))).push (seqObj "list" vs.toArray 0)).get? (h.objs.size+1)=some (seqObj "list" vs.toArray 0):=by
  refine rl hsz ?_;exact get?_push_size _ rfl
 unfold sortedAll sortedHeap
 exact⟨_,get?_update_seq (get?_push_of_some _ (get?_push_of_some _ (get?_update_seq hoL fun _=>#[]))) fun _=>out⟩
section
variable{O:Program}{w:World}{U:Heap}{K:Frag}{sc:Scope}{n:Nat}{st:St}
theorem Lj(S:Al O K U){x:Str}{p pos:Pos}{e:Expr}{Q:AG→St→Prop}(g:GlB sc K x)(hv:bootBuiltins x=some (.builtin "sorted"))(h:Ev O w U sc n e st fun a st1=>∃ns:List (List Int),rd st1 a=some (.list (ns.map AX))∧ns.length<64∧
 ∀ns':List (List Int),ns'.Perm ns→ns'.Pairwise (fun a b=>ltL b a=false)→Q (.lst (ns'.map AX)) st1)
 (he:autoParam (∀env,starEach [e] env=(false,eval e env)::starEach [] env) au.a1._auto_1):Ef O w U sc n (.Call (.Name x p) [e] [] pos) st Q:=by
 intro A env R as s hR hE r
 refine Call_Name rfl (GN S g hv hE r (PyProof.Rows.callWith_builtin1 (El1 h hR hE r ?_ he) (he env)))
 rintro v s1 ⟨a,st1,as0,h1,t1,rfl,e0,r0,x0,ns,ex,h64,q⟩
 refine r0.trimP fun as1 sub hlt r1=>?_
 have e1:=e0.trans (Ah.less sub)
 refine Now.listP (r0.now x0 ex) BI fun l vs m ho f=>?_
 have f1:FzL (vis R as1 h1) vs (ns.map AX):=FzL.mono (Ah.less sub).vis f
 refine Lh (s:={s with heap:=h1,toks:=t1}) (by have:=hR.units;exact Ac this) ⟨_,ho,rfl,_,rfl⟩ BI f1 (by refine rr f.length (rr (length_map ..) ?_);exact h64) fun out ns' o1 o2 o3=>?_
 obtain⟨c,hD⟩:=Li (h:=h1) (vs:=vs) (out:=out.toArray)
 have hk:∀b o,h1.get? b=some o→(sortedAll h1 vs out.toArray).get? b=some o:=fun b o e=>ID e
 have hn:h1.get? (h1.objs.size+1)=none:=AL _ (le_succ _)
 obtain⟨r2,kv⟩:=r1.laid (cs:=[h1.objs.size+1]) hk (fun b hb=>Ay hb▸⟨hn,_,hD⟩) hlt
 exact⟨.lst (ns'.map AX),st1,as1,_,t1,[h1.objs.size+1],rfl,e1.trans (Ah.grow _ hk),r2,.lst hD (o1.mono kv),fun b hb=>Ay hb▸e1.live.none hn,q ns' o2 o3⟩
end
noncomputable def BD(l:List Pt):Dat:=.tuple (l.flatMap fun p=>[.int p.1,.int p.2])
noncomputable def fgD(f:Fg):Dat:=.list (f.map fun e=>.tuple [pD e.1,BD e.2])
noncomputable def Bv:List Row→List Fg→List Pt→List (List Pt)→Option (List Fg)
 |[],f,cs,_=>if cs=[]then some f else none
 | .m p::r,f,cs,sd=>if cs=[]then Bv r f [p] sd else none
 | .l p::r,f,cs,sd=>if cs=[]then none else Bv r f (cs++[p]) (sd++[[]])
 | .c a b e::r,f,cs,sd=>if cs=[]then none else Bv r f (cs++[e]) (sd++[[a,b]])
 | .z::r,f,cs,sd=>if sd=[]then none else
  if cs.getLast? =cs.head? then(if 0<Gz cs.dropLast then Bv r (f++[cs.dropLast.zip sd]) [] []else none)
  else(if 0<Gz cs then Bv r (f++[cs.zip (sd++[[]])]) [] []else none)
noncomputable def Cc:Option (List Fg)→Dat
 |none=>.none
 |some fs=>.list (fs.map fgD)
def Ik:Row→Prop
 | .m p=>BdP 1000 p
 | .l p=>BdP 1000 p
 | .c _ _ e=>BdP 1000 e
 | .z=>True
theorem Xe(cs:List Pt)(sd:List (List Pt)):fgD (cs.zip sd)=.list (Jx (cs.map pD) (sd.map BD)):=by
 unfold fgD Jx
 refine rr List.zipWith_map (rr List.map_zip_eq_zipWith ?_)
 rfl
theorem isC(cs:List Pt):deq (.list (cs.map pD)) (.list [])=decide (cs=[]):=by refine rr (Dl ..) ?_;cases cs<;>simp
theorem isS(sd:List (List Pt)):deq (.list (sd.map BD)) (.list [])=decide (sd=[]):=by refine rr (Dl ..) ?_;cases sd<;>simp
theorem plS(sd:List (List Pt)):Bo (.list (sd.map BD)):=(Cn (k:=2) fun d hd=>by
 obtain⟨l,_,rfl⟩:=mem_map.mp hd
 exact KC (k:=1) fun d hd=>by
  obtain⟨p,_,hp⟩:=mem_flatMap.mp hd
  simp only[mem_cons,not_mem_nil,or_false]at hp
  rcases hp with rfl|rfl<;>exact Pg _).plain
section
variable{O:Program}{w:World}{P:KF}{U:Heap}{n:Nat}{sc:Scope}{st st':St}{ms:Ms}
theorem GC(S:Al O P.K U){tgt:Expr}{body:List Stmt}{Q:Fl→St→Prop}{d x:Dat}{ds:List Dat}(os:List Or)(h:Wm O w U n sc tgt body d st os []=some ⟨.ret x,st',[],ms⟩)(hm:AC ms)(q:Q (.ret x) st'):Bc O w U sc n tgt body Q (d::ds) st:=((MP S tgt body d).ok h hm).2 _ q
noncomputable def fgS(rows:List Row)(f:List Dat)(C D:AG)(tl:St):St:=("rows",.dat (.list (rows.map BZ)))::("sides",D)::("corners",C)::("found",.lst f)::tl
noncomputable def Ly(rows:List Row)(f:List Dat)(C:AG)(sd:List Dat)(tl:St):St:=("rows",.dat (.list (rows.map BZ)))::("sides",.lst sd)::("corners",C)::("found",.lst f)::tl
noncomputable def fgX(k:List Nat):Stmt:=FO (AQ 389) k
def FgQ(O:Program)(w:World)(U:Heap)(P:KF)(n:Nat)(r:Dat):Fl→St→Prop:=GJ O w U (scC 389) (n+1) ((AQ 389).drop 2) fun fl _=>flD fl=r
def FgL(O:Program)(w:World)(U:Heap)(P:KF)(n:Nat)(r:Dat)(ds:List Dat)(st:St):Prop:=Bc O w U (scC 389) (n+1) (Ap (fgX [1])) (Bf (fgX [1])) (FgQ O w U P n r) ds st
theorem plC(cs:List Pt):Bo (.list (cs.map pD))∧Bo (.list []):=⟨(Ej _).plain,(Ej []).plain⟩
theorem cv(S:Al O P.K U){rows:List Row}{f:List Dat}{cs:List Pt}{sd:List Dat}{p:Pt}{rs:List Dat}{r:Dat}(k:cs=[]→FgL O w U P n r rs (Ly rows f (.lst [pD p]) sd []))(k':cs≠[]→r=.none):FgL O w U P n r (BZ (.m p)::rs) (Ly rows f (.lst (cs.map pD)) sd []):=by
 have pl:=plC cs
 have c:=isC cs
 by_cases h:cs=[]
 ·rw[decide_eq_true h]at c
  refine AD S ["row"] [.br true,.br true,.br true,.ask (.dat (pD p)) (Ly rows f (.lst (cs.map pD)) sd [("row",.dat (BZ (.m p)))])] (k h) rfl ?_ Ad
  repeat' first|exact obN|refine obA ?_|apply obC
  exact fun Q q=>BV (AH S (os:=[]) rfl .nil (AH S (os:=[]) rfl .nil ⟨1,rfl,⟨[.str "m",.int p.1,.int p.2],rfl,show 3≤sizeLine by decide,q⟩⟩))
 ·rw[decide_eq_false h]at c
  refine GC S [.br true,.br false,.br false,.br false,.br false,.br false,.br false] rfl ?_ (k' h).symm
  repeat' first|exact obN|refine obA ?_|apply obC
  exact⟨by kernel_rfl,by kernel_rfl⟩
theorem Zp(S:Al O P.K U){rows:List Row}{f:List Dat}{cs:List Pt}{sd:List Dat}{row:Row}{p:Pt}{l:List Pt}{rs:List Dat}{r:Dat}(hrow:row=.l p∧l=[]∨∃a b,row=.c a b p∧l=[a,b])(hc:cs.length≤900)(hs:sd.length≤900)(k:cs≠[]→FgL O w U P n r rs (Ly rows f (.lst (cs.map pD++[pD p])) (sd++[BD l]) []))(k':cs=[]→r=.none):FgL O w U P n r (BZ row::rs) (Ly rows f (.lst (cs.map pD)) sd []):=by
 have pl:=plC cs
 have c:=congrArg not (isC cs)
 have a1:Fi (.str "l")=true∧[Dat.str "l",.str "c"].all Fi=true:=⟨by kernel_rfl,by kernel_rfl⟩
 have a2:Fi (.str "c")=true∧[Dat.str "l",.str "c"].all Fi=true:=⟨by kernel_rfl,by kernel_rfl⟩
 have z1:sd.length+1≤sizeLine:=le_trans (show _≤1000 by exact Ac hs) (by decide)
 have z2:(cs.map pD).length+1≤sizeLine:=le_trans (show _≤1000 by refine rr (length_map ..) ?_;exact Ac hc) (by decide)
 have m:=DN pD cs p
 by_cases h:cs=[]
 ·rw[decide_eq_true h]at c
  rcases hrow with⟨rfl,rfl⟩|⟨a,b,rfl,rfl⟩
  ·refine GC S [.br false,.br false,.br true,.br false,.br false,.br false,.br false] rfl ?_ (k' h).symm
   repeat' first|exact obN|refine obA ?_|apply obC
  ·refine GC S [.br false,.br false,.br true,.br false,.br false,.br false,.br false] rfl ?_ (k' h).symm
   repeat' first|exact obN|refine obA ?_|apply obC
 ·rw[decide_eq_false h]at c
  rcases hrow with⟨rfl,rfl⟩|⟨a,b,rfl,rfl⟩
  ·refine AD S ["row"] [.br false,.br false,.br true,.br true,.br true,.ask (.dat (.tuple [])) (Ly rows f (.lst (cs.map pD)) sd [("row",.dat (BZ (.l p)))]),.ask (.dat (pD p)) (Ly rows f (.lst (cs.map pD)) (sd++[BD []]) [("row",.dat (BZ (.l p)))])] (k h) rfl ?_ Ad
   repeat' first|exact obN|refine obA ?_|apply obC
   ·exact fun Q q=>BV (AH S (os:=[]) rfl .nil (AH S (os:=[]) rfl .nil ⟨-2,rfl,⟨[.str "l",.int p.1,.int p.2],rfl,show 3≤sizeLine by decide,q⟩⟩))
   ·exact fun Q q=>BV (AH S (os:=[]) rfl .nil (AH S (os:=[]) rfl .nil ⟨1,rfl,AH S (os:=[]) rfl .nil ⟨-2,rfl,⟨[.str "l",.int p.1,.int p.2],rfl,show 3≤sizeLine by decide,q⟩⟩⟩))
  ·refine AD S ["row"] [.br false,.br false,.br true,.br true,.br true,.ask (.dat (BD [a,b])) (Ly rows f (.lst (cs.map pD)) sd [("row",.dat (BZ (.c a b p)))]),.ask (.dat (pD p)) (Ly rows f (.lst (cs.map pD)) (sd++[BD [a,b]]) [("row",.dat (BZ (.c a b p)))])] (k h) rfl ?_ Ad
   repeat' first|exact obN|refine obA ?_|apply obC
   ·exact fun Q q=>BV (AH S (os:=[]) rfl .nil (AH S (os:=[]) rfl .nil ⟨-2,rfl,⟨[.str "c",.int a.1,.int a.2,.int b.1,.int b.2,.int p.1,.int p.2],rfl,show 7≤sizeLine by decide,q⟩⟩))
   ·exact fun Q q=>BV (AH S (os:=[]) rfl .nil (AH S (os:=[]) rfl .nil ⟨1,rfl,AH S (os:=[]) rfl .nil ⟨-2,rfl,⟨[.str "c",.int a.1,.int a.2,.int b.1,.int b.2,.int p.1,.int p.2],rfl,show 7≤sizeLine by decide,q⟩⟩⟩))
theorem aR(S:Al O P.K U){rows:List Row}{f:List Dat}{cs:List Pt}{rs:List Dat}{r:Dat}(k:r=.none):FgL O w U P n r (BZ .z::rs) (Ly rows f (.lst (cs.map pD)) [] []):=by
 refine GC S [.br false,.br false,.br false,.br false,.br true,.br false,.br false] rfl ?_ k.symm
 repeat' first|exact obN|refine obA ?_|apply obC
 ·exact⟨plS [],plS []⟩
 ·exact⟨by kernel_rfl,by kernel_rfl⟩
noncomputable def zR:St:=[("row",.dat (BZ .z))]
theorem bU(S:Al O P.K U){rows:List Row}{f:List Dat}{cs cs':List Pt}{sd sd':List (List Pt)}{rs:List Dat}{r:Dat}(hcs:cs≠[])(hsd:sd≠[])(hc:cs.length≤900)(hs:sd.length≤900)(hf:f.length≤900)(bc:∀p∈cs,BdP 1000 p)
 (e:if cs.getLast? =cs.head? then cs'=cs.dropLast∧sd'=sd else cs'=cs∧sd'=sd++[[]]) (k:0<Gz cs'→FgL O w U P n r rs (Ly rows (f++[fgD (cs'.zip sd')]) (.lst []) [] [])) (k':¬0<Gz cs'→r=.none):
 FgL O w U P n r (BZ .z::rs) (Ly rows f (.lst (cs.map pD)) (sd.map BD) []):=by
 have hlen:0<cs.length:=length_pos_iff.mpr hcs
 have i1:AK (cs.map pD) (-1)=some (pD (at' cs (cs.length-1))):=Hm (k:=1) (by decide) hlen
 have i2:AK (cs.map pD) 0=some (pD (at' cs 0)):=EK hlen
 have e1:cs.getLast? =some (at' cs (cs.length-1)):=by refine rr (List.getLast?_eq_getElem?) ?_;exact Ib (by lia)
 have e2:cs.head? =some (at' cs 0):=by refine rr (List.head?_eq_getElem?) ?_;exact Ib hlen
 have hlm:(cs.map pD).length<2^62:=by refine rr (length_map ..) ?_;exact Ac hc
 have c0:(!deq (.list (sd.map BD)) (.list []))=true:=congrArg not ((isS sd).trans (decide_eq_false hsd))
 have p0:Bo (.list (sd.map BD))∧Bo (.list []):=⟨plS sd,plS []⟩
 have a0:Fi (.str "z")=true∧[Dat.str "l",.str "c"].all Fi=true:=⟨by kernel_rfl,by kernel_rfl⟩
 have z1:(sd.map BD).length+1≤sizeLine:=le_trans (show _≤1000 by refine rr (length_map ..) ?_;exact Ac hs) (by decide)
 have z3:f.length+1≤sizeLine:=le_trans (show _≤1000 by exact Ac hf) (by decide)
 rw[e1,e2]at e
 have zip:∀{C:Dat} (c:C=.list (cs'.map pD)) {D:AG}{l:List Dat} (Q:EV→St→Prop) (z:(cs'.map pD).length≤sizeLine),D=.lst l→l=sd'.map BD→Q (.dat (fgD (cs'.zip sd'))) (fgS rows f (.dat C) (.dat (.list l)) zR)→Ev O w U (scC 389) (n+1) (match FO (AQ 389) [1,0,1,2,2]with| .Expr (.Call _ (e::_) _ _) _=>e|_=>.Name "" default) (fgS rows f (.dat C) D zR) Q:=by
  rintro _ rfl _ _ Q z rfl rfl q
  rw[Xe]at q
  exact AO (KO S (glb P (by kernel_rfl) (by kernel_rfl)) rfl (glb P (by kernel_rfl) (by kernel_rfl)) rfl (Fa S (os:=[]) rfl obs ⟨_,_,rfl,z,q⟩))
 have zz:∀{l:List Pt},l.length≤900→(l.map pD).length≤sizeLine:=fun h=>le_trans (show _≤1000 by refine rr (length_map ..) ?_;exact Ac h) (by decide)
 by_cases h:at' cs (cs.length-1)=at' cs 0
 ·obtain⟨rfl,rfl⟩:=(if_pos (congrArg some h)).mp e
  have c1:deq (pD (at' cs (cs.length-1))) (pD (at' cs 0))=true:=(KD _ _).mpr h
  have hl:cs.dropLast.length≤900:=by refine rr length_dropLast ?_;exact(BM hc (sub_le (cs.length) (1)))
  have g:=Ie (w:=w) (n:=n) (ps:=cs.dropLast) S (by exact Ac hl) fun p hp=>bc p (List.dropLast_subset _ hp)
  have pop:∀Q:EV→St→Prop,Q (.dat (pD (cs.getLast hcs))) (fgS rows f (.lst (cs.dropLast.map pD)) (.lst (sd'.map BD)) zR)→Ev O w U (scC 389) (n+1) (match FO (AQ 389) [1,0,1,2,0,0]with| .Expr e _=>e|_=>.Name "" default) (fgS rows f (.lst (cs.map pD)) (.lst (sd'.map BD)) zR) Q:=fun Q q=>
   Ue S (ds:=cs.dropLast.map pD) (d:=pD (cs.getLast hcs)) (by refine rl (DN ..) (rr (List.dropLast_concat_getLast ..) ?_);rfl) (le_trans (show _≤1000 by refine rr (length_map ..) ?_;exact Ac hl) (by decide)) q
  by_cases ha:0<Gz cs.dropLast
  ·rw[decide_eq_true ha]at g
   refine AD S ["row"] [.br false,.br false,.br false,.br false,.br true,.br true,.br true,.val (pD (at' cs (cs.length-1))),.val (pD (at' cs 0)),.br true,.ask (.dat (pD (cs.getLast hcs))) (fgS rows f (.lst (cs.dropLast.map pD)) (.lst (sd'.map BD)) zR),.val (.bool true),.br false,
    .ask (.dat (fgD (cs.dropLast.zip sd'))) (fgS rows f (.dat (.list (cs.dropLast.map pD))) (.dat (.list (sd'.map BD))) zR)] (k ha) rfl ?_ Ad
   repeat' first|exact obN|refine obA ?_|apply obC
   ·exact fun Q q=>zip rfl Q (zz hl) rfl rfl q
  ·rw[decide_eq_false ha]at g
   refine GC S [.br false,.br false,.br false,.br false,.br true,.br true,.br true,.val (pD (at' cs (cs.length-1))),.val (pD (at' cs 0)),.br true,.ask (.dat (pD (cs.getLast hcs))) (fgS rows f (.lst (cs.dropLast.map pD)) (.lst (sd'.map BD)) zR),.val (.bool false),.br true] rfl ?_ (k' ha).symm
   repeat' first|exact obN|refine obA ?_|apply obC
 ·obtain⟨rfl,rfl⟩:=(if_neg fun q=>h (Option.some.inj q)).mp e
  have c1:deq (pD (at' cs' (cs'.length-1))) (pD (at' cs' 0))=false:=by cases c:deq (pD (at' cs' (cs'.length-1))) (pD (at' cs' 0))with|true=>exact absurd ((KD _ _).mp c) h|false=>rfl
  have g:=Ie (w:=w) (n:=n) (ps:=cs') S (by exact Ac hc) bc
  by_cases ha:0<Gz cs'
  ·rw[decide_eq_true ha]at g
   refine AD S ["row"] [.br false,.br false,.br false,.br false,.br true,.br true,.br true,.val (pD (at' cs' (cs'.length-1))),.val (pD (at' cs' 0)),.br false,.val (.bool true),.br false,
    .ask (.dat (fgD (cs'.zip (sd++[[]])))) (fgS rows f (.dat (.list (cs'.map pD))) (.dat (.list (sd.map BD++[.tuple []]))) zR)] (k ha) rfl ?_ Ad
   repeat' first|exact obN|refine obA ?_|apply obC
   exact fun Q q=>zip rfl Q (zz hc) rfl (DN BD sd []).symm q
  ·rw[decide_eq_false ha]at g
   refine GC S [.br false,.br false,.br false,.br false,.br true,.br true,.br true,.val (pD (at' cs' (cs'.length-1))),.val (pD (at' cs' 0)),.br false,.val (.bool false),.br true] rfl ?_ (k' ha).symm
   repeat' first|exact obN|refine obA ?_|apply obC
theorem Xf(S:Al O P.K U){rows:List Row}{r:Dat}:∀(rs:List Row) (f:List Fg) (cs:List Pt) (sd:List (List Pt)),f.length+rs.length≤900→cs.length+rs.length≤900→sd.length+rs.length≤900→(∀p∈cs,BdP 1000 p)→(∀r∈rs,Ik r)→(sd≠[]→cs≠[])→r=Cc (Bv rs f cs sd)→
 FgL O w U P n r (rs.map BZ) (Ly rows (f.map fgD) (.lst (cs.map pD)) (sd.map BD) []):=by
 intro rs
 induction rs with
 |nil=>
  intro f cs sd hf hc hs _ _ _ e
  have pl:=plC cs
  have c:=isC cs
  subst e
  by_cases h:cs=[]
  ·rw[decide_eq_true h]at c
   exact AB S (os:=[.br true]) rfl obs (by show Cc (some f)=_;exact(congrArg Cc (if_pos h)).symm)
  ·rw[decide_eq_false h]at c
   exact AB S (os:=[.br false]) rfl obs (by show Cc none=_;exact(congrArg Cc (if_neg h)).symm)
 |cons x rs ih=>
  intro f cs sd hf hc hs bc br hi e
  rw[length_cons]at hf hc hs
  have br':∀q∈rs,Ik q:=fun q h=>br q (.tail _ h)
  have on:∀{p:Pt}{l:List Pt},BdP 1000 p→r=Cc (Bv rs f (cs++[p]) (sd++[l]))→FgL O w U P n r (rs.map BZ) (Ly rows (f.map fgD) (.lst (cs.map pD++[pD p])) (sd.map BD++[BD l]) []):=by
   intro p l bp e
   have k:=ih f (cs++[p]) (sd++[l]) (by exact Ac hf) (by refine rr length_append (rr length_singleton ?_);exact Ac hc) (by refine rr length_append (rr length_singleton ?_);exact Ac hs) (fun q h=>(mem_append.mp h).elim (bc q) fun h=>mem_singleton.mp h▸bp) br' (fun _=>List.append_ne_nil_of_right_ne_nil _ (cons_ne_nil _ _)) e
   rwa [DN,DN]at k
  have b0:=br x (.head _)
  cases x with
  |m p=>
   refine cv S (fun h=>?_) fun h=>e.trans (congrArg Cc (if_neg h))
   subst h
   have hs0:sd=[]:=Decidable.byContradiction fun h=>hi h rfl
   subst hs0
   exact ih f [p] [] (by exact Ac hf) (by refine rr length_singleton ?_;exact Ac hf) (by refine rr length_nil ?_;exact Ac hf) (fun q h=>mem_singleton.mp h▸b0) br' (fun h=>absurd rfl h) (e.trans (congrArg Cc (if_pos rfl)))
  |l p=>exact Zp S (.inl ⟨rfl,rfl⟩) (by exact Ac hc) (by refine rr (length_map ..) ?_;exact Ac hs) (fun h=>on b0 (e.trans (congrArg Cc (if_neg h)))) fun h=>e.trans (congrArg Cc (if_pos h))
  |c u v p=>exact Zp S (.inr ⟨u,v,rfl,rfl⟩) (by exact Ac hc) (by refine rr (length_map ..) ?_;exact Ac hs) (fun h=>on b0 (e.trans (congrArg Cc (if_neg h)))) fun h=>e.trans (congrArg Cc (if_pos h))
  |z=>
   by_cases h:sd=[]
   ·subst h
    exact aR S (e.trans (congrArg Cc (if_pos rfl)))
   ·have e:=e.trans (congrArg Cc (if_neg h))
    have nx:∀g:Fg,r=Cc (Bv rs (f++[g]) [] [])→FgL O w U P n r (rs.map BZ) (Ly rows (f.map fgD++[fgD g]) (.lst []) [] []):=by
     intro g e
     have k:=ih (f++[g]) [] [] (by refine rr length_append (rr length_singleton ?_);exact Ac hf) (by refine rr length_nil ?_;exact Ac hf) (by refine rr length_nil ?_;exact Ac hf) Km br' (fun h=>absurd rfl h) e
     rwa [DN]at k
    by_cases hq:cs.getLast? =cs.head?
    ·rw[if_pos hq]at e
     exact bU (cs':=cs.dropLast) (sd':=sd) S (hi h) h (by exact Ac hc) (by exact Ac hs) (by refine rr (length_map ..) ?_;exact Ac hf) bc (by refine rr (if_pos hq) ?_;exact⟨rfl,rfl⟩) (fun ha=>nx _ (e.trans (congrArg Cc (if_pos ha)))) fun ha=>e.trans (congrArg Cc (if_neg ha))
    ·rw[if_neg hq]at e
     exact bU (cs':=cs) (sd':=sd++[[]]) S (hi h) h (by exact Ac hc) (by exact Ac hs) (by refine rr (length_map ..) ?_;exact Ac hf) bc (by refine rr (if_neg hq) ?_;exact⟨rfl,rfl⟩) (fun ha=>nx _ (e.trans (congrArg Cc (if_pos ha)))) fun ha=>e.trans (congrArg Cc (if_neg ha))
theorem QI(S:Al O P.K U){rows:List Row}(hz:rows.length≤900)(hb:∀r∈rows,Ik r):FnP O w U (n+2) 389 [.list (rows.map BZ)] (fun r=>r=Cc (Bv rows [] [] [])):=by
 refine FnP.ofC S (HL P) rfl ?_
 refine At (st':=Ly rows [] (.lst []) [] []) S 1 [] [] rfl obs ?_
 exact Fb S (os:=[]) rfl rfl obs (Xf S rows [] [] [] (by refine rr length_nil ?_;exact Ac hz) (by refine rr length_nil ?_;exact Ac hz) (by refine rr length_nil ?_;exact Ac hz) Km hb (fun h=>absurd rfl h) rfl)
end
theorem FZ{k b:Int}(hb:0<b):DG (k*b) b=k:=by
 have key:∀n:Int,0≤n→(2*(n*b)+b).fdiv (2*b)=n:=by
  intro n hn
  refine rr (fdiv_eq_ediv_of_nonneg _ (by exact Bb hb hb)) ?_
  have e:2*(n*b)+b=b+2*b*n:=by grind
  refine rr e ?_;refine rr (Int.add_mul_ediv_left _ _ (by lia)) (rr (Int.ediv_eq_zero_of_lt (by exact Ab hb) (by exact Ab hb)) ?_)
  exact DX
 unfold DG
 dsimp only
 have hb':¬b<0:=by exact(not_lt.mpr (le_of_lt hb))
 refine rr (if_neg hb') ?_
 by_cases hk:k<0
 ·have h1:k*b<0:=Int.mul_neg_of_neg_of_pos hk hb
  refine rr (if_pos h1) (rr (decide_eq_true h1) ?_);refine rr (decide_eq_false hb') (rr (if_neg (by decide)) ?_)
  have:=key (-k) (by exact Ab hk)
  rw[neg_mul]at this
  refine rr this ?_;exact DX
 ·have h1:¬k*b<0:=by have:=mul_nonneg (show 0≤k by exact Ab (not_lt.mp hk)) (show 0≤b by exact Ab hb);exact(not_lt.mpr this)
  refine rr (if_neg h1) (rr (decide_eq_false h1) ?_);refine rr (decide_eq_false hb') (rr (if_pos (by decide)) ?_)
  exact key k (by exact Ab (not_lt.mp hk))
theorem Ng{a b:Int}(hb:0<b):DG (-a) b= -DG a b:=by
 have hz:(2*0+b).fdiv (2*b)=0:=by
  refine rr (fdiv_eq_ediv_of_nonneg _ (by exact Bb hb hb)) ?_
  exact Int.ediv_eq_zero_of_lt (by exact Ab hb) (by exact Ab hb)
 have hb':¬b<0:=by exact(not_lt.mpr (le_of_lt hb))
 unfold DG
 dsimp only
 refine rr (if_neg hb') (rr (decide_eq_false hb') ?_)
 rcases Int.lt_trichotomy a 0 with h|h|h
 ·have h2:¬ -a<0:=not_lt.mpr (Int.neg_nonneg_of_nonpos (le_of_lt h))
  refine rr (if_neg h2) (rr (if_pos h) ?_);refine rr (decide_eq_false h2) (rr (decide_eq_true h) ?_)
  simp
 ·subst h
  simp
  refine rr (show(b:Int)=2*0+b by exact DX) ?_
  simp at hz⊢
  exact(le_antisymm (Bb (Int.le_of_eq hz) (Int.le_of_eq hz)) (Bb (Int.le_of_eq hz.symm) (Int.le_of_eq hz.symm)))
 ·have h2: -a<0:=by exact Ab h
  have h3:¬a<0:=not_lt.mpr (le_of_lt h)
  refine rr (if_pos h2) (rr (if_neg h3) ?_);refine rr (decide_eq_true h2) (rr (decide_eq_false h3) ?_)
  simp
set_option tactic.hygienic true in
theorem Lk{k b:Int}(hb:b≠0):Oz (k*b) b=k:=by
 unfold Oz
 split
 ·rename_i h
  have h:b<0:=of_decide_eq_true h
  refine rr (show-(k*b)=k* -b by refine rr (Int.mul_neg ..) ?_;rfl) ?_
  exact FZ (by exact Ab h)
 ·rename_i h
  have h:¬b<0:=fun q=>h (decide_eq_true q)
  exact FZ (by lia)
theorem Kc(s:Sp)(p:Pt):Au s.M p=led s p:=by
 unfold Au led Sp.M
 dsimp only
 refine rr (show s.a*1000000*p.1+s.c*1000000*p.2=(s.a*p.1+s.c*p.2)*1000000 by grind) (rr (show s.b*1000000*p.1+s.d*1000000*p.2=(s.b*p.1+s.d*p.2)*1000000 by grind) ?_);refine rr (FZ (by decide)) (rr (FZ (by decide)) ?_);rfl
theorem Kd{s:Sp}(h:s.a*s.d-s.b*s.c≠0)(p:Pt):MQ s.M (led s p)=p:=by
 obtain⟨x,y⟩:=p
 unfold MQ led Sp.M
 dsimp only
 have hd:s.a*1000000*(s.d*1000000)-s.b*1000000*(s.c*1000000)≠0:=by
  refine rr (show s.a*1000000*(s.d*1000000)-s.b*1000000*(s.c*1000000)=(s.a*s.d-s.b*s.c)*1000000000000 by grind) ?_
  lia
 refine rr (show(s.d*1000000*(s.a*x+s.c*y+s.e-s.e)-s.c*1000000*(s.b*x+s.d*y+s.f-s.f))*1000000=x*(s.a*1000000*(s.d*1000000)-s.b*1000000*(s.c*1000000))by grind) (rr (show(s.a*1000000*(s.b*x+s.d*y+s.f-s.f)-s.b*1000000*(s.a*x+s.c*y+s.e-s.e))*1000000=y*(s.a*1000000*(s.d*1000000)-s.b*1000000*(s.c*1000000))by grind) ?_);refine rr (Lk hd) (rr (Lk hd) ?_);rfl
theorem QJ{s:Sp}(h:s.a*s.d-s.b*s.c≠0){p q:Pt}(e:led s p=led s q):p=q:=by
 refine rl (Kd h p) ?_;refine rl (Kd h q) (rr e ?_);rfl
noncomputable def spI:Sp:=⟨1,0,0,1,0,0⟩
theorem Zq(p:Pt):led spI p=p:=by
 obtain⟨x,y⟩:=p
 simp[led,spI]
noncomputable def Ec(p:AV):Fig→Option Fg
 | .poly ps=>if Av (ps.map (Au p.m))=0 then none else some ((Aw (ps.map (Au p.m))).map fun q=>(q,[]))
 | .circ c=>if p.half=0 then none else
  let k:=Ax p.turned p.half
  let r:=Ar p.half
  let t:=fun q=>Au p.m (AW c q)
  some [(t k.1,[t (BA p.half r k.1 k.2.1),t (BA p.half r k.2.1 k.1)]),(t k.2.1,[t (BA p.half r k.2.1 k.2.2.1),t (BA p.half r k.2.2.1 k.2.1)]),
   (t k.2.2.1,[t (BA p.half r k.2.2.1 k.2.2.2),t (BA p.half r k.2.2.2 k.2.2.1)]),(t k.2.2.2,[t (BA p.half r k.2.2.2 k.1),t (BA p.half r k.1 k.2.2.2)])]
noncomputable def Hp(l:List Pt):List Pt:=l.drop 1++l.take 1
noncomputable def OD(f:Fg)(k:Nat):Pt×List Pt:=f.getD k ((0,0),[])
noncomputable def QK(f:Fg):Fg:=(List.range f.length).map fun k=>((OD f ((f.length-k)%f.length)).1,Hp (OD f (f.length-k-1)).2)
noncomputable def GD(s:Sp)(f:Fg):Fg:=f.map fun e=>(led s e.1,e.2.map (led s))
noncomputable def BF(s:Sp)(f:Fg):Fg:=if s.b*s.c<s.a*s.d then GD s f else QK (GD s f)
def Zr:Fig→Prop
 | .poly ps=>ps.length=3∨ps.length=4
 | .circ _=>True
theorem Og(a b c:Pt):Av [a,b,c]=AE a b+AE b c+AE c a:=by
 simp[Av,HU]
theorem Ll(a b c d:Pt):Av [a,b,c,d]=AE a b+AE b c+AE c d+AE d a:=by
 simp[Av,HU]
theorem aS{α:Type}{l:List α}(h:l.length=3):∃a b c,l=[a,b,c]:=by
 rcases l with _|⟨a,_|⟨b,_|⟨c,_|⟨d,l⟩⟩⟩⟩<;>first|cases h;done|exact⟨_,_,_,rfl⟩
theorem bV{α:Type}{l:List α}(h:l.length=4):∃a b c d,l=[a,b,c,d]:=by
 rcases l with _|⟨a,l⟩
 ·cases h
 ·
  obtain⟨b,c,d,rfl⟩:=aS (Nat.succ.inj h)
  exact⟨a,b,c,d,rfl⟩
theorem Hq(s:Sp){ps:List Pt}(h:ps.length=3∨ps.length=4):Av (ps.map (led s))=(s.a*s.d-s.b*s.c)*Av ps:=by
 rcases h with h|h
 ·obtain⟨a,b,c,rfl⟩:=aS h
  simp only[map_cons,map_nil,Og,AE,led]
  grind
 ·obtain⟨a,b,c,d,rfl⟩:=bV h
  simp only[map_cons,map_nil,Ll,AE,led]
  grind
noncomputable def can(p:AV)(f:Fig):Option (List Int):=(Ec p f).map Bu
noncomputable def ZY(s:Sp)(p:AV)(f:Fig):Option (List Int):=(Ec p f).map fun g=>Bu (BF s g)
theorem Ft(s:Sp)(ps:List Pt):ps.map (Au s.M)=ps.map (led s):=map_congr_left fun p _=>Kc s p
theorem Mj(ps:List Pt):ps.map (Au spI.M)=ps:=by
 refine rr (Ft ..) ?_
 exact(map_congr_left fun p _=>Zq p).trans (map_id ps)
noncomputable def Ts(ps:List Pt):Fg:=ps.map fun q=>(q,[])
theorem Tt(s:Sp)(ps:List Pt):GD s (Ts ps)=Ts (ps.map (led s)):=by
 unfold GD Ts
 refine rr map_map (rr map_map ?_);rfl
theorem Nh{qs:List Pt}(h:qs.length=3∨qs.length=4):Bu (Ts qs.reverse)=Bu (QK (Ts qs)):=by
 rcases h with h|h
 ·obtain⟨a,b,c,rfl⟩:=aS h
  exact CW (cons_ne_nil _ _) ⟨[(c,[]),(b,[])],[(a,[])],rfl,by kernel_rfl⟩
 ·obtain⟨a,b,c,d,rfl⟩:=bV h
  exact CW (cons_ne_nil _ _) ⟨[(d,[]),(c,[]),(b,[])],[(a,[])],rfl,by kernel_rfl⟩
theorem Tu{s:Sp}(hs:s.a*s.d-s.b*s.c≠0){half cap join limit:Int}{ps:List Pt}(h:ps.length=3∨ps.length=4):
 can ⟨half,cap,join,limit,s.M⟩ (.poly ps)=ZY s ⟨half,cap,join,limit,spI.M⟩ (.poly ps):=by
 show Option.map Bu (if Av (ps.map (Au s.M))=0 then none else some (Ts (Aw (ps.map (Au s.M)))))=Option.map (fun g=>Bu (BF s g)) (if Av (ps.map (Au spI.M))=0 then none else some (Ts (Aw (ps.map (Au spI.M)))))
 refine rr (Ft ..) ?_;refine rr (Mj ..) (rr (Hq s h) ?_)
 by_cases h0:Av ps=0
 ·refine rr (if_pos h0) (rr (if_pos (by refine rr h0 ?_;exact mul_zero _)) ?_);rfl
 ·refine rr (if_neg h0) (rr (if_neg (Int.mul_ne_zero hs h0)) ?_)
  refine congrArg some ?_
  show Bu (Ts (Aw (ps.map (led s))))=Bu (BF s (Ts (Aw ps)))
  have h':(ps.map (led s)).length=3∨(ps.map (led s)).length=4:=by rwa [length_map]
  unfold Aw BF
  refine rr (Hq s h) (rr (Tt ..) ?_)
  by_cases hd:s.b*s.c<s.a*s.d
  ·have hd':0<s.a*s.d-s.b*s.c:=Int.sub_pos_of_lt hd
   refine rr (if_pos hd) ?_
   by_cases c:Av ps<0
   ·refine rr (if_pos c) ?_;refine rr (if_pos (Int.mul_neg_of_pos_of_neg hd' c)) (rr map_reverse ?_);rfl
   ·refine rr (if_neg c) (rr (if_neg (not_lt.mpr (mul_nonneg (le_of_lt hd') (not_lt.mp c)))) ?_);rfl
  ·have hd':s.a*s.d-s.b*s.c<0:=Int.lt_iff_le_and_ne.mpr ⟨Int.sub_nonpos_of_le (not_lt.mp hd),hs⟩
   refine rr (if_neg hd) ?_
   by_cases c:Av ps<0
   ·refine rr (if_pos c) ?_;refine rr (if_neg (not_lt.mpr (le_of_lt (Int.mul_pos_of_neg_of_neg hd' c)))) (rr map_reverse ?_);refine rl (Nh (by rwa [List.length_reverse])) (rr (List.reverse_reverse ..) ?_);rfl
   ·refine rr (if_neg c) (rr (if_pos (Int.mul_neg_of_neg_of_pos hd' (Int.lt_iff_le_and_ne.mpr ⟨not_lt.mp c,fun q=>h0 q.symm⟩))) ?_)
    exact Nh h'
theorem Tv{s:Sp}(hs:s.a*s.d-s.b*s.c≠0){half cap join limit:Int}{c:Pt}:
 can ⟨half,cap,join,limit,s.M⟩ (.circ c)=ZY s ⟨half,cap,join,limit,spI.M⟩ (.circ c):=by
 unfold can ZY Ec
 dsimp only
 by_cases h0:half=0
 ·refine rr (if_pos h0) (rr (if_pos h0) ?_);rfl
 ·refine rr (if_neg h0) (rr (if_neg h0) ?_)
  refine congrArg some ?_
  have tI:AV.turned ⟨half,cap,join,limit,spI.M⟩=false:=decide_eq_false (show¬spI.M.a*spI.M.d-spI.M.b*spI.M.c<0 by decide)
  have e:AV.turned ⟨half,cap,join,limit,s.M⟩=decide (s.a*s.d<s.b*s.c):=by
   unfold AV.turned Sp.M
   dsimp only
   refine rr (show s.a*1000000*(s.d*1000000)-s.b*1000000*(s.c*1000000)=(s.a*s.d-s.b*s.c)*1000000000000 by grind) ?_
   apply decide_eq_decide.mpr
   lia
  refine rr tI (rr e ?_);refine rr (funext (Kc s)) (rr (show Au spI.M=id from funext fun p=>(Kc spI p).trans (Zq p)) ?_)
  dsimp only
  unfold BF
  by_cases hd:s.b*s.c<s.a*s.d
  ·refine rr (if_pos hd) (rr (decide_eq_false (not_lt.mpr (le_of_lt hd))) ?_)
   rfl
  ·refine rr (if_neg hd) (rr (decide_eq_true (Int.lt_iff_le_and_ne.mpr ⟨not_lt.mp hd,fun q=>hs (Int.sub_eq_zero.mpr q)⟩)) ?_)
   refine congrArg Bu ?_
   kernel_rfl
theorem Xg{s:Sp}(hs:s.a*s.d-s.b*s.c≠0){half cap join limit:Int}{f:Fig}(h:Zr f):
 can ⟨half,cap,join,limit,s.M⟩ f=ZY s ⟨half,cap,join,limit,spI.M⟩ f:=by
 cases f with
 |poly ps=>exact Tu hs h
 |circ c=>exact Tv hs
noncomputable def fgE(e:Pt×List Pt):Dat:=.tuple [pD e.1,BD e.2]
def Cs(l:List Pt):Prop:=l=[]∨∃p q,l=[p,q]
theorem Zs{f:Fg}{k:Nat}(h:k<f.length):AK (f.map fgE) (k:Int)=some (fgE (OD f k)):=by
 refine Gn ?_
 refine rr (getElem?_map) ?_
 unfold OD
 refine rr (getD_eq_getElem?_getD) (rr (getElem?_eq_getElem h) ?_);rfl
theorem Ni{f:Fg}{k:Nat}(h:k<f.length):OD f k∈f:=by
 unfold OD
 refine rr (getD_eq_getElem?_getD) (rr (getElem?_eq_getElem h) ?_)
 exact List.getElem_mem h
theorem Oh(n:Nat):Cm (n:Int) (-1) (Builtin.Range.rangeSize (n:Int) 0 (-1)).toNat=(List.range n).map fun i:Nat=>.int ((n-i:Nat):Int):=by
 have e:(Builtin.Range.rangeSize (n:Int) 0 (-1)).toNat=n:=by
  unfold Builtin.Range.rangeSize
  simp
  lia
 unfold Cm
 refine rr e ?_
 refine map_congr_left fun i hi=>?_
 have:=mem_range.mp hi
 congr 1
 lia
theorem Oi{n:Nat}(h:n≤1000000):Builtin.Range.small (n:Int) 0 (-1)=true:=by
 unfold Builtin.Range.small Builtin.Range.rangeFitsLong
 have e:Builtin.Range.rangeSize (n:Int) 0 (-1)=n:=by
  unfold Builtin.Range.rangeSize
  simp
  lia
 refine rr e ?_
 simp
 lia
noncomputable def aU(f:Fg)(k:Nat):Pt×List Pt:=((OD f ((f.length-k)%f.length)).1,Hp (OD f (f.length-k-1)).2)
section
variable{O:Program}{w:World}{P:KF}{U:Heap}{n:Nat}
noncomputable def QL(s:Sp)(f:Fg)(acc:List Dat)(tl:St):St:=("space",.dat s.D)::("figure",.dat (fgD f))::("found",.lst acc)::tl
noncomputable def flX(k:List Nat):Stmt:=FO (AQ 394) k
theorem Xh(S:Al O P.K U){s:Sp}{f:Fg}(ha:Bd 64 s.a)(hb:Bd 64 s.b)(hc:Bd 64 s.c)(hd:Bd 64 s.d){Q:Fl→St→Prop}(F:AP Q){e:Pt×List Pt}{ds acc:List Dat}(hs:Cs e.2)(bd:BdP 1000 e.1∧∀p∈e.2,BdP 1000 p)(hz:acc.length+1≤sizeLine)
 (k:Bc O w U (scC 394) (n+1) (Ap (flX [1])) (Bf (flX [1])) Q ds (QL s f (acc++[fgE (led s e.1,e.2.map (led s))]) [])):Bc O w U (scC 394) (n+1) (Ap (flX [1])) (Bf (flX [1])) Q (fgE e::ds) (QL s f acc []):=by
 obtain⟨c,sd⟩:=e
 have L:=fun{p:Pt} (b:BdP 1000 p)=>YS (w:=w) (n:=n) (s:=s) (p:=p) S ha hb hc hd b.1 b.2
 have lc:=L bd.1
 have b2:∀p∈sd,BdP 1000 p:=bd.2
 refine EJ (st':=QL s f acc [("corner",.dat (pD c)),("side",.dat (BD sd))]) rfl ?_
 refine At (st':=QL s f acc [("corner",.dat (pD c)),("side",.dat (BD sd)),("lead",.dat (.tuple []))]) S 1 [] [] rfl obs ?_
 have fin:=CB (st:=QL s f acc [("corner",.dat (pD c)),("side",.dat (BD sd)),("lead",.dat (BD (sd.map (led s))))]) (xs:=(Bf (flX [1])).drop 2) S ["corner","side","lead"] [.val (pD (led s c))] k rfl obs F
 rcases hs with h|⟨p,q,h⟩
 ·have h:sd=[]:=h
  subst h
  exact Bm (EY (FC S (glb P (by kernel_rfl) (by kernel_rfl)) rfl (Fa S (os:=[]) rfl obs ⟨0,0,2,.three _ _ _,by decide,by decide,fin⟩)))
 ·have h:sd=[p,q]:=h
  subst h
  have lp:=L (b2 p (.head _))
  have lq:=L (b2 q (.tail _ (.head _)))
  have B:∀{x y:Dat}{l:List Dat},l.length≤2→l.length+[x,y].length≤sizeLine:=fun h=>le_trans (Nat.add_le_add_right h 2) (by decide)
  refine Bm (EY (FC S (glb P (by kernel_rfl) (by kernel_rfl)) rfl (Fa S (os:=[]) rfl obs ⟨0,4,2,.three _ _ _,by decide,by decide,?_⟩)))
  show Bc _ _ _ _ _ _ _ _ [.int 0,.int 2] _
  refine AD (st':=QL s f acc [("corner",.dat (pD c)),("side",.dat (BD [p,q])),("lead",.dat (.tuple [.int (led s p).1,.int (led s p).2]))]) S ["at"] [.val (pD (led s p))] ?_ rfl (.cons (B (zero_le _)) (.cons lp .nil)) Ad
  refine AD (st':=QL s f acc [("corner",.dat (pD c)),("side",.dat (BD [p,q])),("lead",.dat (BD ([p,q].map (led s))))]) S ["at"] [.val (pD (led s q))] ?_ rfl (.cons (B (le_refl _)) (.cons lq .nil)) Ad
  exact fin
theorem Xi(S:Al O P.K U){s:Sp}{f:Fg}(ha:Bd 64 s.a)(hb:Bd 64 s.b)(hc:Bd 64 s.c)(hd:Bd 64 s.d){Q:Fl→St→Prop}(F:AP Q):∀(rs:Fg) (acc:List Dat),acc.length+rs.length≤900→(∀e∈rs,Cs e.2∧BdP 1000 e.1∧∀p∈e.2,BdP 1000 p)→Q .next (QL s f (acc++(GD s rs).map fgE) [])→
 Bc O w U (scC 394) (n+1) (Ap (flX [1])) (Bf (flX [1])) Q (rs.map fgE) (QL s f acc []):=by
 intro rs
 induction rs with
 |nil=>intro acc _ _ q;exact(append_nil acc)▸q
 |cons e rs ih=>
  intro acc hl he q
  rw[length_cons]at hl
  exact Xh S ha hb hc hd F (he e (.head _)).1 (he e (.head _)).2 (le_trans (show _≤1000 by exact Ac hl) (by decide)) (ih _ (by refine rr length_append (rr length_singleton ?_);exact Ac hl) (fun e h=>he e (.tail _ h)) (by refine rr (append_assoc ..) ?_;exact q))
noncomputable def flE:Expr:=Ap (flX [4])
noncomputable def XI(g:Fg):St:=[("found",.lst (g.map fgE)),("many",.dat (.int (g.length:Nat)))]
theorem Zt(S:Al O P.K U){g:Fg}(hg0:0<g.length)(hg:g.length≤900)(hs:∀e∈g,Cs e.2){Q:List Dat→St→Prop}(F:∀acc s,Q acc (Iu ["at"] s)→Q acc s):∀(ks:List Nat) (acc:List Dat),acc.length+ks.length≤900→(∀k∈ks,k<g.length)→Q (acc++(ks.map (aU g)).map fgE) (XI g)→
 Bh O w U (By (Lx flE) (scC 394)) (n+1) (ER flE) (ES flE) (EQ flE) Q (ks.map fun k:Nat=>.int ((g.length-k:Nat):Int)) acc (XI g):=by
 intro ks
 induction ks with
 |nil=>intro acc _ _ q;exact(append_nil acc)▸q
 |cons k ks ih=>
  intro acc hl hk q
  rw[length_cons]at hl
  have hk0:=hk k (.head _)
  have hne:(g.length:Int)≠0:=by exact(Int.natCast_ne_zero_iff_pos.mpr hg0)
  have hlm:(g.map fgE).length<2^62:=by refine rr (length_map ..) ?_;exact Ac hg
  have i1:AK (g.map fgE) (((g.length-k:Nat):Int).fmod (g.length:Nat))=some (fgE (OD g ((g.length-k)%g.length))):=by refine rr (MY ..) ?_;exact Zs (Nat.mod_lt _ hg0)
  have i2:AK (g.map fgE) (((g.length-k:Nat):Int)-1)=some (fgE (OD g (g.length-k-1))):=by refine rr (show((g.length-k:Nat):Int)-1=((g.length-k-1:Nat):Int)by lia) ?_;exact Zs (by omega)
  have hsd:=hs _ (Ni (show g.length-k-1<g.length by omega))
  have nx:=ih (acc++[fgE (aU g k)]) (by refine rr length_append (rr length_singleton ?_);exact Ac hl) (fun k h=>hk k (.tail _ h)) (by refine rr (append_assoc ..) ?_;exact q)
  unfold aU at nx
  generalize OD g ((g.length-k)%g.length)=u at i1 nx
  generalize OD g (g.length-k-1)=v at i2 nx hsd
  obtain⟨vp,vs⟩:=v
  have hz:acc.length+1≤sizeLine:=le_trans (show _≤1000 by exact Ac hl) (by decide)
  have B:∀{xs ys:List Dat},xs.length≤2→ys.length≤2→xs.length+ys.length≤sizeLine:=fun h k=>le_trans (add_le_add h k) (by decide)
  rcases hsd with h|⟨p,q,h⟩
  ·have h:vs=[]:=h
   subst h
   have bt:Cv .Add (.tuple []) (.tuple []):=show 0+0≤sizeLine by decide
   refine AZ S ["at"] [.val (fgE u),.ask (.dat (.tuple [])) (XI g++([("at",.dat (.int ((g.length-k:Nat):Int)))]:St)),.ask (.dat (.tuple [])) (XI g++([("at",.dat (.int ((g.length-k:Nat):Int)))]:St))] nx rfl ?_ hz F
   repeat' first|exact obN|refine obA ?_|apply obC
   ·exact fun Q z=>BV (AH S (os:=[.val (fgE (vp,[]))]) rfl obs (AH S (os:=[]) rfl .nil ⟨2,rfl,⟨[],rfl,zero_le _,z⟩⟩))
   ·exact fun Q z=>BV (AH S (os:=[.val (fgE (vp,[]))]) rfl obs (AH S (os:=[]) rfl .nil ⟨2,rfl,⟨[],rfl,zero_le _,z⟩⟩))
  ·have h:vs=[p,q]:=h
   subst h
   have bt:Cv .Add (BD [q]) (BD [p]):=show 2+2≤sizeLine by decide
   refine AZ S ["at"] [.val (fgE u),.ask (.dat (BD [q])) (XI g++([("at",.dat (.int ((g.length-k:Nat):Int)))]:St)),.ask (.dat (BD [p])) (XI g++([("at",.dat (.int ((g.length-k:Nat):Int)))]:St))] nx rfl ?_ hz F
   repeat' first|exact obN|refine obA ?_|apply obC
   ·exact fun Q z=>BV (AH S (os:=[.val (fgE (vp,[p,q]))]) rfl obs (AH S (os:=[]) rfl .nil ⟨2,rfl,⟨[.int p.1,.int p.2,.int q.1,.int q.2],rfl,show 4≤sizeLine by decide,z⟩⟩))
   ·exact fun Q z=>BV (AH S (os:=[.val (fgE (vp,[p,q]))]) rfl obs (AH S (os:=[]) rfl .nil ⟨2,rfl,⟨[.int p.1,.int p.2,.int q.1,.int q.2],rfl,show 4≤sizeLine by decide,z⟩⟩))
theorem Lm(S:Al O P.K U){s:Sp}{f:Fg}(ha:Bd 64 s.a)(hb:Bd 64 s.b)(hc:Bd 64 s.c)(hd:Bd 64 s.d)(hz:f.length≤900)(h0:0<f.length)(hs:∀e∈f,Cs e.2)(bd:∀e∈f,BdP 1000 e.1∧∀p∈e.2,BdP 1000 p):
 FnP O w U (n+2) 394 [s.D,fgD f] (fun r=>r=fgD (BF s f)):=by
 refine FnP.ofC S (FK P) rfl ?_
 refine At (st':=QL s f [] []) S 1 [] [] rfl obs ?_
 refine Fb S (ds:=f.map fgE) (os:=[]) rfl rfl obs (Xi S ha hb hc hd Ad f [] (by refine rr length_nil ?_;exact Ac hz) (fun e h=>⟨hs e h,bd e h⟩) ?_)
 refine rr (nil_append ..) ?_
 have m1:=Ae ha hd
 have m2:=Ae hb hc
 have hg:(GD s f).length=f.length:=length_map ..
 have hs':∀e∈GD s f,Cs e.2:=by
  intro e h
  obtain⟨e0,h0,rfl⟩:=mem_map.mp h
  rcases hs e0 h0 with q|⟨p,p2,q⟩
  ·exact .inl (congrArg (List.map (led s)) q)
  ·exact .inr ⟨_,_,congrArg (List.map (led s)) q⟩
 unfold BF
 generalize GD s f=g at hg hs'⊢
 by_cases h:s.b*s.c<s.a*s.d
 ·have c:=decide_eq_true h
  refine rr (if_pos h) ?_
  exact AB S (os:=[.br true]) rfl obs rfl
 ·have c:=decide_eq_false h
  refine rr (if_neg h) ?_
  have hlm:(g.map fgE).length<2^62:=by refine rr (length_map ..) ?_;exact BM hz (le_of_eq hg)
  have lm:(g.map fgE).length=g.length:=length_map ..
  refine AB S (os:=[.br false,.ask (.dat (fgD (QK g))) (QL s f (g.map fgE) [("many",.dat (.int ((g.map fgE).length:Nat)))])]) rfl ?_ rfl
  repeat' first|exact obN|refine obA ?_|apply obC
  intro Q q
  rw[lm]at q⊢
  refine AO (Da (Bz.of (by kernel_rfl)) (FC S (glb P (by kernel_rfl) (by kernel_rfl)) rfl (Fa S (os:=[]) rfl .nil ⟨(g.length:Nat),0,-1,.three _ _ _,by decide,Oi (by exact BM hz (le_of_eq hg)),?_⟩)))
  refine rr (Oh ..) ?_
  refine Zt S (by exact BM h0 (le_of_eq hg.symm)) (by exact BM hz (le_of_eq hg)) hs' ?_ (List.range g.length) [] (by refine rr length_nil (rr length_range ?_);exact BM hz (le_of_eq hg)) (fun k h=>mem_range.mp h) q
  intro acc s q
  rwa [AY (by kernel_rfl)]at q
end
noncomputable def Il(e:Pt×List Pt):List Int:=e.1.1::e.1.2::e.2.flatMap fun p=>[p.1,p.2]
theorem Tw{e:Pt×List Pt}(h:Cs e.2):(Il e).length≤6:=by
 obtain⟨c,sd⟩:=e
 rcases h with h|⟨p,q,h⟩
 ·have h:sd=[]:=h
  subst h;simp[Il]
 ·have h:sd=[p,q]:=h
  subst h;simp[Il]
theorem Tx(e:Pt×List Pt):(Il e).map Dat.int=[.int e.1.1,.int e.1.2]++(e.2.flatMap fun p=>[.int p.1,.int p.2]):=by
 unfold Il
 simp[List.map_flatMap]
theorem QM(e:Pt×List Pt)(g:Fg):GT (e::g)=Il e++GT g:=by
 unfold GT Il
 refine rr flatMap_cons ?_;rfl
section
variable{O:Program}{w:World}{P:KF}{U:Heap}{n:Nat}
noncomputable def Oj(f:Fg)(acc:List Dat)(tl:St):St:=("figure",.dat (fgD f))::("found",.lst acc)::tl
noncomputable def UF(k:Nat)(nums:List Dat)(tl:St):St:=("at",.dat (.int (k:Int)))::("numbers",.lst nums)::tl
noncomputable def bgX(k:List Nat):Stmt:=FO (AQ 401) k
theorem aV(S:Al O P.K U){f:Fg}{k:Nat}{acc:List Dat}{Q:Fl→St→Prop}(F:AP Q):∀(rs:Fg) (nums:List Dat),nums.length+6*rs.length≤5400→(∀e∈rs,Cs e.2)→Q .next (Oj f acc (UF k (nums++(GT rs).map .int) []))→
 Bc O w U (scC 401) (n+1) (Ap (bgX [1,1])) (Bf (bgX [1,1])) Q (rs.map fgE) (Oj f acc (UF k nums [])):=by
 intro rs
 induction rs with
 |nil=>intro nums _ _ q;exact(append_nil nums)▸q
 |cons e rs ih=>
  intro nums hl he q
  rw[length_cons]at hl
  have hsd:=he e (.head _)
  have hn:=Tw hsd
  have nx:=ih (nums++(Il e).map .int) (by refine rr length_append (rr (length_map ..) ?_);exact BM hl hn) (fun e h=>he e (.tail _ h)) (by refine rr (append_assoc ..) ?_;refine rl map_append (rl (QM ..) ?_);exact q)
  have ed:=Tx e
  obtain⟨c,sd⟩:=e
  have l1:(Il (c,sd)).length=2+(sd.flatMap fun p:Pt=>[Dat.int p.1,.int p.2]).length:=by
   refine rl (length_map (f:=Dat.int)) ?_;refine rr ed (rr length_append ?_);rfl
  have hz:nums.length+((Il (c,sd)).map Dat.int).length≤sizeLine:=le_trans (show _≤6000 by refine rr (length_map ..) ?_;exact BM hl hn) (by decide)
  have hb:Cv .Add (.list [.int c.1,.int c.2]) (.list (sd.flatMap fun p:Pt=>[Dat.int p.1,.int p.2])):=le_trans (show 2+_≤1000 by exact BM hn (le_of_eq l1.symm)) (by decide)
  have h4:(sd.flatMap fun p:Pt=>[Dat.int p.1,.int p.2]).length≤sizeLine:=le_trans (show _≤1000 by exact BM hn (le_of_eq l1.symm)) (by decide)
  refine AD S ["corner","side"] [.ask (.dat .none) (Oj f acc (UF k (nums++(Il (c,sd)).map .int) [("corner",.dat (pD c)),("side",.dat (BD sd))]))] nx rfl (.cons (fun Q q=>?_) .nil) F
  rw[ed]at q hz
  refine IS S rfl (Do S (os:=[.ask (.dat (.list [.int c.1,.int c.2])) (Oj f acc (UF k nums [("corner",.dat (pD c)),("side",.dat (BD sd))])),.ask (.dat (.list (sd.flatMap fun p:Pt=>[Dat.int p.1,.int p.2]))) (Oj f acc (UF k nums [("corner",.dat (pD c)),("side",.dat (BD sd))]))]) rfl (.cons hb (.cons (fun Q z=>?_) (.cons (fun Q z=>?_) .nil))) ?_)
  ·exact AO (FD S (glb P (by kernel_rfl) (by kernel_rfl)) rfl (AH S (os:=[]) rfl .nil ⟨_,_,rfl,rfl,h4,z⟩))
  ·exact AO (FD S (glb P (by kernel_rfl) (by kernel_rfl)) rfl (AH S (os:=[]) rfl .nil ⟨_,[.int c.1,.int c.2],rfl,rfl,show 2≤sizeLine by decide,z⟩))
  ·exact⟨nums,rfl,_,rfl,hz,q⟩
theorem Zu(S:Al O P.K U){f:Fg}(hf:f.length≤900)(hs:∀e∈f,Cs e.2){Q:Fl→St→Prop}(F:AP Q):∀(ks:List Nat) (acc:List Dat),acc.length+ks.length≤900→Q .next (Oj f (acc++(ks.map fun k=>GT (f.drop k++f.take k)).map AX) [])→
 Bc O w U (scC 401) (n+1) (Ap (bgX [1])) (Bf (bgX [1])) Q (ks.map fun i:Nat=>.int (i:Int)) (Oj f acc []):=by
 intro ks
 induction ks with
 |nil=>intro acc _ q;exact(append_nil acc)▸q
 |cons k ks ih=>
  intro acc hl q
  rw[length_cons]at hl
  have hz:acc.length+1≤sizeLine:=le_trans (show _≤1000 by exact Ac hl) (by decide)
  have hl1:(f.map fgE).length≤sizeLine:=le_trans (show _≤1000 by refine rr (length_map ..) ?_;exact Ac hf) (by decide)
  have hb:Cv .Add (.list ((f.map fgE).drop k)) (.list ((f.map fgE).take k)):=le_trans (show _≤1000 by refine rr length_drop ?_;refine rr length_take (rr (length_map ..) ?_);omega) (by decide)
  refine EJ (st':=Oj f acc [("at",.dat (.int (k:Int)))]) rfl ?_
  refine At (st':=Oj f acc (UF k [] [])) S 1 [] [] rfl obs ?_
  refine Fb S (d:=.list ((f.map fgE).drop k++(f.map fgE).take k)) (ds:=(f.drop k++f.take k).map fgE) [.own (.lst ((f.map fgE).drop k)) (Oj f acc (UF k [] [])),.own (.lst ((f.map fgE).take k)) (Oj f acc (UF k [] []))] rfl ?_ (.cons hb (.cons (fun Q z=>?_) (.cons (fun Q z=>?_) .nil))) ?_
  ·refine rr map_append ?_;refine rr map_drop (rr map_take ?_);rfl
  ·exact Uv (AH S (os:=[]) rfl .nil (AH S (os:=[]) rfl .nil ⟨k,_,rfl,rfl,hl1,z⟩))
  ·exact MT (AH S (os:=[]) rfl .nil (AH S (os:=[]) rfl .nil ⟨k,_,rfl,rfl,hl1,z⟩))
  ·refine aV S Ad _ [] (by refine rr length_nil (rr length_append ?_);refine rr length_drop (rr length_take ?_);omega) (fun e h=>hs e ((mem_append.mp h).elim mem_of_mem_drop mem_of_mem_take)) ?_
   exact CB S ["at","numbers"] [] (ih (acc++[AX (GT (f.drop k++f.take k))]) (by refine rr length_append (rr length_singleton ?_);exact Ac hl) (by refine rr (append_assoc ..) ?_;exact q)) rfl obs F
theorem QN(S:Al O P.K U){f:Fg}(hz:f.length≤900)(h0:f≠[])(hs:∀e∈f,Cs e.2):
 FnP O w U (n+2) 401 [fgD f] (fun r=>r=AX (Bu f)):=by
 refine FnP.ofC S (JG P) rfl ?_
 have hlm:(f.map fun e=>Dat.tuple [pD e.1,BD e.2]).length<2^62:=by refine rr (length_map ..) ?_;exact Ac hz
 refine At (st':=Oj f [] []) S 1 [] [] rfl obs ?_
 refine Bm (EY (DF (k:=(f.map fgE).length) S [] rfl obs (by refine rr (length_map ..) ?_;exact Ac hz) ?_ (glb P (by kernel_rfl) (by kernel_rfl)) rfl rfl))
 refine rr (length_map ..) ?_
 refine Zu S hz hs Ad (List.range f.length) [] (by refine rr length_nil (rr length_range ?_);exact Ac hz) ?_
 refine rr (show(List.range f.length).map (fun k=>GT (f.drop k++f.take k))=DA f by unfold DA Lf;refine rr map_map ?_;rfl) ?_
 refine AB S (os:=[.ask (.dat (AX (Bu f))) (Oj f ((DA f).map AX) [])]) rfl (.cons (fun Q q=>?_) .nil) rfl
 exact Zl S (glb P (by kernel_rfl) (by kernel_rfl)) rfl (AH S (os:=[]) rfl .nil ⟨_,_,rfl,Xa (GB h0),q⟩)
end
theorem Nj{p:AV}{a b c:Pt}:can p (.poly [a,b,c])=can p (.poly [b,c,a]):=by
 unfold can Ec
 simp only[map_cons,map_nil]
 generalize Au p.m a=a;generalize Au p.m b=b;generalize Au p.m c=c
 unfold Aw
 have e:Av [b,c,a]=Av [a,b,c]:=by simp only[Og,AE];grind
 refine rr e ?_
 split
 ·rfl
 ·simp only[map_some,Option.some.injEq]
  split
  ·exact CW (by simp) ⟨[(c,[]),(b,[])],[(a,[])],by simp,by simp⟩
  ·exact CW (by simp) ⟨[(a,[])],[(b,[]),(c,[])],by simp,by simp⟩
theorem Ty{p:AV}{a b c:Pt}:can p (.poly [a,b,c])=can p (.poly [c,b,a]):=by
 unfold can Ec
 simp only[map_cons,map_nil]
 generalize Au p.m a=a;generalize Au p.m b=b;generalize Au p.m c=c
 unfold Aw
 have e:Av [c,b,a]= -Av [a,b,c]:=by simp only[Og,AE];grind
 refine rr e ?_
 by_cases h:Av [a,b,c]=0
 ·refine rr (if_pos h) (rr (if_pos (by exact(le_antisymm (Ab (Int.le_of_eq h.symm)) (Ab (Int.le_of_eq h))))) ?_);rfl
 ·have h':¬ -Av [a,b,c]=0:=by exact(Int.neg_ne_zero.mpr h)
  refine rr (if_neg h) (rr (if_neg h') ?_)
  by_cases g:Av [a,b,c]<0
  ·refine rr (if_pos g) (rr (if_neg (not_lt.mpr (Int.neg_nonneg_of_nonpos (le_of_lt g)))) ?_);rfl
  ·refine rr (if_neg g) (rr (if_pos (by omega)) ?_);rfl
theorem Ga{p:AV}{a b c d:Pt}:can p (.poly [a,b,c,d])=can p (.poly [b,c,d,a]):=by
 unfold can Ec
 simp only[map_cons,map_nil]
 generalize Au p.m a=a;generalize Au p.m b=b;generalize Au p.m c=c;generalize Au p.m d=d
 unfold Aw
 have e:Av [b,c,d,a]=Av [a,b,c,d]:=by simp only[Ll,AE];grind
 refine rr e ?_
 split
 ·rfl
 ·simp only[map_some,Option.some.injEq]
  split
  ·exact CW (by simp) ⟨[(d,[]),(c,[]),(b,[])],[(a,[])],by simp,by simp⟩
  ·exact CW (by simp) ⟨[(a,[])],[(b,[]),(c,[]),(d,[])],by simp,by simp⟩
theorem Tz{p:AV}{a b c d:Pt}:can p (.poly [a,b,c,d])=can p (.poly [d,c,b,a]):=by
 unfold can Ec
 simp only[map_cons,map_nil]
 generalize Au p.m a=a;generalize Au p.m b=b;generalize Au p.m c=c;generalize Au p.m d=d
 unfold Aw
 have e:Av [d,c,b,a]= -Av [a,b,c,d]:=by simp only[Ll,AE];grind
 refine rr e ?_
 by_cases h:Av [a,b,c,d]=0
 ·refine rr (if_pos h) (rr (if_pos (by exact(le_antisymm (Ab (Int.le_of_eq h.symm)) (Ab (Int.le_of_eq h))))) ?_);rfl
 ·have h':¬ -Av [a,b,c,d]=0:=by exact(Int.neg_ne_zero.mpr h)
  refine rr (if_neg h) (rr (if_neg h') ?_)
  by_cases g:Av [a,b,c,d]<0
  ·refine rr (if_pos g) (rr (if_neg (not_lt.mpr (Int.neg_nonneg_of_nonpos (le_of_lt g)))) ?_);rfl
  ·refine rr (if_neg g) (rr (if_pos (by omega)) ?_);rfl
noncomputable def Ke(p:Pt):Pt:=(-p.1,-p.2)
theorem Im(a b:Pt):AU a b=Ke (AU b a):=by
 unfold AU Ke
 dsimp only
 refine rr (Int.neg_sub ..) (rr (Int.neg_sub ..) ?_);rfl
theorem Fu(half:Int)(w:Pt):Ag half (Ke w)=Ke (Ag half w):=by
 obtain⟨x,y⟩:=w
 unfold Ag Ke
 dsimp only
 refine rr (show-x*1000000*(-x*1000000)+ -y*1000000*(-y*1000000)=x*1000000*(x*1000000)+y*1000000*(y*1000000)by grind) ?_
 by_cases h:x*1000000*(x*1000000)+y*1000000*(y*1000000)=0
 ·have hx:x=0:=by
   have a1:0≤x*1000000*(x*1000000):=by refine rl (natAbs_mul_self (a:=x*1000000)) ?_;exact(Ab (natCast_nonneg ((x*1000000).natAbs*(x*1000000).natAbs)))
   have a2:0≤y*1000000*(y*1000000):=by refine rl (natAbs_mul_self (a:=y*1000000)) ?_;exact(Ab (natCast_nonneg ((y*1000000).natAbs*(y*1000000).natAbs)))
   have a3:x*1000000*(x*1000000)=0:=by exact(le_antisymm (Bb (Int.le_of_eq h) a2) (Ab a1))
   rcases mul_eq_zero.mp a3 with q|q<;>lia
  have hy:y=0:=by
   have a1:0≤x*1000000*(x*1000000):=by refine rl (natAbs_mul_self (a:=x*1000000)) ?_;exact(Ab (natCast_nonneg ((x*1000000).natAbs*(x*1000000).natAbs)))
   have a2:0≤y*1000000*(y*1000000):=by refine rl (natAbs_mul_self (a:=y*1000000)) ?_;exact(Ab (natCast_nonneg ((y*1000000).natAbs*(y*1000000).natAbs)))
   have a3:y*1000000*(y*1000000)=0:=by exact(le_antisymm (Bb (Int.le_of_eq h) a1) (Ab a2))
   rcases mul_eq_zero.mp a3 with q|q<;>lia
  subst hx hy
  have r0:CP 0=0:=(Br 0).1 (by decide)
  simp[r0,DG]
 ·have hp:0<x*1000000*(x*1000000)+y*1000000*(y*1000000):=by
   have a1:0≤x*1000000*(x*1000000):=by refine rl (natAbs_mul_self (a:=x*1000000)) ?_;exact(Ab (natCast_nonneg ((x*1000000).natAbs*(x*1000000).natAbs)))
   have a2:0≤y*1000000*(y*1000000):=by refine rl (natAbs_mul_self (a:=y*1000000)) ?_;exact(Ab (natCast_nonneg ((y*1000000).natAbs*(y*1000000).natAbs)))
   omega
  have hr:=FQ hp
  refine rr (show- -y*half*1000000= -(-y*half*1000000)by grind) (rr (show-x*half*1000000= -(x*half*1000000)by grind) ?_);refine rr (Ng hr) (rr (Ng hr) ?_);rfl
theorem TA{p:AV}{a b:Pt}:can p (AM p.half a b)=can p (AM p.half b a):=by
 unfold AM
 dsimp only
 (with_reducible refine rr ((Im a b) ..) ?_);(with_reducible refine rr (Fu ..) ?_)
 generalize Ag p.half (AU b a)=s
 have e1:∀q:Pt,AW q (Ke s)=AU q s:=fun q=>by unfold AW Ke AU;dsimp only;refine rr Int.sub_eq_add_neg (rr Int.sub_eq_add_neg ?_);rfl
 have e2:∀q:Pt,AU q (Ke s)=AW q s:=fun q=>by unfold AW Ke AU;dsimp only;refine rr (Int.sub_neg ..) (rr (Int.sub_neg ..) ?_);rfl
 refine rr (e1 ..) (rr (e1 ..) ?_);refine rr (e2 ..) (rr (e2 ..) ?_)
 exact Ga.trans Ga
noncomputable def gl(p:AV)(a b:Pt):List (List Int):=[AM p.half a b].filterMap (can p)
noncomputable def gj(p:AV)(a h b:Pt):List (List Int):=(Am p a h b).filterMap (can p)
noncomputable def gc(p:AV)(a h:Pt):List (List Int):=(Bj p a h).filterMap (can p)
theorem Gb(p:AV)(a b:Pt):gl p a b=gl p b a:=by
 unfold gl
 simp only[filterMap_cons,TA (a:=a) (b:=b)]
theorem Jh(p:AV)(a h b:Pt):gj p a h b=gj p b h a:=by
 unfold gj Am
 dsimp only
 refine rr (Im h b) (rr (Im a h) ?_)
 generalize AU h a=u
 generalize AU b h=v
 have et:AE (Ke v) (Ke u)= -AE u v:=by unfold AE Ke;dsimp only;grind
 have ew:AS (Ke v) (Ke u)=AS u v:=by
  unfold AS Ke
  dsimp only
  congr 1
  grind
 have eb:BB (Ke v) (Ke u)=BB u v:=by
  unfold BB
  refine rr ew ?_
  unfold Ke
  dsimp only
  grind
 (with_reducible refine rr (et ..) ?_);(with_reducible refine rr (ew ..) ?_);(with_reducible refine rr (eb ..) ?_);(with_reducible refine rr (Fu ..) ?_);(with_reducible refine rr (Fu ..) ?_)
 generalize AS u v=wh
 generalize BB u v=bo
 generalize Ag p.half u=n
 generalize Ag p.half v=f
 generalize AE u v=t
 by_cases hj:p.join=1
 ·refine rr (if_pos hj) (rr (if_pos hj) ?_);rfl
 refine rr (if_neg hj) (rr (if_neg hj) ?_)
 by_cases ht:t=0
 ·refine rr (if_pos ht) (rr (if_pos (by exact(le_antisymm (Ab (Int.le_of_eq ht.symm)) (Ab (Int.le_of_eq ht))))) ?_);rfl
 have ht':¬ -t=0:=by exact(Int.neg_ne_zero.mpr ht)
 refine rr (if_neg ht) (rr (if_neg ht') ?_)
 have key:∀(g:Int),(if 0< -t then(-1:Int)else 1)*(-g)=(if 0<t then(-1:Int)else 1)*g:=by
  intro g
  by_cases c:0<t
  ·refine rr (if_neg (not_lt.mpr (Int.neg_nonpos_of_nonneg (le_of_lt c)))) (rr (if_pos c) ?_);exact(Eq.symm (Int.neg_mul_comm 1 g))
  ·refine rr (if_pos (by lia)) (rr (if_neg c) ?_);exact(Int.neg_mul_neg 1 g)
 unfold Ke
 dsimp only
 refine rr (key ..) (rr (key ..) ?_);refine rr (key ..) (rr (key ..) ?_)
 generalize(if 0<t then(-1:Int)else 1)=sg
 rewrite[Int.add_comm (sg*f.1)];rewrite[Int.add_comm (sg*f.2)]
 split
 ·simp only[filterMap_cons,filterMap_nil]
  refine rr Tz (rr Ga ?_);refine rr Ga (rr Ga ?_);rfl
 ·simp only[filterMap_cons,filterMap_nil]
  refine rr Ty ?_;refine rr Nj (rr Nj ?_);rfl
noncomputable def BU(p:AV)(l:Ln):List (List Int):=(AI p l).filterMap (can p)
theorem Df(p:AV)(a b:Pt)(fs:List Fig):(AM p.half a b::fs).filterMap (can p)=gl p a b++fs.filterMap (can p):=filterMap_append (l:=[AM p.half a b]) (l':=fs)
theorem Gc{p:AV}{l:Ln}{es:List Fig}{js cs:List Fig}(h:AI p l=es++js++cs):BU p l=es.filterMap (can p)++js.filterMap (can p)++cs.filterMap (can p):=by
 unfold BU;refine rr h ?_;refine rr filterMap_append (rr filterMap_append ?_);rfl
theorem Ji(p:AV)(a h b:Pt)(fs:List Fig):(Am p a h b++fs).filterMap (can p)=gj p a h b++fs.filterMap (can p):=filterMap_append
theorem QO(p:AV)(a h:Pt)(fs:List Fig):(Bj p a h++fs).filterMap (can p)=gc p a h++fs.filterMap (can p):=filterMap_append
theorem Nk(p:AV)(a b:Pt):BU p ([a,b],false)=gl p a b++[]++[]++(gc p b a++gc p a b):=by
 refine rr (Gc (es:=[AM p.half a b]) (js:=[]) (cs:=Bj p b a++Bj p a b) rfl) ?_;refine rr (Df ..) (rr (QO ..) ?_);rfl
theorem Nl(p:AV)(a b c:Pt):BU p ([a,b,c],false)=gl p a b++(gl p b c++[])++(gj p a b c++[])++(gc p b a++gc p b c):=by
 refine rr (Gc (es:=[AM p.half a b,AM p.half b c]) (js:=Am p a b c++[]) (cs:=Bj p b a++Bj p b c) rfl) ?_;refine rr (Df ..) (rr (Df ..) ?_);refine rr (Ji ..) (rr (QO ..) ?_);rfl
theorem Nm(p:AV)(a b c d:Pt):BU p ([a,b,c,d],false)=gl p a b++(gl p b c++(gl p c d++[]))++(gj p a b c++(gj p b c d++[]))++(gc p b a++gc p c d):=by
 refine rr (Gc (es:=[AM p.half a b,AM p.half b c,AM p.half c d]) (js:=Am p a b c++(Am p b c d++[])) (cs:=Bj p b a++Bj p c d) rfl) ?_;refine rr (Df ..) (rr (Df ..) ?_);refine rr (Df ..) (rr (Ji ..) ?_);refine rr (Ji ..) (rr (QO ..) ?_);rfl
theorem Nn(p:AV)(a b:Pt):BU p ([a,b],true)=gl p a b++(gl p b a++[])++[]++(gj p a b a++gj p b a b):=by
 refine rr (Gc (es:=[AM p.half a b,AM p.half b a]) (js:=[]) (cs:=Am p a b a++Am p b a b) rfl) (rr (Df ..) ?_);refine rr (Df ..) (rr (Ji ..) ?_);rfl
theorem Hr(p:AV)(a b c:Pt):BU p ([a,b,c],true)=gl p a b++(gl p b c++(gl p c a++[]))++(gj p a b c++[])++(gj p b c a++gj p c a b):=by
 refine rr (Gc (es:=[AM p.half a b,AM p.half b c,AM p.half c a]) (js:=Am p a b c++[]) (cs:=Am p b c a++Am p c a b) rfl) (rr (Df ..) ?_);refine rr (Df ..) (rr (Df ..) ?_);refine rr (Ji ..) (rr (Ji ..) ?_);rfl
noncomputable def Dg(p:AV)(l:Ln):List (List Int):=match Ak l.1 l.2 with
 |none=>[]
 |some q=>BU p q
theorem cnt{a b:List (List Int)}(h:∀x,a.count x=b.count x):a.Perm b:=List.perm_iff_count.mpr h
theorem Lo(p:AV)(a b:Pt):(BU p ([a,b],true)).Perm (BU p ([b,a],true)):=by
 refine rr (Nn ..) (rr (Nn ..) ?_)
 exact cnt fun x=>by simp+arith only[count_append,count_nil]
theorem Zv(p:AV)(a b c:Pt):(BU p ([b,c,a],true)).Perm (BU p ([a,b,c],true)):=by
 refine rr (Hr ..) (rr (Hr ..) ?_)
 exact cnt fun x=>by simp+arith only[count_append,count_nil]
theorem Zw(p:AV)(a b c:Pt):(BU p ([c,b,a],true)).Perm (BU p ([a,b,c],true)):=by
 refine rr (Hr ..) (rr (Hr ..) ?_);refine rr (Gb p c b) (rr (Gb p b a) ?_);refine rr (Gb p a c) (rr (Jh p c b a) ?_);refine rr (Jh p b a c) (rr (Jh p a c b) ?_)
 exact cnt fun x=>by simp+arith only[count_append,count_nil]
theorem Zx(p:AV)(a b:Pt):(BU p ([b,a],false)).Perm (BU p ([a,b],false)):=by
 refine rr (Nk ..) ?_;refine rr (Nk ..) (rr (Gb p b a) ?_)
 exact cnt fun x=>by simp+arith only[count_append,count_nil]
theorem Zy(p:AV)(a b c:Pt):(BU p ([c,b,a],false)).Perm (BU p ([a,b,c],false)):=by
 refine rr (Nl ..) ?_;refine rr (Nl ..) (rr (Gb p c b) ?_);refine rr (Gb p b a) (rr (Jh p c b a) ?_)
 exact cnt fun x=>by simp+arith only[count_append,count_nil]
theorem Zz(p:AV)(a b c d:Pt):(BU p ([d,c,b,a],false)).Perm (BU p ([a,b,c,d],false)):=by
 refine rr (Nm ..) ?_;refine rr (Nm ..) (rr (Gb p d c) ?_);refine rr (Gb p c b) (rr (Gb p b a) ?_);refine rr (Jh p d c b) (rr (Jh p c b a) ?_)
 exact cnt fun x=>by simp+arith only[count_append,count_nil]
theorem aW(a b:Pt):Ak [a,b] true=if b=a then some ([a],true)else some ([a,b],true):=by
 by_cases h:b=a
 ·subst h;simp[Ak,AR,Aj,Fq]
 ·simp[Ak,AR,Aj,Fq,h]
theorem aY(a b c:Pt):Ak [a,b,c] true=if b=a then(if c=a then some ([a],true)else some ([a,c],true))else(if c=b then some ([a,b],true)else if c=a then some ([a,b],true)else some ([a,b,c],true)):=by
 by_cases h:b=a
 ·subst h
  by_cases g:c=b
  ·subst g;simp[Ak,AR,Aj,Fq]
  ·simp[Ak,AR,Aj,Fq,g]
 ·by_cases g:c=b
  ·subst g;simp[Ak,AR,Aj,Fq,h]
  ·by_cases f:c=a
   ·subst f;simp[Ak,AR,Aj,Fq,h,g]
   ·simp[Ak,AR,Aj,Fq,h,g,f]
def DB(pts:List Pt)(cl:Bool):Prop:=1≤pts.length∧pts.length≤4∧(cl=true→pts.length≤3)
noncomputable def Lp(p:Pt):List Pt→Pt
 |[]=>p
 |q::qs=>Lp q qs
theorem Fd(b:Pt):∀(xs:List Pt) (p:Pt),Aj p (xs++[b])=Aj p xs++if b=Lp p xs then[]else[b]:=by
 intro xs
 induction xs with
 |nil=>
  intro p
  exact rfl
 |cons q qs ih=>
  intro p
  refine rr cons_append ?_;rewrite[Aj];rewrite[Aj]
  by_cases h:q=p
  ·refine rr (if_pos h) ?_;refine rr (if_pos h) (rl h ?_);exact ih q
  ·refine rr (if_neg h) ?_;refine rr (if_neg h) (rr (ih q) ?_);rfl
theorem GE(b:Pt):∀(xs:List Pt) (p:Pt),Lp p (xs++[b])=b:=by
 intro xs
 induction xs with
 |nil=>
  intro _
  exact rfl
 |cons q qs ih=>
  intro _
  exact ih q
theorem Ol(p q:Pt):∀xs:List Pt,AR (xs++[q]++[p])=AR (xs++[q])++if p=q then[]else[p]
 |[]=>congrArg (q:: ·) (Fd p [] q)
 |x::xs=>by
  have:=Fd p (xs++[q]) x
  rw[GE]at this
  exact congrArg (x:: ·) this
theorem Om(p q:Pt)(t:List Pt):AR (p::q::t)=(if p=q then[]else[p])++AR (q::t):=by
 show p::Aj p (q::t)=_
 rewrite[Aj]
 by_cases h:q=p
 ·subst h;refine rr (if_pos rfl) (rr (if_pos rfl) ?_);rfl
 ·refine rr (if_neg h) (rr (if_neg fun e=>h e.symm) ?_);rfl
theorem QP:∀ps:List Pt,AR ps.reverse=(AR ps).reverse:=by
 intro ps
 induction ps with
 |nil=>rfl
 |cons p t ih=>
  rcases t with _|⟨q,t⟩
  ·rfl
  refine rr (Om ..) (rr List.reverse_append ?_);refine rl ih (rr List.reverse_cons ?_);refine rr List.reverse_cons (rr (Ol ..) ?_)
  split<;>rfl
theorem TB(p:AV){ps:List Pt}(h:ps.length≤4):(BU p (ps.reverse,false)).Perm (BU p (ps,false)):=by
 rcases ps with _|⟨a,_|⟨b,_|⟨c,_|⟨d,_|⟨e,ps⟩⟩⟩⟩⟩
 ·exact .refl _
 ·exact .refl _
 ·exact Zx p a b
 ·exact Zy p a b c
 ·exact Zz p a b c d
 ·exact absurd h (Nat.not_le_of_gt (le_add_left 5 ps.length))
theorem On(p:AV){ps:List Pt}(h:ps.length≤4):(Dg p (ps.reverse,false)).Perm (Dg p (ps,false)):=by
 have o:∀qs:List Pt,qs.length=ps.length→Dg p (qs,false)=if ps.length<2 then[]else BU p (AR qs,false):=by
  intro qs e
  show(match(if qs.length<2∧false=false then none else some (AR qs,false))with|none=>[]|some q=>BU p q)=_
  refine rr e ?_
  by_cases h:ps.length<2
  ·refine rr (if_pos ⟨h,rfl⟩) (rr (if_pos h) ?_);rfl
  ·refine rr (if_neg fun q=>h q.1) (rr (if_neg h) ?_);rfl
 refine rr (o _ List.length_reverse) (rr (o _ rfl) ?_)
 split
 ·exact .refl _
 ·refine rr (QP ..) ?_
  exact TB p (le_trans (KQ ps) h)
theorem No(p:AV)(a b:Pt):Dg p ([a,b],true)=if b=a then BU p ([a],true)else BU p ([a,b],true):=by
 show(match Ak [a,b] true with|none=>[]|some q=>BU p q)=_
 refine rr (aW ..) ?_
 by_cases e:b=a
 ·refine rr (if_pos e) (rr (if_pos e) ?_);rfl
 ·refine rr (if_neg e) (rr (if_neg e) ?_);rfl
theorem Hs(p:AV)(a b c:Pt):Dg p ([a,b,c],true)=if b=a then(if c=a then BU p ([a],true)else BU p ([a,c],true))else(if c=b then BU p ([a,b],true)else if c=a then BU p ([a,b],true)else BU p ([a,b,c],true)):=by
 show(match Ak [a,b,c] true with|none=>[]|some q=>BU p q)=_
 refine rr (aY ..) ?_
 by_cases e1:b=a
 ·refine rr (if_pos e1) (rr (if_pos e1) ?_)
  by_cases e:c=a
  ·refine rr (if_pos e) (rr (if_pos e) ?_);rfl
  ·refine rr (if_neg e) (rr (if_neg e) ?_);rfl
 ·refine rr (if_neg e1) (rr (if_neg e1) ?_)
  by_cases e2:c=b
  ·refine rr (if_pos e2) (rr (if_pos e2) ?_);rfl
  ·refine rr (if_neg e2) (rr (if_neg e2) ?_)
   by_cases e:c=a
   ·refine rr (if_pos e) (rr (if_pos e) ?_);rfl
   ·refine rr (if_neg e) (rr (if_neg e) ?_);rfl
theorem UG(p:AV)(a b:Pt):(Dg p ([b,a],true)).Perm (Dg p ([a,b],true)):=by
 refine rr (No ..) (rr (No ..) ?_)
 by_cases h:b=a
 ·refine rr (if_pos h) ?_;refine rr (if_pos h.symm) (rr h ?_);rfl
 ·refine rr (if_neg h) (rr (if_neg fun q=>h q.symm) ?_);exact Lo p _ _
theorem QR(p:AV){pts:List Pt}{cl:Bool}(h:DB pts cl):(Dg p (pts.reverse,cl)).Perm (Dg p (pts,cl)):=by
 obtain⟨_,h2,h3⟩:=h
 rcases cl with _|_
 ·exact On p h2
 ·
  have h3:=h3 rfl
  rcases pts with _|⟨a,_|⟨b,_|⟨c,_|⟨d,pts⟩⟩⟩⟩
  ·exact .refl _
  ·exact .refl _
  ·exact UG p a b
  ·show(Dg p ([c,b,a],true)).Perm _
   refine rr (Hs ..) (rr (Hs ..) ?_)
   by_cases e1:b=a
   ·subst e1
    by_cases e2:c=b
    ·subst e2;exact .refl _
    ·refine rr (if_neg fun q=>e2 q.symm) (rr (if_pos rfl) ?_);refine rr (if_pos rfl) (rr (if_neg e2) ?_);exact Lo p _ _
   ·refine rr (if_neg e1) ?_
    by_cases e2:c=b
    ·subst e2
     refine rr (if_pos rfl) ?_;refine rr (if_neg fun q=>e1 q.symm) (rr (if_pos rfl) ?_);exact Lo p _ _
    ·refine rr (if_neg fun q=>e2 q.symm) ?_;refine rr (if_neg fun q=>e1 q.symm) (rr (if_neg e2) ?_)
     by_cases e3:c=a
     ·subst e3;refine rr (if_pos rfl) ?_;rfl
     ·refine rr (if_neg fun q=>e3 q.symm) (rr (if_neg e3) ?_);exact Zw p _ _ _
  ·exact absurd h3 (Nat.not_le_of_gt (le_add_left 4 pts.length))
theorem Oo(p:AV){x:Pt}{xs:List Pt}(h:(x::xs).length≤3):(Dg p (xs++[x],true)).Perm (Dg p (x::xs,true)):=by
 rcases xs with _|⟨b,_|⟨c,_|⟨d,xs⟩⟩⟩
 ·exact .refl _
 ·exact UG p x b
 ·show(Dg p ([b,c,x],true)).Perm _
  refine rr (Hs ..) (rr (Hs ..) ?_)
  by_cases e1:b=x
  ·subst e1
   by_cases e2:c=b
   ·subst e2;exact .refl _
   ·refine rr (if_neg e2) ?_;refine rr (if_pos rfl) (rr (if_pos rfl) ?_);refine rr (if_neg e2) (rr (if_neg fun q=>e2 q.symm) ?_);rfl
  ·refine rr (if_neg e1) ?_
   by_cases e2:c=b
   ·subst e2
    refine rr (if_pos rfl) ?_;refine rr (if_neg fun q=>e1 q.symm) (rr (if_pos rfl) ?_);exact Lo p _ _
   ·refine rr (if_neg e2) (rr (if_neg e2) ?_)
    by_cases e3:c=x
    ·subst e3;refine rr (if_pos rfl) (rr (if_pos rfl) ?_);exact Lo p _ _
    ·refine rr (if_neg fun q=>e3 q.symm) ?_;refine rr (if_neg fun q=>e1 q.symm) (rr (if_neg e3) ?_);exact Zv p _ _ _
 ·exact absurd h (Nat.not_le_of_gt (le_add_left 4 xs.length))
theorem QS(p:AV){pts:List Pt}(h:pts.length≤3):∀k,(Dg p (pts.drop k++pts.take k,true)).Perm (Dg p (pts,true)):=by
 intro k
 induction k generalizing pts with
 |zero=>simp
 |succ k ih=>
  rcases pts with _|⟨x,xs⟩
  ·simp
  ·
   rcases lt_or_ge k xs.length with hk|hk
   ·have e:(x::xs).drop (k+1)++(x::xs).take (k+1)=(xs++[x]).drop k++(xs++[x]).take k:=by
     simp[List.drop_append_of_le_length (Nat.le_of_lt hk),List.take_append_of_le_length (Nat.le_of_lt hk)]
    refine rr e ?_
    exact(ih (pts:=xs++[x]) (by simpa using h)).trans (Oo p h)
   ·have e:(x::xs).drop (k+1)++(x::xs).take (k+1)=x::xs:=by
     refine rr (List.drop_of_length_le (by simp;omega)) (rr (take_of_length_le (by simp;omega)) ?_);rfl
    refine rr e ?_;rfl
theorem QT(p:AV){l l':Ln}(h:DB l.1 l.2)(r:Dc false l l'):(Dg p l').Perm (Dg p l):=by
 obtain⟨pts,cl⟩:=l
 obtain⟨pts',cl'⟩:=l'
 obtain⟨r1,_,q,r3,r4⟩:=r
 dsimp only at r1 r3 r4 h
 subst r1
 have hq:(Dg p (q,cl')).Perm (Dg p (pts,cl')):=by
  rcases r3 with rfl|rfl
  ·exact .refl _
  ·exact QR p h
 have hl:q.length=pts.length:=by rcases r3 with rfl|rfl<;>simp
 rcases r4 with rfl|⟨hc,k,rfl⟩
 ·exact hq
 ·subst hc
  exact(QS p (by refine rr hl ?_;exact h.2.2 rfl) k).trans hq
structure UH(u:Int)(s:Sp)(parts qs:List Ln)(wd cap join limit:Int)(lens:List Int)(off:Int):Prop where
 unit:u=1∨u=90∨u=1000
 partsOk:JR u parts
 sp:Qn s
 width:∃k,0≤k∧k<9∧(k-2)*u=wd
 capOk:cap=0∨cap=1∨cap=2
 joinOk:join=0∨join=1∨join=2
 lim1:1000000≤limit
 lim2:limit≤10000000
 lensOk:Ey u lens
 ret:KS (!lens.isEmpty) parts qs
def XJ(g:Fg):Prop:=g≠[]∧g.length≤900∧(∀e∈g,Cs e.2)∧∀e∈g,BdP 1000 e.1∧∀p∈e.2,BdP 1000 p
structure ZZ(p:AV)(lens:List Int)(off:Int)(rows:List Row)(fs:List Fg):Prop where
 sq:ZX rows p.m lens off 4
 read:Bv ((Ld p lens off (4*lens.length) rows).flatMap (Ai p)) [] [] []=some fs
 few:((Ld p lens off (4*lens.length) rows).flatMap (Ai p)).length≤900
 bd:∀r∈(Ld p lens off (4*lens.length) rows).flatMap (Ai p),Ik r
 figs:fs.length<64
 ok:∀g∈fs,XJ g
noncomputable def CL(wd cap join limit:Int)(s:Sp):AV:=⟨Cj wd,cap,join,limit,s.M⟩
def EM(ps:List Ln):Prop:=ps.length≤10∧∀l∈ps,l.1.length≤10∧∀p∈l.1,BdP 64 p
structure Kf(s:Sp)(parts qs:List Ln)(wd cap join limit:Int)(lens:List Int)(off:Int)(fs gs:List Fg):Prop where
 sm1:EM parts
 sm2:EM qs
 one:ZZ (CL wd cap join limit spI) lens off (Ao spI parts) fs
 two:ZZ (CL wd cap join limit s) lens off (Ao s qs) gs
 led:∀g∈fs,BF s g≠[]∧(BF s g).length≤900∧∀e∈BF s g,Cs e.2
 same:(gs.map Bu).Perm (fs.map fun g=>Bu (BF s g))
theorem Kg{f:Pt→Pt}(hf:∀p q,f p=f q→p=q):∀(qs:List Pt) (p:Pt),Aj (f p) (qs.map f)=(Aj p qs).map f:=by
 intro qs
 induction qs with
 |nil=>
  intro _
  exact rfl
 |cons q qs ih=>
  intro p
  refine rr map_cons ?_;rewrite[Aj];rewrite[Aj]
  by_cases h:q=p
  ·subst h
   refine rr (if_pos rfl) (rr (if_pos rfl) ?_);exact ih q
  ·refine rr (if_neg h) (rr (if_neg (fun e=>h (hf _ _ e))) ?_);refine rr map_cons (rr (ih q) ?_);rfl
theorem Lq{f:Pt→Pt}(hf:∀p q,f p=f q→p=q)(ps:List Pt):AR (ps.map f)=(AR ps).map f:=by
 rcases ps with _|⟨p,ps⟩
 ·rfl
 ·refine rr map_cons ?_;rewrite[AR];rewrite[AR];refine rr map_cons ?_;rewrite[Kg hf];(with_reducible rfl)
theorem TC{f:Pt→Pt}(hf:∀p q,f p=f q→p=q)(ps:List Pt):Fq (ps.map f)=(Fq ps).map f:=by
 have e:(1<(ps.map f).length∧(ps.map f).getLast?=(ps.map f).head?)↔(1<ps.length∧ps.getLast? =ps.head?):=by
  refine rr (length_map ..) ?_;refine rr (List.getLast?_map) (rr (List.head?_map) ?_)
  refine and_congr_right fun _=>?_
  cases ps.getLast? <;>cases ps.head? <;>simp
  exact⟨hf _ _,fun h=>by refine rr h ?_;rfl⟩
 unfold Fq
 by_cases h:1<ps.length∧ps.getLast? =ps.head?
 ·refine rr (if_pos (e.mpr h)) ?_;refine rr (if_pos h) (rr List.map_dropLast ?_);rfl
 ·refine rr (if_neg (mt e.mp h)) (rr (if_neg h) ?_);rfl
theorem Op{f:Pt→Pt}(hf:∀p q,f p=f q→p=q)(ps:List Pt)(cl:Bool):Ak (ps.map f) cl=(Ak ps cl).map fun l=>(l.1.map f,l.2):=by
 unfold Ak
 refine rr (length_map ..) ?_
 split
 ·rfl
 ·cases cl
  ·simp[Lq hf]
  ·simp[Lq hf,TC hf]
set_option tactic.hygienic true in
theorem Xj{ps:List Pt}(h:ps≠[]):Fq ps≠[]:=by
 unfold Fq
 split
 ·rename_i c
  intro q
  have:=congrArg List.length q
  rw[length_dropLast]at this
  simp at this;omega
 ·exact h
theorem QU{ps:List Pt}{cl:Bool}{q:Ln}(hp:ps≠[])(h:Ak ps cl=some q):q.1≠[]:=by
 unfold Ak at h
 split at h
 ·cases h
 ·simp only[Option.some.injEq]at h
  subst h
  have hd:AR ps≠[]:=by
   rcases ps with _|⟨p,ps⟩
   ·exact absurd rfl hp
   ·simp[AR]
  dsimp only
  split
  ·exact Xj hd
  ·exact hd
theorem QV(r:List Row):∀(ps q:List Pt) (f:List (Option Ln)),Cq (ps.map .l++r) f q=Cq r f (q++ps):=by
 intro ps
 induction ps with
 |nil=>
  intro q f
  exact congrArg (Cq r f) (append_nil q).symm
 |cons p ps ih=>
  intro q f
  exact(ih (q++[p]) f).trans (congrArg (Cq r f) (append_assoc ..))
noncomputable def Dh(s:Sp)(l:Ln):List (Option Ln):=if l.2 then[Ak (l.1.map (led s)) true,none]else[Ak (l.1.map (led s)) false]
theorem Oq{ps:List Pt}(h:ps≠[]):Ak (ps.take 1) false=none:=by
 rcases ps with _|⟨p,ps⟩
 ·exact absurd rfl h
 ·rfl
theorem Kh(s:Sp):∀(parts:List Ln) (f:List (Option Ln)) (ps:List Pt),(∀l∈parts,l.1≠[])→
 Cq (Ao s parts) f ps=f++Ak ps false::parts.flatMap (Dh s):=by
 intro parts
 induction parts with
 |nil=>
  intro f ps _
  exact rfl
 |cons hd parts ih=>
  obtain⟨pts,cl⟩:=hd
  intro f ps h
  have hp:pts≠[]:=h (pts,cl) (.head _)
  have ih:=ih
  have e:Ao s ((pts,cl)::parts)=EC (pts.map (led s))++((if cl then[Row.z]else[])++Ao s parts):=by
   unfold Ao
   refine rr flatMap_cons (rr (append_assoc ..) ?_);rfl
  refine rr e ?_
  obtain⟨p,t,rfl⟩:=exists_cons_of_ne_nil hp
  show Cq ((t.map (led s)).map .l++_) (f++[Ak ps false]) [led s p]=_
  refine rr (QV ..) (rr flatMap_cons ?_)
  have he:[led s p]++t.map (led s)=(p::t).map (led s):=rfl
  refine rr he ?_
  rcases cl with _|_
  ·
   show Cq (Ao s parts) _ _=_
   refine rr (ih _ _ fun l hl=>h l (.tail _ hl)) ?_
   simp[Dh]
  ·
   show Cq (Ao s parts) (_++[_]) (List.take 1 _)=_
   refine rr (ih _ _ fun l hl=>h l (.tail _ hl)) (rr (Oq (by simp)) ?_)
   simp[Dh]
noncomputable def BG(parts:List Ln):List Ln:=parts.filterMap fun l=>Ak l.1 l.2
theorem Io(a b:List (Option Ln)):DJ (a++b)=DJ a++DJ b:=by
 unfold DJ
 refine rr filterMap_append (rr (List.filter_append ..) ?_);rfl
theorem Lr{x:Option Ln}(h:∀l,x=some l→l.1≠[]):DJ [x]=x.toList:=by
 rcases x with _|⟨l⟩
 ·rfl
 ·
  have:=h l rfl
  simp[DJ,this]
theorem Mk{s:Sp}(hs:s.a*s.d-s.b*s.c≠0):∀{parts:List Ln},(∀l∈parts,l.1≠[])→DJ (parts.flatMap (Dh s))=(BG parts).map fun l=>(l.1.map (led s),l.2):=by
 intro parts
 induction parts with
 |nil=>
  intro _
  exact rfl
 |cons hd parts ih=>
  obtain⟨pts,cl⟩:=hd
  intro h
  have hp:pts≠[]:=h (pts,cl) (.head _)
  have ih:=ih fun l hl=>h l (.tail _ hl)
  have hm:Ak (pts.map (led s)) cl=(Ak pts cl).map fun l=>(l.1.map (led s),l.2):=Op (fun p q e=>QJ hs e) pts cl
  have hne:∀l,Ak (pts.map (led s)) cl=some l→l.1≠[]:=fun l e=>QU (by simpa using hp) e
  have one:DJ (Dh s (pts,cl))=(Ak (pts.map (led s)) cl).toList:=by
   unfold Dh
   rcases cl with _|_
   ·exact Lr hne
   ·
    show DJ ([Ak (pts.map (led s)) true]++[none])=_
    refine rr (Io ..) (rr (Lr hne) ?_);refine rr (show DJ [none]=[]from rfl) (rr (append_nil ..) ?_);rfl
  refine rr flatMap_cons ?_;refine rr (Io ..) (rr ih ?_);refine rr one (rr hm ?_)
  unfold BG
  refine rr filterMap_cons ?_
  dsimp only
  cases Ak pts cl<;>rfl
theorem Fv{s:Sp}(hs:s.a*s.d-s.b*s.c≠0){parts:List Ln}(h:∀l∈parts,l.1≠[]):Bs (Ao s parts)=(BG parts).map fun l=>(l.1.map (led s),l.2):=by
 unfold Bs
 refine rr (Kh s parts [] [] h) ?_
 show DJ ([none]++parts.flatMap (Dh s))=_
 refine rr (Io ..) (rr (show DJ [none]=[]from rfl) ?_);refine rr (nil_append ..) (rr (Mk hs h) ?_);rfl
def Adj:Pt→List Pt→Prop
 |_,[]=>True
 |p,q::qs=>q≠p∧Adj q qs
theorem Gd:∀(qs:List Pt) (p:Pt),Adj p (Aj p qs):=by
 intro qs
 induction qs with
 |nil=>
  intro _
  exact trivial
 |cons q qs ih=>
  intro p
  rewrite[Aj]
  by_cases h:q=p
  ·refine rr (if_pos h) ?_;exact ih p
  ·refine rr (if_neg h) ?_;exact⟨h,ih q⟩
theorem GU:∀{qs:List Pt}{p:Pt},Adj p qs→Aj p qs=qs:=by
 intro qs
 induction qs with
 |nil=>
  intro _ _
  exact rfl
 |cons q qs ih=>
  intro p h
  rewrite[Aj];refine rr (if_neg h.1) (rr (ih h.2) ?_);(with_reducible rfl)
theorem TD{x:Pt}:∀{N:List Pt}{p:Pt},Adj p (N++[x])→Adj p N∧x≠Lp p N:=by
 intro N
 induction N with
 |nil=>
  intro _ h
  exact⟨trivial,h.1⟩
 |cons _ _ ih=>
  intro _ h
  exact⟨⟨h.1,(ih h.2).1⟩,(ih h.2).2⟩
theorem Ls:∀(N:List Pt) (p:Pt),(p::N).getLast?=some (Lp p N):=by
 intro N
 induction N with
 |nil=>
  intro _
  exact rfl
 |cons q qs ih=>
  intro _
  exact getLast?_cons_cons.trans (ih q)
theorem QW(p x:Pt)(N:List Pt):Fq (p::(N++[x]))=if x=p then p::N else p::(N++[x]):=by
 have l:1<(p::(N++[x])).length:=by refine rr length_cons (rr length_append ?_);exact Nat.succ_lt_succ (le_add_left 1 N.length)
 unfold Fq
 refine rr (Ls ..) ?_;refine rr (GE ..) (rr (head?_cons) ?_)
 by_cases h:x=p
 ·refine rr (if_pos ⟨l,congrArg some h⟩) (rr (if_pos h) ?_);refine rl cons_append (rr List.dropLast_concat ?_);rfl
 ·refine rr (if_neg fun q=>h (Option.some.inj q.2)) (rr (if_neg h) ?_);rfl
inductive aZ(p:Pt)(M:List Pt)(T:List Pt):Prop
 |mk (N:List Pt) (e:T=p::N) (a:Adj p N) (l:N≠[]→p≠Lp p N) (s:(p::N).Sublist (p::M))
theorem Jj(p:Pt){M:List Pt}(h:Adj p M):aZ p M (Fq (p::M)):=by
 rcases List.eq_nil_or_concat M with rfl|⟨N,x,e⟩
 ·exact⟨[],rfl,h,fun q=>absurd rfl q,.refl _⟩
 ·rw[List.concat_eq_append]at e
  subst e
  obtain⟨a,ne⟩:=TD h
  refine rr (QW ..) ?_
  by_cases e:x=p
  ·refine rr (if_pos e) ?_
   exact⟨N,rfl,a,fun _=>e▸ne,(List.sublist_append_left N [x]).cons_cons p⟩
  ·refine rr (if_neg e) ?_
   exact⟨_,rfl,h,fun _=>by refine rr (GE ..) ?_;exact fun q=>e q.symm,.refl _⟩
theorem Xk{p:Pt}{N:List Pt}(l:N≠[]→p≠Lp p N):Fq (p::N)=p::N:=by
 unfold Fq
 refine rr (Ls ..) ?_
 refine if_neg fun q=>l (fun e=>?_) (Option.some.inj q.2).symm
 subst e
 exact absurd q.1 (lt_irrefl 1)
theorem Os(p:Pt){M:List Pt}(h:Adj p M):Fq (AR (Fq (p::M)))=Fq (p::M):=by
 obtain⟨N,e,a,l,_⟩:=Jj p h
 refine rr e ?_;refine rr (show AR (p::N)=p::N from congrArg (p:: ·) (GU a)) (rr (Xk l) ?_);rfl
theorem Lu{pts:List Pt}{cl:Bool}(h:pts≠[]){l:Ln}(e:Ak pts cl=some l):(Ak l.1 l.2).getD (l.1,l.2)=l:=by
 obtain⟨p,qs,rfl⟩:=exists_cons_of_ne_nil h
 have a:=Gd qs p
 rcases cl with _|_
 ·
  have e:(if(p::qs).length<2∧false=false then none else some (AR (p::qs),false))=some l:=e
  by_cases c:(p::qs).length<2∧false=false
  ·rw[if_pos c]at e;cases e
  ·rw[if_neg c]at e
   obtain rfl:=Option.some.inj e
   show(if(AR (p::qs)).length<2∧false=false then none else some (AR (AR (p::qs)),false)).getD (AR (p::qs),false)=(AR (p::qs),false)
   refine rr (show AR (AR (p::qs))=AR (p::qs)from congrArg (p:: ·) (GU a)) ?_
   split
   ·rfl
   ·rfl
 ·
  obtain rfl:(Fq (AR (p::qs)),true)=l:=Option.some.inj ((if_neg fun q=>Bool.noConfusion q.2).symm.trans e)
  show((if _∧true=false then none else some (Fq (AR (Fq (AR (p::qs)))),true)):Option Ln).getD _=_
  refine rr (if_neg fun q=>Bool.noConfusion q.2) ?_
  exact congrArg (·,true) (Os p a)
theorem Jk{s:Sp}(hs:s.a*s.d-s.b*s.c≠0){parts:List Ln}(h:∀l∈parts,DB l.1 l.2):(Bs (Ao s parts)).map (BQ s.M)=BG parts:=by
 refine rr (Fv hs fun l hl=>length_pos_iff.mp (h l hl).1) (rr map_map ?_)
 refine(map_congr_left (g:=id) fun l hl=>?_).trans (map_id _)
 obtain⟨q,hq,e⟩:=mem_filterMap.mp hl
 have inv:(l.1.map (led s)).map (MQ s.M)=l.1:=by
  refine rr map_map ?_
  exact(map_congr_left fun p _=>Kd hs p).trans (map_id _)
 show BQ s.M (l.1.map (led s),l.2)=l
 unfold BQ
 dsimp only
 refine rr inv ?_
 exact Lu (length_pos_iff.mp (h q hq).1) e
/-! the parts,in whatever way they are bj-/
def QX(u:Int)(l:Ln):Prop:=DB l.1 l.2∧∀p∈l.1,MR u 3 p
def Ml(u:Int)(l:Ln):Prop:=DB l.1 l.2∧l.1.length≤2∧∀p∈l.1,MR u 1 p
def Two(u:Int)(parts:List Ln):Prop:=∃a,QX u a∧(parts=[a]∨∃b,Ml u b∧(parts=[a,b]∨parts=[b,a]))
theorem ZA{u:Int}{parts:List Ln}(h:JR u parts):Two u parts:=by
 obtain⟨a,rest,rfl,⟨a1,a2,a3⟩,a4,h⟩:=h
 refine⟨a,⟨⟨a1,a2,a4⟩,a3⟩,?_⟩
 rcases h with rfl|⟨b,rfl,b1,b2,b3⟩
 ·exact .inl rfl
 ·exact .inr ⟨b,⟨⟨b1,by exact Ac b2,fun _=>by exact Ac b2⟩,b2,b3⟩,.inl rfl⟩
theorem Ki{d:Bool}{l l':Ln}(h:Dc d l l'):l'.2=l.2∧l'.1.length=l.1.length∧∀p∈l'.1,p∈l.1:=by
 obtain⟨h1,_,q,h3,h4⟩:=h
 have hq:q.length=l.1.length∧∀p∈q,p∈l.1:=by
  rcases h3 with rfl|rfl
  ·exact⟨rfl,fun _ h=>h⟩
  ·exact⟨by simp,fun p h=>List.mem_reverse.mp h⟩
 rcases h4 with e|⟨_,k,e⟩
 ·refine rr e ?_;exact⟨h1,hq.1,hq.2⟩
 ·refine rr e ?_
  refine⟨h1,?_,fun p h=>hq.2 p ?_⟩
  ·refine rl hq.1 ?_;simp;lia
  ·rcases mem_append.mp h with h|h
   ·exact mem_of_mem_drop h
   ·exact mem_of_mem_take h
theorem DB.ret{d:Bool}{l l':Ln}(h:Dc d l l')(o:DB l.1 l.2):DB l'.1 l'.2:=by
 obtain⟨h1,h2,_⟩:=Ki h
 unfold DB
 refine rr h1 (rr h2 ?_);exact o
theorem QX.ret{u:Int}{d:Bool}{l l':Ln}(h:Dc d l l')(o:QX u l):QX u l':=⟨o.1.ret h,fun p hp=>o.2 p ((Ki h).2.2 p hp)⟩
theorem Ml.ret{u:Int}{d:Bool}{l l':Ln}(h:Dc d l l')(o:Ml u l):Ml u l':=⟨o.1.ret h,by refine rr ((Ki h).2.1) ?_;exact o.2.1,fun p hp=>o.2.2 p ((Ki h).2.2 p hp)⟩
theorem Two.ret{u:Int}{d:Bool}{parts qs:List Ln}(h:Two u parts)(r:KS d parts qs):Two u qs:=by
 obtain⟨rs,hr,hq⟩:=r
 obtain⟨a,ha,h⟩:=h
 have k:Two u rs∧Two u rs.reverse:=by
  rcases h with rfl|⟨b,hb,rfl|rfl⟩
  ·cases hr with
   |cons h1 hr=>
    cases hr
    exact⟨⟨_,ha.ret h1,.inl rfl⟩,⟨_,ha.ret h1,.inl rfl⟩⟩
  ·cases hr with
   |cons h1 hr=>
    cases hr with
    |cons h2 hr=>
     cases hr
     exact⟨⟨_,ha.ret h1,.inr ⟨_,hb.ret h2,.inl rfl⟩⟩,⟨_,ha.ret h1,.inr ⟨_,hb.ret h2,.inr rfl⟩⟩⟩
  ·cases hr with
   |cons h1 hr=>
    cases hr with
    |cons h2 hr=>
     cases hr
     exact⟨⟨_,ha.ret h2,.inr ⟨_,hb.ret h1,.inr rfl⟩⟩,⟨_,ha.ret h2,.inr ⟨_,hb.ret h1,.inl rfl⟩⟩⟩
 rcases hq with rfl|rfl
 ·exact k.1
 ·exact k.2
theorem Ml.near{u:Int}{l:Ln}(h:Ml u l):∀p∈l.1,MR u 3 p:=fun p hp=>by
 obtain⟨x,y,e,h1,h2,h3,h4⟩:=h.2.2 p hp
 exact⟨x,y,e,by exact Ab h1,by exact Ab h2,by exact Ab h3,by exact Ab h4⟩
theorem Two.each{u:Int}{parts:List Ln}(h:Two u parts):parts.length≤2∧∀l∈parts,DB l.1 l.2∧∀p∈l.1,MR u 3 p:=by
 obtain⟨a,ha,h⟩:=h
 rcases h with rfl|⟨b,hb,rfl|rfl⟩
 ·exact⟨by simp,fun l hl=>by refine rr (mem_singleton.mp hl) ?_;exact ha⟩
 ·refine⟨by simp,fun l hl=>?_⟩
  rcases mem_cons.mp hl with rfl|hl
  ·exact ha
  ·refine rr (mem_singleton.mp hl) ?_;exact⟨hb.1,hb.near⟩
 ·refine⟨by simp,fun l hl=>?_⟩
  rcases mem_cons.mp hl with rfl|hl
  ·exact⟨hb.1,hb.near⟩
  ·refine rr (mem_singleton.mp hl) ?_;exact ha
theorem Np{u far:Int}(hu:1≤u){p:Pt}(h:MR u far p): -(far*u)≤p.1∧p.1≤far*u∧ -(far*u)≤p.2∧p.2≤far*u:=by
 obtain⟨x,y,rfl,h1,h2,h3,h4⟩:=h
 dsimp only
 have a:=mul_le_mul_of_nonneg_right h2 (show 0≤u by exact Ab hu)
 have b:=mul_le_mul_of_nonneg_right h1 (show 0≤u by exact Ab hu)
 have c:=mul_le_mul_of_nonneg_right h4 (show 0≤u by exact Ab hu)
 have d:=mul_le_mul_of_nonneg_right h3 (show 0≤u by exact Ab hu)
 rw[neg_mul]at b d
 exact⟨b,a,d,c⟩
theorem Fw{u:Int}(hu:u=1∨u=90∨u=1000){p:Pt}(h:MR u 3 p):BdP 14 p:=by
 obtain⟨x,y,rfl,h1,h2,h3,h4⟩:=h
 have bu:Bd 10 u:=.of (b:=1000) (HX hu).1 (HX hu).2
 exact⟨(Bd.mul (Bd.of (k:=2) (b:=3) h1 h2) bu).up,(Bd.mul (Bd.of (k:=2) (b:=3) h3 h4) bu).up⟩
theorem UI{a b:Pt}{r k:Int}(hr:0≤r)(hk:0<k)(h1: -r≤b.1-a.1)(h2:b.1-a.1≤r)(h3: -r≤b.2-a.2)(h4:b.2-a.2≤r)(hq:2*(r*r)<k*k):Ck (a,b)<k:=by
 have sq:∀x:Int,-r≤x→x≤r→x*x≤r*r:=by
  intro x h1 h2
  have:=mul_nonneg (show 0≤r-x by exact Ab h2) (show 0≤r+x by exact Ab h1)
  have e:(r-x)*(r+x)=r*r-x*x:=by grind
  exact Bb this (Int.le_of_eq e)
 have hw:Ew a b≤2*(r*r):=by
  have:=sq _ h1 h2
  have:=sq _ h3 h4
  unfold Ew;omega
 unfold Ck
 dsimp only
 by_cases c:Ew a b<2
 ·refine rr ((Br _).1 c) ?_
  have h0:0≤Ew a b:=by
   unfold Ew
   have a1:0≤(b.1-a.1)*(b.1-a.1):=by refine rl (natAbs_mul_self (a:=b.1-a.1)) ?_;exact(Ab (natCast_nonneg ((b.fst-a.fst).natAbs*(b.fst-a.fst).natAbs)))
   have a2:0≤(b.2-a.2)*(b.2-a.2):=by refine rl (natAbs_mul_self (a:=b.2-a.2)) ?_;exact(Ab (natCast_nonneg ((b.snd-a.snd).natAbs*(b.snd-a.snd).natAbs)))
   exact Bb a1 a2
  by_cases hk1:k=1
  ·subst hk1;exact Bb hw hq
  ·lia
 ·obtain⟨p1,p2,_⟩:=(Br (Ew a b)).2 (by exact Ab (not_lt.mp c))
  rcases Int.lt_or_le (CP (Ew a b)) k with q|q
  ·exact q
  ·have:=Int.mul_le_mul q q (by exact Ab hk) (by exact Ab p1)
   lia
theorem Nq{u far:Int}(hu:1≤u)(hf:far=3∨far=1){a b:Pt}(ha:MR u far a)(hb:MR u far b):Ck (a,b)<3*far*u:=by
 have h1:=Np hu ha
 have h2:=Np hu hb
 have sq:0<u*u:=mul_pos (by exact Ab hu) (by exact Ab hu)
 rcases hf with rfl|rfl
 ·exact UI (r:=6*u) (by exact Bb h1.1 h1.2.1) (by lia) (by exact Bb h1.2.1 h2.1) (by exact Bb h1.1 h2.2.1) (by exact Bb h1.2.2.2 h2.2.2.1) (by exact Bb h1.2.2.1 h2.2.2.2) (by grind)
 ·exact UI (r:=2*u) (by exact Bb hu hu) (by lia) (by exact Bb h1.2.1 h2.1) (by exact Bb h1.1 h2.2.1) (by exact Bb h1.2.2.2 h2.2.2.1) (by exact Bb h1.2.2.1 h2.2.2.2) (by grind)
/-! the dashes begin within a dash-/
set_option tactic.hygienic true in
theorem TF{lens:List Int}{way:Int}(hn:∀x∈lens,0≤x)(hw2:way<2*lens.sum):∀(f num:Nat) (left rem:Int),f+num=2*lens.length→0≤left→0≤rem→way-rem+left=DZ lens 0 (num+1)→0≤(goF lens f num left rem).2:=by
 intro f
 induction f with
 |zero=>
  intro num left rem hf hl hr hp
  have hnum:num=2*lens.length:=by exact(Nat.le_antisymm (Ac (le_of_eq hf)) (Ac (le_of_eq hf.symm)))
  have big:2*lens.sum≤DZ lens 0 (num+1):=by
   have h1:=HZ hn 0 num 1
   have h2:=Fr lens 0 2
   rw[←hnum]at h2
   have h3:((2:Nat):Int)*lens.sum=2*lens.sum:=rfl
   exact LA h1 (Int.le_of_eq h2.symm) (Int.le_of_eq h3.symm)
  show 0≤left-rem
  exact LA hw2 (Int.le_of_eq hp.symm) big
 |succ f ih=>
  intro num left rem hf hl hr hp
  unfold goF
  split
  ·rename_i c
   refine ih (num+1) _ _ (by exact(Nat.le_antisymm (Ac (le_of_eq hf)) (Ac (le_of_eq hf.symm)))) (Ch hn _) (by exact Ab c.2) ?_
   rewrite[DZ];refine rr (show 0+(num+1)=num+1 by exact DX) ?_
   exact(le_antisymm (Ab (Int.le_of_eq hp)) (Ab (Int.le_of_eq hp.symm)))
  ·show 0≤left-rem
   lia
set_option tactic.hygienic true in
theorem GF{lens:List Int}(off:Int)(hn:∀x∈lens,0≤x)(hs:lens=[]∨0<lens.sum):0≤(AN lens off).2:=by
 unfold AN
 split
 ·exact Int.le_refl _
 ·rename_i hne
  have hs:=hs.resolve_left hne
  have hf:1≤(1+(lens.length:Int).fmod 2)∧(1+(lens.length:Int).fmod 2)≤2:=by
   refine rr (fmod_eq_emod_of_nonneg _ (by decide)) ?_;lia
  have hpos:0<lens.sum*(1+(lens.length:Int).fmod 2):=mul_pos hs (by exact Ab hf.1)
  have hle:lens.sum*(1+(lens.length:Int).fmod 2)≤2*lens.sum:=by
   rewrite[Int.mul_comm 2];exact Int.mul_le_mul_of_nonneg_left hf.2 (by exact Ab hs)
  refine TF (way:=off.fmod (lens.sum*(1+(lens.length:Int).fmod 2))) hn ?_ _ 0 _ _ DX (Ch hn 0) ?_ (by simp[DZ])
  ·refine rr (fmod_eq_emod_of_nonneg _ (by exact Ab hpos)) ?_;exact Int.lt_of_lt_of_le (Int.emod_lt_of_pos _ hpos) hle
  ·refine rr (fmod_eq_emod_of_nonneg _ (by exact Ab hpos)) ?_;exact emod_nonneg _ (by exact(ne_of_gt hpos))
theorem GG{u:Int}(hu:1≤u){lens:List Int}(h:Ey u lens):∀x∈lens,0≤x:=fun x hx=>by
 rcases h.2.1 x hx with rfl|rfl|rfl<;>omega
theorem TG{u:Int}(hu:1≤u):∀{lens:List Int},(∀x∈lens,x=0∨x=8*u∨x=11*u)→0≤lens.sum∧lens.sum≤lens.length*(11*u)∧(0<lens.sum→8*u≤lens.sum):=by
 intro lens
 induction lens with
 |nil=>
  intro _
  exact⟨Int.le_refl 0,by refine rr length_nil ?_;exact Int.le_of_eq (Int.zero_mul _).symm,fun h=>absurd h (by decide)⟩
 |cons x xs ih=>
  intro h
  obtain⟨h1,h2,h3⟩:=ih fun y hy=>h y (.tail _ hy)
  refine rr sum_cons ?_;refine rr length_cons (rr (Int.natCast_succ ..) ?_);refine rr (add_mul ..) (rr (one_mul ..) ?_)
  generalize(xs.length:Int)*(11*u)=m at h2⊢
  generalize xs.sum=s at h1 h2 h3⊢
  rcases h x (.head _)with rfl|rfl|rfl
  ·refine rr (Int.zero_add ..) ?_;exact⟨h1,by lia,h3⟩
  ·exact⟨by lia,by lia,fun _=>by exact(Ab h1)⟩
  ·exact⟨by lia,by exact(Ab h2),fun _=>by lia⟩
theorem Kj{u:Int}(hu:1≤u){lens:List Int}(h:Ey u lens)(hne:lens≠[]):8*u≤lens.sum∧lens.sum≤33*u:=by
 obtain⟨h1,h2,h3⟩:=h
 obtain⟨_,k2,k3⟩:=TG hu h2
 have u11:0≤11*u:=by lia
 have:=mul_le_mul_of_nonneg_right (show(lens.length:Int)≤3 by exact(Nat.ToInt.of_le rfl rfl h1)) u11
 exact⟨k3 (h3.resolve_left hne),by exact(Bb k2 this)⟩
theorem QY{N:List Pt}{p:Pt}(h:Adj p N):∀e∈(p::N).zip N,e.1≠e.2:=by
 induction N generalizing p with
 |nil=>intro e he;cases he
 |cons q qs ih=>
  intro e he
  rcases mem_cons.mp he with rfl|he
  ·exact fun x=>h.1 x.symm
  ·exact ih h.2 e he
theorem Xl{x:Pt}:∀{N:List Pt}{p:Pt},Adj p N→x≠Lp p N→Adj p (N++[x]):=by
 intro N
 induction N with
 |nil=>
  intro _ _ h
  exact⟨h,trivial⟩
 |cons _ _ ih=>
  intro _ a h
  exact⟨a.1,ih a.2 h⟩
structure XK(pts:List Pt)(cl:Bool)(l:Ln):Prop where
 one:1≤l.1.length
 len:l.1.length≤pts.length
 sub:∀p∈l.1,p∈pts
 fl:l.2=cl
 apart:2≤l.1.length→∀e∈An l,e.1≠e.2
theorem DK{pts:List Pt}{cl:Bool}(h:DB pts cl){l:Ln}(e:Ak pts cl=some l):XK pts cl l:=by
 obtain⟨p,qs,rfl⟩:=exists_cons_of_ne_nil (length_pos_iff.mp h.1)
 have a:=Gd qs p
 have s:(p::Aj p qs).Sublist (p::qs):=FS (p::qs)
 rcases cl with _|_
 ·
  have e:(if(p::qs).length<2∧false=false then none else some (AR (p::qs),false))=some l:=e
  by_cases c:(p::qs).length<2∧false=false
  ·rw[if_pos c]at e;cases e
  ·rw[if_neg c]at e
   obtain rfl:=Option.some.inj e
   exact⟨le_add_left 1 (Aj p qs).length,s.length_le,fun x hx=>s.subset hx,rfl,fun _=>QY a⟩
 ·
  obtain rfl:(Fq (AR (p::qs)),true)=l:=Option.some.inj ((if_neg fun q=>Bool.noConfusion q.2).symm.trans e)
  obtain⟨N,eT,aT,lT,sT⟩:=Jj p a
  have eT:Fq (AR (p::qs))=p::N:=eT
  refine rr eT ?_
  refine⟨le_add_left 1 N.length,(sT.trans s).length_le,fun x hx=>(sT.trans s).subset hx,rfl,fun h2=>?_⟩
  exact QY (Xl aT (lT fun q=>absurd h2 (q▸lt_irrefl 1)))
theorem XK.basic{pts:List Pt}{cl:Bool}{l:Ln}(h:XK pts cl l)(o:DB pts cl):1≤l.1.length∧l.1.length≤4∧(∀p∈l.1,p∈pts)∧l.2=cl:=⟨h.one,le_trans h.len o.2.1,h.sub,h.fl⟩
theorem QZ(l:Ln):(An l).length≤if l.2 then l.1.length else l.1.length-1:=by
 unfold An Az
 refine rr length_zip (rr length_drop ?_)
 refine le_trans (min_le_right _ _) ?_
 split
 ·refine rr length_append (rr length_take ?_)
  exact Nat.sub_le_of_le_add (Nat.add_le_add_left (min_le_left 1 _) _)
 ·exact le_refl _
theorem XK.edges{pts:List Pt}{cl:Bool}{l:Ln}(h:XK pts cl l)(o:DB pts cl)(h2:2≤l.1.length):(∀e∈An l,e.1≠e.2∧e.1∈pts∧e.2∈pts)∧(An l).length≤3∧(pts.length≤2→(An l).length≤2):=by
 have c:=QZ l
 have n:=h.len
 have o2:=o.2.1
 refine⟨fun e he=>⟨h.apart h2 e he,h.sub _ (Hn he).1,h.sub _ (Hn he).2⟩,?_,fun k=>?_⟩
 ·rcases cl with _|_
  ·rw[h.fl,if_neg Bool.false_ne_true]at c;exact le_trans c (Nat.sub_le_sub_right (le_trans n o2) 1)
  ·rw[h.fl,if_pos rfl]at c;exact le_trans c (le_trans n (o.2.2 rfl))
 ·refine le_trans c (le_trans ?_ (le_trans n k))
  split
  ·exact le_refl _
  ·exact sub_le _ _
theorem UJ{k:Int}:∀{es:List (Pt×Pt)},(∀e∈es,Ck e<k)→(es.map Ck).sum≤es.length*(k-1):=by
 intro es
 induction es with
 |nil=>
  intro _
  simp
 |cons e es ih=>
  intro h
  have h1:=h e (.head _)
  have h2:=ih fun e he=>h e (.tail _ he)
  simp only[map_cons,sum_cons,length_cons]
  have:((es.length+1:Nat):Int)*(k-1)=es.length*(k-1)+(k-1):=by refine rr (Int.natCast_add ..) (rr (add_mul ..) ?_);simp
  exact LA h1 h2 (Int.le_of_eq this.symm)
theorem ZB{u:Int}(hu:u=1∨u=90∨u=1000){lens:List Int}(hl:Ey u lens)(hne:lens≠[]){off:Int}{pts:List Pt}{cl:Bool}(o:DB pts cl)(hp:∀p∈pts,MR u 3 p){l:Ln}(e:Ak pts cl=some l):l.1.length=1∨KY lens off 4 l:=by
 have u1:1≤u:=by rcases hu with rfl|rfl|rfl<;>decide
 have N:=DK o e
 obtain⟨b1,b2,b3,b4⟩:=N.basic o
 by_cases h1:l.1.length=1
 ·exact .inl h1
 right
 obtain⟨e1,e2,_⟩:=N.edges o (by lia)
 have hs:=Kj u1 hl hne
 have z:=hl.1
 refine⟨by lia,by exact Ac b2,fun p hp'=>Fw hu (hp p (b3 p hp')),fun q hq=>(e1 q hq).1,?_,by lia⟩
 have:=UJ (k:=9*u) (es:=An l) fun q hq=>by
  obtain⟨_,m1,m2⟩:=e1 q hq
  exact Nq (far:=3) u1 (.inl rfl) (hp _ m1) (hp _ m2)
 have hm:((An l).length:Int)*(9*u-1)≤3*(9*u-1):=mul_le_mul_of_nonneg_right (by exact(Nat.ToInt.of_le rfl rfl e2)) (by lia)
 have:((4:Nat):Int)*lens.sum=4*lens.sum:=rfl
 lia
theorem bg{u:Int}(hu:u=1∨u=90∨u=1000){lens:List Int}(hl:Ey u lens)(hne:lens≠[]){off:Int}{pts:List Pt}{cl:Bool}(o:DB pts cl)(h2:pts.length≤2)(hp:∀p∈pts,MR u 1 p){l:Ln}(e:Ak pts cl=some l):l.1.length=1∨(KY lens off 1 l∧(An l).length≤2):=by
 have u1:1≤u:=by rcases hu with rfl|rfl|rfl<;>decide
 have N:=DK o e
 obtain⟨b1,b2,b3,b4⟩:=N.basic o
 by_cases h1:l.1.length=1
 ·exact .inl h1
 right
 obtain⟨e1,e2,e3⟩:=N.edges o (by lia)
 have hs:=Kj u1 hl hne
 have z:=hl.1
 have e3:=e3 h2
 have near3:∀p∈pts,MR u 3 p:=fun p hp'=>by
  obtain⟨x,y,e,h1,h2,h3,h4⟩:=hp p hp'
  exact⟨x,y,e,by exact Ab h1,by exact Ab h2,by exact Ab h3,by exact Ab h4⟩
 refine⟨⟨by lia,by exact Ac b2,fun p hp'=>Fw hu (near3 p (b3 p hp')),fun q hq=>(e1 q hq).1,?_,by lia⟩,e3⟩
 have:=UJ (k:=3*u) (es:=An l) fun q hq=>by
  obtain⟨_,m1,m2⟩:=e1 q hq
  have:=Nq (far:=1) u1 (.inr rfl) (hp _ m1) (hp _ m2)
  simpa using this
 have hm:((An l).length:Int)*(3*u-1)≤2*(3*u-1):=mul_le_mul_of_nonneg_right (by lia) (by exact LA u1 u1 u1)
 have:((1:Nat):Int)*lens.sum=lens.sum:=by simp
 lia
/-! how many figures a line gives-/
noncomputable def Lz(l:Ln):Nat:=if l.1.length=1 then 1 else if l.2 then 2*l.1.length else 2*l.1.length-1
theorem Ht(p:AV)(a h b:Pt):(Am p a h b).length≤1:=by
 unfold Am
 dsimp only
 split
 ·simp
 ·split
  ·simp
  ·split<;>simp
theorem Ra(p:AV)(a h:Pt):(Bj p a h).length≤1:=by
 unfold Bj
 split
 ·simp
 ·split<;>simp
theorem Rb(p:AV):∀es:List (Pt×Pt×Pt),(es.flatMap fun q=>Am p q.1 q.2.1 q.2.2).length≤es.length:=by
 intro es
 induction es with
 |nil=>
  simp
 |cons e es ih=>
  have h1:=ih
  have h2:=Ht p e.1 e.2.1 e.2.2
  simp only[flatMap_cons,length_append,length_cons];exact BM h1 h2
theorem Ot(as bs cs:List Pt):(Qg as bs cs).length≤cs.length:=le_trans (le_of_eq length_zip) (le_trans (min_le_right ..) (le_trans (le_of_eq length_zip) (min_le_right ..)))
set_option tactic.hygienic true in
theorem TH(p:AV){l:Ln}(h:1≤l.1.length):(AI p l).length≤Lz l:=by
 unfold AI Lz
 split
 ·split<;>simp
 ·rename_i h1
  dsimp only
  refine rr length_append ?_;refine rr length_append (rr (length_map ..) ?_)
  have hj:=Rb p (Qg l.1 (l.1.drop 1) (l.1.drop 2))
  have hz:=Ot l.1 (l.1.drop 1) (l.1.drop 2)
  rw[length_drop]at hz
  have he:(Dz p l).length≤2:=by
   unfold Dz
   dsimp only
   split
   ·refine rr length_append ?_
    have a:=Ht p (at' l.1 (l.1.length-1)) (at' l.1 0) (at' l.1 1)
    split
    ·have b:=Ht p (at' l.1 (l.1.length-2)) (at' l.1 (l.1.length-1)) (at' l.1 0);exact BM a b
    ·have b:=Ht p (at' l.1 0) (at' l.1 1) (at' l.1 0);exact BM a b
   ·refine rr length_append ?_
    have a:=Ra p (at' l.1 1) (at' l.1 0)
    have b:=Ra p (at' l.1 (l.1.length-2)) (at' l.1 (l.1.length-1))
    exact BM a b
  cases c:l.2 with
  |true=>
   simp only[if_true,length_zip,length_drop,length_append,length_take]
   lia
  |false=>
   simp only[false_eq_true,if_false,length_zip,length_drop]
   lia
/-! what is drawn:few,whole,bounded-/
theorem Ip:∀(qs:List Pt) (p:Pt),∀e∈(p::Aj p qs).zip (Aj p qs),e.1≠e.2:=by
 intro qs
 induction qs with
 |nil=>
  intro p e h
  simp[Aj]at h
 |cons q qs ih=>
  intro p e h
  rw[Aj]at h
  by_cases c:q=p
  ·rw[if_pos c]at h;exact ih p e h
  ·rw[if_neg c]at h
   rw[List.zip_cons_cons]at h
   rcases mem_cons.mp h with rfl|h
   ·exact fun z=>c z.symm
   ·exact ih q e h
theorem Mm(g:List Pt):∀e∈An (AR g,false),e.1≠e.2:=by
 intro e h
 rcases g with _|⟨p,g⟩
 ·simp[An,Az,AR]at h
 ·
  have h:e∈(p::Aj p g).zip (Aj p g):=by simpa[An,Az,AR]using h
  exact Ip g p e h
theorem Rc{g:List Pt}(h:1≤g.length):1≤(AR g).length:=by
 rcases g with _|⟨p,g⟩
 ·simp at h
 ·simp[AR]
def Ge(l:Ln):Prop:=1≤l.1.length∧l.1.length≤22∧(∀p∈l.1,BdP 60 p)∧(2≤l.1.length→∀e∈An l,e.1≠e.2)
noncomputable def EW(ls:List Ln):Nat:=(ls.map Lz).sum
theorem Hu(a b:List Ln):EW (a++b)=EW a+EW b:=by simp[EW]
theorem Xm{l:Ln}(h:1≤l.1.length):1≤Lz l:=by
 unfold Lz
 split
 ·exact DX
 ·split<;>lia
theorem TJ:∀{ls:List Ln},(∀l∈ls,Ge l)→ls.length≤EW ls:=by
 intro ls
 induction ls with
 |nil=>
  intro _
  simp
 |cons l ls ih=>
  intro h
  have h1:=Xm (h l (.head _)).1
  have h2:=ih fun q hq=>h q (.tail _ hq)
  have e:EW (l::ls)=Lz l+EW ls:=by simp[EW]
  simp only[length_cons];exact Ox h1 h2 (le_of_eq e.symm)
theorem Rd(p:AV):∀{ls:List Ln},(∀l∈ls,Ge l)→(ls.flatMap (AI p)).length≤EW ls:=by
 intro ls
 induction ls with
 |nil=>
  intro _
  simp
 |cons l ls ih=>
  intro h
  have h1:=TH p (h l (.head _)).1
  have h2:=ih fun q hq=>h q (.tail _ hq)
  have e:EW (l::ls)=Lz l+EW ls:=by simp[EW]
  simp only[flatMap_cons,length_append];exact Ox h1 h2 (le_of_eq e.symm)
theorem Ou:∀{gs:List (List Pt)}{B:Nat},(∀g∈gs,2≤g.length∧∀p∈g,BdP 60 p)→(∀g∈gs,2*g.length-1≤B)→B≤44→
 EW ((gs.map fun g=>Ak g false).filterMap id)≤Bt gs∧∀l∈(gs.map fun g=>Ak g false).filterMap id,Ge l:=by
 intro gs
 induction gs with
 |nil=>
  intro _ _ _ _
  simp[EW]
 |cons g gs ih=>
  intro B h hB hB2
  obtain⟨g1,g2⟩:=h g (.head _)
  have g3:=hB g (.head _)
  obtain⟨r1,r2⟩:=ih (fun q hq=>h q (.tail _ hq)) (fun q hq=>hB q (.tail _ hq)) hB2
  have e:Ak g false=some (AR g,false):=by
   unfold Ak
   refine rr (if_neg (by lia)) ?_;rfl
  have hl:=(FS g).length_le
  have hp:=Rc (g:=g) (by exact Ac g1)
  refine rr map_cons ?_;refine rr e (rr filterMap_cons ?_)
  show EW ((AR g,false)::_)≤_∧∀l∈(AR g,false)::_,_
  refine⟨?_,fun l hl'=>?_⟩
  ·have e1:EW ((AR g,false)::(gs.map fun g=>Ak g false).filterMap id)=Lz (AR g,false)+EW ((gs.map fun g=>Ak g false).filterMap id):=by simp[EW]
   have e2:Bt (g::gs)=(2*g.length-1)+Bt gs:=by simp[Bt]
   have e3:Lz (AR g,false)≤2*(AR g).length-1:=by
    unfold Lz
    dsimp only
    split
    ·lia
    ·simp
   lia
  ·rcases mem_cons.mp hl' with rfl|hl'
   ·exact⟨hp,by dsimp only;lia,fun p hp'=>g2 p ((FS g).subset hp'),fun _=>Mm g⟩
   ·exact r2 l hl'
set_option tactic.hygienic true in
theorem Iq{lens:List Int}{off:Int}{q N:Nat}{l:Ln}(hN:q*lens.length≤N)(hn:∀x∈lens,0≤x)(hL:0≤(AN lens off).2)(ok:KY lens off q l)(h4:l.1.length≤4){B:Nat}
 (hB:2+3*(q*lens.length)+2*(An l).length≤B) (hB2:B≤44):EW ((Bl lens off N l).filterMap id)≤B∧∀l'∈(Bl lens off N l).filterMap id,Ge l':=by
 obtain⟨c1,c2⟩:=La hN hn hL ok
 have two:=ok.two
 unfold Bl
 refine rr (if_neg (by lia)) ?_
 split
 ·rename_i hc
  refine⟨?_,fun l' h=>?_⟩
  ·have e:Bt (Je lens off N l)=2*(l.1.length+1)-1:=by
    refine rr hc.2 ?_
    simp[Bt]
    lia
   have e2:EW (([some l]:List (Option Ln)).filterMap id)=Lz l:=by simp[EW]
   refine rr e2 ?_
   unfold Lz
   refine rr (if_neg (by lia)) ?_
   split<;>lia
  ·have h:l'=l:=by simpa using h
   subst h
   exact⟨by exact Ac two,by exact Ac h4,fun p hp=>(ok.bd p hp).up,fun _=>ok.ne⟩
 ·obtain⟨r1,r2⟩:=Ou (gs:=Je lens off N l) (B:=B) c2 (fun g hg=>by have:=KZ hg;exact Ox hB c1 this) hB2
  exact⟨by exact Ox hB c1 r1,r2⟩
theorem TK{u:Int}(hu:u=1∨u=90∨u=1000){lens:List Int}(hl:Ey u lens)(hne:lens≠[]){off:Int}{a:Ln}(ha:QX u a):EW (((BG [a]).flatMap (Bl lens off (4*lens.length))).filterMap id)≤44∧∀l'∈((BG [a]).flatMap (Bl lens off (4*lens.length))).filterMap id,Ge l':=by
 have u1:1≤u:=by rcases hu with rfl|rfl|rfl<;>decide
 unfold BG
 refine rr filterMap_cons ?_
 cases e:Ak a.1 a.2 with
 |none=>simp[EW]
 |some l=>
  have N:=DK ha.1 e
  obtain⟨b1,b2,b3,b4⟩:=N.basic ha.1
  simp only[filterMap_nil,flatMap_cons,flatMap_nil,append_nil]
  rcases ZB hu hl hne (off:=off) ha.1 ha.2 e with h1|ok
  ·unfold Bl
   refine rr (if_pos h1) ?_
   refine⟨by simp[EW,Lz,h1],fun l' h=>?_⟩
   have h:l'=l:=by simpa using h
   subst h
   exact⟨by exact(Ac b1),by exact Ac b2,fun p hp=>(Fw hu (ha.2 p (b3 p hp))).up,fun h=>by exact(fun e a_1=>N.apart h e a_1)⟩
  ·have ed:=N.edges ha.1 ok.two
   have z:=hl.1
   exact Iq (le_refl _) (GG u1 hl) (GF off (GG u1 hl) hl.2.2) ok b2 (B:=44) (by lia) DX
theorem Nr{u:Int}(hu:u=1∨u=90∨u=1000){lens:List Int}(hl:Ey u lens)(hne:lens≠[]){off:Int}{a:Ln}(ha:Ml u a):EW (((BG [a]).flatMap (Bl lens off (4*lens.length))).filterMap id)≤15∧∀l'∈((BG [a]).flatMap (Bl lens off (4*lens.length))).filterMap id,Ge l':=by
 have u1:1≤u:=by rcases hu with rfl|rfl|rfl<;>decide
 unfold BG
 refine rr filterMap_cons ?_
 cases e:Ak a.1 a.2 with
 |none=>simp[EW]
 |some l=>
  have N:=DK ha.1 e
  obtain⟨b1,b2,b3,b4⟩:=N.basic ha.1
  simp only[filterMap_nil,flatMap_cons,flatMap_nil,append_nil]
  rcases bg hu hl hne (off:=off) ha.1 ha.2.1 ha.2.2 e with h1|⟨ok,ed⟩
  ·unfold Bl
   refine rr (if_pos h1) ?_
   refine⟨by simp[EW,Lz,h1],fun l' h=>?_⟩
   have h:l'=l:=by simpa using h
   subst h
   exact⟨by exact(Ac b1),by exact Ac b2,fun p hp=>(Fw hu (ha.near p (b3 p hp))).up,fun h=>by lia⟩
  ·have z:=hl.1
   exact Iq DX (GG u1 hl) (GF off (GG u1 hl) hl.2.2) ok b2 (B:=15) (by lia) DX
theorem EN(a b:List Ln):BG (a++b)=BG a++BG b:=filterMap_append
theorem Ir{u:Int}(hu:u=1∨u=90∨u=1000){a:Ln}(o:DB a.1 a.2)(hp:∀p∈a.1,MR u 3 p):EW (BG [a])≤8∧∀l∈BG [a],Ge l:=by
 unfold BG
 refine rr filterMap_cons ?_
 cases e:Ak a.1 a.2 with
 |none=>simp[EW]
 |some l=>
  have N:=DK o e
  obtain⟨b1,b2,b3,b4⟩:=N.basic o
  refine⟨?_,fun l' h=>?_⟩
  ·have e2:EW ([l]:List Ln)=Lz l:=by simp[EW]
   show EW [l]≤8
   refine rr e2 ?_
   unfold Lz
   split
   ·exact DX
   ·split<;>lia
  ·have h:l'=l:=by simpa using h
   subst h
   exact⟨by exact(Ac b1),by exact Ac b2,fun p hp'=>(Fw hu (hp p (b3 p hp'))).up,fun h e he=>((N.edges o h).1 e he).1⟩
theorem It{u:Int}(hu:u=1∨u=90∨u=1000){lens:List Int}(hl:Ey u lens){off:Int}{parts:List Ln}(T:Two u parts):
 EW (CS lens off (4*lens.length) (BG parts))≤59∧∀l∈CS lens off (4*lens.length) (BG parts),Ge l:=by
 obtain⟨a,ha,h⟩:=T
 unfold CS
 by_cases hne:lens=[]
 ·refine rr (if_pos hne) ?_
  have pa:=Ir hu ha.1 ha.2
  rcases h with rfl|⟨b,hb,rfl|rfl⟩
  ·exact⟨by exact Ac pa.1,pa.2⟩
  ·have pb:=Ir hu hb.1 hb.near
   refine rr (show([a,b]:List Ln)=[a]++[b]from rfl) ?_;refine rr (EN ..) (rr (Hu ..) ?_)
   exact⟨by exact BM pa.1 pb.1,fun l h=>(mem_append.mp h).elim (pa.2 l) (pb.2 l)⟩
  ·have pb:=Ir hu hb.1 hb.near
   refine rr (show([b,a]:List Ln)=[b]++[a]from rfl) ?_;refine rr (EN ..) (rr (Hu ..) ?_)
   exact⟨by exact BM pa.1 pb.1,fun l h=>(mem_append.mp h).elim (pb.2 l) (pa.2 l)⟩
 ·refine rr (if_neg hne) ?_
  have pa:=TK hu hl hne (off:=off) ha
  rcases h with rfl|⟨b,hb,rfl|rfl⟩
  ·exact⟨by exact Ac pa.1,pa.2⟩
  ·have pb:=Nr hu hl hne (off:=off) hb
   refine rr (show([a,b]:List Ln)=[a]++[b]from rfl) ?_;refine rr (EN ..) (rr flatMap_append ?_);refine rr filterMap_append (rr (Hu ..) ?_)
   exact⟨by exact BM pa.1 pb.1,fun l h=>(mem_append.mp h).elim (pa.2 l) (pb.2 l)⟩
  ·have pb:=Nr hu hl hne (off:=off) hb
   refine rr (show([b,a]:List Ln)=[b]++[a]from rfl) ?_;refine rr (EN ..) (rr flatMap_append ?_);refine rr filterMap_append (rr (Hu ..) ?_)
   exact⟨by exact BM pa.1 pb.1,fun l h=>(mem_append.mp h).elim (pb.2 l) (pa.2 l)⟩
theorem TL(r:List Row):∀(ps q:List Pt),Ex (ps.map .l++r) q↔Ex r (q++ps):=by
 intro ps
 induction ps with
 |nil=>
  intro q
  refine rr (append_nil ..) ?_;rfl
 |cons p ps ih=>
  intro q
  exact(ih (q++[p])).trans (iff_of_eq (congrArg (Ex r) (append_assoc ..)))
theorem Lv(s:Sp):∀(parts:List Ln) (ps:List Pt),(∀l∈parts,l.1≠[])→Ex (Ao s parts) ps:=by
 intro parts
 induction parts with
 |nil=>
  intro _ _
  exact trivial
 |cons hd parts ih=>
  obtain⟨pts,cl⟩:=hd
  intro ps h
  have hp:pts≠[]:=h (pts,cl) (.head _)
  have ih:=ih
  have e:Ao s ((pts,cl)::parts)=EC (pts.map (led s))++((if cl then[Row.z]else[])++Ao s parts):=by
   unfold Ao
   refine rr flatMap_cons (rr (append_assoc ..) ?_);rfl
  refine rr e ?_
  obtain⟨p,t,rfl⟩:=exists_cons_of_ne_nil hp
  show Ex ((t.map (led s)).map .l++_) [led s p]
  rewrite[TL]
  rcases cl with _|_
  ·exact ih _ fun l hl=>h l (.tail _ hl)
  ·exact⟨by simp,ih _ fun l hl=>h l (.tail _ hl)⟩
theorem Mn(ps:List Pt):(EC ps).length=ps.length:=by cases ps<;>simp[EC]
theorem TM(s:Sp):∀{parts:List Ln},(∀l∈parts,l.1.length≤4)→(Ao s parts).length≤5*parts.length:=by
 intro parts
 induction parts with
 |nil=>
  intro _
  simp[Ao]
 |cons l parts ih=>
  intro h
  have h1:=h l (.head _)
  have h2:=ih fun q hq=>h q (.tail _ hq)
  have e:Ao s (l::parts)=EC (l.1.map (led s))++(if l.2 then[Row.z]else[])++Ao s parts:=by
   unfold Ao
   refine rr flatMap_cons ?_;rfl
  refine rr e (rr length_append ?_);refine rr length_append (rr (Mn ..) ?_);refine rr (length_map ..) (rr length_cons ?_)
  have:(if l.2=true then[Row.z]else[]).length≤1:=by split<;>simp
  exact Ox h1 h2 this
theorem Nt{x:Int}(h: -2≤x∧x≤2):Bd 64 (x*1000000):=Bd.of (b:=2000000) (mul_le_mul_of_nonneg_right h.1 (by decide:(0:Int)≤1000000)) (mul_le_mul_of_nonneg_right h.2 (by decide:(0:Int)≤1000000))
theorem UK{s:Sp}(h:Qn s):Hl s.M:=⟨Nt h.a,Nt h.b,Nt h.c,Nt h.d,Bd.of (b:=1000001) h.e.1 h.e.2,Bd.of (b:=1000001) h.f.1 h.f.2⟩
theorem Xn{s:Sp}(h:s.a*s.d-s.b*s.c≠0):s.M.a*s.M.d-s.M.b*s.M.c≠0:=by
 unfold Sp.M
 dsimp only
 refine rr (show s.a*1000000*(s.d*1000000)-s.b*1000000*(s.c*1000000)=(s.a*s.d-s.b*s.c)*1000000000000 by grind) ?_
 lia
theorem ZC{s:Sp}(h:Qn s){p:Pt}(hp:BdP 14 p):Bd 1000 ((led s p).1-s.M.e)∧Bd 1000 ((led s p).2-s.M.f):=by
 obtain⟨a,b,c,d,e,f,_⟩:=h
 have ba:Bd 2 s.a:=.of (b:=2) a.1 a.2
 have bb:Bd 2 s.b:=.of (b:=2) b.1 b.2
 have bc:Bd 2 s.c:=.of (b:=2) c.1 c.2
 have bd:Bd 2 s.d:=.of (b:=2) d.1 d.2
 have be:Bd 21 s.e:=.of (b:=1000001) e.1 e.2
 have bf:Bd 21 s.f:=.of (b:=1000001) f.1 f.2
 exact⟨(Bd.sub (Bd.add (Bd.add (Bd.mul ba hp.1) (Bd.mul bc hp.2)) be) be).up,(Bd.sub (Bd.add (Bd.add (Bd.mul bb hp.1) (Bd.mul bd hp.2)) bf) bf).up⟩
theorem Re{parts:List Ln}(h:∀l∈parts,DB l.1 l.2){l:Ln}(hl:l∈BG parts):∃q∈parts,XK q.1 q.2 l:=by
 obtain⟨q,hq,e⟩:=mem_filterMap.mp hl
 exact⟨q,hq,DK (h q hq) e⟩
theorem bh{u:Int}(hu:u=1∨u=90∨u=1000){lens:List Int}(hl:Ey u lens){off:Int}{parts:List Ln}(T:Two u parts){s:Sp}(hs:Qn s):ZX (Ao s parts) s.M lens off 4:=by
 have u1:1≤u:=by rcases hu with rfl|rfl|rfl<;>decide
 obtain⟨t1,t2⟩:=T.each
 have hO:∀l∈parts,DB l.1 l.2:=fun l h=>(t2 l h).1
 have hne:∀l∈parts,l.1≠[]:=fun l h=>length_pos_iff.mp (hO l h).1
 have eb:=Jk hs.reg hO
 have ll:(BG parts).length≤2:=le_trans (List.length_filterMap_le ..) t1
 obtain⟨d1,d2⟩:=It hu hl (off:=off) T
 refine⟨?_,Lv s parts [] hne,UK hs,Xn hs.reg,GG u1 hl,hl.2.2,?_,by have:=hl.1;exact Ac this,GF off (GG u1 hl) hl.2.2,?_,?_,?_,?_,?_⟩
 ·have:=TM s (parts:=parts) fun l h=>(hO l h).2.1
  lia
 ·by_cases h0:lens=[]
  ·subst h0;unfold Bd;decide
  ·have:=Kj u1 hl h0
   have:=HX hu
   exact .of (b:=33000) (by lia) (by lia)
 ·refine rr (Fv hs.reg hne) (rr (length_map ..) ?_);exact Ac ll
 ·intro l h
  rw[Fv hs.reg hne]at h
  obtain⟨q,hq,rfl⟩:=mem_map.mp h
  obtain⟨r,hr,N⟩:=Re hO hq
  obtain⟨b1,b2,b3,_⟩:=N.basic (hO _ hr)
  refine⟨?_,by refine rr (length_map ..) ?_;exact Ac b2,fun p hp=>?_⟩
  ·intro z
   have:=congrArg List.length z
   rw[length_map]at this
   simp at this
   rw[this]at b1;simp at b1
  ·obtain⟨x,hx,rfl⟩:=mem_map.mp hp
   exact ZC hs (Fw hu ((t2 r hr).2 x (b3 x hx)))
 ·intro h0 l h
  rw[eb]at h
  obtain⟨q,hq,e⟩:=mem_filterMap.mp h
  exact ZB hu hl h0 (hO q hq) (t2 q hq).2 e
 ·refine rr eb ?_
  have:=TJ d2
  exact BM d1 this
 ·refine rr eb ?_
  exact d2
/-! the figures that are drawn-/
def Cz:Fig→Prop
 | .poly ps=>(ps.length=3∨ps.length=4)∧(∀q∈ps,BdP 900 q)∧(Av ps≠0→ps.getLast? ≠ps.head?)
 | .circ c=>BdP 100 c
theorem UL(b:Int):DG 0 b=0:=by
 unfold DG
 dsimp only
 have e:(2*(if(0:Int)<0 then-0 else 0)+if b<0 then-b else b).fdiv (2*if b<0 then-b else b)=0:=by
  rcases Int.lt_trichotomy b 0 with h|h|h
  ·refine rr (if_pos h) ?_;refine rr (if_neg (by decide)) (rr (fdiv_eq_ediv_of_nonneg _ (by exact Bb h h)) ?_)
   exact Int.ediv_eq_zero_of_lt (by exact Ab h) (by exact Ab h)
  ·subst h;rfl
  ·refine rr (if_neg (not_lt.mpr (le_of_lt h))) ?_;refine rr (if_neg (by decide)) (rr (fdiv_eq_ediv_of_nonneg _ (by exact Bb h h)) ?_)
   exact Int.ediv_eq_zero_of_lt (by exact Ab h) (by exact Ab h)
 refine rr e ?_
 split<;>rfl
theorem Jl{a b:Int}(hb:0<b)(h:DG a b=0):2*a<b∧ -b<2*a:=by
 have hb':¬b<0:=by exact(Int.lt_asymm hb)
 unfold DG at h
 dsimp only at h
 rw[if_neg hb']at h
 have key:∀n:Int,0≤n→(2*n+b).fdiv (2*b)=0→2*n<b:=by
  intro n hn h
  rw[fdiv_eq_ediv_of_nonneg _ (by exact Bb hb hb)]at h
  have:=Int.emod_lt_of_pos (2*n+b) (show 0<2*b by exact Bb hb hb)
  have e:=Int.mul_ediv_add_emod (2*n+b) (2*b)
  rw[h,mul_zero]at e
  exact Bb this (Int.le_of_eq e.symm)
 have hq:(2*(if a<0 then-a else a)+b).fdiv (2*b)=0:=by split at h<;>lia
 have:=key _ (by split<;>lia) hq
 split at this<;>lia
theorem BS(w:Pt):Ag 0 w=(0,0):=by
 unfold Ag
 simp[UL]
theorem Ov{half:Int}{w:Pt}(hh:1≤half)(hw:w≠(0,0)):Ag half w≠(0,0):=by
 intro e
 obtain⟨x,y⟩:=w
 have e1:=congrArg Prod.fst e
 have e2:=congrArg Prod.snd e
 unfold Ag at e1 e2
 dsimp only at e1 e2
 have sq:∀z:Int,0≤z*z:=fun z=>by refine rl (natAbs_mul_self (a:=z)) ?_;exact(Ab (natCast_nonneg (z.natAbs*z.natAbs)))
 have hX:x*1000000*(x*1000000)+y*1000000*(y*1000000)=1000000000000*(x*x+y*y):=by grind
 rw[hX]at e1 e2
 have hpos:0<x*x+y*y:=by
  have a1:=sq x
  have a2:=sq y
  rcases Int.lt_or_eq_of_le (show 0≤x*x+y*y by exact Bb a1 a2)with h|h
  ·exact h
  ·exfalso
   have hx:x*x=0:=by exact(le_antisymm (Bb a2 (Int.le_of_eq h.symm)) (Ab a1))
   have hy:y*y=0:=by exact(le_antisymm (Bb a1 (Int.le_of_eq h.symm)) (Ab a2))
   have hx:x=0:=by rcases mul_eq_zero.mp hx with q|q<;>exact q
   have hy:y=0:=by rcases mul_eq_zero.mp hy with q|q<;>exact q
   exact hw (by refine rr hx (rr hy ?_);rfl)
 have hR:=FQ (show 0<1000000000000*(x*x+y*y)by lia)
 obtain⟨_,hR2,_⟩:=(Br (1000000000000*(x*x+y*y))).2 (by lia)
 generalize CP (1000000000000*(x*x+y*y))=R at e1 e2 hR hR2
 obtain⟨p1,p2⟩:=Jl hR e1
 obtain⟨q1,q2⟩:=Jl hR e2
 have key:∀z:Int,2*(z*half*1000000)<R→ -R<2*(z*half*1000000)→4000000000000*(z*z)≤R*R:=by
  intro z h1 h2
  have a:=mul_nonneg (show 0≤R-2*(z*half*1000000)by exact Ab h1) (show 0≤R+2*(z*half*1000000)by exact Ab h2)
  have e:(R-2*(z*half*1000000))*(R+2*(z*half*1000000))=R*R-4000000000000*(z*z*(half*half)):=by grind
  have hh2:1≤half*half:=by
   have:=Int.mul_le_mul hh hh DX (by exact Ab hh)
   exact Ab this
  have:=Int.mul_le_mul_of_nonneg_left hh2 (sq z)
  lia
 have k1:=key x (by exact(Ab q1)) (by exact(Ab q2))
 have k2:=key y (by rw[neg_mul,neg_mul]at p2;exact Ab p2) (by rw[neg_mul,neg_mul]at p1;exact Ab p1)
 lia
theorem Kk(h:Pt):Av [h,h,h,h]=0∧Av [h,h,h]=0:=by
 refine rr (Ll ..) (rr (Og ..) ?_)
 unfold AE
 constructor<;>grind
theorem Kl(h:Pt):AW h (0,0)=h:=by simp[AW]
theorem TN(h:Pt):AU h (0,0)=h:=by simp[AU]
theorem UM{h s:Pt}(e:AW h s=h):s=(0,0):=by
 have e1:=congrArg Prod.fst e
 have e2:=congrArg Prod.snd e
 unfold AW at e1 e2
 dsimp only at e1 e2
 exact Prod.ext (by dsimp only;exact(le_antisymm (Ab (Int.le_of_eq e1)) (Ab (Int.le_of_eq e1.symm)))) (by dsimp only;exact(le_antisymm (Ab (Int.le_of_eq e2)) (Ab (Int.le_of_eq e2.symm))))
theorem TP{a b s:Pt}(e:AW a s=AW b s):a=b:=by
 have e1:=congrArg Prod.fst e
 have e2:=congrArg Prod.snd e
 unfold AW at e1 e2
 dsimp only at e1 e2
 exact Prod.ext (by exact(le_antisymm (Ab (Int.le_of_eq e1)) (Ab (Int.le_of_eq e1.symm)))) (by exact(le_antisymm (Ab (Int.le_of_eq e2)) (Ab (Int.le_of_eq e2.symm))))
theorem Rf{half:Int}(hh:Bd 64 half){a b:Pt}(ha:BdP 60 a)(hb:BdP 60 b)(hab:a≠b):Cz (AM half a b):=by
 have hs:BdP 300 (Ag half (AU b a)):=Cg hh (BdP.sub hb ha).up
 unfold AM Cz
 dsimp only
 refine⟨.inr rfl,fun q hq=>?_,fun _ e=>?_⟩
 ·simp only[mem_cons,not_mem_nil,or_false]at hq
  rcases hq with rfl|rfl|rfl|rfl
  ·exact(BdP.add ha hs).up
  ·exact(BdP.sub ha hs).up
  ·exact(BdP.sub hb hs).up
  ·exact(BdP.add hb hs).up
 ·simp only[getLast?_cons_cons,List.getLast?_singleton,head?_cons,Option.some.injEq]at e
  exact hab (TP e).symm
theorem Nu{k:Nat}{sg x:Int}(hs:sg= -1∨sg=1)(h:Bd k x):Bd k (sg*x):=by
 rcases hs with rfl|rfl
 ·refine rr (neg_mul ..) (rr (one_mul ..) ?_);exact h.neg
 ·refine rr (one_mul ..) ?_;exact h
theorem ZD{u:Pt}:AE u (0,0)=0:=by simp[AE]
set_option tactic.hygienic true in
theorem Gf{p:AV}(hh:Bd 64 p.half)(h0:0≤p.half){a h b:Pt}(ha:BdP 60 a)(hm:BdP 60 h)(hb:BdP 60 b):∀f∈Am p a h b,Cz f:=by
 have b1:BdP 61 (AU h a):=(BdP.sub hm ha).up
 have b2:BdP 61 (AU b h):=(BdP.sub hb hm).up
 have hn:BdP 300 (Ag p.half (AU h a)):=Cg hh b1.up
 have hf:BdP 300 (Ag p.half (AU b h)):=Cg hh b2.up
 have hw:=MW b1.up b2.up
 intro f hf'
 unfold Am at hf'
 dsimp only at hf'
 split at hf'
 ·refine rr (mem_singleton.mp hf') ?_
  show BdP 100 h
  exact hm.up
 split at hf'
 ·cases hf'
 rename_i _ ht
 have hs:(if 0<AE (AU h a) (AU b h)then(-1:Int)else 1)= -1∨(if 0<AE (AU h a) (AU b h)then(-1:Int)else 1)=1:=by split<;>simp
 have far0:∀sg:Int,(sg= -1∨sg=1)→AW h (sg*(Ag p.half (AU b h)).1,sg*(Ag p.half (AU b h)).2)=h→p.half=0:=by
  intro sg hs e
  have e:=UM e
  have e1:=congrArg Prod.fst e
  have e2:=congrArg Prod.snd e
  dsimp only at e1 e2
  have z:Ag p.half (AU b h)=(0,0):=by
   rcases hs with rfl|rfl
   ·exact Prod.ext (by dsimp only;lia) (by dsimp only;lia)
   ·exact Prod.ext (by dsimp only;exact(le_antisymm (Ab (Int.le_of_eq e1)) (Ab (Int.le_of_eq e1.symm)))) (by dsimp only;exact(le_antisymm (Ab (Int.le_of_eq e2)) (Ab (Int.le_of_eq e2.symm))))
  rcases Int.lt_or_eq_of_le h0 with q|q
  ·exfalso
   refine Ov (by exact Ab q) (fun w=>?_) z
   rw[w]at ht
   exact ht ZD
  ·exact q.symm
 generalize(if 0<AE (AU h a) (AU b h)then(-1:Int)else 1)=sg at hs hf'
 generalize AS (AU h a) (AU b h)=wh at hw hf'
 generalize BB (AU h a) (AU b h)=bo at hf'
 have bn:BdP 300 (sg*(Ag p.half (AU h a)).1,sg*(Ag p.half (AU h a)).2):=⟨Nu hs hn.1,Nu hs hn.2⟩
 have bf:BdP 300 (sg*(Ag p.half (AU b h)).1,sg*(Ag p.half (AU b h)).2):=⟨Nu hs hf.1,Nu hs hf.2⟩
 split at hf'
 ·refine rr (mem_singleton.mp hf') ?_
  refine⟨.inr rfl,fun q hq=>?_,fun har e=>?_⟩
  ·exact Aq (p:=fun q=>BdP 900 q) hm.up (Aq (BdP.add hm bn).up (Aq ⟨(Bd.add hm.1 (Bd.divI (Bd.mul (Bd.add bn.1 bf.1) hw))).up,(Bd.add hm.2 (Bd.divI (Bd.mul (Bd.add bn.2 bf.2) hw))).up⟩ (Aq (BdP.add hm bf).up Dv))) q hq
  ·simp only[getLast?_cons_cons,List.getLast?_singleton,head?_cons,Option.some.injEq]at e
   have hz:=far0 sg hs e
   apply har
   refine rr hz ?_;refine rr (BS ..) (rr (BS ..) ?_)
   simp only[mul_zero,Kl,Int.add_zero,Int.zero_mul,UL]
   exact(Kk h).1
 ·refine rr (mem_singleton.mp hf') ?_
  refine⟨.inl rfl,fun q hq=>?_,fun har e=>?_⟩
  ·exact Aq (p:=fun q=>BdP 900 q) hm.up (Aq (BdP.add hm bn).up (Aq (BdP.add hm bf).up Dv)) q hq
  ·simp only[getLast?_cons_cons,List.getLast?_singleton,head?_cons,Option.some.injEq]at e
   have hz:=far0 sg hs e
   apply har
   refine rr hz ?_;refine rr (BS ..) (rr (BS ..) ?_)
   simp only[mul_zero,Kl]
   exact(Kk h).2
theorem Nv{p:AV}(hh:Bd 64 p.half){a h:Pt}(ha:BdP 60 a)(hm:BdP 60 h):∀f∈Bj p a h,Cz f:=by
 have b1:BdP 61 (AU h a):=(BdP.sub hm ha).up
 have hs:BdP 300 (Ag p.half (AU h a)):=Cg hh b1.up
 intro f hf
 unfold Bj at hf
 split at hf
 ·refine rr (mem_singleton.mp hf) ?_
  show BdP 100 h
  exact hm.up
 split at hf
 ·refine rr (mem_singleton.mp hf) ?_
  generalize Ag p.half (AU h a)=s at hs
  have ho:BdP 300 ((s.2,-s.1):Pt):=⟨hs.2,hs.1.neg⟩
  refine⟨.inr rfl,fun q hq=>?_,fun har e=>?_⟩
  ·simp only[mem_cons,not_mem_nil,or_false]at hq
   rcases hq with rfl|rfl|rfl|rfl
   ·exact(BdP.add hm hs).up
   ·exact(BdP.sub hm hs).up
   ·exact(BdP.add (BdP.sub hm hs) ho).up
   ·exact(BdP.add (BdP.add hm hs) ho).up
  ·simp only[getLast?_cons_cons,List.getLast?_singleton,head?_cons,Option.some.injEq]at e
   have e:=UM e
   have e1:=congrArg Prod.fst e
   have e2:=congrArg Prod.snd e
   dsimp only at e1 e2
   have hz:s=(0,0):=Prod.ext (by dsimp only;exact(le_antisymm (Ab (Int.le_of_eq e2.symm)) (Ab (Int.le_of_eq e2)))) (by dsimp only;exact(le_antisymm (Ab (Int.le_of_eq e1)) (Ab (Int.le_of_eq e1.symm))))
   subst hz
   apply har
   simp only[Kl,TN,Int.neg_zero]
   exact(Kk h).1
 ·cases hf
set_option tactic.hygienic true in
theorem Rg{p:AV}(hh:Bd 64 p.half)(h0:0≤p.half){l:Ln}(d:Ge l):∀f∈AI p l,Cz f:=by
 obtain⟨d1,d2,d3,d4⟩:=d
 have hat:∀k,k<l.1.length→BdP 60 (at' l.1 k):=fun k hk=>d3 _ (GR hk)
 intro f hf
 unfold AI at hf
 split at hf
 ·split at hf
  ·refine rr (mem_singleton.mp hf) ?_
   show BdP 100 (at' l.1 0)
   exact(hat 0 (by exact Ac d1)).up
  ·cases hf
 rename_i h1
 have h2:2≤l.1.length:=by lia
 dsimp only at hf
 have hring:∀q∈Az l,BdP 60 q:=by
  intro q hq
  unfold Az at hq
  split at hq
  ·rcases mem_append.mp hq with k|k
   ·exact d3 q k
   ·exact d3 q (mem_of_mem_take k)
  ·exact d3 q hq
 rcases mem_append.mp hf with hf|hf
 ·rcases mem_append.mp hf with hf|hf
  ·obtain⟨e,he,rfl⟩:=mem_map.mp hf
   have he':e∈An l:=he
   have hz:=of_mem_zip (show(e.1,e.2)∈(Az l).zip ((Az l).drop 1)from he)
   exact Rf hh (hring _ hz.1) (hring _ (mem_of_mem_drop hz.2)) (d4 h2 e he')
  ·obtain⟨e,he,hf⟩:=mem_flatMap.mp hf
   obtain⟨m1,m2,m3⟩:=Na he
   exact Gf hh h0 (d3 _ m1) (d3 _ (mem_of_mem_drop m2)) (d3 _ (mem_of_mem_drop m3)) f hf
 ·unfold Dz at hf
  dsimp only at hf
  split at hf
  ·rcases mem_append.mp hf with hf|hf
   ·split at hf
    ·exact Gf hh h0 (hat _ (by omega)) (hat _ (by exact(sub_one_lt_of_lt d1))) (hat _ (by exact Ac d1)) f hf
    ·exact Gf hh h0 (hat _ (by exact Ac d1)) (hat _ (by exact Ac h2)) (hat _ (by exact Ac d1)) f hf
   ·exact Gf hh h0 (hat _ (by exact(sub_one_lt_of_lt d1))) (hat _ (by exact Ac d1)) (hat _ (by exact Ac h2)) f hf
  ·rcases mem_append.mp hf with hf|hf
   ·exact Nv hh (hat _ (by exact Ac h2)) (hat _ (by exact Ac d1)) f hf
   ·exact Nv hh (hat _ (by omega)) (hat _ (by exact(sub_one_lt_of_lt d1))) f hf
theorem ZE(a b c:Pt):Gz [a,b,c]=Av [a,b,c]:=by
 simp[Gz,EL,FY,at',List.range_succ,Og,AE]
 grind
theorem UN(a b c d:Pt):Gz [a,b,c,d]=Av [a,b,c,d]:=by
 simp[Gz,EL,FY,at',List.range_succ,Ll,AE]
 grind
theorem ZF{a b c:Pt}(h:0<Av [a,b,c])(n:c≠a)(r:List Row)(fs:List Fg):Bv (Bk [a,b,c]++r) fs [] []=Bv r (fs++[[a,b,c].map fun q=>(q,[])]) [] []:=by
 rw[←ZE]at h
 exact(if_pos rfl).trans<|(if_neg (cons_ne_nil _ _)).trans<|(if_neg (cons_ne_nil _ _)).trans<|(if_neg (cons_ne_nil _ _)).trans<|(if_neg fun q=>n (Option.some.inj q)).trans (if_pos h)
theorem ZG{a b c d:Pt}(h:0<Av [a,b,c,d])(n:d≠a)(r:List Row)(fs:List Fg):Bv (Bk [a,b,c,d]++r) fs [] []=Bv r (fs++[[a,b,c,d].map fun q=>(q,[])]) [] []:=by
 rw[←UN]at h
 exact(if_pos rfl).trans<|(if_neg (cons_ne_nil _ _)).trans<|(if_neg (cons_ne_nil _ _)).trans<|(if_neg (cons_ne_nil _ _)).trans<|(if_neg (cons_ne_nil _ _)).trans<|(if_neg fun q=>n (Option.some.inj q)).trans (if_pos h)
theorem Fx{α:Type}{l:List α}{n:Nat}(h:l.length=n+1):∃a t,l=a::t∧t.length=n:=by
 rcases l with _|⟨a,t⟩
 ·cases h
 ·exact⟨a,t,rfl,Nat.succ.inj h⟩
theorem Rh{qs:List Pt}(hl:qs.length=3∨qs.length=4)(ha:Av qs≠0)(hn:qs.getLast? ≠qs.head?)(r:List Row)(fs:List Fg):Bv (Bk (Aw qs)++r) fs [] []=Bv r (fs++[(Aw qs).map fun q=>(q,[])]) [] []:=by
 unfold Aw
 rcases hl with hl|hl
 ·obtain⟨a,q0,rfl,h0⟩:=Fx hl
  obtain⟨b,q1,rfl,h1⟩:=Fx h0
  obtain⟨c,q2,rfl,h2⟩:=Fx h1
  cases List.eq_nil_of_length_eq_zero h2
  ·have hn:c≠a:=by simpa using hn
   have er:Av [c,b,a]= -Av [a,b,c]:=by simp only[Og,AE];grind
   split
   ·show Bv (Bk [c,b,a]++r) fs [] []=Bv r (fs++[[c,b,a].map _]) [] []
    exact ZF (by lia) (Ne.symm hn) r fs
   ·exact ZF (by lia) hn r fs
 ·obtain⟨a,q0,rfl,h0⟩:=Fx hl
  obtain⟨b,q1,rfl,h1⟩:=Fx h0
  obtain⟨c,q2,rfl,h2⟩:=Fx h1
  obtain⟨d,q3,rfl,h3⟩:=Fx h2
  cases List.eq_nil_of_length_eq_zero h3
  ·have hn:d≠a:=by simpa using hn
   have er:Av [d,c,b,a]= -Av [a,b,c,d]:=by simp only[Ll,AE];grind
   split
   ·show Bv (Bk [d,c,b,a]++r) fs [] []=Bv r (fs++[[d,c,b,a].map _]) [] []
    exact ZG (by lia) (Ne.symm hn) r fs
   ·exact ZG (by lia) hn r fs
theorem Ri{s:Sp}(hs:s.a*s.d-s.b*s.c≠0){half:Int}(h:0<half)(c:Pt)(t:Bool)(ht:t=decide (s.a*s.d<s.b*s.c)):
 0<Gz [led s (AW c (Ax t half).1),led s (AW c (Ax t half).2.1),led s (AW c (Ax t half).2.2.1),led s (AW c (Ax t half).2.2.2)]:=by
 have e:=Hq s (ps:=[AW c (Ax t half).1,AW c (Ax t half).2.1,AW c (Ax t half).2.2.1,AW c (Ax t half).2.2.2]) (.inr rfl)
 simp only[map_cons,map_nil]at e
 refine rr (UN ..) (rr e ?_)
 have sq:0<half*half:=mul_pos h h
 by_cases q:s.a*s.d<s.b*s.c
 ·rw[decide_eq_true q]at ht
  subst ht
  have ea:Av [AW c (Ax true half).1,AW c (Ax true half).2.1,AW c (Ax true half).2.2.1,AW c (Ax true half).2.2.2]= -(4*(half*half)):=by
   refine rr (Ll ..) ?_
   simp only[Ax,AW,AE,if_true]
   grind
  refine rr ea ?_
  exact Int.mul_pos_of_neg_of_neg (by exact Ab q) (by lia)
 ·rw[decide_eq_false q]at ht
  subst ht
  have ea:Av [AW c (Ax false half).1,AW c (Ax false half).2.1,AW c (Ax false half).2.2.1,AW c (Ax false half).2.2.2]=4*(half*half):=by
   refine rr (Ll ..) ?_
   simp only[Ax,AW,AE,false_eq_true,if_false]
   grind
  refine rr ea ?_
  exact mul_pos (by lia) (by lia)
theorem TQ{s:Sp}{half cap join limit:Int}:AV.turned ⟨half,cap,join,limit,s.M⟩=decide (s.a*s.d<s.b*s.c):=by
 unfold AV.turned Sp.M
 dsimp only
 refine rr (show s.a*1000000*(s.d*1000000)-s.b*1000000*(s.c*1000000)=(s.a*s.d-s.b*s.c)*1000000000000 by grind) ?_
 apply decide_eq_decide.mpr
 lia
theorem Rj{k0 k1 k2 k3 a0 b0 a1 b1 a2 b2 a3 b3:Pt}(h:0<Gz [k0,k1,k2,k3])(r:List Row)(fs:List Fg):
 Bv ([.m k0,.c a0 b0 k1,.c a1 b1 k2,.c a2 b2 k3,.c a3 b3 k0,.z]++r) fs [] []=Bv r (fs++[[(k0,[a0,b0]),(k1,[a1,b1]),(k2,[a2,b2]),(k3,[a3,b3])]]) [] []:=
 (if_pos rfl).trans<|(if_neg (cons_ne_nil _ _)).trans<|(if_neg (cons_ne_nil _ _)).trans<|(if_neg (cons_ne_nil _ _)).trans<|(if_neg (cons_ne_nil _ _)).trans<|(if_neg (cons_ne_nil _ _)).trans<|(if_pos rfl).trans (if_pos h)
theorem TR{s:Sp}(hs:s.a*s.d-s.b*s.c≠0){half cap join limit:Int}(h0:0≤half){f:Fig}(g:Cz f)(r:List Row)(fs:List Fg):
 Bv (Ai ⟨half,cap,join,limit,s.M⟩ f++r) fs [] []=Bv r (fs++(Ec ⟨half,cap,join,limit,s.M⟩ f).toList) [] []:=by
 cases f with
 |poly ps=>
  obtain⟨g1,g2,g3⟩:=g
  show Bv (CC s.M ps++r) fs [] []=_
  unfold CC Ec
  dsimp only
  refine rr (Ft ..) ?_
  have ea:=Hq s g1
  by_cases ha:Av (ps.map (led s))=0
  ·refine rr (if_pos ha) (rr (if_pos ha) ?_);simp
  ·refine rr (if_neg ha) (rr (if_neg ha) ?_)
   have hp:Av ps≠0:=fun q=>ha (by refine rr ea ?_;refine rr q (rr (mul_zero ..) ?_);rfl)
   refine Rh (by refine rr (length_map ..) ?_;exact g1) ha (fun q=>g3 hp ?_) r fs
   rw[List.getLast?_map,List.head?_map]at q
   cases e1:ps.getLast? <;>cases e2:ps.head? <;>simp[e1,e2]at q⊢
   exact QJ hs q
 |circ c=>
  show Bv (CD s.M (AV.turned ⟨half,cap,join,limit,s.M⟩) half c++r) fs [] []=_
  unfold CD Ec
  dsimp only
  by_cases hz:half=0
  ·refine rr (if_pos hz) (rr (if_pos hz) ?_);simp
  ·refine rr (if_neg hz) (rr (if_neg hz) ?_)
   have ca:=Ri hs (show 0<half by exact(Std.lt_of_le_of_ne h0 fun a=>hz (id (Eq.symm a)))) c (AV.turned ⟨half,cap,join,limit,s.M⟩) TQ
   simp only[←Kc]at ca
   exact Rj ca r fs
theorem Rk{s:Sp}(hs:s.a*s.d-s.b*s.c≠0){half cap join limit:Int}(h0:0≤half):∀{F:List Fig} (fs:List Fg),(∀f∈F,Cz f)→Bv (F.flatMap (Ai ⟨half,cap,join,limit,s.M⟩)) fs [] []=some (fs++F.filterMap (Ec ⟨half,cap,join,limit,s.M⟩)):=by
 intro F
 induction F with
 |nil=>
  intro fs _
  exact(if_pos rfl).trans (congrArg some (append_nil fs).symm)
 |cons f F ih=>
  intro fs h
  refine rr flatMap_cons ?_;rewrite[TR hs h0 (h f (.head _))];refine rr (ih _ fun q hq=>h q (.tail _ hq)) (rr filterMap_cons ?_)
  cases Ec ⟨half,cap,join,limit,s.M⟩ f<;>simp
theorem Mo(p:AV){f:Fig}(g:Cz f):(Ai p f).length≤6:=by
 cases f with
 |poly ps=>
  have:=CJ p.m ps
  have:=g.1
  show(CC p.m ps).length≤6
  lia
 |circ c=>exact Dq _ _ _ _
theorem TS(p:AV):∀{F:List Fig},(∀f∈F,Cz f)→(F.flatMap (Ai p)).length≤6*F.length:=by
 intro F
 induction F with
 |nil=>
  intro _
  simp
 |cons f F ih=>
  intro h
  have h1:=Mo p (h f (.head _))
  have h2:=ih fun q hq=>h q (.tail _ hq)
  simp only[flatMap_cons,length_append,length_cons];exact BM h1 h2
theorem Rl{half:Int}(hh:Bd 64 half)(t:Bool):BdP 64 (Ax t half).1∧BdP 64 (Ax t half).2.1∧BdP 64 (Ax t half).2.2.1∧BdP 64 (Ax t half).2.2.2:=by
 have z:Bd 64 0:=Bd.num
 cases t
 ·exact⟨⟨hh,z⟩,⟨z,hh⟩,⟨hh.neg,z⟩,⟨z,hh.neg⟩⟩
 ·exact⟨⟨hh,z⟩,⟨z,hh.neg⟩,⟨hh.neg,z⟩,⟨z,hh⟩⟩
theorem Dr{half reach:Int}(hr:Bd 200 reach){a b:Pt}(ha:BdP 64 a)(hb:BdP 64 b):BdP 300 (BA half reach a b):=
 ⟨(Bd.add ha.1 (Bd.divI (Bd.mul hb.1 hr))).up,(Bd.add ha.2 (Bd.divI (Bd.mul hb.2 hr))).up⟩
theorem TT{half:Int}(hh:Bd 64 half):Bd 200 (Ar half):=by
 unfold Ar
 exact Bd.divI (Bd.mul hh (Bd.num (x:=552285))).up
theorem UO{p:AV}(hm:Hl p.m)(hh:Bd 64 p.half){f:Fig}(g:Cz f):(∀r∈Ai p f,Ik r)∧∀q,Ec p f=some q→XJ q:=by
 cases f with
 |poly ps=>
  obtain⟨g1,g2,g3⟩:=g
  have hb:∀q∈Aw (ps.map (Au p.m)),BdP 1000 q:=by
   intro q hq
   have hq:q∈ps.map (Au p.m):=by
    unfold Aw at hq
    split at hq
    ·exact List.mem_reverse.mp hq
    ·exact hq
   obtain⟨x,hx,rfl⟩:=mem_map.mp hq
   exact JU hm (g2 x hx)
  have hl:(Aw (ps.map (Au p.m))).length=ps.length:=by unfold Aw;split<;>simp
  refine⟨fun r hr=>?_,fun q hq=>?_⟩
  ·have hr:r∈CC p.m ps:=hr
   unfold CC at hr
   split at hr
   ·cases hr
   ·generalize Aw (ps.map (Au p.m))=t at hb hr
    rcases t with _|⟨a,t⟩
    ·cases hr
    ·
     rcases mem_cons.mp hr with rfl|hr
     ·exact hb a (.head _)
     ·rcases mem_append.mp hr with hr|hr
      ·obtain⟨x,hx,rfl⟩:=mem_map.mp hr
       exact hb x (.tail _ hx)
      ·refine rr (mem_singleton.mp hr) ?_;trivial
  ·unfold Ec at hq
   dsimp only at hq
   split at hq
   ·cases hq
   ·cases hq
    refine⟨?_,by refine rr (length_map ..) (rr hl ?_);lia,fun e he=>?_,fun e he=>?_⟩
    ·intro z
     have:=congrArg List.length z
     rw[length_map,hl]at this
     simp at this
     rw[this]at g1;simp at g1
    ·obtain⟨x,hx,rfl⟩:=mem_map.mp he
     exact .inl rfl
    ·obtain⟨x,hx,rfl⟩:=mem_map.mp he
     exact⟨hb x hx,fun p hp=>by cases hp⟩
 |circ c=>
  have g:BdP 100 c:=g
  obtain⟨k0,k1,k2,k3⟩:=Rl hh p.turned
  have hr:=TT hh
  have tb:∀q,BdP 300 q→BdP 1000 (Au p.m (AW c q)):=fun q hq=>JU hm (BdP.add g hq).up
  refine⟨fun r hr'=>?_,fun q hq=>?_⟩
  ·have hr':r∈CD p.m p.turned p.half c:=hr'
   unfold CD at hr'
   split at hr'
   ·cases hr'
   ·dsimp only at hr'
    exact Aq (p:=Ik) (a:=.m _) (tb _ k0.up) (Aq (p:=Ik) (a:=.c _ _ _) (tb _ k1.up) (Aq (p:=Ik) (a:=.c _ _ _) (tb _ k2.up) (Aq (p:=Ik) (a:=.c _ _ _) (tb _ k3.up) (Aq (p:=Ik) (a:=.c _ _ _) (tb _ k0.up) (Aq (p:=Ik) (a:=.z) trivial Dv))))) r hr'
  ·unfold Ec at hq
   dsimp only at hq
   split at hq
   ·cases hq
   ·cases hq
    have sd:∀{x y:Pt},Cs [x,y]:=.inr ⟨_,_,rfl⟩
    have two:∀{x y:Pt},BdP 1000 x→BdP 1000 y→∀z∈[x,y],BdP 1000 z:=fun h k=>Aq h (Aq k Dv)
    refine⟨cons_ne_nil _ _,show 4≤900 by decide,?_,?_⟩
    ·have c:∀{e:Pt×List Pt}{l:List (Pt×List Pt)},Cs e.2→(∀e∈l,Cs e.2)→∀x∈e::l,Cs x.2:=fun h r=>Aq (p:=fun(e:Pt×List Pt)=>Cs e.2) h r
     exact c sd (c sd (c sd (c sd Dv)))
    ·have c:∀{e:Pt×List Pt}{l:List (Pt×List Pt)},BdP 1000 e.1→(∀p∈e.2,BdP 1000 p)→(∀e∈l,BdP 1000 e.1∧∀p∈e.2,BdP 1000 p)→∀x∈e::l,BdP 1000 x.1∧∀p∈x.2,BdP 1000 p:=fun h k r=>Aq (p:=fun(e:Pt×List Pt)=>BdP 1000 e.1∧∀p∈e.2,BdP 1000 p) ⟨h,k⟩ r
     exact c (tb _ k0.up) (two (tb _ (Dr hr k0 k1)) (tb _ (Dr hr k1 k0))) (c (tb _ k1.up) (two (tb _ (Dr hr k1 k2)) (tb _ (Dr hr k2 k1)))
      (c (tb _ k2.up) (two (tb _ (Dr hr k2 k3)) (tb _ (Dr hr k3 k2))) (c (tb _ k3.up) (two (tb _ (Dr hr k3 k0)) (tb _ (Dr hr k0 k3))) Dv)))
theorem Xo{w:Int}(h:Bd 60 w):0≤Cj w∧Bd 64 (Cj w):=by
 refine⟨?_,Bd.divI (show Bd 64 (if w<0 then-w else w)from by split<;>first|exact h.neg.up|exact h.up)⟩
 unfold Cj
 have ha:0≤(if w<0 then-w else w):=by split<;>lia
 generalize(if w<0 then-w else w)=a at ha
 have h1:¬a<0:=by exact(not_lt.mpr ha)
 have h2:¬(2:Int)<0:=by decide
 unfold DG
 dsimp only
 refine rr (if_neg h1) ?_;rewrite[if_neg h2];refine rr (decide_eq_false h1) (rr (decide_eq_false h2) ?_);refine rr (if_pos (by decide)) (rr (fdiv_eq_ediv_of_nonneg _ DX) ?_)
 exact ediv_nonneg (by exact Bb ha ha) DX
theorem IE{α β:Type}{a b:α→Option β}:∀{l:List α},(∀x∈l,a x=b x)→l.filterMap a=l.filterMap b:=by
 intro l
 induction l with
 |nil=>
  intro _
  exact rfl
 |cons x l ih=>
  intro h
  refine rr filterMap_cons (rr filterMap_cons ?_);refine rr (h x (.head _)) (rr (ih fun y hy=>h y (.tail _ hy)) ?_);rfl
theorem ZH:Qn spI:=⟨by decide,by decide,by decide,by decide,by decide,by decide,by decide⟩
noncomputable def Gg(p:AV)(lens:List Int)(off:Int)(parts:List Ln):List Fig:=(CS lens off (4*lens.length) (BG parts)).flatMap (AI p)
theorem Xp{wd cap join limit:Int}{s:Sp}(hs:s.a*s.d-s.b*s.c≠0){lens:List Int}{off:Int}{parts:List Ln}(h:∀l∈parts,DB l.1 l.2):
 Ld (CL wd cap join limit s) lens off (4*lens.length) (Ao s parts)=Gg (CL wd cap join limit s) lens off parts:=by
 unfold Ld Gg
 refine rr (show(CL wd cap join limit s).m=s.M from rfl) (rr (Jk hs h) ?_);rfl
theorem bj{u:Int}(hu:u=1∨u=90∨u=1000){lens:List Int}(hl:Ey u lens){off:Int}{parts:List Ln}(T:Two u parts){s:Sp}(hs:Qn s){wd cap join limit:Int}(hw:Bd 60 wd):
 (∀f∈Gg (CL wd cap join limit s) lens off parts,Cz f)∧ZZ (CL wd cap join limit s) lens off (Ao s parts) ((Gg (CL wd cap join limit s) lens off parts).filterMap (Ec (CL wd cap join limit s))):=by
 obtain⟨h0,hh⟩:=Xo hw
 obtain⟨t1,t2⟩:=T.each
 obtain⟨d1,d2⟩:=It hu hl (off:=off) T
 have hm:Hl (CL wd cap join limit s).m:=UK hs
 have good:∀f∈Gg (CL wd cap join limit s) lens off parts,Cz f:=by
  intro f hf
  obtain⟨l,hl',hf⟩:=mem_flatMap.mp hf
  exact Rg (p:=CL wd cap join limit s) hh h0 (d2 l hl') f hf
 have cnt:(Gg (CL wd cap join limit s) lens off parts).length≤59:=le_trans (Rd _ d2) d1
 have eF:=Xp (wd:=wd) (cap:=cap) (join:=join) (limit:=limit) (lens:=lens) (off:=off) hs.reg fun l h=>(t2 l h).1
 refine⟨good,bh hu hl T hs,?_,?_,?_,?_,?_⟩
 ·refine rr eF ?_
  exact(Rk hs.reg h0 [] good).trans (by refine rr (nil_append ..) ?_;rfl)
 ·refine rr eF ?_
  have:=TS (CL wd cap join limit s) good
  lia
 ·refine rr eF ?_
  intro r hr
  obtain⟨f,hf,hr⟩:=mem_flatMap.mp hr
  exact(UO hm hh (good f hf)).1 r hr
 ·have:=List.length_filterMap_le (Ec (CL wd cap join limit s)) (Gg (CL wd cap join limit s) lens off parts)
  exact BM cnt this
 ·intro g hg
  obtain⟨f,hf,e⟩:=mem_filterMap.mp hg
  exact(UO hm hh (good f hf)).2 g e
theorem TU{s:Sp}{g:Fg}(h:XJ g):GD s g≠[]∧(GD s g).length≤900∧∀e∈GD s g,Cs e.2:=by
 obtain⟨h1,h2,h3,_⟩:=h
 refine⟨fun z=>h1 (List.map_eq_nil_iff.mp z),by unfold GD;rwa [length_map],fun e he=>?_⟩
 obtain⟨x,hx,rfl⟩:=mem_map.mp he
 rcases h3 x hx with q|⟨p,p2,q⟩
 ·exact .inl (by show x.2.map _=_;refine rr q ?_;rfl)
 ·exact .inr ⟨_,_,by show x.2.map _=_;refine rr q ?_;rfl⟩
theorem Rm{s:Sp}{g:Fg}(h:XJ g):BF s g≠[]∧(BF s g).length≤900∧∀e∈BF s g,Cs e.2:=by
 obtain⟨h1,h2,h3⟩:=TU (s:=s) h
 unfold BF
 split
 ·exact⟨h1,h2,h3⟩
 ·generalize GD s g=f at h1 h2 h3
  have hp:=length_pos_iff.mpr h1
  refine⟨fun z=>?_,by unfold QK;refine rr (length_map ..) (rr length_range ?_);exact h2,fun e he=>?_⟩
  ·have:=congrArg List.length z
   unfold QK at this
   rw[length_map,length_range]at this
   simp at this;exact h1 this
  ·obtain⟨k,hk,rfl⟩:=mem_map.mp he
   have hk:=mem_range.mp hk
   rcases h3 _ (Ni (show f.length-k-1<f.length by omega))with q|⟨p,p2,q⟩
   ·exact .inl (by show Hp _=_;refine rr q ?_;rfl)
   ·exact .inr ⟨_,_,by show Hp _=_;refine rr q ?_;rfl⟩
theorem Ro(p:AV):∀parts:List Ln,((BG parts).flatMap (AI p)).filterMap (can p)=parts.flatMap (Dg p):=by
 intro parts
 induction parts with
 |nil=>
  exact rfl
 |cons l parts ih=>
  have ih:=ih
  unfold BG at ih⊢
  refine rr filterMap_cons (rr flatMap_cons ?_)
  unfold Dg
  cases Ak l.1 l.2 with
  |none=>exact ih
  |some q=>
   dsimp only
   refine rr flatMap_cons ?_;refine rr filterMap_append (rr ih ?_)
   rfl
theorem TV(p:AV){parts rs:List Ln}(h:HY false parts rs):(∀l∈parts,DB l.1 l.2)→(rs.flatMap (Dg p)).Perm (parts.flatMap (Dg p)):=by
 induction h with
 |nil=>intro _;exact .refl _
 |cons h1 _ ih=>
  intro ho
  refine rr flatMap_cons (rr flatMap_cons ?_)
  exact(QT p (ho _ (.head _)) h1).append (ih fun l hl=>ho l (.tail _ hl))
theorem TX{parts rs:List Ln}(h:HY true parts rs):rs=parts:=by
 induction h with
 |nil=>rfl
 |cons h1 _ ih=>refine rr ih (rr (h1.2.1 rfl) ?_);rfl
theorem Rp(p:AV){lens:List Int}{off:Int}{parts qs:List Ln}(h:KS (!lens.isEmpty) parts qs)(ho:∀l∈parts,DB l.1 l.2):
 ((Gg p lens off qs).filterMap (can p)).Perm ((Gg p lens off parts).filterMap (can p)):=by
 obtain⟨rs,hr,hq⟩:=h
 unfold Gg CS
 by_cases hl:lens=[]
 ·subst hl
  refine rr (if_pos rfl) (rr (if_pos rfl) ?_);refine rr (Ro ..) (rr (Ro ..) ?_)
  have k:=TV p hr ho
  rcases hq with rfl|rfl
  ·exact k
  ·exact(List.Perm.flatMap_right _ (List.reverse_perm rs)).trans k
 ·refine rr (if_neg hl) (rr (if_neg hl) ?_)
  have hb:(!lens.isEmpty)=true:=by cases lens<;>simp at hl⊢
  rw[hb]at hr
  have e:=TX hr
  subst e
  rcases hq with rfl|rfl
  ·exact .refl _
  ·have e:BG rs.reverse=(BG rs).reverse:=List.filterMap_reverse
   refine rr e ?_
   exact List.Perm.filterMap _ (List.Perm.flatMap_right _ (List.Perm.filterMap _ (List.Perm.flatMap_right _ (List.reverse_perm _))))
theorem Ow{f:Fig}(h:Cz f):Zr f:=by
 cases f with
 |poly ps=>exact h.1
 |circ c=>trivial
theorem Aa2{u:Int}{s:Sp}{parts qs:List Ln}{wd cap join limit:Int}{lens:List Int}{off:Int}(L:UH u s parts qs wd cap join limit lens off):∃fs gs,Kf s parts qs wd cap join limit lens off fs gs:=by
 obtain⟨hu,hp,hs,⟨k,k1,k2,hwd⟩,hcap,hjoin,l1,l2,hl,hret⟩:=L
 have T:=ZA hp
 have T2:=T.ret hret
 have hw:Bd 60 wd:=by
  refine rl hwd ?_
  exact(Bd.mul (Bd.of (k:=4) (b:=10) (by lia) (by lia)) (Me hu)).up
 obtain⟨g1,told1⟩:=bj hu hl (off:=off) T ZH (cap:=cap) (join:=join) (limit:=limit) hw
 obtain⟨g2,told2⟩:=bj hu hl (off:=off) T2 hs (cap:=cap) (join:=join) (limit:=limit) hw
 have small:∀{ps:List Ln},Two u ps→EM ps:=fun{ps} T=>by
  obtain⟨t1,t2⟩:=T.each
  exact⟨by exact Ac t1,fun l hl=>⟨by have:=(t2 l hl).1.2.1;exact Ac this,fun p hp=>(Fw hu ((t2 l hl).2 p hp)).up⟩⟩
 refine⟨_,_,small T,small T2,told1,told2,fun g hg=>Rm (told1.ok g hg),?_⟩
 refine rr List.map_filterMap (rr List.map_filterMap ?_)
 have e1:(Gg (CL wd cap join limit spI) lens off parts).filterMap (fun f=>(Ec (CL wd cap join limit spI) f).map fun g=>Bu (BF s g))=(Gg (CL wd cap join limit s) lens off parts).filterMap (can (CL wd cap join limit s)):=by
  have:Gg (CL wd cap join limit spI) lens off parts=Gg (CL wd cap join limit s) lens off parts:=rfl
  refine rl this ?_
  exact IE fun f hf=>(Xg hs.reg (Ow (g1 f hf))).symm
 refine rr e1 ?_
 exact Rp (CL wd cap join limit s) hret fun l h=>(T.each.2 l h).1
section
variable{O:Program}{w:World}{P:KF}{U:Heap}{n:Nat}{sc:Scope}{st st1 st2:St}{ms:Ms}
theorem ZI(S:Al O P.K U){ts:List Expr}{k:Nat}{p pos:Pos}{e:Expr}{rest:List Stmt}{Q:Fl→St→Prop}{d:Dat}(os:List Or)(h:goD O w U n sc e st os []=some ⟨d,st1,[],ms⟩)(hm:AC ms)(ha:PC sc 3 (.Tuple ts k p) d st1 [] []=some ⟨(),st2,[],[]⟩)(q:Ss O w U sc n rest st2 Q)
 (hw:∀env,env.scope=sc→swapsWithSole [.Tuple ts k p] e pos.line env=pure false) (hv:∀env,env.scope=sc→swappedStores [.Tuple ts k p] e env=pure none):Ss O w U sc n (.Assign [.Tuple ts k p] e pos::rest) st Q:=
 Bm (Hh (Do S h hm (((DM 3 _ _).ok ha .nil).2 (fun _ s=>Ss O w U sc n rest s Q) q)) hw hv)
structure LwA where
 (ns:List Int) (t:Ba) (u:Int) (parts:List Ln) (s:Sp) (wd cap join limit:Int) (lens:List Int) (off:Int) (qs:List Ln)
noncomputable def lw0(ns:List Int)(t:Ba)(tl:St):St:=("script",.dat (.list (ns.map .int)))::("tape",AA t)::tl
noncomputable def UP(a:LwA)(tl:St):St:=lw0 a.ns a.t (("unit",.dat (.int a.u))::("parts",.dat (.list (a.parts.map CQ)))::("space",.dat a.s.D)::("width",.dat (.int a.wd))::("join",.dat (.int a.join))::("cap",.dat (.int a.cap))::("limit",.dat (.int a.limit))::("lengths",.dat (.list (a.lens.map .int)))::("offset",.dat (.int a.off))::("retold",.dat (.list (a.qs.map CQ)))::tl)
noncomputable def lwX(k:List Nat):Stmt:=FO (AQ 406) k
abbrev LwP(O:Program)(w:World)(U:Heap)(P:KF)(n k:Nat)(st:St):Prop:=Ss O w U (scC 406) (n+11) ((AQ 406).drop k) st (fun fl _=>flD fl=.bool true)
theorem Rq(S:Al O P.K U){a:LwA}{some:List Ln}{s:Sp}{fs:List Fg}{lots ds:List Dat}{Q:Fl→St→Prop}(F:AP Q)(T:ZZ (CL a.wd a.cap a.join a.limit s) a.lens a.off (Ao s some) fs)(sm:EM some)(sp:Qn s)(hll:a.lens.length≤3)(hcap:a.cap=0∨a.cap=1∨a.cap=2)(hjoin:a.join=0∨a.join=1∨a.join=2)(hl1:1000000≤a.limit)(hl2:a.limit≤10000000)(bw:Bd 60 a.wd)(hz:lots.length≤10)
 (k:Bc O w U (scC 406) (n+11) (Ap (lwX [10])) (Bf (lwX [10])) Q ds (UP a [("lots",.lst (lots++[Cc (.some fs)]))])):Bc O w U (scC 406) (n+11) (Ap (lwX [10])) (Bf (lwX [10])) Q (.tuple [.list (some.map CQ),s.D]::ds) (UP a [("lots",.lst lots)]):=by
 have ba:Bd 64 s.a:=.of (b:=2) sp.a.1 sp.a.2
 have bb:Bd 64 s.b:=.of (b:=2) sp.b.1 sp.b.2
 have bc:Bd 64 s.c:=.of (b:=2) sp.c.1 sp.c.2
 have bd:Bd 64 s.d:=.of (b:=2) sp.d.1 sp.d.2
 have d1:=Zi (w:=w) (n:=n+9) S ba bb bc bd sm.1 sm.2
 have d2:=SW (w:=w) (n:=n+10) S (s:=s)
 have d3:=QG (w:=w) (n:=n+2) S T.sq bw hcap hjoin hl1 (.of (b:=10000000) (Int.le_trans (by decide) hl1) hl2)
 have d4:=QI (w:=w) (n:=n+9) S T.few T.bd
 rw[T.read]at d4
 have z2:(a.lens.map Dat.int).length≤sizeLine:=le_trans (show _≤1000 by refine rr (length_map ..) ?_;exact Ac hll) (by decide)
 have z3:lots.length+1≤sizeLine:=le_trans (show _≤1000 by exact Ac hz) (by decide)
 refine AD S ["some","where","rows"] [.val (.list ((Ao s some).map BZ)),.ask (.dat (.list (a.lens.map .int))) (UP a [("lots",.lst lots),("some",.dat (.list (some.map CQ))),("where",.dat s.D)]),.val s.M.D,.val (.list (((Ld (CL a.wd a.cap a.join a.limit s) a.lens a.off (4*a.lens.length) (Ao s some)).flatMap (Ai (CL a.wd a.cap a.join a.limit s))).map BZ)),.val (Cc (.some fs))] k rfl ?_ F
 repeat' first|exact obN|refine obA ?_|apply obC
 exact fun Q q=>AO (FD S (glb P (by kernel_rfl) (by kernel_rfl)) rfl (AH S (os:=[]) rfl .nil ⟨_,_,rfl,rfl,z2,q⟩))
noncomputable def duE:Expr:=Ap (lwX [12])
noncomputable def bnE:Expr:=kid (kid (Ap (lwX [13])) 0) 0
theorem Xq(S:Al O P.K U){s:Sp}(sp:Qn s){Q:List Dat→St→Prop}(F:∀acc s,Q acc (Iu ["figure"] s)→Q acc s):∀(xs:List Fg) (acc:List Dat),acc.length+xs.length≤64→(∀g∈xs,XJ g)→(∀g∈xs,BF s g≠[]∧(BF s g).length≤900∧∀e∈BF s g,Cs e.2)→Q (acc++(xs.map fun g=>Bu (BF s g)).map AX) [("space",.dat s.D)]→
 Bh O w U (By (Lx duE) (scC 406)) (n+11) (ER duE) (ES duE) (EQ duE) Q (xs.map fgD) acc [("space",.dat s.D)]:=by
 have ba:Bd 64 s.a:=.of (b:=2) sp.a.1 sp.a.2
 have bb:Bd 64 s.b:=.of (b:=2) sp.b.1 sp.b.2
 have bc:Bd 64 s.c:=.of (b:=2) sp.c.1 sp.c.2
 have bd:Bd 64 s.d:=.of (b:=2) sp.d.1 sp.d.2
 intro xs
 induction xs with
 |nil=>intro acc _ _ _ q;exact(append_nil acc)▸q
 |cons g xs ih=>
  intro acc hl hg hg2 q
  rw[length_cons]at hl
  obtain⟨g1,g2,g3,g4⟩:=hg g (.head _)
  obtain⟨q1,q2,q3⟩:=hg2 g (.head _)
  have d1:=Lm (w:=w) (n:=n+9) S ba bb bc bd g2 (length_pos_iff.mpr g1) g3 g4
  have d2:=QN (w:=w) (n:=n+9) S q2 q1 q3
  exact AZ S ["figure"] [.val (fgD (BF s g)),.val (AX (Bu (BF s g)))] (ih (acc++[AX (Bu (BF s g))]) (by refine rr length_append (rr length_singleton ?_);exact Ac hl) (fun g h=>hg g (.tail _ h)) (fun g h=>hg2 g (.tail _ h)) (by refine rr (append_assoc ..) ?_;exact q)) rfl (.cons d2 (.cons d1 .nil)) (le_trans (show _≤1000 by exact Ac hl) (by decide)) F
theorem Xr(S:Al O P.K U){Q:List Dat→St→Prop}(F:∀acc s,Q acc (Iu ["figure"] s)→Q acc s):∀(xs:List Fg) (acc:List Dat),acc.length+xs.length≤64→(∀g∈xs,XJ g)→Q (acc++(xs.map Bu).map AX) []→
 Bh O w U (By (Lx bnE) (scC 406)) (n+11) (ER bnE) (ES bnE) (EQ bnE) Q (xs.map fgD) acc []:=by
 intro xs
 induction xs with
 |nil=>intro acc _ _ q;exact(append_nil acc)▸q
 |cons g xs ih=>
  intro acc hl hg q
  rw[length_cons]at hl
  obtain⟨g1,g2,g3,g4⟩:=hg g (.head _)
  have d2:=QN (w:=w) (n:=n+9) S g2 g1 g3
  exact AZ S ["figure"] [.val (AX (Bu g))] (ih (acc++[AX (Bu g)]) (by refine rr length_append (rr length_singleton ?_);exact Ac hl) (fun g h=>hg g (.tail _ h)) (by refine rr (append_assoc ..) ?_;exact q)) rfl (.cons d2 .nil) (le_trans (show _≤1000 by exact Ac hl) (by decide)) F
theorem bW(ls:List (List Int)):Bo (.list (ls.map AX)):=(Cn (k:=2) fun d hd=>by
 obtain⟨l,_,rfl⟩:=mem_map.mp hd
 exact Cn (k:=1) (EF l)).plain
theorem ZJ(S:Al O P.K U){a:LwA}{fs gs:List Fg}(L:Kf a.s a.parts a.qs a.wd a.cap a.join a.limit a.lens a.off fs gs)(sp:Qn a.s)(hll:a.lens.length≤3)(hcap:a.cap=0∨a.cap=1∨a.cap=2)(hjoin:a.join=0∨a.join=1∨a.join=2)(hl1:1000000≤a.limit)(hl2:a.limit≤10000000)(bw:Bd 60 a.wd):LwP O w U P n 9 (UP a []):=by
 refine At (st':=UP a [("lots",.lst [])]) S 1 [] [] rfl obs ?_
 refine Fb S (d:=.tuple [.tuple [.list (a.parts.map CQ),spI.D],.tuple [.list (a.qs.map CQ),a.s.D]]) [.ask (.dat spI.D) (UP a [("lots",.lst [])])] rfl rfl (.cons (fun Q q=>Cl S ⟨by kernel_rfl,P.pla,by decide+kernel⟩ P.fpz q) .nil) ?_
 refine Rq S Ad L.one L.sm1 ⟨by decide,by decide,by decide,by decide,by decide,by decide,by decide⟩ hll hcap hjoin hl1 hl2 bw (by decide) ?_
 refine Rq S Ad L.two L.sm2 sp hll hcap hjoin hl1 hl2 bw (show 1≤10 by decide) ?_
 have one:=L.one.figs
 have two:=L.two.figs
 refine At (st':=UP a [("lots",.lst [Cc (some fs),Cc (some gs)])]) S 1 [] [.val (Cc (some fs)),.br false,.val (Cc (some gs)),.br false,.br false] rfl ?_ ?_
 ·repeat' first|exact obN|refine obA ?_|apply obC
  all_goals trivial
 refine Gs S [("space",.dat a.s.D)] (d:=Cc (some fs)) [.val (Cc (some fs))] rfl rfl obs (Xq S sp ?_ fs [] (by refine rr length_nil ?_;exact Ac one) L.one.ok L.led ?_) (by kernel_rfl) (by kernel_rfl) (by kernel_rfl) (by intro env h;cases env;dsimp only at h;subst h;kernel_rfl)
 ·intro acc s q
  rwa [AY (by kernel_rfl)]at q
 refine Ss.at (UP a [("lots",.lst [Cc (some fs),Cc (some gs)]),("due",.lst ((fs.map fun g=>Bu (BF a.s g)).map AX))]) ?_ (by kernel_rfl)
 refine Bm (Ud (Sa (Ub (AO (Lj S (glb P (by kernel_rfl) (by kernel_rfl)) rfl (AO (Da (Bz.of (by kernel_rfl)) (Ei (Do S (os:=[.val (Cc (some gs))]) rfl obs ⟨gs.map fgD,rfl,Xr S ?_ gs [] (by refine rr length_nil ?_;exact Ac two) L.two.ok ?_⟩)))))))))
 ·intro acc s q
  rwa [AY (by kernel_rfl)]at q
 refine⟨gs.map Bu,rfl,by refine rr (length_map ..) ?_;exact two,fun as p1 s1=>AO (Lj S (glb P (by kernel_rfl) (by kernel_rfl)) rfl (AH S (os:=[]) rfl .nil ⟨fs.map fun g=>Bu (BF a.s g),rfl,by refine rr (length_map ..) ?_;exact one,fun bs p2 s2=>?_⟩))⟩
 have eq:as=bs:=List.Perm.eq_of_pairwise (le:=fun a b=>ltL b a=false) (fun a b _ _ h1 h2=>Ig h2 h1) s1 s2 (p1.trans (L.same.trans p2.symm))
 subst eq
 refine cb rfl rfl ⟨bW as,bW as⟩ (Jy ?_)
 exact congrArg Dat.bool ((Hj (f:=AX) (fun a b=>Hj (f:=Dat.int) Hy a b) as as).mpr rfl)
abbrev LwF:Prop:=∀u s parts qs wd cap join limit lens off,UH u s parts qs wd cap join limit lens off→∃fs gs,Kf s parts qs wd cap join limit lens off fs gs
noncomputable def lw2(u:Int)(parts:List Ln)(s:Sp)(tl:St):St:=("unit",.dat (.int u))::("parts",.dat (.list (parts.map CQ)))::("space",.dat s.D)::tl
noncomputable def lw5(wd cap join:Int)(tl:St):St:=("width",.dat (.int wd))::("join",.dat (.int join))::("cap",.dat (.int cap))::tl
theorem ZK(S:Al O P.K U)(LF:LwF){ns:List Int}{t:Ba}{u wd cap join limit:Int}{parts:List Ln}{s:Sp}(ht:AJ t)(hu:u=1∨u=90∨u=1000)(hp:JR u parts)(hs:Qn s)(hw:∃k,0≤k∧k<9∧(k-2)*u=wd)(hcap:cap=0∨cap=1∨cap=2)(hjoin:join=0∨join=1∨join=2)(hl1:1000000≤limit)(hl2:limit≤10000000):
 LwP O w U P n 6 (lw0 ns t (lw2 u parts s (lw5 wd cap join [("limit",.dat (.int limit))]))):=by
 have u1:1≤u:=by rcases hu with rfl|rfl|rfl<;>decide
 have bu:=Me hu
 have t1:AJ (Bg t):=YV _ (BC ht)
 have d1:=Qs (w:=w) (n:=n+9) S ht bu
 have d2:=Cr (w:=w) (n:=n+10) S t1 (many:=41) (by decide)
 have r:=CI (t:=Bg t) (many:=41) (by decide)
 have m1:AT (dv (Bg t) 41-20) u:=Ae (k:=20) (show Int.natAbs _<2^20 by omega) bu
 have lok:=Mf u1 t
 have hq:parts.length≤100∧∀l∈parts,1≤l.1.length∧l.1.length≤100:=by
  obtain⟨a,rest,rfl,⟨a1,a2,_⟩,_,h⟩:=hp
  have ha:1≤a.1.length∧a.1.length≤100:=⟨a1,by exact Ac a2⟩
  rcases h with rfl|⟨b,rfl,b1,b2,_⟩
  ·exact⟨show 1≤100 by decide,fun l h=>mem_singleton.mp h▸ha⟩
  ·refine⟨show 2≤100 by decide,fun l h=>?_⟩
   rcases mem_cons.mp h with rfl|h
   ·exact ha
   ·exact mem_singleton.mp h▸⟨b1,by exact Ac b2⟩
 have d3:=SY (w:=w) (n:=n+9) (d:=Cd .NotEq (.list ((Bq u t).map .int)) (.list [])) S (BC (many:=41) t1) hq.1 hq.2
 have en:Cd .NotEq (.list ((Bq u t).map .int)) (.list [])=!(Bq u t).isEmpty:=by
  show(!deq (.list ((Bq u t).map .int)) (.list []))=_
  refine rr (Dl ..) ?_
  cases Bq u t<;>rfl
 have hret:=(congrArg (fun b=>KS b parts (Gx (Cd .NotEq (.list ((Bq u t).map .int)) (.list [])) (dt (Bg t) 41) parts)) en).mp (NW _ _ _)
 have pl:=Cf (Bq u t)
 have bw:Bd 60 wd:=by
  obtain⟨k,k1,k2,rfl⟩:=hw
  exact(Bd.mul (Bd.of (k:=4) (b:=10) (by lia) (by lia)) bu).up
 obtain⟨fs,gs,L⟩:=LF u s parts _ wd cap join limit _ ((dv (Bg t) 41-20)*u) ⟨hu,hp,hs,hw,hcap,hjoin,hl1,hl2,lok,hret⟩
 refine At S 3 [] [.lent (.list ((Bq u t).map .int)) (AA (Bg t)),.lent (.int (dv (Bg t) 41)) (AA (dt (Bg t) 41)),.lent (.list ((Gx (Cd .NotEq (.list ((Bq u t).map .int)) (.list [])) (dt (Bg t) 41) parts).map CQ)) (AA (Mg (Cd .NotEq (.list ((Bq u t).map .int)) (.list [])) (dt (Bg t) 41) parts))] rfl obs (ZJ (a:=⟨ns,_,u,parts,s,wd,cap,join,limit,Bq u t,(dv (Bg t) 41-20)*u,_⟩) S L hs lok.1 hcap hjoin hl1 hl2 bw)
theorem Rs{t:Ba}(h:AJ t):AJ (OB t):=JS (far:=3) (paM t) (BC h)
theorem UQ{t:Ba}(h:AJ t):AJ (paT t):=by
 unfold paT
 split
 ·exact BC (Rs h)
 ·exact Rs h
theorem Rt{t:Ba}(h:AJ t):AJ (DW t):=by
 unfold DW pbE
 split
 ·exact BC (JS (far:=1) _ (BC (BC (UQ h))))
 ·exact BC (UQ h)
theorem Ru(u:Int)(t:Ba):JR u (Jb u t):=by
 have l4:=SV (t:=t) (many:=4) (by decide)
 have l2:=SV (t:=dt (paT t) 3) (many:=2) (by decide)
 refine⟨_,_,rfl,⟨?_,?_,KR (by decide) _ _⟩,fun h=>?_,?_⟩
 ·show 1≤(OA u 3 (paM t) (dt t 4)).length
  refine rr (FT ..) ?_;unfold paM;simp+arith only[Nat.reducePow]
 ·show(OA u 3 (paM t) (dt t 4)).length≤4
  refine rr (FT ..) ?_;unfold paM;lia
 ·show(OA u 3 (paM t) (dt t 4)).length≤3
  have h:paC t=true:=h
  unfold paC at h
  split at h
  ·refine rr (FT ..) ?_;lia
  ·cases h
 ·unfold pbL
  split
  ·refine .inr ⟨_,rfl,?_,?_,KR (by decide) _ _⟩
   ·show 1≤(OA u 1 (pbM (paT t)) _).length
    refine rr (FT ..) ?_;unfold pbM;simp+arith only[Nat.reducePow]
   ·show(OA u 1 (pbM (paT t)) _).length≤2
    refine rr (FT ..) ?_;unfold pbM;lia
  ·exact .inl rfl
theorem ZL(S:Al O P.K U)(LF:LwF){ns:List Int}{t:Ba}{u:Int}(ht:AJ t)(hu:u=1∨u=90∨u=1000):LwP O w U P n 2 (lw0 ns t [("unit",.dat (.int u))]):=by
 have bu:=Me hu
 have k1:=Rt ht
 have k2:AJ (spT (DW t)):=BC (BC (BC (BC (BC (BC k1)))))
 have d1:=Ww (w:=w) (n:=n+8) S ht bu
 have d2:=Wx (w:=w) (n:=n+9) S k1
 have hp:=Ru u t
 have hs:=YT (DW t)
 refine ZI (st2:=lw0 ns (spT (DW t)) (lw2 u (Jb u t) (spF (DW t)) [])) S [.lent (.list ((Jb u t).map CQ)) (AA (DW t)),.lent (spF (DW t)).D (AA (spT (DW t)))] rfl obs rfl ?_ (fun env h=>by rfl) (fun env h=>by cases env;dsimp only at h;subst h;kernel_rfl)
 generalize spT (DW t)=t at k2⊢
 generalize Jb u _=parts at hp⊢
 generalize spF _=s at hs⊢
 clear d1 d2 k1 ht
 have k3:=BC (many:=9) k2
 have k4:=BC (many:=3) k3
 have k5:=BC (many:=3) k4
 have d1:=Cr (w:=w) (n:=n+10) S k2 (many:=9) (by decide)
 have d2:=Cr (w:=w) (n:=n+10) S k3 (many:=3) (by decide)
 have d3:=Cr (w:=w) (n:=n+10) S k4 (many:=3) (by decide)
 have d4:=Cr (w:=w) (n:=n+10) S k5 (many:=4) (by decide)
 have r1:=CI (t:=t) (many:=9) (by decide)
 have r2:=CI (t:=dt t 9) (many:=3) (by decide)
 have r3:=CI (t:=dt (dt t 9) 3) (many:=3) (by decide)
 have r4:=CI (t:=dt (dt (dt t 9) 3) 3) (many:=4) (by decide)
 have m1:AT (dv t 9-2) u:=Ae (k:=20) (show Int.natAbs _<2^20 by omega) bu
 refine At (st':=lw0 ns (dt (dt (dt t 9) 3) 3) (lw2 u parts s (lw5 ((dv t 9-2)*u) (dv (dt t 9) 3) (dv (dt (dt t 9) 3) 3) []))) S 2 [] [.lent (.int (dv t 9)) (AA (dt t 9)),.lent (.int (dv (dt t 9) 3)) (AA (dt (dt t 9) 3)),.lent (.int (dv (dt (dt t 9) 3) 3)) (AA (dt (dt (dt t 9) 3) 3))] rfl obs ?_
 have mid:=fun{limit:Int} (h1:1000000≤limit) (h2:limit≤10000000)=>ZK (w:=w) (n:=n) (ns:=ns) S LF (BC (many:=4) k5) hu hp hs ⟨_,r1.1,r1.2,rfl⟩ (show dv (dt t 9) 3=0∨dv (dt t 9) 3=1∨dv (dt t 9) 3=2 by lia) (show dv (dt (dt t 9) 3) 3=0∨dv (dt (dt t 9) 3) 3=1∨dv (dt (dt t 9) 3) 3=2 by lia) h1 h2
 generalize dt (dt (dt t 9) 3) 3=t4 at k5 d4 r4 mid⊢
 have e:dv t4 4=0∨dv t4 4=1∨dv t4 4=2∨dv t4 4=3:=by lia
 rcases e with e|e|e|e<;>rw[e]at d4
 ·exact At S 1 [] [.ask (.dat (.tuple [.int 1000000,.int 1414214,.int 2500000,.int 10000000])) (lw0 ns t4 (lw2 u parts s (lw5 ((dv t 9-2)*u) (dv (dt t 9) 3) (dv (dt (dt t 9) 3) 3) []))),.lent (.int 0) (AA (dt t4 4))] rfl (.cons d4 (.cons (fun Q q=>Cl S ⟨by kernel_rfl,P.lim,by decide+kernel⟩ P.flz q) .nil)) (mid (limit:=1000000) (by decide) (by decide))
 ·exact At S 1 [] [.ask (.dat (.tuple [.int 1000000,.int 1414214,.int 2500000,.int 10000000])) (lw0 ns t4 (lw2 u parts s (lw5 ((dv t 9-2)*u) (dv (dt t 9) 3) (dv (dt (dt t 9) 3) 3) []))),.lent (.int 1) (AA (dt t4 4))] rfl (.cons d4 (.cons (fun Q q=>Cl S ⟨by kernel_rfl,P.lim,by decide+kernel⟩ P.flz q) .nil)) (mid (limit:=1414214) (by decide) (by decide))
 ·exact At S 1 [] [.ask (.dat (.tuple [.int 1000000,.int 1414214,.int 2500000,.int 10000000])) (lw0 ns t4 (lw2 u parts s (lw5 ((dv t 9-2)*u) (dv (dt t 9) 3) (dv (dt (dt t 9) 3) 3) []))),.lent (.int 2) (AA (dt t4 4))] rfl (.cons d4 (.cons (fun Q q=>Cl S ⟨by kernel_rfl,P.lim,by decide+kernel⟩ P.flz q) .nil)) (mid (limit:=2500000) (by decide) (by decide))
 ·exact At S 1 [] [.ask (.dat (.tuple [.int 1000000,.int 1414214,.int 2500000,.int 10000000])) (lw0 ns t4 (lw2 u parts s (lw5 ((dv t 9-2)*u) (dv (dt t 9) 3) (dv (dt (dt t 9) 3) 3) []))),.lent (.int 3) (AA (dt t4 4))] rfl (.cons d4 (.cons (fun Q q=>Cl S ⟨by kernel_rfl,P.lim,by decide+kernel⟩ P.flz q) .nil)) (mid (limit:=10000000) (by decide) (by decide))
theorem Xs(S:Al O P.K U)(LF:LwF){ns:List Int}{t:Ba}(ht:AJ t):LwP O w U P n 1 (lw0 ns t []):=by
 have d4:=Cr (w:=w) (n:=n+10) S ht (many:=3) (by decide)
 have r4:=CI (t:=t) (many:=3) (by decide)
 have e:dv t 3=0∨dv t 3=1∨dv t 3=2:=by lia
 have low:=fun{u:Int} (hu)=>ZL (w:=w) (n:=n) (ns:=ns) (u:=u) S LF (BC (many:=3) ht) hu
 rcases e with e|e|e<;>rw[e]at d4
 ·exact At S 1 [] [.ask (.dat (.tuple [.int 1,.int 90,.int 1000])) (lw0 ns t []),.lent (.int 0) (AA (dt t 3))] rfl (.cons d4 (.cons (fun Q q=>Cl S ⟨by kernel_rfl,P.uni,by decide+kernel⟩ P.fuz q) .nil)) (low (.inl rfl))
 ·exact At S 1 [] [.ask (.dat (.tuple [.int 1,.int 90,.int 1000])) (lw0 ns t []),.lent (.int 1) (AA (dt t 3))] rfl (.cons d4 (.cons (fun Q q=>Cl S ⟨by kernel_rfl,P.uni,by decide+kernel⟩ P.fuz q) .nil)) (low (.inr (.inl rfl)))
 ·exact At S 1 [] [.ask (.dat (.tuple [.int 1,.int 90,.int 1000])) (lw0 ns t []),.lent (.int 2) (AA (dt t 3))] rfl (.cons d4 (.cons (fun Q q=>Cl S ⟨by kernel_rfl,P.uni,by decide+kernel⟩ P.fuz q) .nil)) (low (.inr (.inr rfl)))
noncomputable def TY(x:Int):Int:=x.fmod ((10:Int)^(60:Int).toNat)
noncomputable def tpE:Expr:=kid (Ap (lwX [0])) 0
theorem Xt(S:Al O P.K U){Q:List Dat→St→Prop}(F:∀acc s,Q acc (Iu ["cell"] s)→Q acc s):∀(xs:List Int) (acc:List Dat),acc.length+xs.length≤63→Q (acc++(xs.map TY).map .int) []→
 Bh O w U (By (Lx tpE) (scC 406)) (n+11) (ER tpE) (ES tpE) (EQ tpE) Q (xs.map .int) acc []:=by
 intro xs
 induction xs with
 |nil=>intro acc _ q;exact(append_nil acc)▸q
 |cons x xs ih=>
  intro acc hl q
  rw[length_cons]at hl
  have b1:Cv .Pow (.int 10) (.int 60):=⟨by decide,by decide,by decide⟩
  have b2:Cv .Mod (.int x) (.int ((10:Int)^(60:Int).toNat)):=show(10:Int)^(60:Int).toNat≠0 by decide+kernel
  refine AZ S ["cell"] [.ask (.dat (.int x)) [("cell",.dat (.int x))]] (ih (acc++[.int (TY x)]) (by refine rr length_append (rr length_singleton ?_);exact Ac hl) (by refine rr (append_assoc ..) ?_;exact q)) rfl (.cons b2 (.cons b1 (.cons (fun Q q=>?_) .nil))) (le_trans (show _≤1000 by exact Ac hl) (by decide)) F
  exact af S (glb P (by kernel_rfl) (by kernel_rfl)) rfl (AH S (os:=[]) rfl .nil ⟨_,_,rfl,Yj,q⟩)
theorem Aa6(S:Al O P.K U){ns:List Int}(hz:ns.length≤63)(LF:LwF):Ss O w U (scC 406) (n+11) (AQ 406) ([("script",.dat (.list (ns.map .int)))]:St) (fun fl _=>flD fl=.bool true):=by
 have hs:(ns.map Dat.int).length≤sizeLine:=le_trans (show _≤1000 by refine rr (length_map ..) ?_;exact Ac hz) (by decide)
 refine At (st':=lw0 ns ((ns.take 63).map TY,0) []) S 1 [] [.ask (.dat (.list (((ns.take 63).map TY).map .int))) [("script",.dat (.list (ns.map .int)))]] rfl (.cons (fun Q q=>?_) .nil) (Xs S LF (show _≤1000 by refine rr (length_map ..) (rr length_take ?_);exact(Ac (min_le_left (63) (ns.length)))))
 refine AO (Da (Bz.of (by kernel_rfl)) (Ei (Do S (os:=[]) rfl (.cons hs .nil) ⟨_,rfl,?_⟩)))
 ·refine rl map_take ?_
  refine Xt S ?_ (ns.take 63) [] (by refine rr length_nil (rr length_take ?_);exact(Ac (min_le_left (63) (ns.length)))) q
  intro acc s q
  rwa [AY (by kernel_rfl)]at q
end
noncomputable def bl(K:Frag)(f:Addr):Bool:=match K.lookup f with
 |some ⟨_,_,.func _,_⟩=>true
 |_=>false
set_option tactic.hygienic true in
theorem Xu{K:Frag}{f:Addr}(h:bl K f=true):∃o,K.lookup f=some o∧o.data=.func (IU K f):=by
 unfold bl at h
 unfold IU
 split at h
 ·rename_i e
  refine rr e ?_
  exact⟨_,rfl,rfl⟩
 ·cases h
noncomputable def Xv(K:Frag)(f:Addr)(ps:List Str):Bool:=bl K f&&codeIn K (IU K f).code (IU K f).qualname&&(IU K f).closure.isEmpty&&Nat.beq (IU K f).globals mainGlobals&&Nat.beq (IU K f).builtins builtinsNs
 &&ps.all (fun x=>(scC f).names.lookup x==some .local||(scC f).names.lookup x==some .cell)&&decide ps.Nodup&&(scC f).names.all (fun p=>(p.2!= .cell&&p.2!= .free)||((cellsFrom 0 (scC f).names []).lookup p.1).isSome)
 &&!(scC f).isCoroutine&&!(scC f).isGenerator&&((scC f).kind== .function)
theorem XC.of{K:Frag}{f:Addr}{ps:List Str}(h:Xv K f ps=true)(hb:(IU K f).body=.stmts (AQ f))(hs:(IU K f).scope=scC f)(hv:∀vs:List Value,vs.length=ps.length→∀s:Shared,K.In s.heap→BindsTo s (IU K f) ⟨vs,[]⟩ (ps.zip vs)):XC K f ps:=by
 unfold Xv at h
 rw[←hs]at h
 obtain⟨h,h11⟩:=BL h
 obtain⟨h,h10⟩:=BL h
 obtain⟨h,h9⟩:=BL h
 obtain⟨h,h8⟩:=BL h
 obtain⟨h,h7⟩:=BL h
 obtain⟨h,h6⟩:=BL h
 obtain⟨h,h5⟩:=BL h
 obtain⟨h,h4⟩:=BL h
 obtain⟨h,h3⟩:=BL h
 obtain⟨h1,h2⟩:=BL h
 exact⟨⟨Xu h1,h2,hb,List.isEmpty_iff.mp h3,eq_of_beq_eq_true h4,eq_of_beq_eq_true h5,hv,Sc h6,of_decide_eq_true h7,Sb h8,BY h9,BY h10,eq_of_beq h11⟩,hs⟩
theorem Mp{C k:Addr}{f:Str}{fs:List Str}(h:(Nat.beq C k&&List.elem f fs)=true):C=k∧f∈fs:=
 have e:=BL h
 ⟨eq_of_beq_eq_true e.1,List.elem_iff.mp e.2⟩
def Nw(K:Frag)(C:Addr)(fs:List Str):Prop:=CE K C∧∀f∈fs,BO K C f
theorem Xw{K:Frag}(h1:Nw K 141 ["points","is_closed"])(h2:Nw K 194 ["lengths","number","left"])(h3:Nw K 301 ["half","cap","join","limit","matrix","is_turned","rows"]):∀C f,XA C f=true→CE K C∧BO K C f:=by
 intro C f h
 rcases Bool.or_eq_true_iff.mp h with h|h
 ·obtain⟨rfl,hf⟩:=Mp h
  exact⟨h1.1,h1.2 f hf⟩
 ·rcases Bool.or_eq_true_iff.mp h with h|h
  ·obtain⟨rfl,hf⟩:=Mp h
   exact⟨h2.1,h2.2 f hf⟩
  ·obtain⟨rfl,hf⟩:=Mp h
   exact⟨h3.1,h3.2 f hf⟩
noncomputable def tk:Nat→(Nat→Value)→List Value
 |0,_=>[]
 |n+1,g=>g 0::tk n fun i=>g (i+1)
theorem ZM:∀(vs:List Value),vs=tk vs.length fun i=>vs.getD i .none:=by
 intro vs
 induction vs with
 |nil=>
  exact rfl
 |cons v vs ih=>
  exact congrArg (v:: ·) (ih)
noncomputable def ZN(fd:FuncData)(vs:List Value):{k:Option (Array Value)→Sem (List (Str×Value))//bindArgs fd ⟨vs,[]⟩=seqItems? fd.defaults>>=k}:=⟨_,rfl⟩
theorem Aa7{K:Frag}{f T:Addr}{ps:List Str}{items:Array Value}{o:Obj}{n m:Nat}(hd:(IU K f).defaults=.ref T)(ho:K.lookup T=some o)(hs:o.data=.seq items m)(hn:ps.length=n)(h:∀g:Nat→Value,(ZN (IU K f) (tk n g)).1 (some items)=pure (ps.zip (tk n g))):∀vs:List Value,vs.length=ps.length→∀s:Shared,K.In s.heap→BindsTo s (IU K f) ⟨vs,[]⟩ (ps.zip vs):=by
 intro vs e s X
 have h:=h fun i=>vs.getD i .none
 rw[←hn,←e,←ZM]at h
 exact binds_K X hd ho hs (ZN _ vs).2 h
noncomputable def Rv(f:Addr):Bool:=f==170||f==213
noncomputable def bm:Option (Option Value)→Tok
 |some (some (.int _ t))=>t
 |_=>0
noncomputable def gv1(K:Frag)(x:Str):GV→Option (Option Value)×Bool×Bool×Option (Option Value)×Option Value
 | .fn f=>(nsIn K mainGlobals x,keepIn K (.ref f),true,none,none)
 | .lend f=>(nsIn K mainGlobals x,keepIn K (.ref f),true,none,none)
 | .cls C fI=>(nsIn K mainGlobals x,keepIn K (.ref C),makesIn K C,findIn K (.ref C) "__init__",typeIn K (.ref fI))
 | .dat _=>(nsIn K mainGlobals x,true,true,none,none)
 | .bi=>(nsIn K mainGlobals x,!(x=="__name__"),true,none,none)
noncomputable def gv2(K:Frag)(x:Str):GV→Option (Option Value)×Bool×Bool×Option (Option Value)×Option Value
 | .fn f=>(some (some (.ref f)),true,true,none,none)
 | .lend f=>(some (some (.ref f)),true,true,none,none)
 | .cls C fI=>(some (some (.ref C)),true,true,some (some (.ref fI)),some (.type "function"))
 | .dat d=>(some (some (.int d (bm (nsIn K mainGlobals x)))),true,true,none,none)
 | .bi=>(some none,true,true,none,none)
structure aa(K:Frag):Prop where
 chk:(fnL.all fun p=>Xv K p.1 p.2.1)=true
 body:(fnL.map fun p=>((IU K p.1).body,(IU K p.1).scope))=fnL.map fun p=>(.stmts (AQ p.1),scC p.1)
 bind:∀g:Nat→Value,(fnL.map fun p=>bif Rv p.1 then none else some (bindArgs (IU K p.1) ⟨tk p.2.1.length g,[]⟩))=fnL.map fun p=>bif Rv p.1 then none else some (pure (p.2.1.zip (tk p.2.1.length g)))
 b1:∀vs:List Value,vs.length=3→∀s:Shared,K.In s.heap→BindsTo s (IU K 170) ⟨vs,[]⟩ ((["self","lengths","offset"]:List Str).zip vs)
 b2:∀vs:List Value,vs.length=4→∀s:Shared,K.In s.heap→BindsTo s (IU K 213) ⟨vs,[]⟩ ((["line","lengths","offset","most"]:List Str).zip vs)
 cls:([141,194,301].map fun C=>(findIn K (.ref C) "__getattribute__",findIn K (.ref C) "__getattr__",findIn K (.ref C) "__setattr__",plainOver K C,hasDictIn K C))=[141,194,301].map fun _=>(some (some (.builtin "object.__getattribute__")),some none,some (some (.builtin "object.__setattr__")),true,true)
 f1:((["points","is_closed"]:List Str).map fun f=>findIn K (.ref 141) f)=[some none,some none]
 f2:((["lengths","number","left"]:List Str).map fun f=>findIn K (.ref 194) f)=[some none,some none,some none]
 f3:((["half","cap","join","limit","matrix","is_turned","rows"]:List Str).map fun f=>findIn K (.ref 301) f)=[some none,some none,some none,some none,some none,some none,some none]
 meth:(Se.map fun p=>(findIn K (.ref p.2.1) p.1,typeIn K (.ref p.2.2),keepIn K (.ref p.2.2),List.elem p.2.1 [141,194,301]))=Se.map fun p=>(some (some (.ref p.2.2)),some (.type "function"),true,true)
 glo:(LP.map fun p=>gv1 K p.1 p.2)=LP.map fun p=>gv2 K p.1 p.2
 bi:(biL.map fun x=>nsIn K mainGlobals x)=biL.map fun _=>some none
 uni:nsIn K mainGlobals "_law_units"=some (some (.ref 316))
 lim:nsIn K mainGlobals "_law_limits"=some (some (.ref 317))
 pla:nsIn K mainGlobals "_law_plain"=some (some (.ref 318))
 fuz:Fz (fun b o=>K.lookup b=some o) (.ref 316) (.tuple [.int 1,.int 90,.int 1000])
 flz:Fz (fun b o=>K.lookup b=some o) (.ref 317) (.tuple [.int 1000000,.int 1414214,.int 2500000,.int 10000000])
 fpz:Fz (fun b o=>K.lookup b=some o) (.ref 318) (.tuple [.int 1,.int 0,.int 0,.int 1,.int 0,.int 0])
theorem ZO:(fnL.filterMap fun p=>bif Rv p.1 then some p else none)=[fp 170 ["self","lengths","offset"] 27 1,fp 213 ["line","lengths","offset","most"] 29 0]:=by kernel_rfl
theorem bq{K:Frag}(F:aa K):∀p∈fnL,XC K p.1 p.2.1:=by
 intro p hp
 have hb:=map_inj_left.mp F.body p hp
 refine XC.of (all_eq_true.mp F.chk p hp) (congrArg Prod.fst hb) (congrArg Prod.snd hb) ?_
 by_cases hd:Rv p.1=true
 ·have hq:p∈(fnL.filterMap fun p=>bif Rv p.1 then some p else none):=mem_filterMap.mpr ⟨p,hp,by refine rr hd ?_;rfl⟩
  rw[ZO]at hq
  rcases mem_cons.mp hq with rfl|hq
  ·exact F.b1
  ·cases mem_singleton.mp hq
   exact F.b2
 ·refine Vs fun vs e=>?_
  have h:=map_inj_left.mp (F.bind fun i=>vs.getD i .none) p hp
  rw[Bool.eq_false_iff.mpr hd]at h
  have h:=Option.some.inj h
  rw[←e,←ZM]at h
  exact h
theorem UR{α β:Type}{l:List α}{f g:α→β}(e:l.map f=l.map g){x:α}(h:x∈l):f x=g x:=map_inj_left.mp e x h
theorem bv{K:Frag}{C:Addr}(h:(findIn K (.ref C) "__getattribute__",findIn K (.ref C) "__getattr__",findIn K (.ref C) "__setattr__",plainOver K C,hasDictIn K C)=(some (some (.builtin "object.__getattribute__")),some none,some (some (.builtin "object.__setattr__")),true,true)):CE K C:=
 ⟨congrArg (·.1) h,congrArg (·.2.1) h,congrArg (·.2.2.1) h,congrArg (·.2.2.2.1) h,congrArg (·.2.2.2.2) h⟩
theorem Rw{K:Frag}{C:Addr}{fs:List Str}(h:CE K C)(e:(fs.map fun f=>findIn K (.ref C) f)=fs.map fun _=>some none):Nw K C fs:=⟨h,fun f hf=>map_inj_left.mp e f hf⟩
theorem Nx{K:Frag}(F:aa K):∀C∈[141,194,301],CE K C:=fun C hC=>bv (UR F.cls hC)
theorem bz{K:Frag}{x:Str}:∀{g:GV},gv1 K x g=gv2 K x g→ZT K x g
 | .fn _,h=>⟨congrArg (·.1) h,congrArg (·.2.1) h⟩
 | .lend _,h=>⟨congrArg (·.1) h,congrArg (·.2.1) h⟩
 | .cls _ _,h=>⟨congrArg (·.1) h,congrArg (·.2.1) h,congrArg (·.2.2.1) h,congrArg (·.2.2.2.1) h,congrArg (·.2.2.2.2) h⟩
 | .dat _,h=>⟨_,congrArg (·.1) h⟩
 | .bi,h=>⟨congrArg (·.1) h,fun e=>nomatch (BY (congrArg (·.2.1) h)).symm.trans (beq_iff_eq.mpr e)⟩
theorem cw{K:Frag}(F:aa K):Cw K where
 fld:=Xw (Rw (Nx F _ (List.mem_cons_self ..)) F.f1) (Rw (Nx F _ (.tail _ (.head _))) F.f2) (Rw (Nx F _ (.tail _ (.tail _ (.head _)))) F.f3)
 meth p hp:=have h:=map_inj_left.mp F.meth p hp;⟨Nx F _ (List.elem_iff.mp (congrArg (·.2.2.2) h)),congrArg (·.1) h,congrArg (·.2.1) h,congrArg (·.2.2.1) h⟩
 glo p hp:=bz (map_inj_left.mp F.glo p hp)
theorem ZP{K:Frag}(h:∀x∈biL,nsIn K mainGlobals x=some none):∀x,biL.contains x=true→nsIn K mainGlobals x=some none:=fun x e=>h x (List.contains_iff_mem.mp e)
noncomputable def kfG{K:Frag}(F:aa K):KF where
 K:=K
 tab:=cw F
 fn:=fun _ _ _ _ h=>bq F _ (EG h)
 bi:=ZP (fun x hx=>UR (f:=fun x=>nsIn K mainGlobals x) (g:=fun _=>some none) F.bi hx)
 uni:=F.uni
 lim:=F.lim
 pla:=F.pla
 fuz:=F.fuz
 flz:=F.flz
 fpz:=F.fpz
section
variable{O:Program}{w:World}{U:Heap}{K:Frag}{sc:Scope}{n:Nat}{st:St}
theorem ZQ{f:Addr}{fd:FuncData}{body:List Stmt}{ps:List Str}(S:Al O K U)(ok:Xz K f fd body ps){A:Around}{s:Shared}{vs:List Value}{Q:Value→Shared→Prop}{E:Value→Shared→Prop}(hD:A.depth<recursionLimit)(hl:vs.length=ps.length)
 (hb:∀b o,U.get? b=some o→s.heap.get? b=some o)
 (h:∀env h' tk,Be fd.scope env→(∀b o,s.heap.get? b=some o→h'.get? b=some o)→(s.heap.get? env.locals=none∧∃m,h'.Ns env.locals m)→(∀x c,env.cells.lookup x=some c→s.heap.get? c=none∧∃v,h'.IsCell c v)→
  (∀x v,(x,v)∈ps.zip vs→AF h' env x v)→wpAny (model O w) (A.deeper env) (execs body env) (fun f s'=>Q (flV f) s') (fun _ _=>False) {s with heap:=h',toks:=tk}):
 codeAny (model O w) A (.call (.ref f) ⟨vs,[]⟩) (Kw Q E) s:=by
 obtain⟨o,ho,hd⟩:=ok.look
 have X:=S.X.keeps hb
 have names:∀k x,((cellsFrom k fd.scope.names []).lookup x).isSome=((cellsFrom 0 fd.scope.names []).lookup x).isSome:=fun k x=>CT (cellsFrom_names _ _ _ _ _ rfl) x
 have hmem:∀x∈ps.zip vs,x.1∈ps:=fun x hx=>(of_mem_zip (a:=x.1) (b:=x.2) hx).1
 have hnd:((ps.zip vs).map (·.1)).Nodup:=by
  refine rr (List.map_fst_zip (by exact Ac (le_of_eq hl.symm))) ?_;exact ok.nodup
 refine(IM hD (X _ _ ho) hd (S.lim.keeps hb) (codeRec_of X ok.code) ok.body (ok.binds vs hl s X) ok.clo (fun x hx=>?_) (fun s1 ic=>?_) ok.co ok.gen ok.kind)
 ·rcases ok.kinds x.1 (hmem x hx)with q|q
  ·exact .inl q
  ·exact .inr ⟨q,by refine rr (names ..) ?_;exact ok.cells _ (.inl q)⟩
 ·obtain⟨h',tk,rfl,hk⟩:=ic.done
  have hL:(callEnvC fd s.heap.objs.size f).locals=s.heap.objs.size:=rfl
  refine wpAny_mono (h (callEnvC fd s.heap.objs.size f) h' tk ⟨rfl,ok.kind,ok.glob,ok.blt,fun x c e q=>?_,fun x y c e1 e2=>?_,fun x hx=>?_⟩ hk ⟨AL _ (le_refl _),_,ic.toInCall.ns⟩ (fun x c e=>⟨AL _ ?_,_,ic.cell x c e⟩) fun x v hx=>?_) (fun f s' q=>q) fun _ _ q=>q.elim
  ·have:=ic.above x c (mem_of_lookup e)
   rw[q]at this;exact lt_irrefl _ this
  ·exact name_of_addr ic.apart (mem_of_lookup e1) (mem_of_lookup e2)
  ·have:=ok.cells x hx
   rw[←names (s.heap.objs.size+1)]at this
   exact isSome_iff_exists.mp this
  ·exact Nat.le_of_lt (ic.above x c (mem_of_lookup e))
  ·have hx1:(callEnvC fd s.heap.objs.size f).kindOf x=fd.scope.names.lookup x:=rfl
   rcases ok.kinds x (hmem _ hx)with q|q
   ·exact .inl ⟨hx1.trans q,_,ic.toInCall.ns,My _ _ x v hnd hx (hx1.trans q)⟩
   ·have hs:=ok.cells x (.inl q)
    rw[←names (s.heap.objs.size+1)]at hs
    obtain⟨c,hc⟩:=isSome_iff_exists.mp hs
    have:=ic.cell x c hc
    rw[Mz _ _ x v hnd hx (by refine rr hx1 (rr q ?_);decide)]at this
    exact .inr ⟨.inl (hx1.trans q),c,hc,this⟩
theorem bA(S:Al O K U){f:Addr}{fd:FuncData}{body:List Stmt}{ps:List Str}{ds:List Dat}{Q:Dat→Prop}(ok:Xz K f fd body ps)(hlen:ds.length=ps.length)
 (h:Ss O w U fd.scope n body (BP ps ds) (fun fl _=>Q (flD fl))) {A:Around}{s:Shared}{vs:List Value} (hh:A.handled=none) (hd:A.depth+3*n+111<recursionLimit) (hu:A.units+20*n+103<cLine) (hf:A.frames=some [])
 (base:∀b o,U.get? b=some o→s.heap.get? b=some o) (fz:FzL (fun b o=>s.heap.get? b=some o) vs ds):
 codeAny (model O w) A (.call (.ref f) ⟨vs,[]⟩) (Kw (fun r s'=>∃d h' tk',s'={s with heap:=h',toks:=tk'}∧(∀b o,s.heap.get? b=some o→h'.get? b=some o)∧Fz (fun b o=>h'.get? b=some o) r d∧Q d) (fun _ _=>False)) s:=by
 have hvl:vs.length=ds.length:=fz.length
 have fzv:FzL (vis [] [] s.heap) vs ds:=fz.mono fun b o e=>⟨not_mem_nil,not_mem_nil,e⟩
 refine ZQ S ok (by exact Ac hd) (by simp[hvl,hlen]) base fun env h' tk hE hk hl hc hv=>?_
 have rows:∀x b,(x,b)∈BP ps ds→∃u,AF h' env x u∧Ct (vis [] [] s.heap) s.heap u b []∧∀c∈([]:List Addr),c∈([]:List Addr):=fun x b hx=>by
  obtain⟨k,d,h1,h2,rfl⟩:=Gl hx
  obtain⟨u,hu,fu⟩:∃u,vs[k]?=some u∧Fz (vis [] [] s.heap) u d:=fzv.get h2
  exact⟨u,hv x u (Gm h1 hu),.dat fu,fun _ h=>h⟩
 obtain⟨r,kv⟩:=Vl (U:=U) (st:=BP ps ds) (fun b o e=>⟨not_mem_nil,not_mem_nil,base b o e⟩) (fun _ h=>absurd h not_mem_nil) (fun _ h=>absurd h not_mem_nil) (fun _ h=>absurd h not_mem_nil) hk hl hc (Eh ok.nodup) (fun _=>[]) rows (fun x y ne c hc1=>nomatch hc1)
 have room:CU (A.deeper env) n:=by
  refine⟨hh,?_,?_,env,[],?_,?_,?_,hE.blt,hE.glob⟩
  ·show A.depth+1+3*n+110<recursionLimit
   exact Ac hd
  ·show A.units+3+20*n+100<cLine
   exact Ac hu
  ·show A.frames.map (env:: ·)=_
   refine rr hf ?_;rfl
  ·refine rr hE.isSc ?_;exact ok.gen
  ·refine rr hE.isSc ?_;exact ok.co
 refine wpAny_mono (h (A.deeper env) env _ [] {s with heap:=h',toks:=tk} room hE r) ?_ fun _ _ x=>x
 rintro fl s2 ⟨fl',st',as',h2,t2,rfl,S2,r2,fo,q⟩
 refine⟨flD fl',h2,t2,rfl,fun b o e=>?_,fo.val.mono fun b o x=>x.2.2,q⟩
 exact S2.keep b o (fun z=>by rw[z,hl.1]at e;cases e) (fun _ x z=>by rw[(hc x b z).1]at e;cases e) not_mem_nil (hk b o e)
theorem Aa5{P:KF}(S:Al O P.K U){f:Addr}{ps:List Str}{ds:List Dat}{Q:Dat→Prop}(ok:OkF P f ps)(hlen:ds.length=ps.length)
 (h:Ss O w U (scC f) n (AQ f) (BP ps ds) (fun fl _=>Q (flD fl))) {A:Around}{s:Shared}{vs:List Value} (hh:A.handled=none) (hd:A.depth+3*n+111<recursionLimit) (hu:A.units+20*n+103<cLine) (hf:A.frames=some [])
 (base:∀b o,U.get? b=some o→s.heap.get? b=some o) (fz:FzL (fun b o=>s.heap.get? b=some o) vs ds):
 codeAny (model O w) A (.call (.ref f) ⟨vs,[]⟩) (Kw (fun r s'=>∃d h' tk',s'={s with heap:=h',toks:=tk'}∧(∀b o,s.heap.get? b=some o→h'.get? b=some o)∧Fz (fun b o=>h'.get? b=some o) r d∧Q d) (fun _ _=>False)) s:=
 bA S ok.1 hlen (ok.2▸h) hh hd hu hf base fz
end
set_option tactic.hygienic true in
theorem Aa3{h:Heap}{vs:List Value}{ns:List Int}(hI:IntsAre vs ns):FzL (fun b o=>h.get? b=some o) vs (ns.map .int):=by
 induction hI with
 |nil=>exact .nil
 |cons=>rename_i ih;exact .cons (.int _ _) ih
set_option tactic.hygienic true in
theorem TZ{P:Params}{h:Heap}{l:Addr}{x:WData}(w:Well P h (.ref l) x):∃o,h.get? l=some o∧∀vs n,o.cls=.type "list"→o.data=.seq vs n→o=seqObj "list" vs n:=by
 cases w<;>(rename_i ho;refine⟨_,ho,fun vs n c d=>?_⟩;first|(cases d;rfl)|(cases d;done)|(cases d;simp at c;done)|(cases c;done))
theorem Aa0{P:Params}{h:Heap}{l:Addr}{vs:List Value}{x:WData}(w:Well P h (.ref l) x)(hL:h.IsList l vs.toArray):∃n,h.get? l=some (seqObj "list" vs.toArray n):=by
 obtain⟨o,e,c,n,d⟩:=hL
 obtain⟨o',e',k⟩:=TZ w
 obtain rfl:=Option.some.inj (e.symm.trans e')
 exact⟨n,k _ _ c d▸e⟩
end Mine
open PySem PySem.W PyProof.Rows
namespace Mine.hd
theorem tw17311223219408574766:0=0:=rfl
theorem tw17087091549796120035:0=0:=rfl
theorem tw6924109203229866365:0=0:=rfl
theorem tw15616948245753086127:0=0:=rfl
theorem tw14892549342360969540:0=0:=rfl
theorem tw7519716089354478335:0=0:=rfl
theorem tw978945382295711627:0=0:=rfl
theorem tw4065347644161347641:0=0:=rfl
theorem tw6293948785866598258:0=0:=rfl
theorem tw5961118342813265553:0=0:=rfl
theorem tw9641152695372364146:0=0:=rfl
theorem tw18185175575083235020:0=0:=rfl
theorem tw11128854368766332075:0=0:=rfl
theorem tw4377701919642642989:0=0:=rfl
theorem tw8068729725432388964:0=0:=rfl
theorem tw10216474801634566288:0=0:=rfl
theorem tw5148922909946612681:0=0:=rfl
theorem tw5781342201191254626:0=0:=rfl
theorem tw17711083657039698284:0=0:=rfl
theorem tw1452849714261714991:0=0:=rfl
theorem tw14620637471214046174:0=0:=rfl
theorem tw12631932088317031055:0=0:=rfl
theorem tw14176624398918483544:0=0:=rfl
theorem tw15043168886218598503:0=0:=rfl
theorem tw2867327485932766208:0=0:=rfl
theorem tw6990203504111849199:0=0:=rfl
theorem tw15103106377680225435:0=0:=rfl
theorem tw11652457597714270106:0=0:=rfl
theorem tw16649331688326792143:0=0:=rfl
theorem tw4856431653887292112:0=0:=rfl
theorem tw307737655149646647:0=0:=rfl
theorem tw3953601041324332601:0=0:=rfl
theorem tw11117797201346649052:0=0:=rfl
theorem tw6816204898703644334:0=0:=rfl
theorem tw2216850387143573719:0=0:=rfl
theorem tw461538923250603899:0=0:=rfl
theorem tw6838551448383532254:0=0:=rfl
theorem tw7822882547125802209:0=0:=rfl
theorem tw8047900516022102942:0=0:=rfl
theorem tw8671608845466749128:0=0:=rfl
theorem tw14896477498954680388:0=0:=rfl
theorem tw3418944747029953165:0=0:=rfl
theorem tw8343274005884668182:0=0:=rfl
theorem tw6998783941825042932:0=0:=rfl
theorem tw16772102934027710169:0=0:=rfl
theorem tw13330244855972007585:0=0:=rfl
theorem tw17599816209265215132:0=0:=rfl
theorem tw2114630138375439770:0=0:=rfl
theorem tw7752767780024739350:0=0:=rfl
theorem tw17650839729002327288:0=0:=rfl
theorem tw12092154237167983948:0=0:=rfl
theorem tw6528754448969337418:0=0:=rfl
theorem tw5373601922739893978:0=0:=rfl
theorem tw8770205317985620760:0=0:=rfl
theorem tw7540655947842036084:0=0:=rfl
theorem tw12373568994912964417:0=0:=rfl
theorem tw14353793391729792155:0=0:=rfl
theorem tw12588582704262371052:0=0:=rfl
theorem tw5282504435634884242:0=0:=rfl
theorem tw11953376511379268794:0=0:=rfl
theorem tw11893437276241958245:0=0:=rfl
theorem tw1382963296337349011:0=0:=rfl
theorem tw3182187488490625086:0=0:=rfl
theorem tw18300207936620678264:0=0:=rfl
theorem tw15368132723985388332:0=0:=rfl
theorem tw13518370688599389936:0=0:=rfl
theorem tw5363564295841288755:0=0:=rfl
theorem tw5562173858411828344:0=0:=rfl
theorem tw13919464512627920130:0=0:=rfl
theorem tw5278057926702712004:0=0:=rfl
theorem tw3443669649825651883:0=0:=rfl
theorem tw3915529967508079626:0=0:=rfl
theorem tw6545403380812914513:0=0:=rfl
theorem tw3480954088277226078:0=0:=rfl
theorem tw12173100003817136821:0=0:=rfl
theorem tw7082855905992002993:0=0:=rfl
theorem tw11631869004601391166:0=0:=rfl
theorem tw4478964076566166474:0=0:=rfl
theorem tw6982297934935202809:0=0:=rfl
theorem tw14294001040229213422:0=0:=rfl
theorem tw10525666975642140466:0=0:=rfl
theorem tw7510230149288206974:0=0:=rfl
theorem tw12901994302517312135:0=0:=rfl
theorem tw6819123309680001836:0=0:=rfl
theorem tw16740174149368742834:0=0:=rfl
theorem tw5987830557187376847:0=0:=rfl
theorem tw17901334829092211166:0=0:=rfl
theorem tw2195365466389143174:0=0:=rfl
theorem tw13225837485096350037:0=0:=rfl
theorem tw16037735763661986305:0=0:=rfl
theorem tw6598312636042714100:0=0:=rfl
theorem tw3759623122121258479:0=0:=rfl
theorem tw1865391376527767206:0=0:=rfl
theorem tw8117029840178788049:0=0:=rfl
theorem tw8545014587354053640:0=0:=rfl
theorem tw9427301549700849589:0=0:=rfl
theorem tw701787995468756871:0=0:=rfl
theorem tw12050417470231563642:0=0:=rfl
theorem tw10655696196156170337:0=0:=rfl
theorem tw9277588360372424766:0=0:=rfl
theorem tw17047115858639842297:0=0:=rfl
theorem tw17420951861521290806:0=0:=rfl
theorem tw5978321128707920903:0=0:=rfl
theorem tw6060742912462422084:0=0:=rfl
theorem tw9783614193127449063:0=0:=rfl
theorem tw5635641802508607975:0=0:=rfl
theorem tw13483081372092288885:0=0:=rfl
theorem tw8977307856219701671:0=0:=rfl
theorem tw4706079058837389440:0=0:=rfl
theorem tw6461092829900370380:0=0:=rfl
theorem tw8727321023445011275:0=0:=rfl
theorem tw2274498078352570744:0=0:=rfl
theorem tw4993660671451451078:0=0:=rfl
theorem tw1129884963351977449:0=0:=rfl
theorem tw7085514621470718492:0=0:=rfl
theorem tw6830512106363814048:0=0:=rfl
theorem tw13855946660403688772:0=0:=rfl
theorem tw10258999931320997221:0=0:=rfl
theorem tw10170382586518783626:0=0:=rfl
theorem tw9300813670754565901:0=0:=rfl
theorem tw15166520500009309586:0=0:=rfl
theorem tw17574625026820762457:0=0:=rfl
theorem tw16412773359747925120:0=0:=rfl
theorem tw16794629799341752650:0=0:=rfl
theorem tw17673860158736603733:0=0:=rfl
theorem tw10403243965636340961:0=0:=rfl
theorem tw4225703048834024713:0=0:=rfl
theorem tw9557236495431379559:0=0:=rfl
theorem tw4172343393113369950:0=0:=rfl
theorem tw16945582573551092051:0=0:=rfl
theorem tw4015398097383911347:0=0:=rfl
theorem tw9430268157657104642:0=0:=rfl
theorem tw3828038474966422129:0=0:=rfl
theorem tw18433733373944582078:0=0:=rfl
theorem tw16853341256802265648:0=0:=rfl
theorem tw13217225542625558698:0=0:=rfl
theorem tw15527848837575444561:0=0:=rfl
theorem tw1292937080889116121:0=0:=rfl
theorem tw3381375190539634487:0=0:=rfl
theorem tw13828106393651249627:0=0:=rfl
theorem tw17588044629489971554:0=0:=rfl
theorem tw10727248033764811480:0=0:=rfl
theorem tw4851647983119433812:0=0:=rfl
theorem tw16473244170626142550:0=0:=rfl
theorem tw14705683404202351889:0=0:=rfl
theorem tw10784824025267889561:0=0:=rfl
theorem tw10743916045514856203:0=0:=rfl
theorem tw15508949281206285077:0=0:=rfl
theorem tw4272726840584523970:0=0:=rfl
theorem tw3109861748172591687:0=0:=rfl
theorem tw16828841361933241965:0=0:=rfl
theorem tw15595854959937240912:0=0:=rfl
theorem tw15083628210047938546:0=0:=rfl
theorem tw6196171512934965099:0=0:=rfl
theorem tw10458740792067480800:0=0:=rfl
theorem tw3219085151875037572:0=0:=rfl
theorem tw1506431575118746342:0=0:=rfl
theorem tw17183224562656869120:0=0:=rfl
theorem tw13866372431405929976:0=0:=rfl
theorem tw15833661619300960221:0=0:=rfl
theorem tw12112201142124510154:0=0:=rfl
theorem tw17213754286329925777:0=0:=rfl
theorem tw3530705653197291679:0=0:=rfl
theorem tw6820862383352777685:0=0:=rfl
theorem tw11161378853769524075:0=0:=rfl
theorem tw402640490398009360:0=0:=rfl
theorem tw8716120427605611371:0=0:=rfl
theorem tw15837987909243819085:0=0:=rfl
theorem tw7120233287515763914:0=0:=rfl
theorem tw7763873220885509757:0=0:=rfl
theorem tw15642763164714097627:0=0:=rfl
theorem tw6276725880618359904:0=0:=rfl
theorem tw991583007596301734:0=0:=rfl
theorem tw18293851220164018083:0=0:=rfl
theorem tw4478166936697009375:0=0:=rfl
theorem tw1589133516308662214:0=0:=rfl
theorem tw15643275761693703936:0=0:=rfl
theorem tw18103342009636024947:0=0:=rfl
theorem tw16194383521188589630:0=0:=rfl
theorem tw432457690288141553:0=0:=rfl
theorem tw189712035060473897:0=0:=rfl
theorem tw11210553801493137410:0=0:=rfl
theorem tw17387473266821786944:0=0:=rfl
theorem tw12699036256224975057:0=0:=rfl
theorem tw6123773746684550334:0=0:=rfl
theorem tw1413172679324656950:0=0:=rfl
theorem tw9719896912496429819:0=0:=rfl
theorem tw5902613922787404954:0=0:=rfl
theorem tw5920070799505406782:0=0:=rfl
theorem tw8428860471423672150:0=0:=rfl
theorem tw1580110805410547442:0=0:=rfl
theorem tw10583446816852156582:0=0:=rfl
theorem tw10030107230732127627:0=0:=rfl
theorem tw12949589719889679912:0=0:=rfl
theorem tw8879563391730754479:0=0:=rfl
theorem tw8268277133935991078:0=0:=rfl
theorem tw14955159897011116063:0=0:=rfl
theorem tw10024716035694756283:0=0:=rfl
theorem tw10246146449241189800:0=0:=rfl
theorem tw5130813555471234732:0=0:=rfl
theorem tw16259696140248634718:0=0:=rfl
theorem tw15089522573102190283:0=0:=rfl
theorem tw11917015161858427179:0=0:=rfl
theorem tw18166333605607142505:0=0:=rfl
theorem tw11513968764499736323:0=0:=rfl
theorem tw212345690472687942:0=0:=rfl
theorem tw16299908979028503884:0=0:=rfl
theorem tw11054480109507316185:0=0:=rfl
theorem tw11631947586910100387:0=0:=rfl
theorem tw2327210489368252092:0=0:=rfl
theorem tw14560493823538711346:0=0:=rfl
theorem tw16634568088961857937:0=0:=rfl
theorem tw13790719812936386609:0=0:=rfl
theorem tw6164396464334811476:0=0:=rfl
theorem tw18245042118932799458:0=0:=rfl
theorem tw8934143017859847078:0=0:=rfl
theorem tw8025032847418708242:0=0:=rfl
theorem tw4846842124234013525:0=0:=rfl
theorem tw464777395874653626:0=0:=rfl
theorem tw1836080755315867724:0=0:=rfl
theorem tw17330945745186091897:0=0:=rfl
theorem tw16970440968685349367:0=0:=rfl
theorem tw1409312971732116557:0=0:=rfl
theorem tw4870687313549177768:0=0:=rfl
theorem tw1011335219593555734:0=0:=rfl
theorem tw18093812233618175256:0=0:=rfl
theorem tw12399718760709695909:0=0:=rfl
theorem tw5054737718236178183:0=0:=rfl
theorem tw9763420282994701918:0=0:=rfl
theorem tw4360684699965382250:0=0:=rfl
theorem tw17672654358674132775:0=0:=rfl
theorem tw8735263284916673568:0=0:=rfl
theorem tw17893044597097874663:0=0:=rfl
theorem tw13267510147771200024:0=0:=rfl
theorem tw11032806212648032379:0=0:=rfl
theorem tw14906377314874228009:0=0:=rfl
theorem tw15042006015671813226:0=0:=rfl
theorem tw6931407450589930559:0=0:=rfl
theorem tw16640546478005224243:0=0:=rfl
theorem tw18343703819029505601:0=0:=rfl
theorem tw17552017554478351026:0=0:=rfl
theorem tw17681399029576232318:0=0:=rfl
theorem tw8959176491354863721:0=0:=rfl
theorem tw2930668341846507884:0=0:=rfl
theorem tw7023726343779634624:0=0:=rfl
theorem tw5511420028821071320:0=0:=rfl
theorem tw13315533130655954831:0=0:=rfl
theorem tw3309697970292668127:0=0:=rfl
theorem tw12614811148066621264:0=0:=rfl
theorem tw9741134391959003819:0=0:=rfl
theorem tw14553816603554493358:0=0:=rfl
theorem tw10949625832625181284:0=0:=rfl
theorem tw16722109127936396110:0=0:=rfl
theorem tw5657824000916062451:0=0:=rfl
theorem tw11402939732021071671:0=0:=rfl
theorem tw5608270528595127837:0=0:=rfl
theorem tw6555240042291301478:0=0:=rfl
theorem tw6411954120941647267:0=0:=rfl
theorem tw922143313871775805:0=0:=rfl
theorem tw10792051664901133789:0=0:=rfl
theorem tw17258206423299326598:0=0:=rfl
theorem tw3442329435671937591:0=0:=rfl
theorem tw12070051907170230399:0=0:=rfl
theorem tw11232374478483605306:0=0:=rfl
theorem tw9345676750909349944:0=0:=rfl
theorem tw2442259710966052079:0=0:=rfl
theorem tw16211521421427940678:0=0:=rfl
theorem tw2999033326186475339:0=0:=rfl
theorem tw17714235663813219645:0=0:=rfl
theorem tw5366084841770067474:0=0:=rfl
theorem tw8789358453043137523:0=0:=rfl
theorem tw10614716105012338702:0=0:=rfl
theorem tw4315991029959535628:0=0:=rfl
theorem tw1800889605409440832:0=0:=rfl
theorem tw9960721518486171458:0=0:=rfl
theorem tw16007149819294483003:0=0:=rfl
theorem tw5036846961687405229:0=0:=rfl
theorem tw8134915037123179040:0=0:=rfl
theorem tw1997569388931296116:0=0:=rfl
theorem tw1888629882248256335:0=0:=rfl
theorem tw5416991563250132298:0=0:=rfl
theorem tw11389486352061984695:0=0:=rfl
theorem tw3008623586974134963:0=0:=rfl
theorem tw16920754564084929960:0=0:=rfl
theorem tw17975533764899295144:0=0:=rfl
theorem tw16868993833207775613:0=0:=rfl
theorem tw13321331477185743149:0=0:=rfl
theorem tw4402725079659364252:0=0:=rfl
theorem tw1600037746751723098:0=0:=rfl
theorem tw11251137523995926341:0=0:=rfl
theorem tw17739348878880393726:0=0:=rfl
theorem tw11319892378374348655:0=0:=rfl
theorem tw728884934406724761:0=0:=rfl
theorem tw13368278939475635651:0=0:=rfl
theorem tw11465210709893060100:0=0:=rfl
theorem tw3451239065008710300:0=0:=rfl
theorem tw12307468782608717224:0=0:=rfl
theorem tw15344866539931968096:0=0:=rfl
theorem tw11319097763535126812:0=0:=rfl
theorem tw15759970867653108152:0=0:=rfl
theorem tw6407587892757256292:0=0:=rfl
theorem tw10957212852122400357:0=0:=rfl
theorem tw7494724483528729301:0=0:=rfl
theorem tw8457440626546761165:0=0:=rfl
theorem tw9566141503761928105:0=0:=rfl
theorem tw15529170255622000948:0=0:=rfl
theorem tw13181700845877081190:0=0:=rfl
theorem tw12647368939536790636:0=0:=rfl
theorem tw16240987189780228909:0=0:=rfl
theorem tw7754304195085646258:0=0:=rfl
theorem tw15673258824015622330:0=0:=rfl
theorem tw11754176132448286083:0=0:=rfl
theorem tw3493717111155160527:0=0:=rfl
theorem tw15371269306720811930:0=0:=rfl
theorem tw22551697357593593:0=0:=rfl
theorem tw6291416237084387574:0=0:=rfl
theorem tw6868836192036940282:0=0:=rfl
theorem tw7355570028127101125:0=0:=rfl
theorem tw6767318904944593275:0=0:=rfl
theorem tw10601615944963115059:0=0:=rfl
theorem tw10678649693572172417:0=0:=rfl
theorem tw14478148883734587675:0=0:=rfl
theorem tw12271959270614036898:0=0:=rfl
theorem tw2608437505485318709:0=0:=rfl
theorem tw541196102884509978:0=0:=rfl
theorem tw15852365999677673905:0=0:=rfl
theorem tw3646829019195819677:0=0:=rfl
theorem tw18264374347568628810:0=0:=rfl
theorem tw4971549296188076032:0=0:=rfl
theorem tw17177331786930743035:0=0:=rfl
theorem tw758273949599710562:0=0:=rfl
theorem tw7289634563603522867:0=0:=rfl
theorem tw17542962492245011380:0=0:=rfl
theorem tw17252143746492648416:0=0:=rfl
theorem tw6184460063843016694:0=0:=rfl
theorem tw14457593812595234344:0=0:=rfl
theorem tw5343241284826551009:0=0:=rfl
theorem tw2323474266016966308:0=0:=rfl
theorem tw11162318198679636149:0=0:=rfl
theorem tw921402611603131450:0=0:=rfl
theorem tw6264232113106981867:0=0:=rfl
theorem tw18219297243305740317:0=0:=rfl
theorem tw4702841417184801058:0=0:=rfl
theorem tw15367242080415987702:0=0:=rfl
theorem tw11136197038861592535:0=0:=rfl
theorem tw18293732401869909652:0=0:=rfl
theorem tw11660266114150955751:0=0:=rfl
theorem tw6442067068224118133:0=0:=rfl
theorem tw16171809288044610508:0=0:=rfl
theorem tw15615420239508185596:0=0:=rfl
theorem tw3229955645248102723:0=0:=rfl
theorem tw10603584201595350602:0=0:=rfl
theorem tw11151547217846952531:0=0:=rfl
theorem tw2887051446865420828:0=0:=rfl
theorem tw9657781627882305391:0=0:=rfl
theorem tw2068664650715991707:0=0:=rfl
theorem tw1241404454085649124:0=0:=rfl
theorem tw2329189449893159454:0=0:=rfl
theorem tw5190246844813560578:0=0:=rfl
theorem tw14103535550066685397:0=0:=rfl
theorem tw8356816923877370021:0=0:=rfl
theorem tw26425463804135960:0=0:=rfl
theorem tw3350844169311001129:0=0:=rfl
theorem tw15683763237869141255:0=0:=rfl
theorem tw16432713993328977331:0=0:=rfl
theorem tw4297731678662094536:0=0:=rfl
theorem tw12629568148972539762:0=0:=rfl
theorem tw7028611270464810887:0=0:=rfl
theorem tw12113243949977362033:0=0:=rfl
theorem tw8228950375871286339:0=0:=rfl
theorem tw10879034167726328663:0=0:=rfl
theorem tw6394381022753523788:0=0:=rfl
theorem tw17062030032774818151:0=0:=rfl
theorem tw6305734824756694309:0=0:=rfl
theorem tw2252305205657439004:0=0:=rfl
theorem tw2708950531961675432:0=0:=rfl
theorem tw1439246655266547700:0=0:=rfl
theorem tw12023040214023829324:0=0:=rfl
end Mine.hd
set_option Elab.async true
set_option maxHeartbeats 80000000 in
theorem Mine.hd:PySem.Challenge.rw_rh0180_02.Holds:=by
 w_on;o_law;k_head;(case hw=>w_witness2)
 k_fill
 intro w s₀ s₁ mg mb G Y fa o pm cd doc dV kV ho hd hcd hD hmg hg args vals as hpre hlay hrd hwl hlo
 have KX:=kIn_of Y
 have X:=(Ground.X G).1
 have V:=(Ground.X G).2
 try w_nolog (first|(have GL:=glob_more (Ground.glob G (by first|k_qdec|decide+kernel) (by first|k_qdec|decide+kernel)) V)|(have GL:=glob_more (Ground.glob G (by decide+kernel)) V))
 refine Ground.open G ?_
 intro T B D TE TW
 clear D TE TW
 wrow_args hpre hlay hrd hwl hlo
 rename_i ns hs hlay0 hL1 hr1 hl2 as1 as2 l vs as3 hL ra w1 r0 hI hr hcond hcond2
 refine enter_call ?_
 w_top on
 refine codeAny_mono ?_ (fun _ _ g=>GoodW.toG g)
 have hfa:fa=406:=by
  have:=mg_of KX T.g (show nsIn _ mainGlobals (PySem.Str.ofString "law")=some (some (Value.ref 406))from rfl)
  rw[show mg (PySem.Str.ofString "law")=some (Value.ref fa)from hmg]at this
  simpa using this
 subst hfa
 have F:Mine.aa (Mine.hd.heap_1_39 w.params):=⟨by kernel_rfl,by kernel_rfl,fun g=>by kernel_rfl,Mine.Aa7 (ps:=["self","lengths","offset"]) rfl rfl rfl rfl (fun g=>by kernel_rfl),Mine.Aa7 (ps:=["line","lengths","offset","most"]) rfl rfl rfl rfl (fun g=>by kernel_rfl),by kernel_rfl,by kernel_rfl,by kernel_rfl,by kernel_rfl,by kernel_rfl,by kernel_rfl,by kernel_rfl,by kernel_rfl,by kernel_rfl,by kernel_rfl,
  .tuple (vs:=[.int 1 645,.int 90 646,.int 1000 647]) (n:=0) (by kernel_rfl) (.cons (.int _ _) (.cons (.int _ _) (.cons (.int _ _) .nil))),.tuple (vs:=[.int 1000000 649,.int 1414214 650,.int 2500000 651,.int 10000000 652]) (n:=0) (by kernel_rfl) (.cons (.int _ _) (.cons (.int _ _) (.cons (.int _ _) (.cons (.int _ _) .nil)))),.tuple (vs:=[.int 1 654,.int 0 655,.int 0 656,.int 1 657,.int 0 658,.int 0 659]) (n:=0) (by kernel_rfl) (.cons (.int _ _) (.cons (.int _ _) (.cons (.int _ _) (.cons (.int _ _) (.cons (.int _ _) (.cons (.int _ _) .nil))))))⟩
 have S:Mine.Al PySem.Challenge.rw_rh0180_02.row.prog (Mine.kfG F).K s₁.heap:=⟨KX,⟨mg,mb,T.g,T.b,T.builtins⟩,T.nolimit,T.seer (by kernel_rfl),by kernel_rfl⟩
 obtain⟨nl,ho2⟩:=Mine.Aa0 w1 hL
 have hz:ns.length≤63:=by exact(Ac (Int.ofNat_le.mp (Int.not_lt.mp hcond)))
 refine codeAny_mono (Mine.Aa5 (n:=11) (ds:=[.list (ns.map .int)]) (Q:=fun d=>d=.bool true) S (Mine.Aa4 (Mine.kfG F)) rfl (Mine.Aa6 (n:=0) S hz fun _ _ _ _ _ _ _ _ _ _ L=>Mine.Aa2 L) rfl (by decide) (by decide) rfl (fun _ _ e=>e) (.cons (.list ho2 (Mine.Aa3 hI)) .nil)) ?_
 intro r s' hr
 rcases r with e|(v|_|_|_)<;>first|exact hr.elim|skip
 obtain⟨d,h',tk',rfl,keep,fz,rfl⟩:=hr
 cases fz
 refine⟨.inl ⟨_,.bool true,[],rfl,fun _=>rfl,.bool true,?_,fun _=>⟨.nil,fun a ha=>absurd ha List.not_mem_nil⟩⟩,keep,rfl,hg⟩
 first|rfl|kernel_rfl
theorem PySem.Challenge.cw_rh0180_02_holds : PySem.Challenge.rw_rh0180_02.Holds :=
 Mine.hd