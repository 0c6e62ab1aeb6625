import PyProof.Rows.All
import Wide.All
import OpenK.AllK
import Wide.FinOn
import PyProof.EnumMake
import PySem.Challenge.RW_rh0180_01
namespace Mine.Internal
open PySem PySem.W PyProof.Rows PySem.Calls PySem.Spec
open Int (add_comm add_le_add add_mul add_nonneg add_zero fdiv_eq_ediv_of_nonneg le_antisymm le_of_eq le_of_lt lt_asymm lt_or_gt_of_ne mul_add mul_assoc mul_comm mul_le_mul mul_le_mul_of_nonneg_left mul_le_mul_of_nonneg_right mul_left_comm mul_neg mul_nonneg mul_one mul_pos mul_sub mul_zero natAbs_neg natCast_mul natCast_nonneg ne_of_gt neg_le_neg neg_mul neg_mul_neg neg_neg neg_one_mul not_le not_lt ofNat_lt one_mul sub_nonneg sub_pos sub_self sub_zero toNat_natCast zero_add zero_mul)
open Nat (add_le_add_left eq_of_beq_eq_true le_add_right le_of_ble_eq_true le_refl le_succ le_total le_trans lt_irrefl lt_of_le_of_lt lt_of_lt_of_le lt_succ_self min_eq_left min_eq_right min_le_left ne_of_lt sub_le zero_le)
open List (all_eq_true any_cons any_toArray append_assoc append_nil cons_ne_nil contains_iff_mem filter_cons flatMap_append flatMap_cons flatMap_nil forIn_cons forIn_nil forall_mem_cons getElem?_map getElem?_toArray length_append length_cons length_drop length_map length_nil length_singleton length_take length_zip lookup_cons map_append map_congr_left map_cons map_drop map_eq_nil_iff map_inj_left map_map map_nil map_singleton map_take mem_append mem_append_left mem_append_right mem_cons mem_filter mem_flatMap mem_map mem_map_of_mem mem_of_mem_drop mem_range mem_reverse mem_singleton nil_append nodup_cons not_mem_nil of_mem_zip replicate replicate_succ reverse_cons size_toArray sum_append sum_cons sum_nil)
open Bool (and_eq_true and_eq_true_iff eq_false_iff false_eq_true or_eq_false_iff or_eq_true)
open Heap (get?_push_of_some get?_push_size get?_update_self lt_size size_push size_update)
open Array (getElem?_eq_getElem)
open Option (isSome_iff_exists map_eq_some_iff none_or some_or)
set_option compiler.extract_closed false
set_option compiler.reuse false
set_option tactic.hygienic false
set_option genInjectivity false
set_option genSizeOf false
set_option linter.all false
set_option maxRecDepth 100000
set_option Elab.async false
variable{O:Program}{w:World}{U:Heap}{K:Frag}{sc:Scope}{n:Nat}{α β:Type}{A:Around}{Y:Env}{R as:List Addr}{s:Shared}{h:Heap}{E:Value→Shared→Prop}{vs:List Value}{x:Str}{pos:Pos}{v:Value}{k:Nat}{e:Expr}{m:Str→Option Value}{es:List Expr}{cs:List Addr}{h':Heap}{body:List Stmt}{a:Int}{ifs:List Expr}{tgt:Expr}{C i f:Addr}{t:Expr}{xs:Array Value}{half:Int}{o:Obj}{as':List Addr}{b:Int}{S:Nat→Heap→Prop}{scope:Scope}{Mid:Nat→Value→Heap→Prop}{ys:Array Value}{kindOf:Str→Option NameKind}{ts:List Expr}{cl:Bool}{l:List (Option Bool)}{RR:Value→Addr→Result→Shared→Prop}{rest:List Stmt}{s':Shared}{elt:Expr}{op:Operator}{fd:FuncData}{u:Value}{N:Int}{elts:List Expr}{TI TO:Addr}{H:Int}{wr:List Addr}{y:Str}{h1:Heap}{ns:List Int}{iter:Expr}{ap:Pos}{fr:List Str}{l1 l2:Addr}{items:Array Value}{names:List (Str×NameKind)}{e2:Expr}{T:String}{I:Addr}{tup b2:Bool}{z:Addr}{ow:List (Str×Addr)}{kvs:List (Str×Value)}{cs':List Addr}{h2:Heap}{as1:List Addr}{i1 i2:Addr}{turn un join:Int}{name:Str}{ξ cap NA NG NB:Int}{v1 v2:List Value}{c:Int}{px:Pos}{X limit:Int}{R':List Addr}{it:Addr}{e1:Expr}{dx:Addr}{t1:Nat}{hh:Heap}{B:Int}{tp:Pos}{hf:Int}{f0:Value}{many Z:Int}{j:Nat}{lt:Bool}{u1 u2:Int}{p2:Pos}{r:Int}
theorem au.a1(h:True:=by intro _;rfl):True:=h
theorem au.a2(h:True:=by decide+kernel):True:=h
theorem au.a3(h:True:=by rfl):True:=h
theorem au.a4(h:True:=by decide):True:=h
theorem au.a5(h:True:=by intro _ _;rfl):True:=h
theorem au.a6(h:True:=by with_unfolding_all rfl):True:=h
theorem au.a8(h:True:=by simp+arith only[Nat.reducePow]):True:=h
theorem au.a7(h:True:=by constructor):True:=h
@[elab_as_elim] theorem rr{α:Sort u}{a b:α}{motive:α→Prop}(h:a=b)(x:motive b):motive a:=h▸x
@[elab_as_elim] theorem rl{α:Sort u}{a b:α}{motive:α→Prop}(h:b=a)(x:motive b):motive a:=h▸x
@[elab_as_elim] theorem gen{α:Sort u}{motive:α→Prop}(t:α)(h:∀x,motive x):motive t:=h t
theorem Cc{p:α→Prop}:∀x∈([]:List α),p x:=List.forall_mem_nil p
theorem alc{p:α→Prop}{a:α}{l:List α}(h:p a)(t:∀x∈l,p x):∀x∈a::l,p x:=forall_mem_cons.mpr ⟨h,t⟩
theorem BK{b v:α}{r:List (Str×α)}(e:((y,b)::r).lookup x=some v):(x=y∧b=v)∨(x≠y∧r.lookup x=some v):=by
 by_cases c:x=y
 ·subst c;rw[List.lookup_cons_self]at e;exact .inl ⟨rfl,Option.some.inj e⟩
 ·rw[lookup_cons,beq_eq_false_iff_ne.mpr c]at e;exact .inr ⟨c,e⟩
theorem IN{a:α}{P:Prop}(h:(none:Option α)=some a):P:=absurd h (Option.some_ne_none a).symm
theorem UZ{P:Prop}(h:autoParam P au.a8._auto_1):P:=h
theorem Ay{X Z L R:Nat}(h:X≤Z)(v:autoParam (L+Z≤R+X) au.a8._auto_1):L≤R:=Nat.le_of_add_le_add_right (le_trans v (add_le_add_left h R))
theorem Gu{A B C D L R:Nat}(h:A≤B)(k:C≤D)(v:autoParam (L+(B+D)≤R+(A+C)) au.a8._auto_1):L≤R:=Nat.le_of_add_le_add_right (le_trans v (add_le_add_left (Nat.add_le_add h k) R))
theorem YY{A B C D E F L R:Nat}(h:A≤B)(k:C≤D)(l:E≤F)(v:autoParam (L+(B+(D+F))≤R+(A+(C+E))) au.a8._auto_1):L≤R:=Nat.le_of_add_le_add_right (le_trans v (add_le_add_left (Nat.add_le_add h (Nat.add_le_add k l)) R))
theorem Af{L R:Int}(h:X≤Z)(v:autoParam (L+Z≤R+X) au.a8._auto_1):L≤R:=Int.le_of_add_le_add_right (Int.le_trans v (Int.add_le_add_left h R))
theorem Aq{A C D L R:Int}(h:A≤B)(k:C≤D)(v:autoParam (L+(B+D)≤R+(A+C)) au.a8._auto_1):L≤R:=Int.le_of_add_le_add_right (Int.le_trans v (Int.add_le_add_left (add_le_add h k) R))
theorem He{A C D E F L R:Int}(h:A≤B)(k:C≤D)(l:E≤F)(v:autoParam (L+(B+(D+F))≤R+(A+(C+E))) au.a8._auto_1):L≤R:=Int.le_of_add_le_add_right (Int.le_trans v (Int.add_le_add_left (add_le_add h (add_le_add k l)) R))
theorem Hp(h0:0≤a)(h:a≤b):a.natAbs≤b.natAbs:=Int.ofNat_le.mp (Int.le_trans (le_of_eq (Int.natAbs_of_nonneg h0)) (Int.le_trans h (le_of_eq (Int.natAbs_of_nonneg (Int.le_trans h0 h)).symm)))
theorem SH{N:Nat}(h:a.toNat<N+1)(p:0<a)(k:b<a):b.toNat<N:=lt_of_lt_of_le ((Int.toNat_lt_toNat p).mpr k) (Nat.le_of_lt_succ h)
theorem FG{A C D E F G L R:Int}(h:A≤B)(k:C≤D)(l:E≤F)(m:G≤H)(v:autoParam (L+(B+(D+(F+H)))≤R+(A+(C+(E+G)))) au.a8._auto_1):L≤R:=Int.le_of_add_le_add_right (Int.le_trans v (Int.add_le_add_left (add_le_add h (add_le_add k (add_le_add l m))) R))
theorem YZ{A C D:Int}(h:A≤B)(k:C≤D)(v:autoParam (B+D+1≤A+C) au.a8._auto_1){P:Prop}:P:=absurd (add_le_add h k) (not_le.mpr v)
theorem cw{A B C D:Nat}(h:A≤B)(k:C≤D)(v:autoParam (B+D+1≤A+C) au.a8._auto_1){P:Prop}:P:=absurd (Nat.add_le_add h k) (Nat.not_le.mpr v)
theorem mI{A:Int}(c:Int)(h:A≤B)(p:autoParam (0≤c) au.a4._auto_1):c*A≤c*B:=mul_le_mul_of_nonneg_left h p
theorem mN{A B:Nat}(c:Nat)(h:A≤B):c*A≤c*B:=Nat.mul_le_mul_left c h
theorem aI{A C D:Int}(h:A≤B)(k:C≤D):A+C≤B+D:=add_le_add h k
theorem aN{A B C D:Nat}(h:A≤B)(k:C≤D):A+C≤B+D:=Nat.add_le_add h k
theorem BU{P Q L R:Int}(D:Int)(h:P≤Q)(p:autoParam (0<D) au.a4._auto_1)(v:autoParam (D*L+Q+1≤D*R+P+D) au.a8._auto_1):L≤R:=by
 have k:D*L<D*(R+1):=by refine rr (mul_add ..) (rr (mul_one ..) ?_);exact Af h (by grind)
 exact Int.le_of_lt_add_one (Int.lt_of_mul_lt_mul_left k (le_of_lt p))
inductive Dat where
 |none|bool (b:Bool)|int (i:Int)|str (x:Str)
 |tuple (ds:List Dat)|list (ds:List Dat)
 |inst (c:Addr) (fs:List (Str×Dat))
 |dict (w:World) (fs:List (Str×Int))
variable{ds:List Dat}{d:Dat}{ds0 acc:List Dat}
noncomputable abbrev Cd:=Addr→Obj→Prop
mutual
inductive Fz(g:Cd):Value→Dat→Prop
 |none:Fz g .none .none
 |bool (b:Bool):Fz g (.bool b) (.bool b)
 |int (i:Int) (t:Tok):Fz g (.int i t) (.int i)
 |str (x:Str) (t:Tok):Fz g (.str x t) (.str x)
 |tuple {a:Addr}{vs:List Value}{n:Nat}{ds:List Dat}:g a (seqObj "tuple" vs.toArray n)→FzL g vs ds→Fz g (.ref a) (.tuple ds)
 |list {a:Addr}{vs:List Value}{n:Nat}{ds:List Dat}:g a (seqObj "list" vs.toArray n)→FzL g vs ds→Fz g (.ref a) (.list ds)
 |inst {a dx C:Addr}{o:Obj}{m:Str→Option Value}{fs:List (Str×Dat)}:g a (instObj C dx)→g dx o→LCg.NsObj o m→FzF g m fs→(∀y v,m y=some v→y∈fs.map (·.1))→Fz g (.ref a) (.inst C fs)
 |dict {a:Addr}{o:Obj}{es:Array DictEntry}{ep:Nat}{w:World}{fs:List (Str×Int)}:g a o→o.ExactDict→o.data=.dict es ep→(∀e∈es,∃k,Value.isStrOf k e.key=true∧e.hash=hashStr w k)→(∀k i,fs.lookup k=some i→∃t,findBy Value.isStrOf es k=some (.int i t))→Fz g (.ref a) (.dict w fs)
inductive FzL(g:Cd):List Value→List Dat→Prop
 |nil:FzL g [] []
 |cons {v:Value}{vs:List Value}{d:Dat}{ds:List Dat}:Fz g v d→FzL g vs ds→FzL g (v::vs) (d::ds)
inductive FzF(g:Cd):(Str→Option Value)→List (Str×Dat)→Prop
 |nil {m:Str→Option Value}:FzF g m []
 |cons {m:Str→Option Value}{x:Str}{v:Value}{d:Dat}{fs:List (Str×Dat)}:m x=some v→Fz g v d→FzF g m fs→FzF g m ((x,d)::fs)
end
variable{g g':Cd}
theorem Fz.mono(k:∀b o,g b o→g' b o)(x:Fz g v d):Fz g' v d:=Fz.rec (motive_1:=fun v d V=>Fz g' v d) (motive_2:=fun vs ds V=>FzL g' vs ds) (motive_3:=fun m fs V=>FzF g' m fs) .none (fun b=>.bool b) (fun i t=>.int i t) (fun x t=>.str x t) (fun h V r=>.tuple (k _ _ h) r) (fun h V r=>.list (k _ _ h) r) (fun h1 h2 hn V ex r=>.inst (k _ _ h1) (k _ _ h2) hn r ex) (fun h b c d e=>.dict (k _ _ h) b c d e) .nil (fun V V a b=>.cons a b) .nil (fun e V V a b=>.cons e a b) x
theorem FzL.mono(k:∀b o,g b o→g' b o)(x:FzL g vs ds):FzL g' vs ds:=FzL.rec (motive_1:=fun v d V=>Fz g' v d) (motive_2:=fun vs ds V=>FzL g' vs ds) (motive_3:=fun m fs V=>FzF g' m fs) .none (fun b=>.bool b) (fun i t=>.int i t) (fun x t=>.str x t) (fun h V r=>.tuple (k _ _ h) r) (fun h V r=>.list (k _ _ h) r) (fun h1 h2 hn V ex r=>.inst (k _ _ h1) (k _ _ h2) hn r ex) (fun h b c d e=>.dict (k _ _ h) b c d e) .nil (fun V V a b=>.cons a b) .nil (fun e V V a b=>.cons e a b) x
@[elab_as_elim] theorem Fz.tupleP{motive:Value→Prop}(h:Fz g v (.tuple ds))(k:∀a vs n,g a (seqObj "tuple" vs.toArray n)→FzL g vs ds→motive (.ref a)):motive v:=by
 cases h with|tuple h f=>exact k _ _ _ h f
@[elab_as_elim] theorem Fz.listP{motive:Value→Prop}(h:Fz g v (.list ds))(k:∀a vs n,g a (seqObj "list" vs.toArray n)→FzL g vs ds→motive (.ref a)):motive v:=by
 cases h with|list h f=>exact k _ _ _ h f
@[elab_as_elim] theorem Fz.intP{motive:Value→Prop}{i:Int}(h:Fz g v (.int i))(k:∀t,motive (.int i t)):motive v:=by
 cases h with|int _ t=>exact k t
@[elab_as_elim] theorem Fz.instP{motive:Value→Prop}{fs:List (Str×Dat)}(h:Fz g v (.inst C fs))(k:∀a dx o m,g a (instObj C dx)→g dx o→LCg.NsObj o m→FzF g m fs→(∀y v,m y=some v→y∈fs.map (·.1))→motive (.ref a)):motive v:=by
 cases h with|inst a b c d e=>exact k _ _ _ _ a b c d e
@[elab_as_elim] theorem FzL.consP{motive:List Value→Prop}(h:FzL g vs (d::ds))(k:∀v ws,Fz g v d→FzL g ws ds→motive (v::ws)):motive vs:=by
 cases h with|cons h f=>exact k _ _ h f
@[elab_as_elim] theorem FzL.nilP{motive:List Value→Prop}(h:FzL g vs [])(k:motive []):motive vs:=by
 cases h with|nil=>exact k
theorem FzL.length(h:FzL g vs ds):vs.length=ds.length:=by
 induction vs generalizing ds with
 |nil=>cases h;rfl
 |cons v vs ih=>cases h with|cons _ r=>simp[ih r]
theorem FzL.get(h:FzL g vs ds)(e:ds[k]?=some d):∃v,vs[k]?=some v∧Fz g v d:=by
 induction vs generalizing ds k with
 |nil=>cases h;simp at e
 |cons v vs ih=>
  cases h with
  |cons h r=>
   rcases k with _|⟨k⟩
   ·simp at e;subst e;exact⟨v,rfl,h⟩
   ·exact ih r (by simpa using e)
theorem FzL.append{ws:List Value}{es:List Dat}(h:FzL g vs ds)(k:FzL g ws es):FzL g (vs++ws) (ds++es):=by
 induction vs generalizing ds with
 |nil=>cases h;exact k
 |cons v vs ih=>cases h with|cons h r=>exact .cons h (ih r)
theorem FzL.snoc(h:FzL g vs ds)(k:Fz g v d):FzL g (vs++[v]) (ds++[d]):=h.append (.cons k .nil)
theorem FzL.take(h:FzL g vs ds)(k:Nat):FzL g (vs.take k) (ds.take k):=by
 induction k generalizing vs ds with
 |zero=>simp;exact .nil
 |succ k ih=>cases h with|nil=>exact .nil|cons h r=>exact .cons h (ih r)
theorem FzL.drop(h:FzL g vs ds)(k:Nat):FzL g (vs.drop k) (ds.drop k):=by
 induction k generalizing vs ds with
 |zero=>simpa using h
 |succ k ih=>cases h with|nil=>exact .nil|cons h r=>exact ih r
theorem FzL.reverse(h:FzL g vs ds):FzL g vs.reverse ds.reverse:=by
 induction vs generalizing ds with
 |nil=>cases h;exact .nil
 |cons v vs ih=>cases h with|cons h r=>simp only[reverse_cons];exact(ih r).snoc h
theorem FzL.set(h:FzL g vs ds)(k:Fz g v d)(i:Nat):FzL g (vs.set i v) (ds.set i d):=by
 induction vs generalizing ds i with
 |nil=>cases h;exact .nil
 |cons u vs ih=>
  cases h with
  |cons h r=>
   rcases i with _|⟨i⟩
   ·exact .cons k r
   ·exact .cons h (ih r i)
theorem FzF.get{fs:List (Str×Dat)}(h:FzF g m fs)(e:fs.lookup x=some d):∃v,m x=some v∧Fz g v d:=by
 induction fs with
 |nil=>simp at e
 |cons p fs ih=>
  obtain⟨y,b⟩:=p
  cases h with
  |cons e1 h1 r=>
   rcases BK e with⟨rfl,rfl⟩|⟨_,e⟩
   ·exact⟨_,e1,h1⟩
   ·exact ih r e
inductive CP where
 |dat (d:Dat)
 |own (i:Addr) (ds:List Dat)
variable{fs:List (Str×CP)}
inductive AF where
 |dat (d:Dat)
 |lst (ds:List Dat)
 |obj (c:Addr) (fs:List (Str×CP))
variable{av a':AF}
noncomputable abbrev St:=List (Str×AF)
variable{st:St}{G:Expr→St→(α→St→Prop)→Prop}{J:St→(α→St→Prop)→Prop}{st' st1:St}
class inductive DY(g:Cd)(h:Heap)(m:Str→Option Value):List (Str×CP)→List Addr→Prop
 |nil:DY g h m [] []
 |dat {x:Str}{v:Value}{d:Dat}{fs:List (Str×CP)}{cs:List Addr}:m x=some v→Fz g v d→DY g h m fs cs→DY g h m ((x,.dat d)::fs) cs
 |own {x:Str}{a:Addr}{vs:List Value}{n:Nat}{ds:List Dat}{fs:List (Str×CP)}{cs:List Addr}:
  m x=some (.ref a)→h.get? a=some (seqObj "list" vs.toArray n)→FzL g vs ds→DY g h m fs cs→DY g h m ((x,.own a ds)::fs) (a::cs)
inductive Cp(g:Cd)(h:Heap):Value→AF→List Addr→Prop
 |dat {v:Value}{d:Dat}:Fz g v d→Cp g h v (.dat d) []
 |lst {a:Addr}{vs:List Value}{n:Nat}{ds:List Dat}:h.get? a=some (seqObj "list" vs.toArray n)→FzL g vs ds→Cp g h (.ref a) (.lst ds) [a]
 |obj {a dx C:Addr}{o:Obj}{m:Str→Option Value}{fs:List (Str×CP)}{cs:List Addr}:h.get? a=some (instObj C dx)→h.get? dx=some o→LCg.NsObj o m→DY g h m fs cs→
  (a::dx::cs).Nodup→(fs.map (·.1)).Nodup→((∀y v,m y=some v→y∈fs.map (·.1))∧∀es ep,o.data=.dict es ep→es.size≤fs.length)→Cp g h (.ref a) (.obj C fs) (a::dx::cs)
section
variable{motive:Value→List Addr→Prop}
@[elab_as_elim] theorem Cp.datP(x:Cp g h v (.dat d) cs)(k:Fz g v d→motive v []):motive v cs:=by
 cases x with|dat f=>exact k f
@[elab_as_elim] theorem Cp.lstP(x:Cp g h v (.lst ds) cs)(k:∀a vs n,h.get? a=some (seqObj "list" vs.toArray n)→FzL g vs ds→motive (.ref a) [a]):motive v cs:=by
 cases x with|lst e f=>exact k _ _ _ e f
theorem Cp.lstE(x:Cp g h v (.lst ds) cs):∃a vs n,v=.ref a∧cs=[a]∧h.get? a=some (seqObj "list" vs.toArray n)∧FzL g vs ds:=by
 cases x with|lst e f=>exact⟨_,_,_,rfl,rfl,e,f⟩
@[elab_as_elim] theorem Cp.objP(x:Cp g h v (.obj C fs) cs)(k:∀a dx o m cs,h.get? a=some (instObj C dx)→h.get? dx=some o→LCg.NsObj o m→DY g h m fs cs→
 (a::dx::cs).Nodup→(fs.map (·.1)).Nodup→((∀y v,m y=some v→y∈fs.map (·.1))∧∀es ep,o.data=.dict es ep→es.size≤fs.length)→motive (.ref a) (a::dx::cs)):motive v cs:=by
 cases x with|obj a b c d e f g=>exact k _ _ _ _ _ a b c d e f g
end
noncomputable def vis(R as:List Addr)(h:Heap):Cd:=fun b o=>b∉R∧b∉as∧h.get? b=some o
theorem DY.mono(k:∀b o,g b o→g' b o)(x:DY g h m fs cs)
 (kc:∀b∈cs,∀o,h.get? b=some o→h'.get? b=some o):DY g' h' m fs cs:=by
 induction x with
 |nil=>exact .nil
 |dat e f _ ih=>exact .dat e (f.mono k) (ih kc)
 |own e ho f _ ih=>exact .own e (kc _ (.head _) _ ho) (f.mono k) (ih fun b hb=>kc b (.tail _ hb))
theorem Cp.mono{a:AF}(k:∀b o,g b o→g' b o)(x:Cp g h v a cs)(kc:∀b∈cs,∀o,h.get? b=some o→h'.get? b=some o):Cp g' h' v a cs:=by
 cases x with
 |dat f=>exact .dat (f.mono k)
 |lst ho f=>exact .lst (kc _ (.head _) _ ho) (f.mono k)
 |obj h1 h2 hn f nd nf ex=>exact .obj (kc _ (.head _) _ h1) (kc _ (.tail _ (.head _)) _ h2) hn (f.mono k fun b hb=>kc b (.tail _ (.tail _ hb))) nd nf ex
theorem DY.alive(x:DY g h m fs cs):∀b∈cs,∃o,h.get? b=some o:=by
 induction x with
 |nil=>intro b hb;cases hb
 |dat _ _ _ ih=>exact ih
 |own _ ho _ _ ih=>intro b hb;cases hb with|head=>exact⟨_,ho⟩|tail _ hb=>exact ih b hb
theorem Cp.alive{a:AF}(x:Cp g h v a cs):∀b∈cs,∃o,h.get? b=some o:=by
 cases x with
 |dat f=>intro b hb;cases hb
 |lst ho f=>intro b hb;cases hb with|head=>exact⟨_,ho⟩|tail _ hb=>cases hb
 |obj h1 h2 hn f nd nf _=>intro b hb;cases hb with|head=>exact⟨_,h1⟩|tail _ hb=>cases hb with|head=>exact⟨_,h2⟩|tail _ hb=>exact f.alive b hb
def AB(h:Heap)(Y:Env)(x:Str)(v:Value):Prop:=
 (Y.kindOf x=some .local∧∃m,h.Ns Y.locals m∧m x=some v)∨
 ((Y.kindOf x=some .cell∨Y.kindOf x=some .free)∧∃c,Y.cells.lookup x=some c∧h.IsCell c (some v))
theorem AB.unique{w:Value}(a:AB h Y x v)(b:AB h Y x w):v=w:=by
 rcases a with⟨k,m,hn,e⟩|⟨k,c,hc,hv⟩<;>rcases b with⟨k',m',hn',e'⟩|⟨k',c',hc',hv'⟩
 ·obtain⟨o,es,ep,h1,h2,_,h4⟩:=hn
  obtain⟨o',es',ep',h1',h2',_,h4'⟩:=hn'
  rw[h1]at h1';cases h1';rw[h2]at h2';cases h2'
  rw[←h4,h4']at e;rw[e]at e';exact Option.some.inj e'
 ·rw[k]at k';rcases k' with q|q<;>cases q
 ·rw[k']at k;rcases k with q|q<;>cases q
 ·rw[hc]at hc';cases hc'
  obtain⟨o,ho,hd⟩:=hv;obtain⟨o',ho',hd'⟩:=hv'
  rw[ho]at ho';cases ho';rw[hd]at hd';cases hd';rfl
theorem AB.keep(a:AB h Y x v)(k:∀b o,(b=Y.locals∨∃y,Y.cells.lookup y=some b)→h.get? b=some o→h'.get? b=some o):AB h' Y x v:=by
 rcases a with⟨kd,m,hn,e⟩|⟨kd,c,hc,o,ho,hd⟩
 ·exact .inl ⟨kd,m,hn.at' fun o e=>k _ o (.inl rfl) e,e⟩
 ·exact .inr ⟨kd,c,hc,o,k _ o (.inr ⟨x,hc⟩) ho,hd⟩
structure AN(sc:Scope)(Y:Env):Prop where
 isSc:Y.scope=sc
 kind:sc.kind=.function
 glob:Y.globals=mainGlobals
 blt:Y.builtins=builtinsNs
 apart:∀x c,Y.cells.lookup x=some c→c≠Y.locals
 inj:∀x y c,Y.cells.lookup x=some c→Y.cells.lookup y=some c→x=y
 has:∀x,sc.names.lookup x=some .cell∨sc.names.lookup x=some .free→∃c,Y.cells.lookup x=some c
structure Rel(U:Heap)(R:List Addr)(Y:Env)(st:St)(as:List Addr)(h:Heap):Prop where
 rows:∃(val:Str→Value) (cs:Str→List Addr),
  (∀x a,(x,a)∈st→AB h Y x (val x)∧Cp (vis R as h) h (val x) a (cs x)∧∀b∈cs x,b∈as)∧
  (∀x a y b,(x,a)∈st→(y,b)∈st→x≠y→∀c∈cs x,c∉cs y)
 names:(st.map (·.1)).Nodup
 sep:∀b∈R,b∉as
 locR:Y.locals∈R
 celR:∀x c,Y.cells.lookup x=some c→c∈R
 locs:∃m,h.Ns Y.locals m
 cels:∀x c,Y.cells.lookup x=some c→∃v,h.IsCell c v
 inb:∀b∈R,∃o,h.get? b=some o
 base:∀b o,U.get? b=some o→vis R as h b o
def LY(h h':Heap):Prop:=∀b o,h.get? b=some o→∃o',h'.get? b=some o'
theorem LY.of(k:∀b o,h.get? b=some o→h'.get? b=some o):LY h h':=fun b o e=>⟨o,k b o e⟩
theorem LY.trans(x:LY h h1)(y:LY h1 h2):LY h h2:=fun b o e=>(by obtain⟨_,e'⟩:=x b o e;exact y b _ e')
structure Ai(as:List Addr)(h:Heap)(as':List Addr)(h':Heap):Prop where
 keep:∀b o,b∉as→h.get? b=some o→h'.get? b=some o
 fresh:∀b∈as',b∈as∨h.get? b=none
 live:LY h h'
theorem Ai.refl(as:List Addr)(h:Heap):Ai as h as h:=⟨fun V V V e=>e,fun V h=>.inl h,.of fun V V e=>e⟩
theorem Ai.grow(as:List Addr)(k:∀b o,h.get? b=some o→h'.get? b=some o):Ai as h as h':=⟨fun b o V e=>k b o e,fun V h=>.inl h,.of k⟩
theorem SI(h:Heap)(b:Addr):h.get? b=none∨∃o,h.get? b=some o:=by cases h.get? b with|none=>exact .inl rfl|some o=>exact .inr ⟨o,rfl⟩
theorem LY.none(x:LY h h'){b:Addr}(e:h'.get? b=Option.none):h.get? b=Option.none:=(SI h b).elim id (by rintro⟨o,e'⟩;obtain⟨_,z⟩:=x b o e';rw[e]at z;cases z)
theorem Ai.old(x:Ai as h as' h'){b:Addr}(e:h.get? b=some o)(ha:b∉as):b∉as':=fun q=>(x.fresh b q).elim ha fun z=>by rw[e]at z;cases z
theorem Ai.trans{bs:List Addr}(x:Ai as h bs h1)(y:Ai bs h1 cs h2):Ai as h cs h2:=
 ⟨fun b o hb e=>y.keep b o (x.old e hb) (x.keep b o hb e),fun b hb=>(y.fresh b hb).elim (x.fresh b) fun z=>.inr (x.live.none z),x.live.trans y.live⟩
theorem Ai.vis(x:Ai as h as' h'):∀b o,vis R as h b o→vis R as' h' b o:=
 by rintro b o ⟨hR,ha,e⟩;exact⟨hR,x.old e ha,x.keep b o ha e⟩
noncomputable def Za(sc:Scope):Bool:=(sc.names.lookup (".0":Str)).isSome
noncomputable def Fh(sc:Scope)(x:Str):Bool:=!Za sc||(x==("side":Str)&&(sc.names.lookup ("zip":Str)).isSome)
def Va(Y:Env)(b:Addr):Prop:=∀x,Fh Y.scope x=true→Y.cells.lookup x≠some b
noncomputable def DZ(sc:Scope)(x:Str):Bool:=(x==("self":Str)||x==("tape":Str)||x==("deck":Str))&&(sc.names.lookup ("script":Str)).isNone
def Zb(Y:Env)(as:List Addr)(h:Heap):Prop:=∀b,(b=Y.locals∨∃y,Y.cells.lookup y=some b)→b∉as∧∃o,h.get? b=some o
theorem Ai.pin(x:Ai as h as' h')(F:Zb Y as h)(hv:AB h Y y v):AB h' Y y v:=hv.keep fun b o hb e=>x.keep b o (F b hb).1 e
structure Bc(Y:Env)(as:List Addr)(h:Heap)(as':List Addr)(h':Heap):Prop where
 keep:∀b o,b≠Y.locals→Va Y b→b∉as→h.get? b=some o→h'.get? b=some o
 fresh:∀b∈as',b∈as∨h.get? b=none
 live:LY h h'
 pin:Zb Y as h→∀x v,DZ Y.scope x=true→AB h Y x v→AB h' Y x v
theorem Ai.toS(x:Ai as h as' h'):Bc Y as h as' h':=⟨fun b o V V hb e=>x.keep b o hb e,x.fresh,x.live,fun F V V V hv=>x.pin F hv⟩
theorem Bc.refl(Y:Env)(as:List Addr)(h:Heap):Bc Y as h as h:=(Ai.refl as h).toS
theorem Bc.old(x:Bc Y as h as' h'){b:Addr}(e:h.get? b=some o)(ha:b∉as):b∉as':=fun q=>(x.fresh b q).elim ha fun z=>by rw[e]at z;cases z
theorem Bc.frOk(x:Bc Y as h as' h')(F:Zb Y as h):Zb Y as' h':=fun b hb=>by
 obtain⟨p,o,e⟩:=F b hb
 exact⟨x.old e p,x.live b o e⟩
theorem Bc.trans{bs:List Addr}(x:Bc Y as h bs h1)(y:Bc Y bs h1 cs h2):Bc Y as h cs h2:=
 ⟨fun b o h1 h2 hb e=>y.keep b o h1 h2 (x.old e hb) (x.keep b o h1 h2 hb e),fun b hb=>(y.fresh b hb).elim (x.fresh b) fun z=>.inr (x.live.none z),x.live.trans y.live,
  fun F z v hp hv=>y.pin (x.frOk F) z v hp (x.pin F z v hp hv)⟩
theorem Bc.vis(x:Bc Y as h as' h')(hl:Y.locals∈R)(hc:∀y c,Y.cells.lookup y=some c→c∈R):∀b o,vis R as h b o→vis R as' h' b o:=
 by rintro b o ⟨hR,ha,e⟩;exact⟨hR,x.old e ha,x.keep b o (fun q=>hR (q▸hl)) (fun y V q=>hR (hc y b q)) ha e⟩
theorem Rel.grow(r:Rel U R Y st as h)(k:∀b o,h.get? b=some o→h'.get? b=some o):Rel U R Y st as h':=by
 obtain⟨⟨val,cs,hr,hd⟩,hn,hsep,hl,hc,⟨m,hm⟩,hcl,hi,hb⟩:=r
 have kv:∀b o,vis R as h b o→vis R as h' b o:=by rintro b o ⟨p,q,e⟩;exact⟨p,q,k b o e⟩
 exact⟨⟨val,cs,fun x a hx=>(by obtain⟨p,q,z⟩:=hr x a hx;exact⟨p.keep fun b o V e=>k b o e,q.mono kv fun b V o e=>k b o e,z⟩),hd⟩,hn,hsep,hl,hc,⟨m,hm.keeps k⟩,
  fun x c e=>(by obtain⟨v,o,ho,hd⟩:=hcl x c e;exact⟨v,o,k _ _ ho,hd⟩),fun b hb=>(by obtain⟨o,e⟩:=hi b hb;exact⟨o,k b o e⟩),fun b o e=>kv b o (hb b o e)⟩
noncomputable def look(x:Str):St→Option AF
 |[]=>none
 |(y,a)::r=>if x=y then some a else look x r
noncomputable def put(x:Str)(a:AF):St→St
 |[]=>[(x,a)]
 |(y,b)::r=>if x=y then(y,a)::r else(y,b)::put x a r
set_option tactic.hygienic true in
theorem CT{a:AF}:∀{st:St},look x st=some a→(x,a)∈st:=by
 intro st
 induction st with
 |nil=>
  intro h
  cases h
 |cons hd r ih=>
  obtain⟨y,b⟩:=hd
  intro h
  unfold look at h
  split at h
  ·rename_i e;cases h;subst e;exact .head _
  ·exact .tail _ (ih h)
set_option tactic.hygienic true in
theorem Ps{a b:AF}:∀{st:St},(y,b)∈put x a st→(y=x∧b=a)∨(y,b)∈st:=by
 intro st
 induction st with
 |nil=>
  intro h
  simp[put]at h;exact .inl h
 |cons hd r ih=>
  obtain⟨z,c⟩:=hd
  intro h
  unfold put at h
  split at h
  ·rename_i e;subst e
   rcases mem_cons.mp h with q|q
   ·cases q;exact .inl ⟨rfl,rfl⟩
   ·exact .inr (.tail _ q)
  ·rcases mem_cons.mp h with q|q
   ·refine rr q ?_;exact .inr (.head _)
   ·exact(ih q).imp id fun z=>.tail _ z
set_option tactic.hygienic true in
theorem KI{a:AF}:∀{st:St},(st.map (·.1)).Nodup→((put x a st).map (·.1)).Nodup:=by
 intro st
 induction st with
 |nil=>
  intro _
  simp[put]
 |cons hd r ih=>
  obtain⟨z,c⟩:=hd
  intro h
  unfold put
  split
  ·exact h
  ·rename_i ne
   simp only[map_cons,nodup_cons]at h⊢
   refine⟨fun q=>?_,ih h.2⟩
   obtain⟨⟨y,b⟩,hm,e⟩:=mem_map.mp q
   rcases Ps hm with⟨e1,_⟩|hm
   ·exact ne (by simp only at e;refine rl e1 (rr e ?_);rfl)
   ·exact h.1 (mem_map.mpr ⟨(y,b),hm,e⟩)
theorem Bt{a b:AF}:∀{st:St},(st.map (·.1)).Nodup→(y,b)∈put x a st→y≠x→(y,b)∈st:=fun V h ne=>(Ps h).elim (fun q=>absurd q.1 ne) id
set_option tactic.hygienic true in
theorem IP{a b:AF}:∀{st:St},(st.map (·.1)).Nodup→(x,b)∈put x a st→b=a:=by
 intro st
 induction st with
 |nil=>
  intro _ h
  simp[put]at h;exact h
 |cons hd r ih=>
  obtain⟨z,c⟩:=hd
  intro hn h
  simp only[map_cons,nodup_cons]at hn
  unfold put at h
  split at h
  ·rename_i e;subst e
   rcases mem_cons.mp h with q|q
   ·cases q;rfl
   ·exact absurd (mem_map.mpr ⟨_,q,rfl⟩) hn.1
  ·rename_i ne
   rcases mem_cons.mp h with q|q
   ·cases q;exact absurd rfl ne
   ·exact ih hn.2 q
inductive EV where
 |dat (d:Dat)
 |own (x:Str)
inductive Fl where
 |next|brk|cont
 |ret (d:Dat)
variable{Q:Fl→St→Prop}{fl:Fl}
def Pu(R as:List Addr)(h:Heap)(Y:Env)(v:Value):EV→Prop
 | .dat d=>Fz (vis R as h) v d
 | .own x=>AB h Y x v
def IQ(g:Cd):Flow→Fl→Prop
 | .next,.next=>True
 | .brk,.brk=>True
 | .cont,.cont=>True
 | .ret v,.ret d=>Fz g v d
 |_,_=>False
inductive Now(g:Cd)(h:Heap):Value→Dat→Prop
 |fz {v:Value}{d:Dat}:Fz g v d→Now g h v d
 |lst {a:Addr}{vs:List Value}{n:Nat}{ds:List Dat}:h.get? a=some (seqObj "list" vs.toArray n)→FzL g vs ds→Now g h (.ref a) (.list ds)
theorem Now.int{i:Int}(x:Now g h v (.int i)):∃t,v=.int i t:=by cases x with|fz f=>cases f;exact⟨_,rfl⟩
theorem Now.bool{i:Bool}(x:Now g h v (.bool i)):v=.bool i:=by cases x with|fz f=>cases f;rfl
theorem Now.none(x:Now g h v .none):v=.none:=by cases x with|fz f=>cases f;rfl
theorem Now.tuple(x:Now g h v (.tuple ds)):∃a vs n,v=.ref a∧g a (seqObj "tuple" vs.toArray n)∧FzL g vs ds:=by cases x with|fz f=>cases f with|tuple h r=>exact⟨_,_,_,rfl,h,r⟩
theorem Now.list(k:∀b o,g b o→h.get? b=some o)(x:Now g h v (.list ds)):∃a vs n,v=.ref a∧h.get? a=some (seqObj "list" vs.toArray n)∧FzL g vs ds:=by
 cases x with
 |fz f=>cases f with|list h r=>exact⟨_,_,_,rfl,k _ _ h,r⟩
 |lst h r=>exact⟨_,_,_,rfl,h,r⟩
@[elab_as_elim] theorem Now.intP{motive:Value→Prop}{i:Int}(x:Now g h v (.int i))(k:∀t,motive (.int i t)):motive v:=by obtain⟨t,rfl⟩:=x.int;exact k t
@[elab_as_elim] theorem Now.boolP{motive:Value→Prop}{i:Bool}(x:Now g h v (.bool i))(k:motive (.bool i)):motive v:=x.bool▸k
@[elab_as_elim] theorem Now.tupleP{motive:Value→Prop}(x:Now g h v (.tuple ds))(k:∀a vs n,g a (seqObj "tuple" vs.toArray n)→FzL g vs ds→motive (.ref a)):motive v:=by obtain⟨a,vs,n,rfl,e,f⟩:=x.tuple;exact k a vs n e f
@[elab_as_elim] theorem Now.listP{motive:Value→Prop}(x:Now g h v (.list ds))(kg:∀b o,g b o→h.get? b=some o)(k:∀a vs n,h.get? a=some (seqObj "list" vs.toArray n)→FzL g vs ds→motive (.ref a)):motive v:=by obtain⟨a,vs,n,rfl,e,f⟩:=x.list kg;exact k a vs n e f
theorem Bu:∀b o,vis R as h b o→h.get? b=some o:=fun V V x=>x.2.2
noncomputable def rd(st:St):EV→Option Dat
 | .dat d=>some d
 | .own x=>match look x st with
  |some (.lst ds)=>some (.list ds)
  |_=>none
section
variable{ev:EV}
theorem Pu.step(x:Pu R as h Y v ev)(e:Ai as h as' h')(hl:Y.locals∉as)(hc:∀y c,Y.cells.lookup y=some c→c∉as):Pu R as' h' Y v ev:=by
 cases ev with
 |dat d=>exact Fz.mono (e.vis) x
 |own y=>exact AB.keep x fun b o hb eo=>e.keep b o (hb.elim (fun q=>q▸hl) (by rintro⟨y,q⟩;exact hc y b q)) eo
theorem Rel.locA(r:Rel U R Y st as h):Y.locals∉as:=fun q=>r.sep _ r.locR q
theorem Rel.celA(r:Rel U R Y st as h):∀y c,Y.cells.lookup y=some c→c∉as:=fun y c e q=>r.sep _ (r.celR y c e) q
theorem Rel.now(r:Rel U R Y st as h)(x:Pu R as h Y v ev)(e:rd st ev=some d):Now (vis R as h) h v d:=by
 cases ev with
 |dat d'=>cases e;exact .fz x
 |own y=>
  obtain⟨⟨val,cs,hr,_⟩,_⟩:=r
  have e:(match look y st with|some (.lst ds)=>some (Dat.list ds)|_=>none)=some d:=e
  rcases q:look y st with _|(_|ds|_)<;>rw[q]at e
  ·cases e
  ·cases e
  ·cases e
   obtain⟨hv,hrep,_⟩:=hr y _ (CT q)
   have:=hv.unique x
   subst this
   generalize val y=u at hrep
   generalize cs y=ks at hrep
   cases hrep with
   |lst ho f=>exact .lst ho f
  ·cases e
end
structure CG(A:Around)(n:Nat):Prop where
 handled:A.handled=none
 depth:A.depth+3*n+110<recursionLimit
 units:A.units+20*n+100<cLine
 frames:∃e l,A.frames=some (e::l)∧e.scope.isGenerator=false∧e.scope.isCoroutine=false∧e.builtins=builtinsNs∧e.globals=mainGlobals
structure Ao(O:Program)(K:Frag)(U:Heap):Prop where
 X:K.In U
 top:∃mg mb,U.Ns mainGlobals mg∧U.Ns builtinsNs mb∧∀x:Str,x≠"__name__"→mb x=bootBuiltins x
 lim:U.NoLimit
 seer:U.NoSeer
 tree:O.given.tree=none
section
variable(O:Program)(w:World)(U:Heap)
inductive PE(R:List Addr)(Y:Env)(as:List Addr)(s:Shared)(Q:EV→St→Prop)(v:Value)(s':Shared):Prop
 |mk (ev:EV) (st':St) (as':List Addr) (h':Heap) (tk':Nat) (hs:s'={s with heap:=h',toks:=tk'}) (e:Ai as s.heap as' h') (r:Rel U R Y st' as' h') (x:Pu R as' h' Y v ev) (q:Q ev st')
def Ev(sc:Scope)(n:Nat)(e:Expr)(st:St)(Q:EV→St→Prop):Prop:=
 ∀(A:Around) (Y:Env) (R as:List Addr) (s:Shared),CG A n→AN sc Y→Rel U R Y st as s.heap→wpAny (model O w) A (eval e Y) (PE U R Y as s Q) (fun V V=>False) s
inductive PT(R:List Addr)(Y:Env)(as:List Addr)(s:Shared)(Q:Bool→St→Prop)(b:Bool)(s':Shared):Prop
 |mk (st':St) (as':List Addr) (h':Heap) (tk':Nat) (hs:s'={s with heap:=h',toks:=tk'}) (e:Ai as s.heap as' h') (r:Rel U R Y st' as' h') (q:Q b st')
def Et(sc:Scope)(n:Nat)(e:Expr)(st:St)(Q:Bool→St→Prop):Prop:=
 ∀(A:Around) (Y:Env) (R as:List Addr) (s:Shared),CG A n→AN sc Y→Rel U R Y st as s.heap→wpAny (model O w) A (isTrue e Y (eval e Y)) (PT U R Y as s Q) (fun V V=>False) s
inductive PX(R:List Addr)(Y:Env)(as:List Addr)(s:Shared)(Q:Fl→St→Prop)(f:Flow)(s':Shared):Prop
 |mk (fl:Fl) (st':St) (as':List Addr) (h':Heap) (tk':Nat) (hs:s'={s with heap:=h',toks:=tk'}) (e:Bc Y as s.heap as' h') (r:Rel U R Y st' as' h') (x:IQ (vis R as' h') f fl) (q:Q fl st')
def Sx(sc:Scope)(n:Nat)(x:Stmt)(st:St)(Q:Fl→St→Prop):Prop:=
 ∀(A:Around) (Y:Env) (R as:List Addr) (s:Shared),CG A n→AN sc Y→Rel U R Y st as s.heap→wpAny (model O w) A (exec x Y) (PX U R Y as s Q) (fun V V=>False) s
def Ss(sc:Scope)(n:Nat)(xs:List Stmt)(st:St)(Q:Fl→St→Prop):Prop:=
 ∀(A:Around) (Y:Env) (R as:List Addr) (s:Shared),CG A n→AN sc Y→Rel U R Y st as s.heap→wpAny (model O w) A (execs xs Y) (PX U R Y as s Q) (fun V V=>False) s
inductive PL(R:List Addr)(Y:Env)(as:List Addr)(s:Shared)(Q:List Dat→St→Prop)(vs:List Value)(s':Shared):Prop
 |mk (ds:List Dat) (st':St) (as':List Addr) (h':Heap) (tk':Nat) (hs:s'={s with heap:=h',toks:=tk'}) (e:Ai as s.heap as' h') (r:Rel U R Y st' as' h') (x:FzL (vis R as' h') vs ds) (q:Q ds st')
def El(sc:Scope)(n:Nat)(es:List Expr)(st:St)(Q:List Dat→St→Prop):Prop:=
 ∀(A:Around) (Y:Env) (R as:List Addr) (s:Shared) (pos:Pos),CG A n→AN sc Y→Rel U R Y st as s.heap→wpAny (model O w) A (spliced (backTo pos (starEach es Y))) (PL U R Y as s Q) (fun V V=>False) s
end
theorem PE.after{Q:EV→St→Prop}(e:Ai as s.heap as1 h1)(p:PE U R Y as1 {s with heap:=h1,toks:=t1} Q v s'):PE U R Y as s Q v s':=by
 obtain⟨ev,st',as',h',tk',rfl,e',r',x,q⟩:=p
 exact⟨ev,st',as',h',tk',rfl,e.trans e',r',x,q⟩
theorem PT.after{Q:Bool→St→Prop}{v:Bool}(e:Ai as s.heap as1 h1)(p:PT U R Y as1 {s with heap:=h1,toks:=t1} Q v s'):PT U R Y as s Q v s':=by
 obtain⟨st',as',h',tk',rfl,e',r',q⟩:=p
 exact⟨st',as',h',tk',rfl,e.trans e',r',q⟩
theorem PX.after{v:Flow}(e:Bc Y as s.heap as1 h1)(p:PX U R Y as1 {s with heap:=h1,toks:=t1} Q v s'):PX U R Y as s Q v s':=by
 obtain⟨fl,st',as',h',tk',rfl,e',r',x,q⟩:=p
 exact⟨fl,st',as',h',tk',rfl,e.trans e',r',x,q⟩
theorem PE.grown{Q:EV→St→Prop}(r:Rel U R Y st as s.heap)(hs:s'={s with heap:=h1,toks:=t1})(k:∀b o,s.heap.get? b=some o→h1.get? b=some o)
 (f:Fz (vis R as h1) v d) (q:Q (.dat d) st):PE U R Y as s Q v s':=
 ⟨.dat d,st,as,h1,t1,hs,Ai.grow _ k,r.grow k,f,q⟩
theorem Ev.mono{Q Q':EV→St→Prop}(h:Ev O w U sc n e st Q)(k:∀a st,Q a st→Q' a st):Ev O w U sc n e st Q':=
 fun A Y R as s hR hE r=>wpAny_mono (h A Y R as s hR hE r) (by rintro _ _ ⟨ev,st',as',h',tk',e,a,b,c,q⟩;exact⟨ev,st',as',h',tk',e,a,b,c,k _ _ q⟩) fun V V x=>x
theorem Et.mono{Q Q':Bool→St→Prop}(h:Et O w U sc n e st Q)(k:∀a st,Q a st→Q' a st):Et O w U sc n e st Q':=
 fun A Y R as s hR hE r=>wpAny_mono (h A Y R as s hR hE r) (by rintro _ _ ⟨st',as',h',tk',e,a,b,q⟩;exact⟨st',as',h',tk',e,a,b,k _ _ q⟩) fun V V x=>x
theorem Ss.mono{e:List Stmt}{Q':Fl→St→Prop}(h:Ss O w U sc n e st Q)(k:∀a st,Q a st→Q' a st):Ss O w U sc n e st Q':=
 fun A Y R as s hR hE r=>wpAny_mono (h A Y R as s hR hE r) (by rintro _ _ ⟨ev,st',as',h',tk',e,a,b,c,q⟩;exact⟨ev,st',as',h',tk',e,a,b,c,k _ _ q⟩) fun V V x=>x
section
variable{P:Value→Shared→Prop}
theorem Ev.go{Q:EV→St→Prop}(h:Ev O w U sc n e st Q)(hR:CG A n)(hE:AN sc Y)(r:Rel U R Y st as s.heap)
 (k:∀v a st' as' h' tk',Ai as s.heap as' h'→Rel U R Y st' as' h'→Pu R as' h' Y v a→Q a st'→P v {s with heap:=h',toks:=tk'}):wpAny (model O w) A (eval e Y) P E s:=
 wpAny_mono (h A Y R as s hR hE r) (by rintro _ _ ⟨a,st',as',h',tk',hs,e,r,x,q⟩;exact hs▸k _ a st' as' h' tk' e r x q) fun V V x=>x.elim
theorem El.go{Q:List Dat→St→Prop}(h:El O w U sc n es st Q){P:List Value→Shared→Prop}(hR:CG A n)(hE:AN sc Y)(r:Rel U R Y st as s.heap)
 (k:∀v a st' as' h' tk',Ai as s.heap as' h'→Rel U R Y st' as' h'→FzL (vis R as' h') v a→Q a st'→P v {s with heap:=h',toks:=tk'}):wpAny (model O w) A (spliced (backTo pos (starEach es Y))) P E s:=
 wpAny_mono (h A Y R as s pos hR hE r) (by rintro _ _ ⟨a,st',as',h',tk',hs,e,r,x,q⟩;exact hs▸k _ a st' as' h' tk' e r x q) fun V V x=>x.elim
theorem Et.go{Q:Bool→St→Prop}(h:Et O w U sc n e st Q){P:Bool→Shared→Prop}(hR:CG A n)(hE:AN sc Y)(r:Rel U R Y st as s.heap)
 (k:∀b st' as' h' tk',Ai as s.heap as' h'→Rel U R Y st' as' h'→Q b st'→P b {s with heap:=h',toks:=tk'}):wpAny (model O w) A (isTrue e Y (eval e Y)) P E s:=
 wpAny_mono (h A Y R as s hR hE r) (by rintro _ _ ⟨st',as',h',tk',hs,e,r,q⟩;exact hs▸k _ st' as' h' tk' e r q) fun V V x=>x.elim
theorem Sx.go{e:Stmt}(h:Sx O w U sc n e st Q){P:Flow→Shared→Prop}(hR:CG A n)(hE:AN sc Y)(r:Rel U R Y st as s.heap)
 (k:∀f fl st' as' h' tk',Bc Y as s.heap as' h'→Rel U R Y st' as' h'→IQ (vis R as' h') f fl→Q fl st'→P f {s with heap:=h',toks:=tk'}):wpAny (model O w) A (exec e Y) P E s:=
 wpAny_mono (h A Y R as s hR hE r) (by rintro _ _ ⟨a,st',as',h',tk',hs,e,r,x,q⟩;exact hs▸k _ a st' as' h' tk' e r x q) fun V V x=>x.elim
theorem Ss.go{e:List Stmt}(h:Ss O w U sc n e st Q){P:Flow→Shared→Prop}(hR:CG A n)(hE:AN sc Y)(r:Rel U R Y st as s.heap)
 (k:∀f fl st' as' h' tk',Bc Y as s.heap as' h'→Rel U R Y st' as' h'→IQ (vis R as' h') f fl→Q fl st'→P f {s with heap:=h',toks:=tk'}):wpAny (model O w) A (execs e Y) P E s:=
 wpAny_mono (h A Y R as s hR hE r) (by rintro _ _ ⟨a,st',as',h',tk',hs,e,r,x,q⟩;exact hs▸k _ a st' as' h' tk' e r x q) fun V V x=>x.elim
end
theorem PX.mk'(f:Flow)(fl:Fl)(st':St)(as':List Addr)(h':Heap)(tk':Nat)(e:Bc Y as s.heap as' h')(r:Rel U R Y st' as' h')(x:IQ (vis R as' h') f fl)(q:Q fl st'):PX U R Y as s Q f {s with heap:=h',toks:=tk'}:=⟨fl,st',as',h',tk',rfl,e,r,x,q⟩
theorem Zc{i:Int}{Q:EV→St→Prop}(h:Q (.dat (.int i)) st):Ev O w U sc n (.Constant (.int i) k pos) st Q:=
 fun V V V V V V V r=>wpAny_Constant_int (PE.grown r rfl (fun V V e=>e) (.int _ _) h)
theorem VL{Q:EV→St→Prop}(h:Q (.dat .none) st):Ev O w U sc n (.Constant .none k pos) st Q:=
 fun V V V V V V V r=>wpAny_Constant_none (PE.grown r rfl (fun V V e=>e) .none h)
theorem VM{b:Bool}{Q:EV→St→Prop}(h:Q (.dat (.bool b)) st):Ev O w U sc n (.Constant (.bool b) k pos) st Q:=
 fun V V V V V V V r=>wpAny_Constant_bool (PE.grown r rfl (fun V V e=>e) (.bool _) h)
theorem Zd{b:Str}{Q:EV→St→Prop}(h:Q (.dat (.str b)) st):Ev O w U sc n (.Constant (.str b) k pos) st Q:=
 fun V V V V V V V r=>wpAny_Constant_str (PE.grown r rfl (fun V V e=>e) (.str _ _) h)
theorem CZ{Q:Value→Shared→Prop}(hE:AN sc Y)(hv:AB s.heap Y x v)(h:Q v s)
 (hd:(x==("__debug__":Str))=false) (hc:(x==("__classdict__":Str))=false):wpAny (model O w) A (eval (.Name x pos) Y) Q E s:=by
 refine wpAny_Name ?_ hd
 rcases hv with⟨k,m,hn,e⟩|⟨k|k,c,hc',hv⟩
 ·exact wpAny_loadName_local (by refine rr hE.isSc ?_;exact hE.kind) k hn e h
 ·exact wpAny_loadName_cell (by refine rr hE.isSc ?_;exact hE.kind) k hc' hv h
 ·exact wpAny_loadName_free (by refine rr hE.isSc ?_;exact hE.kind) k hc' hv h hc
noncomputable def VN(x:Str):AF→EV
 | .dat d=>.dat d
 |_=>.own x
theorem VO{a:AF}{Q:EV→St→Prop}(e:look x st=some a)(h:Q (VN x a) st)(hd:autoParam ((x==("__debug__":Str))=false) au.a2._auto_1)(hc:autoParam ((x==("__classdict__":Str))=false) au.a2._auto_1):
 Ev O w U sc n (.Name x pos) st Q:=by
 intro A Y R as s _ hE r
 obtain⟨val,cs,hr,_⟩:=r.rows
 obtain⟨hv,hrep,_⟩:=hr x a (CT e)
 refine CZ hE hv ?_ hd hc
 refine⟨VN x a,st,as,s.heap,s.toks,rfl,Ai.refl _ _,r,?_,h⟩
 cases a with
 |dat d=>generalize val x=u at hrep;generalize cs x=ks at hrep;cases hrep with|dat f=>exact f
 |lst ds=>exact hv
 |obj c fs=>exact hv
structure Mut(R as ns cs cs':List Addr)(h h':Heap):Prop where
 sub:∀b∈cs,b∈as
 keep:∀b o,b∉cs→h.get? b=some o→h'.get? b=some o
 live:LY h h'
 new:∀b∈cs',b∈cs∨b∈ns∨h.get? b=none
 off:∀b∈ns,b∉R
noncomputable def swp(cs cs' as:List Addr):List Addr:=cs'++as.filter (fun b=>decide (b∉cs))
theorem Ep{b:Addr}:b∈swp cs cs' as↔b∈cs'∨(b∈as∧b∉cs):=by simp[swp]
theorem Mut.step{as0 ns:List Addr}{h0:Heap}(M:Mut R as ns cs cs' h h')(e:Ai as0 h0 as h)(hns:∀b∈ns,h0.get? b=none):Ai as0 h0 (swp cs cs' as) h':=
 ⟨fun b o hb eo=>M.keep b o (fun q=>e.old eo hb (M.sub b q)) (e.keep b o hb eo),fun b hb=>(Ep.mp hb).elim (fun q=>(M.new b q).elim (fun q=>e.fresh b (M.sub b q)) fun q=>.inr (q.elim (hns b) fun q=>e.live.none q)) fun q=>e.fresh b q.1,e.live.trans M.live⟩
theorem Mut.vis{ns:List Addr}(M:Mut R as ns cs cs' h h'):∀b o,vis (ns++R) as h b o→vis R (swp cs cs' as) h' b o:=fun b o ⟨p,q,e⟩=>
 ⟨fun z=>p (mem_append_right _ z),fun z=>(Ep.mp z).elim (fun z=>(M.new b z).elim (fun z=>q (M.sub b z)) fun z=>z.elim (fun z=>p (mem_append_left _ z)) fun z=>by rw[e]at z;cases z) fun z=>q z.1,M.keep b o (fun z=>q (M.sub b z)) e⟩
theorem Mut.rel{ns:List Addr}{a:AF}(M:Mut R as ns cs cs' h h')(r:Rel U (ns++R) Y st as h)(hx:look x st=some a)(hv:AB h Y x v)
 (hl:Y.locals∈R) (hc:∀x c,Y.cells.lookup x=some c→c∈R)
 (hcs:∃(val:Str→Value) (ks:Str→List Addr),(∀x a,(x,a)∈st→AB h Y x (val x)∧Cp (Mine.Internal.vis (ns++R) as h) h (val x) a (ks x)∧∀b∈ks x,b∈as)∧
  (∀x a y b,(x,a)∈st→(y,b)∈st→x≠y→∀c∈ks x,c∉ks y)∧ks x=cs)
 (rep:Cp (Mine.Internal.vis R (swp cs cs' as) h') h' v a' cs'):Rel U R Y (put x a' st) (swp cs cs' as) h':=by
 obtain⟨val,ks,hr,hd,rfl⟩:=hcs
 obtain⟨_,hn,hsep,_,_,⟨m,hm⟩,hcl,hi,hb⟩:=r
 have kv:=M.vis
 have offR:∀b∈R,b∉ks x:=fun b hb z=>hsep b (mem_append_right _ hb) (M.sub b z)
 have vk:∀y u,AB h Y y u→AB h' Y y u:=fun y u z=>z.keep fun b o hb eo=>M.keep b o (hb.elim (fun q=>q▸offR _ hl) (by rintro⟨y,q⟩;exact offR _ (hc y b q))) eo
 have ev:v=val x:=hv.unique (hr x a (CT hx)).1
 refine⟨⟨val,fun z=>if z=x then cs' else ks z,fun z b hz=>?_,fun z b z' b' hz hz' ne c hc1=>?_⟩,KI hn,fun b hb z=>?_,hl,hc,⟨m,hm.at' fun o eo=>M.keep _ o (offR _ hl) eo⟩,
  fun y c ec=>(by obtain⟨v,o,ho,hd⟩:=hcl y c ec;exact⟨v,o,M.keep _ _ (offR _ (hc y c ec)) ho,hd⟩),fun b hb=>(by obtain⟨o,eo⟩:=hi b (mem_append_right _ hb);exact⟨o,M.keep b o (offR b hb) eo⟩),fun b o eo=>kv b o (hb b o eo)⟩
 ·by_cases hzx:z=x
  ·subst hzx
   have:=IP hn hz
   subst this
   dsimp only;refine rr (if_pos rfl) (rl ev ?_)
   exact⟨vk _ _ hv,rep,fun b hb=>Ep.mpr (.inl hb)⟩
  ·dsimp only;refine rr (if_neg hzx) ?_
   have hz':=Bt hn hz hzx
   obtain⟨p,q,t⟩:=hr z b hz'
   exact⟨vk _ _ p,q.mono kv fun c hc o eo=>M.keep c o (fun w=>hd z b x a hz' (CT hx) hzx c hc w) eo,fun b hb=>Ep.mpr (.inr ⟨t b hb,fun w=>hd z _ x a hz' (CT hx) hzx b hb w⟩)⟩
 ·dsimp only at hc1⊢
  have old:∀z b,(z,b)∈st→z≠x→∀c∈ks z,c∉cs':=fun z b hz ne c hc hc'=>(M.new c hc').elim (fun q=>hd z b x a hz (CT hx) ne c hc q) fun q=>q.elim (fun q=>
   hsep c (mem_append_left _ q) ((hr z b hz).2.2 c hc)) fun q=>by
    obtain⟨o,eo⟩:=(hr z b hz).2.1.alive c hc
    rw[q]at eo;cases eo
  by_cases hzx:z=x
  ·rw[if_pos hzx]at hc1
   have hzx':z'≠x:=fun q=>ne (hzx.trans q.symm)
   refine rr (if_neg hzx') ?_
   exact fun q=>old z' b' (Bt hn hz' hzx') hzx' c q hc1
  ·rw[if_neg hzx]at hc1
   by_cases hzx':z'=x
   ·refine rr (if_pos hzx') ?_;exact old z b (Bt hn hz hzx) hzx c hc1
   ·refine rr (if_neg hzx') ?_;exact hd z b z' b' (Bt hn hz hzx) (Bt hn hz' hzx') ne c hc1
 ·rcases Ep.mp z with z|z
  ·exact(M.new b z).elim (offR b hb) fun q=>q.elim (fun q=>M.off b q hb) fun q=>by
    obtain⟨o,eo⟩:=hi b (mem_append_right _ hb)
    rw[q]at eo;cases eo
  ·exact hsep b (mem_append_right _ hb) z.1
theorem Rel.mut{P:Prop}{ns:List Addr}{a:AF}(r:Rel U (ns++R) Y st as h)(hx:look x st=some a)(hv:AB h Y x v)(hl:Y.locals∈R)(hc:∀x c,Y.cells.lookup x=some c→c∈R)
 (k:∀cs,Cp (vis (ns++R) as h) h v a cs→(∀b∈cs,b∈as)→(∀{h':Heap}{a':AF}{cs':List Addr},Mut R as ns cs cs' h h'→Cp (vis R (swp cs cs' as) h') h' v a' cs'→Rel U R Y (put x a' st) (swp cs cs' as) h')→P):P:=by
 obtain⟨val,ks,hr,hd⟩:=r.rows
 have m:=hr x a (CT hx)
 have ev:v=val x:=hv.unique m.1
 exact k (ks x) (ev▸m.2.1) m.2.2 fun M rep=>M.rel r hx hv hl hc ⟨val,ks,hr,hd,rfl⟩ rep
section
variable{a:EV}
noncomputable def YK:Str×CP→Str×Dat
 |(x,.dat d)=>(x,d)
 |(x,.own _ ds)=>(x,.list ds)
theorem Os(fs:List (Str×CP)):(fs.map YK).map (·.1)=fs.map (·.1):=by
 refine rr map_map ?_
 refine map_congr_left fun p V=>?_
 obtain⟨x,a⟩:=p
 cases a<;>rfl
noncomputable def Hq:AF→Dat
 | .dat d=>d
 | .lst ds=>.list ds
 | .obj c fs=>.inst c (fs.map YK)
noncomputable def frz(st:St):EV→Option (Dat×St)
 | .dat d=>some (d,st)
 | .own x=>match look x st with
  |some a=>some (Hq a,put x (.dat (Hq a)) st)
  |none=>none
theorem DY.frz(x:DY g h m fs cs)(k:∀b o,g b o→g' b o)(kc:∀b∈cs,∀o,h.get? b=some o→g' b o):FzF g' m (fs.map YK):=by
 induction x with
 |nil=>exact .nil
 |dat e f _ ih=>exact .cons e (f.mono k) (ih kc)
 |own e ho f _ ih=>exact .cons e (.list (kc _ (.head _) _ ho) (f.mono k)) (ih fun b hb=>kc b (.tail _ hb))
theorem Cp.frz{a:AF}(x:Cp g h v a cs)(k:∀b o,g b o→g' b o)(kc:∀b∈cs,∀o,h.get? b=some o→g' b o):Fz g' v (Hq a):=by
 cases x with
 |dat f=>exact f.mono k
 |lst ho f=>exact .list (kc _ (.head _) _ ho) (f.mono k)
 |obj h1 h2 hn f nd nf ex=>exact .inst (kc _ (.head _) _ h1) (kc _ (.tail _ (.head _)) _ h2) hn (f.frz k fun b hb=>kc b (.tail _ (.tail _ hb))) fun y v e=>by refine rr (Os ..) ?_;exact ex.1 y v e
theorem Rel.freeze(r:Rel U R Y st as h)(x:Pu R as h Y v a)(e:frz st a=some (d,st')):∃as',(∀b∈as',b∈as)∧Rel U R Y st' as' h∧Fz (vis R as' h) v d:=by
 cases a with
 |dat d'=>cases e;exact⟨as,fun V h=>h,r,x⟩
 |own y=>
  have e:(match look y st with|some a=>some (Hq a,put y (.dat (Hq a)) st)|none=>none)=some (d,st'):=e
  rcases q:look y st with _|av<;>rw[q]at e
  ·cases e
  ·cases e
   refine Rel.mut (ns:=[]) r q x r.locR r.celR fun cs rep sub k=>?_
   have M:Mut R as [] cs [] h h:=⟨sub,fun V V V e=>e,.of fun V V e=>e,Cc,Cc⟩
   have f:Fz (vis R (swp cs [] as) h) v (Hq av):=rep.frz M.vis fun b hb o e=>⟨fun z=>r.sep b z (sub b hb),fun z=>(Ep.mp z).elim (fun z=>nomatch z) fun z=>z.2 hb,e⟩
   exact⟨swp cs [] as,fun b hb=>(Ep.mp hb).elim (fun z=>nomatch z) And.left,k M (.dat f),f⟩
theorem Ai.less(k:∀b∈as',b∈as):Ai as h as' h:=⟨fun V V V e=>e,fun b hb=>.inl (k b hb),.of fun V V e=>e⟩
end
inductive YL(st:St)(a:EV)(Q:Dat→St→Prop):Prop
 |mk (d:Dat) (st':St) (e:frz st a=some (d,st')) (q:Q d st')
def Ed(O:Program)(w:World)(U:Heap)(sc:Scope)(n:Nat)(e:Expr)(st:St)(Q:Dat→St→Prop):Prop:=Ev O w U sc n e st fun a st1=>YL st1 a Q
inductive PD(U:Heap)(R:List Addr)(Y:Env)(as:List Addr)(s:Shared)(Q:Dat→St→Prop)(v:Value)(s':Shared):Prop
 |mk (d:Dat) (st':St) (as':List Addr) (h':Heap) (tk':Nat) (hs:s'={s with heap:=h',toks:=tk'}) (e:Ai as s.heap as' h') (r:Rel U R Y st' as' h') (x:Fz (vis R as' h') v d) (q:Q d st')
theorem PE.pd{Q:Dat→St→Prop}(p:PE U R Y as s (fun a st1=>YL st1 a Q) v s'):PD U R Y as s Q v s':=by
 obtain⟨ev,st',as',h',tk',rfl,e',r',x,d,st'',ez,q⟩:=p
 obtain⟨as'',sub,r'',f⟩:=r'.freeze x ez
 exact⟨d,st'',as'',h',tk',rfl,e'.trans (Ai.less sub),r'',f,q⟩
theorem Ed.run{Q:Dat→St→Prop}(h:Ed O w U sc n e st Q)(hR:CG A n)(hE:AN sc Y)(r:Rel U R Y st as s.heap):
 wpAny (model O w) A (eval e Y) (PD U R Y as s Q) (fun V V=>False) s:=wpAny_mono (h A Y R as s hR hE r) (fun V V p=>p.pd) fun V V x=>x
theorem Ed.go{Q:Dat→St→Prop}(h:Ed O w U sc n e st Q){P:Value→Shared→Prop}(hR:CG A n)(hE:AN sc Y)(r:Rel U R Y st as s.heap)
 (k:∀v a st' as' h' tk',Ai as s.heap as' h'→Rel U R Y st' as' h'→Fz (vis R as' h') v a→Q a st'→P v {s with heap:=h',toks:=tk'}):wpAny (model O w) A (eval e Y) P E s:=
 wpAny_mono (h.run hR hE r) (by rintro _ _ ⟨a,st',as',h',tk',hs,e,r,x,q⟩;exact hs▸k _ a st' as' h' tk' e r x q) fun V V x=>x.elim
theorem Ze{Q:List Dat→St→Prop}(h:Q [] st):El O w U sc n [] st Q:=fun V V V as s V V V r=>wpAny_items_nil ⟨[],st,as,s.heap,s.toks,rfl,Ai.refl _ _,r,.nil,h⟩
theorem Pv{Q:List Dat→St→Prop}(h:Ed O w U sc n e st fun d st1=>El O w U sc n es st1 fun ds st2=>Q (d::ds) st2)
 (hs:autoParam (∀Y,starEach (e::es) Y=(false,eval e Y)::starEach es Y) au.a1._auto_1):El O w U sc n (e::es) st Q:=by
 intro A Y R as s pos hR hE r
 refine wpAny_items_cons (h.go hR hE r fun v d st1 as1 h1 t1 e1 r1 f1 q1=>?_) (hs Y)
 refine q1.go hR hE r1 fun vs ds st2 as2 h2 t2 e2 r2 f2 q2=>?_
 exact⟨d::ds,st2,as2,h2,t2,rfl,e1.trans e2,r2,.cons (f1.mono e2.vis) f2,q2⟩
theorem Rel.fresh(r:Rel U R Y st as h):h.objs.size∉R:=fun q=>(by obtain⟨_,e⟩:=r.inb _ q;exact lt_irrefl _ (lt_size e))
inductive fL(U:Heap)(R:List Addr)(Y:Env)(st:St)(as:List Addr)(h:Heap):Prop
 |mk (as':List Addr) (sub:∀b∈as',b∈as) (al:∀b∈as',∃o,h.get? b=some o) (r:Rel U R Y st as' h)
theorem Rel.trim(r:Rel U R Y st as h):fL U R Y st as h:=by
 obtain⟨⟨val,cs,hr,hd⟩,hn,hsep,hl,hc,hlo,hcl,hi,hb⟩:=r
 have sub:∀b∈as.filter (fun b=>(h.get? b).isSome),b∈as:=fun b hb=>(mem_filter.mp hb).1
 have kv:∀b o,vis R as h b o→vis R (as.filter (fun b=>(h.get? b).isSome)) h b o:=by rintro b o ⟨p,q,e⟩;exact⟨p,fun z=>q (sub b z),e⟩
 refine⟨_,sub,fun b hb=>isSome_iff_exists.mp (mem_filter.mp hb).2,⟨val,cs,fun x a hx=>?_,hd⟩,hn,fun b hb z=>hsep b hb (sub b z),hl,hc,hlo,hcl,hi,fun b o e=>kv b o (hb b o e)⟩
 obtain⟨p,q,z⟩:=hr x a hx
 refine⟨p,q.mono kv fun V V V e=>e,fun b hb=>mem_filter.mpr ⟨z b hb,isSome_iff_exists.mpr (q.alive b hb)⟩⟩
theorem Rel.trimP{P:Prop}(r:Rel U R Y st as h)(k:∀as',(∀b∈as',b∈as)→(∀b∈as',∃o,h.get? b=some o)→Rel U R Y st as' h→P):P:=(by obtain⟨as',a,b,c⟩:=r.trim;exact k as' a b c)
theorem Gw(r:Rel U R Y st as h)(hlt:∀b∈as,∃o,h.get? b=some o)(hf:o.isFreed=false):vis R as (h.push o) h.objs.size o:=
 ⟨r.fresh,fun q=>(by obtain⟨_,e⟩:=hlt _ q;exact lt_irrefl _ (lt_size e)),get?_push_size h hf⟩
theorem EO(o:Obj):∀b x,vis R as h b x→vis R as (h.push o) b x:=by rintro _ _ ⟨p,q,e⟩;exact⟨p,q,get?_push_of_some _ e⟩
theorem SJ{Q:EV→St→Prop}(h:El O w U sc n es st fun ds st1=>ds.length≤sizeLine∧Q (.dat (.tuple ds)) st1):Ev O w U sc n (.Tuple es k pos) st Q:=by
 intro A Y R as s hR hE r
 refine wpAny_Tuple (h.go hR hE r fun vs ds st1 as0 h1 t1 e0 r0 f0 qq=>?_)
 obtain⟨hz,q⟩:=qq
 refine r0.trimP fun as1 sub hlt r1=>?_
 have e1:=e0.trans (Ai.less sub)
 have f1:FzL (vis R as1 h1) vs ds:=FzL.mono (Ai.less sub).vis f0
 refine⟨by refine rr f1.length ?_;exact hz,PE.after (t1:=t1) e1 ?_⟩
 exact PE.grown (t1:=t1) r1 rfl (fun b o e=>get?_push_of_some _ e) (.tuple (Gw r1 hlt rfl) (f1.mono (EO _))) q
def Am(x y:Int):Prop:=IntMulOk x y
def Pw(p:Int→Int→Prop):Dat→Dat→Prop
 | .int a,y=>match y with
  | .int b=>p a b
  |_=>False
 |_,_=>False
theorem EP{p:Int→Int→Prop}{x y:Dat}(h:Pw p x y):∃a b,x=.int a∧y=.int b∧p a b:=by
 cases x with
 |int a=>cases y with
  |int b=>exact⟨_,_,rfl,rfl,h⟩
  |_=>exact h.elim
 |_=>exact h.elim
def Px:Dat→Dat→Prop
 | .int _,y=>match y with
  | .int _=>True
  |_=>False
 | .list xs,y=>match y with
  | .list ys=>xs.length+ys.length≤sizeLine
  |_=>False
 | .tuple xs,y=>match y with
  | .tuple ys=>xs.length+ys.length≤sizeLine
  |_=>False
 |_,_=>False
theorem LZ{x y:Dat}(h:Px x y):(∃a b,x=.int a∧y=.int b)∨(∃xs ys,x=.tuple xs∧y=.tuple ys∧xs.length+ys.length≤sizeLine)∨∃xs ys,x=.list xs∧y=.list ys∧xs.length+ys.length≤sizeLine:=by
 cases x with
 |int a=>cases y with
  |int b=>exact .inl ⟨_,_,rfl,rfl⟩
  |_=>exact h.elim
 |tuple a=>cases y with
  |tuple b=>exact .inr (.inl ⟨_,_,rfl,rfl,h⟩)
  |_=>exact h.elim
 |list a=>cases y with
  |list b=>exact .inr (.inr ⟨_,_,rfl,rfl,h⟩)
  |_=>exact h.elim
 |_=>exact h.elim
def Er(op:Operator)(x y:Dat):Prop:=match op with
 | .Add=>Px x y
 | .Sub=>Pw (fun V V=>True) x y
 | .Mult=>Pw Am x y
 | .FloorDiv=>Pw (fun V b=>b≠0) x y
 | .Mod=>Pw (fun V b=>b≠0) x y
 | .Pow=>Pw (fun a b=>0≤b∧b≤1000000∧a.natAbs<2^64) x y
 |_=>False
noncomputable def KJ:Operator→Dat→Dat→Dat
 | .Add,.int x,.int y=>.int (x+y)
 | .Sub,.int x,.int y=>.int (x-y)
 | .Mult,.int x,.int y=>.int (x*y)
 | .FloorDiv,.int x,.int y=>.int (x.fdiv y)
 | .Mod,.int x,.int y=>.int (x.fmod y)
 | .Pow,.int x,.int y=>.int (x^y.toNat)
 | .Add,.list xs,.list ys=>.list (xs++ys)
 | .Add,.tuple xs,.tuple ys=>.tuple (xs++ys)
 |_,_,_=>.none
theorem Vb(S:Ao O K U)(hR:CG A n)(k:∀b o,U.get? b=some o→s.heap.get? b=some o):PylongRoom (model O w) A s:=by
 obtain⟨e,l,hf,h1,h2,h3,h4⟩:=hR.frames
 refine PylongRoom.of (S.lim.keeps k) (by have:=hR.depth;show A.depth+100<_;exact(Ay this)) (SeerAt.of (S.seer.keeps k) S.tree hf h1 h2 h3 h4)
theorem Ot(S:Ao O K U)(hR:CG A n)(r:Rel U R Y st as s.heap)(hlt:∀b∈as,∃o,s.heap.get? b=some o){xs ys:List Dat}(hu:Now (vis R as s.heap) s.heap u (.tuple xs))(hv:Now (vis R as s.heap) s.heap v (.tuple ys))
 (hs:xs.length+ys.length≤sizeLine) {Q:EV→St→Prop} (q:Q (.dat (.tuple (xs++ys))) st):wpAny (model O w) A (binaryOp .Add u v) (PE U R Y as s Q) (fun V V=>False) s:=by
 refine Now.tupleP hu fun a vs k ho fo=>?_
 refine Now.tupleP hv fun b ws k' ho' fo'=>?_
 have e:vs.toArray++ws.toArray=(vs++ws).toArray:=by simp
 by_cases hv9:vs=[]
 ·subst hv9
  cases fo
  exact concat_meets ⟨_,ho.2.2,rfl⟩ ⟨_,ho'.2.2,rfl⟩ noFill_tuple_add seq_tuple_add PySem.F.slot_tuple_add PySem.F.entry_tuple_add (PySem.F.args_tuple_add_2 _ _) (tuple_addW0 _ _ _ ws.toArray _ _ none none #[] #[] rfl)
   ⟨ho.2.2,ho'.2.2,PE.grown (t1:=s.toks) r rfl (fun V V e=>e) (.tuple ho' fo') q⟩
 ·by_cases hw:ws=[]
  ·subst hw
   cases fo'
   refine concat_meets ⟨_,ho.2.2,rfl⟩ ⟨_,ho'.2.2,rfl⟩ noFill_tuple_add seq_tuple_add PySem.F.slot_tuple_add PySem.F.entry_tuple_add (PySem.F.args_tuple_add_2 _ _) (tuple_addW1 _ _ vs.toArray _ _ _ none none #[] #[] (by simpa using hv9) rfl)
    ⟨ho.2.2,ho'.2.2,PE.grown (t1:=s.toks) r rfl (fun V V e=>e) (.tuple ho fo) ?_⟩
   rw[append_nil]at q;exact q
  ·refine concat_meets ⟨_,ho.2.2,rfl⟩ ⟨_,ho'.2.2,rfl⟩ noFill_tuple_add seq_tuple_add PySem.F.slot_tuple_add PySem.F.entry_tuple_add (PySem.F.args_tuple_add_2 _ _)
    (tuple_addW2 _ _ vs.toArray ws.toArray _ _ none none #[] #[] (by simpa using hv9) (by simpa using hw) (by refine rr size_toArray (rr size_toArray ?_);refine rr fo.length (rr fo'.length ?_);exact hs)) ⟨ho.2.2,ho'.2.2,?_⟩
   refine rr e ?_
   exact PE.grown (t1:=s.toks) r rfl (fun b o e=>get?_push_of_some _ e) (.tuple (Gw r hlt rfl) ((fo.append fo').mono (EO _))) q
theorem Py(S:Ao O K U)(hR:CG A n)(r:Rel U R Y st as s.heap)(hlt:∀b∈as,∃o,s.heap.get? b=some o){xs ys:List Dat}(hu:Now (vis R as s.heap) s.heap u (.list xs))(hv:Now (vis R as s.heap) s.heap v (.list ys))
 (hs:xs.length+ys.length≤sizeLine) {Q:EV→St→Prop} (q:Q (.dat (.list (xs++ys))) st):wpAny (model O w) A (binaryOp .Add u v) (PE U R Y as s Q) (fun V V=>False) s:=by
 refine Now.listP hu Bu fun a vs k ho fo=>?_
 refine Now.listP hv Bu fun b ws k' ho' fo'=>?_
 have e:vs.toArray++ws.toArray=(vs++ws).toArray:=by simp
 refine concat_meets ⟨_,ho,rfl⟩ ⟨_,ho',rfl⟩ noFill_list_add seq_list_add PySem.F.slot_list_add PySem.F.entry_list_add (PySem.F.args_list_add_2 _ _) (list_addW _ _ vs.toArray ws.toArray _ _ none none #[] #[] (by refine rr size_toArray (rr size_toArray ?_);refine rr fo.length (rr fo'.length ?_);exact hs)) ⟨ho,ho',?_⟩
 refine rr e ?_
 exact PE.grown (t1:=s.toks) r rfl (fun b o e=>get?_push_of_some _ e) (.list (Gw r hlt rfl) ((fo.append fo').mono (EO _))) q
theorem EQ{i j k:Int}{Q:EV→St→Prop}(r:Rel U R Y st as s.heap)(hu:Now (vis R as s.heap) s.heap u (.int i))(hv:Now (vis R as s.heap) s.heap v (.int j))(q:Q (.dat (.int k)) st)
 (f:∀t t' (Q':Value→Shared→Prop),(∀tok tk,Q' (.int k tok) {s with toks:=tk})→wpAny (model O w) A (binaryOp op (.int i t) (.int j t')) Q' (fun V V=>False) s):wpAny (model O w) A (binaryOp op u v) (PE U R Y as s Q) (fun V V=>False) s:=
 Now.intP hu fun t=>Now.intP hv fun t'=>f t t' _ fun tok tk=>PE.grown (t1:=tk) r rfl (fun V V e=>e) (.int k tok) q
theorem VP(S:Ao O K U)(hR:CG A n)(r:Rel U R Y st as s.heap)(hlt:∀b∈as,∃o,s.heap.get? b=some o){x y:Dat}(hu:Now (vis R as s.heap) s.heap u x)(hv:Now (vis R as s.heap) s.heap v y)
 (hs:Er op x y) {Q:EV→St→Prop} (q:Q (.dat (KJ op x y)) st):wpAny (model O w) A (binaryOp op u v) (PE U R Y as s Q) (fun V V=>False) s:=by
 cases op<;>first|exact hs.elim|skip
 ·rcases LZ hs with⟨_,_,rfl,rfl⟩|⟨xs,ys,rfl,rfl,hs⟩|⟨xs,ys,rfl,rfl,hs⟩
  ·exact EQ r hu hv q fun t t' Q' I=>wpAny_add_int (I _ _)
  ·exact Ot S hR r hlt hu hv hs q
  ·exact Py S hR r hlt hu hv hs q
 ·obtain⟨_,_,rfl,rfl,hs⟩:=EP hs;exact EQ r hu hv q fun t t' Q' I=>sub_int' (I _ _)
 ·obtain⟨_,_,rfl,rfl,hs⟩:=EP hs;exact EQ r hu hv q fun t t' Q' I=>mul_int (I _ _) hs
 ·obtain⟨_,_,rfl,rfl,hs⟩:=EP hs;exact EQ r hu hv q fun t t' Q' I=>mod_int' hs (I _ _)
 ·obtain⟨_,_,rfl,rfl,hs⟩:=EP hs;exact EQ r hu hv q fun t t' Q' I=>pow_int_small hs.1 hs.2.1 hs.2.2 (I _ _)
 ·obtain⟨_,_,rfl,rfl,hs⟩:=EP hs;exact EQ r hu hv q fun t t' Q' I=>floordiv_int hs (I _ _) (.inr (Vb S hR fun b o e=>(r.base b o e).2.2))
noncomputable def FH(lo hi:Option Int)(l:List α):List α:=(l.drop (kms_lo lo l.length)).take (kms_hi hi l.length-kms_lo lo l.length)
theorem Ou{lo hi:Option Int}{l:List α}(h0:kms_lo lo l.length=0)(h1:kms_hi hi l.length-kms_lo lo l.length=l.length):FH lo hi l=l:=by
 delta FH
 refine rr h1 (rr h0 ?_)
 simp
theorem Gx{k:Option Int}{Q:Option Int→Shared→Prop}(hv:IsPart v k)(h:Q k s):wpAny (model O w) A (Builtin.Slice.slicePartIndex v) Q E s:=by
 cases hv with
 |none=>exact wpAny_pure h
 |int i t=>
  delta Builtin.Slice.slicePartIndex
  refine rr (if_neg (show¬((Value.int i t==Value.none)=true)from Bool.false_ne_true)) ?_
  refine wpAny_bind (wpAny_specialOf (T:="int") (typeIs_int s i t) int_index ?_)
  refine rr (if_neg (by simp)) ?_
  exact wpAny_bind (wpAny_of_eq (a:=i) rfl (wpAny_pure h))
theorem Pz{v n:Int}(hn:0≤n):(if v<0 then max (v+n) 0 else min v n)=max 0 (min (if v<0 then v+n else v) n):=by
 by_cases h:v<0
 ·refine rr (if_pos h) (rr (if_pos h) ?_);refine rr (Int.min_eq_left (show v+n≤n from Int.le_trans (Int.add_le_add_right (le_of_lt h) n) (le_of_eq (zero_add n)))) (rr (Int.max_comm ..) ?_);rfl
 ·refine rr (if_neg h) (rr (if_neg h) ?_)
  exact(Int.max_eq_right (Int.le_min.mpr ⟨not_lt.mp h,hn⟩)).symm
theorem Zf(lo hi:Option Int)(n:Nat):Builtin.Slice.sliceAdjust lo hi 1 n=((kms_lo lo n:Int),(kms_hi hi n:Int)):=by
 have k:=kms_bounds lo hi n
 have k1:(sliceBounds lo hi none n).1=(kms_lo lo n:Int):=by refine rr k ?_;rfl
 have k2:(sliceBounds lo hi none n).2.1=(kms_hi hi n:Int):=by refine rr k ?_;rfl
 refine rl k1 (rl k2 ?_)
 refine Prod.ext ?_ ?_
 ·rcases lo with _|⟨x⟩
  ·rfl
  ·exact Pz (natCast_nonneg n)
 ·rcases hi with _|⟨x⟩
  ·rfl
  ·exact Pz (natCast_nonneg n)
theorem PA(a b:Nat):Builtin.Slice.slicePlaces a b 1=b-a:=by
 delta Builtin.Slice.slicePlaces
 refine rr (if_pos (show(1:Int)>0 by decide)) ?_
 by_cases h:a<b
 ·refine rr (if_pos (ofNat_lt.mpr h)) ?_;refine rr (Int.ediv_one ..) (rr (Int.sub_add_cancel ..) ?_);refine rl (Int.ofNat_sub (Nat.le_of_lt h)) (rr (toNat_natCast ..) ?_);rfl
 ·refine rr (if_neg (fun q=>h (ofNat_lt.mp q))) (rr (Nat.sub_eq_zero_of_le (Nat.le_of_not_lt h)) ?_);rfl
theorem PC(xs:Array α)(a k:Nat):(List.range k).filterMap (fun(j:Nat)=>xs[((a:Int)+(j:Int)*1).toNat]?)=(xs.toList.drop a).take k:=by
 refine rl (pick_run xs a k) (rr List.filterMap_map ?_)
 refine congrArg (fun f=>List.filterMap f (List.range k)) (funext fun j=>?_)
 show xs[((a:Int)+(j:Int)*1).toNat]?=xs[a+j]?
 refine rr (mul_one ..) ?_;refine rl (Int.natCast_add ..) (rr (toNat_natCast ..) ?_);rfl
set_option tactic.hygienic true in
theorem Fi{t sl:Addr}{vl vu:Value}{lo hi:Option Int}{Q:Value→Shared→Prop}(ht:s.heap.get? t=some (seqObj "tuple" vs.toArray n))
 (hs:s.heap.get? sl=some {cls:=.type "slice",data:=.fields #[vl,vu,.none]}) (pl:IsPart vl lo) (pu:IsPart vu hi) (hz:vs.length≤sizeLine)
 (h0:FH lo hi vs=vs→Q (.ref t) s) (h1:Q (.ref s.heap.objs.size) {s with heap:=s.heap.push (seqObj "tuple" (FH lo hi vs).toArray 0)}):wpAny (model O w) A (getItem (.ref t) (.ref sl)) Q E s:=by
 have hT:s.TypeIs (.ref t) "tuple":=⟨_,ht,rfl⟩
 have hTs:s.TypeIs (.ref sl) "slice":=⟨_,hs,rfl⟩
 delta getItem
 try with_reducible refine wpAny_holding ?_
 first|refine wpAny_bind (wpAny_pure ?_)|skip
 refine wpAny_bind (wpAny_sequenceKey hT (by decide) ?_)
 refine wpAny_bind (wpAny_callSpecial?_slot (name:=Str.ofString "__getitem__") hT PyProof.Rows.slot_tuple_getitem
  (wpAny_call_entry PyProof.Rows.slot_tuple_getitem hT PyProof.Rows.entry_tuple_getitem ?_ (PyProof.Rows.args_tuple_getitem _ _)))
 show wpAny _ _ (Builtin.Tuple.tupleItemsOf (.ref t)>>=_) _ _ s
 refine wpAny_bind (tupleItemsOf_ ⟨_,ht,rfl,_,rfl⟩ ?_)
 refine wpAny_bind (wpAny_typeOf hTs ?_)
 refine rr (if_pos (by decide)) ?_
 delta Builtin.Slice.sliceApplied Builtin.Slice.sliceFields
 refine wpAny_bind (wpAny_bind (wpAny_bind (wpAny_field hs rfl (x:=vl) rfl (wpAny_bind (wpAny_field hs rfl (x:=vu) rfl (wpAny_bind (wpAny_field hs rfl (x:=.none) rfl (wpAny_pure ?_))))))))
 refine wpAny_bind (Gx .none ?_)
 show wpAny _ _ (if((1:Int)==0)=true then _ else _) _ _ s
 refine rr (if_neg (by decide)) ?_
 refine wpAny_bind (Gx pl (wpAny_bind (Gx pu (wpAny_bind (wpAny_pure ?_)))))
 have ea:Builtin.Slice.sliceAdjust lo hi ((none:Option Int).getD 1) (vs.toArray.size:Int)=((kms_lo lo vs.length:Int),(kms_hi hi vs.length:Int)):=by
  refine rr size_toArray ?_;exact Zf lo hi vs.length
 refine rr ea ?_
 have ep:Builtin.Slice.slicePlaces (kms_lo lo vs.length:Int) (kms_hi hi vs.length:Int) ((none:Option Int).getD 1)=kms_hi hi vs.length-kms_lo lo vs.length:=PA _ _
 refine wpAny_pure ?_
 dsimp only
 refine rr ep ?_
 have pk:((List.range (kms_hi hi vs.length-kms_lo lo vs.length)).filterMap fun(j:Nat)=>vs.toArray[((kms_lo lo vs.length:Int)+(j:Int)*((none:Option Int).getD 1)).toNat]?)=FH lo hi vs:=PC vs.toArray _ _
 refine rr pk ?_
 split
 ·rename_i hc
  simp only[and_eq_true,beq_iff_eq,size_toArray]at hc
  refine wpAny_bind (wpAny_bind (wpAny_typeOf hT (wpAny_pure ?_)))
  refine rr (if_pos (by decide)) ?_
  exact wpAny_bind (wpAny_rule (wpAny_pure ⟨_,rfl,wpAny_pure (h0 (Ou (Int.ofNat.inj hc.1.1) (by exact(Nat.le_antisymm (Ay (Nat.le_of_eq hc.2)) (Ay (Nat.le_of_eq hc.2.symm))))))⟩))
 ·refine wpAny_bind (wpAny_newObj_type (wpAny_pure ⟨_,rfl,wpAny_pure h1⟩) ?_)
  show(FH lo hi vs).toArray.size≤sizeLine
  refine rr size_toArray ?_
  refine le_trans ?_ hz
  delta FH
  refine rr length_take (rr length_drop ?_)
  exact(Gu (Nat.min_le_right (kms_hi hi vs.length-kms_lo lo vs.length) (vs.length-kms_lo lo vs.length)) (sub_le (vs.length) (kms_lo lo vs.length)))
set_option tactic.hygienic true in
theorem Hy(slice:Expr)(o i:Value):∃ops,subscripted slice false o i=operate ops (getItem o i):=by
 cases slice<;>first|exact⟨_,rfl⟩|skip
 rename_i s _
 cases s<;>exact⟨_,rfl⟩
theorem Gy{value slice:Expr}{o i:Value}{id:String}{Q:Value→Shared→Prop}(hT:s.TypeIs o T)(hl:typeLookup (.type T) "__getitem__"=pure (some (.builtin id)))
 (h:wpAny (model O w) A (getItem o i) Q E s):wpAny (model O w) A (subscriptTail value slice o i) Q E s:=by
 delta subscriptTail
 refine wpAny_bind ?_
 refine rr (getitemInPython_of_ne hT.not_modules) ?_
 refine wpAny_bind (wpAny_specialOf hT hl ?_)
 obtain⟨ops,e⟩:=Hy slice o i
 have fin:wpAny (model O w) A (subscripted slice false o i) (fun r s₃=>wpAny (model O w) A (letTemporaryGo value o r>>=fun V=>pure r) Q E s₃) E s:=by
  refine rr e ?_
  exact wpAny_operating (wpAny_mono h (fun r s₃ h₃=>wpAny_bind (wpAny_letTemporaryGo (wpAny_pure h₃))) fun V V x=>x)
 first
  |exact wpAny_pure (wpAny_bind fin)
  |exact wpAny_bind (wpAny_pure (wpAny_bind fin))
  |exact wpAny_bind fin
theorem IR{l:Expr}{P:EV→EV→St→Prop}{g:Value→Value→Sem α}{Q':α→Shared→Prop}
 (hR:CG A n) (hE:AN sc Y) (r:Rel U R Y st as s.heap) (h:Ev O w U sc n l st fun a st1=>Ev O w U sc n e2 st1 fun b st2=>P a b st2)
 (k:∀u v a b st2 as2 h2 t2,Ai as s.heap as2 h2→(∀x∈as2,∃o,h2.get? x=some o)→Rel U R Y st2 as2 h2→Pu R as2 h2 Y u a→Pu R as2 h2 Y v b→P a b st2→wpAny (model O w) A (g u v) Q' (fun V V=>False) {s with heap:=h2,toks:=t2}):
 wpAny (model O w) A (eval l Y) (fun u s1=>wpAny (model O w) A (eval e2 Y) (fun v s2=>wpAny (model O w) A (g u v) Q' (fun V V=>False) s2) (fun V V=>False) s1) (fun V V=>False) s:=by
 refine h.go hR hE r fun u a st1 as1 h1 t1 e1 r1 x1 q1=>?_
 refine q1.go hR hE r1 fun v b st2 as2 h2 t2 e2 r2 x2 q2=>?_
 refine r2.trimP fun as3 sub hlt r3=>?_
 have e3:Ai as2 h2 as3 h2:=Ai.less sub
 exact k u v a b st2 as3 h2 t2 ((e1.trans e2).trans e3) hlt r3 ((x1.step e2 r1.locA r1.celA).step e3 r2.locA r2.celA) (x2.step e3 r2.locA r2.celA) q2
inductive fM(op:Operator)(st:St)(a b:EV)(Q:EV→St→Prop):Prop
 |mk (x y:Dat) (ex:rd st a=some x) (ey:rd st b=some y) (s:Er op x y) (q:Q (.dat (KJ op x y)) st)
theorem PG(S:Ao O K U){l:Expr}{Q:EV→St→Prop}(h:Ev O w U sc n l st fun a st1=>Ev O w U sc n e2 st1 fun b st2=>fM op st2 a b Q):
 Ev O w U sc n (.BinOp l op e2 pos) st Q:=by
 intro A Y R as s hR hE r
 refine wpAny_BinOp (IR hR hE r h ?_)
 rintro u v a b st2 as2 h2 t2 e hlt r2 x1 x2 ⟨x,y,ex,ey,side,q⟩
 exact wpAny_mono (VP S hR r2 hlt (r2.now x1 ex) (r2.now x2 ey) side q) (fun V V p=>PE.after e p) fun V V x=>x
noncomputable def GU:Dat→PyData
 | .none=>.none
 | .bool b=>.bool b
 | .int i=>.int i
 | .str x=>.str x
 | .tuple ds=>.tuple (pyAll ds)
 | .list ds=>.list (pyAll ds)
 | .inst _ _=>.none
 | .dict _ _=>.none
where pyAll:List Dat→List PyData
 |[]=>[]
 |d::ds=>GU d::pyAll ds
mutual
noncomputable def FI:Dat→Bool
 | .tuple ds=>Fk ds
 | .list ds=>Fk ds
 | .inst _ _=>false
 | .dict _ _=>false
 |_=>true
noncomputable def Fk:List Dat→Bool
 |[]=>true
 |d::ds=>FI d&&Fk ds
end
theorem Fz.reads(k:∀b o,g b o→h.get? b=some o)(x:Fz g v d):FI d=true→∃as,Reads h v (GU d) as:=
 Fz.rec (motive_1:=fun v d V=>FI d=true→∃as,Reads h v (GU d) as) (motive_2:=fun vs ds V=>Fk ds=true→∃as,ReadsAll h vs (GU.pyAll ds) as) (motive_3:=fun V V V=>True)
  (fun V=>⟨_,.none⟩) (fun b V=>⟨_,.bool b⟩) (fun i t V=>⟨_,.int i t⟩) (fun x t V=>⟨_,.str x t⟩)
  (fun h V ih e=>(ih e).elim fun V ra=>⟨_,.tuple (k _ _ h) rfl rfl ra⟩) (fun h V ih e=>(ih e).elim fun V ra=>⟨_,.list (k _ _ h) rfl rfl ra⟩) (fun V V V V V V e=>nomatch e) (fun V V V V V e=>nomatch e)
  (fun V=>⟨_,.nil⟩) (fun V V i1 i2 e=>(i1 (and_eq_true_iff.mp e).1).elim fun V r1=>(i2 (and_eq_true_iff.mp e).2).elim fun V r2=>⟨_,.cons r1 r2⟩) trivial (fun V V V V V=>trivial) x
theorem FzL.reads(k:∀b o,g b o→h.get? b=some o)(x:FzL g vs ds):Fk ds=true→∃as,ReadsAll h vs (GU.pyAll ds) as:=
 FzL.rec (motive_1:=fun v d V=>FI d=true→∃as,Reads h v (GU d) as) (motive_2:=fun vs ds V=>Fk ds=true→∃as,ReadsAll h vs (GU.pyAll ds) as) (motive_3:=fun V V V=>True)
  (fun V=>⟨_,.none⟩) (fun b V=>⟨_,.bool b⟩) (fun i t V=>⟨_,.int i t⟩) (fun x t V=>⟨_,.str x t⟩)
  (fun h V ih e=>(ih e).elim fun V ra=>⟨_,.tuple (k _ _ h) rfl rfl ra⟩) (fun h V ih e=>(ih e).elim fun V ra=>⟨_,.list (k _ _ h) rfl rfl ra⟩) (fun V V V V V V e=>nomatch e) (fun V V V V V e=>nomatch e)
  (fun V=>⟨_,.nil⟩) (fun V V i1 i2 e=>(i1 (and_eq_true_iff.mp e).1).elim fun V r1=>(i2 (and_eq_true_iff.mp e).2).elim fun V r2=>⟨_,.cons r1 r2⟩) trivial (fun V V V V V=>trivial) x
theorem Now.reads(k:∀b o,g b o→h.get? b=some o)(x:Now g h v d)(e:FI d=true):∃as,Reads h v (GU d) as:=by
 cases x with
 |fz f=>exact f.reads k e
 |lst ho f=>obtain⟨as,ra⟩:=f.reads k e;exact⟨_,.list ho rfl rfl ra⟩
def Cm(d:Dat):Prop:=FI d=true∧PySem.SeqAt.shaped (GU d)=true
noncomputable def deq(x y:Dat):Bool:=PyData.eqv (GU x) (GU y)
noncomputable def PH:Dat→Bool
 | .none=>true
 |_=>false
noncomputable def Gz:Dat→Bool
 | .none | .bool _ | .int _=>true
 | .str x=>PyData.strOk x
 |_=>false
noncomputable def KK:Value→PyData
 | .bool b=>.bool b
 | .int i _=>.int i
 | .str x _=>.str x
 |_=>.none
def DP:CmpOp→Dat→Dat→Prop
 | .Lt,x,y=>Pw (fun V V=>True) x y
 | .LtE,x,y=>Pw (fun V V=>True) x y
 | .Gt,x,y=>Pw (fun V V=>True) x y
 | .GtE,x,y=>Pw (fun V V=>True) x y
 | .Eq,x,y=>Cm x∧Cm y
 | .NotEq,x,y=>Cm x∧Cm y
 | .Is,_,.none=>True
 | .IsNot,_,.none=>True
 | .In,x,.tuple ys=>Gz x=true∧ys.all Gz=true
 | .In,x,.list ys=>Gz x=true∧ys.all Gz=true
 | .NotIn,x,.tuple ys=>Gz x=true∧ys.all Gz=true
 | .NotIn,x,.list ys=>Gz x=true∧ys.all Gz=true
 |_,_,_=>False
noncomputable def Ce:CmpOp→Dat→Dat→Bool
 | .Lt,.int x,.int y=>decide (x<y)
 | .LtE,.int x,.int y=>decide (x≤y)
 | .Gt,.int x,.int y=>decide (y<x)
 | .GtE,.int x,.int y=>decide (y≤x)
 | .Eq,x,y=>deq x y
 | .NotEq,x,y=>!deq x y
 | .Is,x,.none=>PH x
 | .IsNot,x,.none=>!PH x
 | .In,x,.tuple ys=>ys.any fun y=>deq y x
 | .In,x,.list ys=>ys.any fun y=>deq y x
 | .NotIn,x,.tuple ys=>!(ys.any fun y=>deq y x)
 | .NotIn,x,.list ys=>!(ys.any fun y=>deq y x)
 |_,_,_=>false
theorem Fz.atomVal(f:Fz g v d)(a:Gz d=true):KK v=GU d:=by cases f<;>first|rfl|cases a
theorem VQ{e:Dat}(k:∀b o,g b o→s.heap.get? b=some o)(f:Fz g v d)(a:Gz d=true)(f':Fz g u e)(a':Gz e=true)(hu:A.units<cLine):PySem.SeqAt.EqAt A s v u (PyData.eqv (KK v) (GU e)):=by
 refine rr (f.atomVal a) ?_
 have n1:FI d=true:=by cases d<;>first|rfl|exact Bool.noConfusion a
 have n2:FI e=true:=by cases e<;>first|rfl|exact Bool.noConfusion a'
 obtain⟨as,r1⟩:=f.reads k n1
 obtain⟨bs,r2⟩:=f'.reads k n2
 refine PySem.SeqAt.eqAt_reads _ _ A s _ _ _ _ r1 r2 ?_ ?_ ?_
 ·cases d<;>first|rfl|exact a|exact Bool.noConfusion a
 ·cases e<;>first|rfl|exact a'|exact Bool.noConfusion a'
 ·have:(GU d).depth=0:=by cases d<;>first|rfl|cases a
  refine rr this ?_;simp only[Nat.zero_min,Nat.add_zero];exact hu
theorem Jt{ys:List Dat}{x:Dat}(f:FzL g vs ys)(a:ys.all Gz=true):(vs.any fun v=>PyData.eqv (KK v) (GU x))=ys.any fun y=>deq y x:=by
 induction vs generalizing ys with
 |nil=>cases f;rfl
 |cons v vs ih=>
  cases f with
  |cons f r=>
   rw[List.all_cons,and_eq_true]at a
   refine rr any_cons (rr any_cons ?_);refine rr (ih r a.2) (rr (f.atomVal a.1) ?_);rfl
theorem PI{ys:List Dat}(f:FzL g vs ys)(a:ys.all Gz=true):∀v∈vs,∃d,Fz g v d∧Gz d=true:=by
 induction vs generalizing ys with
 |nil=>intro v hv;cases hv
 |cons v vs ih=>
  cases f with
  |cons f r=>
   rw[List.all_cons,and_eq_true]at a
   intro u hu
   cases hu with
   |head=>exact⟨_,f,a.1⟩
   |tail _ hu=>exact ih r a.2 u hu
theorem Zg{x y:Dat}(h:DP .In x y):(Gz x=true∧∃ys,ys.all Gz=true∧y=.tuple ys)∨(Gz x=true∧∃ys,ys.all Gz=true∧y=.list ys):=by
 cases y<;>first|exact .inl ⟨h.1,_,h.2,rfl⟩|exact .inr ⟨h.1,_,h.2,rfl⟩|exact h.elim
theorem PJ{x y:Dat}(h:DP .NotIn x y):(Gz x=true∧∃ys,ys.all Gz=true∧y=.tuple ys)∨(Gz x=true∧∃ys,ys.all Gz=true∧y=.list ys):=by
 cases y<;>first|exact .inl ⟨h.1,_,h.2,rfl⟩|exact .inr ⟨h.1,_,h.2,rfl⟩|exact h.elim
theorem Zh{x y:Dat}(h:DP .Is x y):y=.none:=by
 cases y<;>first|rfl|exact h.elim
theorem PK{x y:Dat}(h:DP .IsNot x y):y=.none:=by
 cases y<;>first|rfl|exact h.elim
theorem MV{x:Dat}(hu:Now g h u x):(u==Value.none)=PH x:=by
 cases hu with
 |fz f=>cases f<;>rfl
 |lst _ _=>rfl
theorem Now.atomFz{x:Dat}(hx:Now g h u x)(ax:Gz x=true):Fz g u x:=by
 cases hx with
 |fz f=>exact f
 |lst _ _=>cases ax
theorem Ju{op:CmpOp}{x y:Dat}{Q:Value→Shared→Prop}(hu:Now g h u x)(hv:Now g h v y)(hs:Pw (fun V V=>True) x y)(q:Q (.bool (Ce op x y)) s)
 (k:∀i j t t',Q (.bool (Ce op (.int i) (.int j))) s→wpAny (model O w) A (compareOp op (.int i t) (.int j t')) Q E s):wpAny (model O w) A (compareOp op u v) Q E s:=by
 obtain⟨i,j,rfl,rfl,_⟩:=EP hs
 refine Now.intP hu fun t=>?_
 refine Now.intP hv fun t'=>?_
 exact k i j t t' q
theorem PM(hR:CG A n){op:CmpOp}{x y:Dat}(hu:Now (vis R as s.heap) s.heap u x)(hv:Now (vis R as s.heap) s.heap v y)
 (hs:DP op x y) {Q:Value→Shared→Prop} (q:Q (.bool (Ce op x y)) s):wpAny (model O w) A (compareOp op u v) Q (fun V V=>False) s:=by
 have hun:=hR.units
 have hun2:A.units+1<cLine:=by exact Ay hun
 have hin:∀{vs:List Value}{ys:List Dat},FzL (vis R as s.heap) vs ys→Gz x=true→ys.all Gz=true→∀z,z∈vs.toArray→PySem.SeqAt.EqAt A.in1 s z u (PyData.eqv (KK z) (GU x)):=fun f ax ay z hz=>
  let⟨_,fd,ad⟩:=PI f ay z (List.mem_toArray.mp hz)
  VQ Bu fd ad (hu.atomFz ax) ax hun2
 cases op with
 |Lt=>exact Ju hu hv hs q fun V V V V q=>wpAny_lt_int q
 |LtE=>exact Ju hu hv hs q fun V V V V q=>PyProof.Rows.le_int q
 |Gt=>exact Ju hu hv hs q fun V V V V q=>PySem.P.gt_int q
 |GtE=>exact Ju hu hv hs q fun V V V V q=>PyProof.Rows.ge_int q
 |Eq=>
  obtain⟨a1,r1⟩:=hu.reads Bu hs.1.1
  obtain⟨a2,r2⟩:=hv.reads Bu hs.2.1
  exact PySem.SeqAt.compareEq_shaped r1 r2 hs.1.2 hs.2.2 (by exact Ay hun) q
 |NotEq=>
  obtain⟨a1,r1⟩:=hu.reads Bu hs.1.1
  obtain⟨a2,r2⟩:=hv.reads Bu hs.2.1
  exact PySem.SeqAt.compareNe_shaped r1 r2 hs.1.2 hs.2.2 (by exact Ay hun) q
 |Is=>
  obtain rfl:=Zh hs
  obtain rfl:=hv.none
  exact is_none ((MV hu).symm▸q)
 |IsNot=>
  obtain rfl:=PK hs
  obtain rfl:=hv.none
  exact isNot_none ((MV hu).symm▸q)
 |In=>
  rcases Zg hs with⟨ax,ys,ay,rfl⟩|⟨ax,ys,ay,rfl⟩
  ·refine Now.tupleP hv fun a vs k ho f=>?_
   refine PySem.SeqAt.in_tupleAt (fun z=>PyData.eqv (KK z) (GU x)) ⟨_,ho.2.2,rfl,_,rfl⟩ (hin f ax ay) ?_
   refine rr any_toArray (rr (Jt f ay) ?_);exact q
  ·refine Now.listP hv Bu fun a vs k ho f=>?_
   refine PySem.SeqAt.in_listAt (fun z=>PyData.eqv (KK z) (GU x)) ⟨_,ho,rfl,_,rfl⟩ (hin f ax ay) ?_
   refine rr any_toArray (rr (Jt f ay) ?_);exact q
 |NotIn=>
  rcases PJ hs with⟨ax,ys,ay,rfl⟩|⟨ax,ys,ay,rfl⟩
  ·refine Now.tupleP hv fun a vs k ho f=>?_
   refine PySem.SeqAt.notIn_tupleAt (fun z=>PyData.eqv (KK z) (GU x)) ⟨_,ho.2.2,rfl,_,rfl⟩ (hin f ax ay) ?_
   refine rr any_toArray (rr (Jt f ay) ?_);exact q
  ·refine Now.listP hv Bu fun a vs k ho f=>?_
   refine PySem.SeqAt.notIn_listAt (fun z=>PyData.eqv (KK z) (GU x)) ⟨_,ho,rfl,_,rfl⟩ (hin f ax ay) ?_
   refine rr any_toArray (rr (Jt f ay) ?_);exact q
inductive cx(op:CmpOp)(st:St)(a b:EV)(Q:Bool→St→Prop):Prop
 |mk (x y:Dat) (ex:rd st a=some x) (ey:rd st b=some y) (s:DP op x y) (q:Q (Ce op x y) st)
theorem Zi{l:Expr}{op:CmpOp}{Q:EV→St→Prop}(h:Ev O w U sc n l st fun a st1=>Ev O w U sc n e2 st1 fun b st2=>cx op st2 a b fun c st3=>Q (.dat (.bool c)) st3)
 (hm:autoParam (behindInMarks op e2=false) au.a6._auto_1):Ev O w U sc n (.Compare l [op] [e2] pos) st Q:=by
 intro A Y R as s hR hE r
 refine wpAny_Compare1 (IR hR hE r h ?_) hm
 rintro u v a b st2 as2 h2 t2 e hlt r2 x1 x2 ⟨x,y,ex,ey,side,q⟩
 exact PM hR (r2.now x1 ex) (r2.now x2 ey) side (PE.after (t1:=t2) e (PE.grown (t1:=t2) r2 rfl (fun V V e=>e) (.bool _) q))
theorem PT.here{Q:Bool→St→Prop}{b:Bool}(r:Rel U R Y st as s.heap)(q:Q b st):PT U R Y as s Q b s:=⟨st,as,s.heap,s.toks,rfl,Ai.refl _ _,r,q⟩
theorem Zj{l:Expr}{op:CmpOp}{Q:Bool→St→Prop}(h:Ev O w U sc n l st fun a st1=>Ev O w U sc n e2 st1 fun b st2=>cx op st2 a b Q)
 (hm:autoParam (behindInMarks op e2=false) au.a6._auto_1):Et O w U sc n (.Compare l [op] [e2] pos) st Q:=by
 intro A Y R as s hR hE r
 refine wpAny_isTrue_Compare1 ?_ hm
 refine IR (g:=fun a b=>compareOp op a b) hR hE r h ?_
 rintro u v a b st2 as2 h2 t2 e hlt r2 x1 x2 ⟨x,y,ex,ey,side,q⟩
 exact PM hR (r2.now x1 ex) (r2.now x2 ey) side (wpAny_truthy_bool (PT.after (t1:=t2) e (PT.here r2 q)))
inductive TrP(st:St)(a:EV)(Q:Bool→St→Prop):Prop
 |mk (b:Bool) (e:rd st a=some (.bool b)) (q:Q b st)
theorem PN{Q:Bool→St→Prop}(h:Ev O w U sc n e st fun a st1=>TrP st1 a Q)(he:autoParam (∀Y whole,isTrue e Y whole=(do let v←whole;standAt e.pos;holding [v] (truthy v))) au.a5._auto_1):Et O w U sc n e st Q:=by
 intro A Y R as s hR hE r
 refine wpAny_isTrue_value (h.go hR hE r fun v a st1 as1 h1 t1 e1 r1 x1 qq=>?_) (he Y _)
 obtain⟨b,eb,q⟩:=qq
 refine Now.boolP (r1.now x1 eb) ?_
 exact wpAny_truthy_bool (PT.after (t1:=t1) e1 (PT.here r1 q))
theorem Zk{Q:Bool→St→Prop}(h:Et O w U sc n e st fun b st1=>Q (!b) st1):Et O w U sc n (.UnaryOp .Not e pos) st Q:=by
 intro A Y R as s hR hE r
 exact wpAny_isTrue_Not (wpAny_mono (h A Y R as s hR hE r) (by rintro b s1 ⟨st',as',h',tk',hs,e,r,q⟩;exact⟨st',as',h',tk',hs,e,r,q⟩) fun V V x=>x)
def Ea(O:Program)(w:World)(U:Heap)(sc:Scope)(n:Nat)(op:BoolOp)(es:List Expr)(st:St)(Q:Bool→St→Prop):Prop:=
 ∀(A:Around) (Y:Env) (R as:List Addr) (s:Shared),CG A n→AN sc Y→Rel U R Y st as s.heap→wpAny (model O w) A (allTrue op es Y) (PT U R Y as s Q) (fun V V=>False) s
theorem PP{op:BoolOp}{Q:Bool→St→Prop}(h:Ea O w U sc n op es st Q):Et O w U sc n (.BoolOp op es pos) st Q:=
 fun A Y R as s hR hE r=>wpAny_isTrue_BoolOp (h A Y R as s hR hE r)
theorem Ov{Q:Bool→St→Prop}(q:Q true st):Ea O w U sc n .And [] st Q:=fun V V V V V V V r=>wpAny_allTrue_And_nil (PT.here r q)
theorem PQ{Q:Bool→St→Prop}(q:Q false st):Ea O w U sc n .Or [] st Q:=fun V V V V V V V r=>wpAny_allTrue_Or_nil (PT.here r q)
theorem Zl{Q:Bool→St→Prop}(h:Et O w U sc n e st fun b st1=>(b=true→Ea O w U sc n .And es st1 Q)∧(b=false→Q false st1)):Ea O w U sc n .And (e::es) st Q:=by
 intro A Y R as s hR hE r
 refine wpAny_allTrue_And_cons (h.go hR hE r fun b st1 as1 h1 t1 e1 r1 qq=>?_)
 obtain⟨q1,q2⟩:=qq
 rcases b with _|_
 ·exact PT.after (t1:=t1) e1 (PT.here r1 (q2 rfl))
 ·exact wpAny_mono (q1 rfl A Y R as1 _ hR hE r1) (fun V V p=>PT.after e1 p) fun V V x=>x
theorem cz{Q:Bool→St→Prop}(h:Et O w U sc n e st fun b st1=>(b=false→Ea O w U sc n .Or es st1 Q)∧(b=true→Q true st1)):Ea O w U sc n .Or (e::es) st Q:=by
 intro A Y R as s hR hE r
 refine wpAny_allTrue_Or_cons (h.go hR hE r fun b st1 as1 h1 t1 e1 r1 qq=>?_)
 obtain⟨q1,q2⟩:=qq
 rcases b with _|_
 ·exact wpAny_mono (q1 rfl A Y R as1 _ hR hE r1) (fun V V p=>PT.after e1 p) fun V V x=>x
 ·exact PT.after (t1:=t1) e1 (PT.here r1 (q2 rfl))
theorem SK{b o:Expr}{Q:EV→St→Prop}(h:Et O w U sc n t st fun c st1=>(c=true→Ev O w U sc n b st1 Q)∧(c=false→Ev O w U sc n o st1 Q)):Ev O w U sc n (.IfExp t b o pos) st Q:=by
 intro A Y R as s hR hE r
 refine wpAny_IfExp (h.go hR hE r fun c st1 as1 h1 t1 e1 r1 qq=>?_)
 obtain⟨q1,q2⟩:=qq
 rcases c with _|_
 ·exact wpAny_mono (q2 rfl A Y R as1 _ hR hE r1) (fun V V p=>PE.after e1 p) fun V V x=>x
 ·exact wpAny_mono (q1 rfl A Y R as1 _ hR hE r1) (fun V V p=>PE.after e1 p) fun V V x=>x
theorem VS{x y:Expr}{Q:EV→St→Prop}(h:Ev O w U sc n x st fun a st1=>TrP st1 a fun b st2=>(b=true→Ev O w U sc n y st2 Q)∧(b=false→Q (.dat (.bool false)) st2)):
 Ev O w U sc n (.BoolOp .And [x,y] pos) st Q:=by
 intro A Y R as s hR hE r
 refine wpAny_And2 (h.go hR hE r fun v a st1 as1 h1 t1 e1 r1 x1 qq=>?_)
 obtain⟨b,eb,q1,q2⟩:=qq
 refine Now.boolP (r1.now x1 eb) ?_
 refine wpAny_truthy_bool ?_
 rcases b with _|_
 ·exact PE.after (t1:=t1) e1 (PE.grown (t1:=t1) r1 rfl (fun V V e=>e) (.bool _) (q2 rfl))
 ·exact wpAny_mono (q1 rfl A Y R as1 _ hR hE r1) (fun V V p=>PE.after e1 p) fun V V x=>x
theorem Zm{x:Expr}{Q:EV→St→Prop}(h:Ev O w U sc n x st fun a st1=>∃i,rd st1 a=some (.int i)∧Q (.dat (.int (-i))) st1):Ev O w U sc n (.UnaryOp .USub x pos) st Q:=by
 intro A Y R as s hR hE r
 refine wpAny_UnaryOp (h.go hR hE r fun v a st1 as1 h1 t1 e1 r1 x1 qq=>?_)
 obtain⟨i,eb,q⟩:=qq
 refine Now.intP (r1.now x1 eb) fun t=>?_
 exact PyProof.Rows.neg_int (PE.after (t1:=t1) e1 (PE.grown (t1:=t1+1) r1 rfl (fun V V e=>e) (.int _ _) q))
noncomputable def Eu:Dat→Option (List Dat)
 | .list ds=>some ds
 | .tuple ds=>some ds
 |_=>none
noncomputable def AK(ds:List Dat)(k:Int):Option Dat:=(seqIndex? k ds.length).bind (ds[·]?)
theorem Jv{k:Int}(e:AK ds k=some d):∃j,seqIndex? k ds.length=some j∧ds[j]?=some d∧ -(ds.length:Int)≤k∧k<ds.length∧((0≤k∧j=k.toNat)∨(k<0∧j=(k+ds.length).toNat)):=by
 obtain⟨j,h1,h2⟩:=Option.bind_eq_some_iff.mp e
 refine⟨j,h1,h2,?_⟩
 have q:∀i:Int,(if(decide (0≤i)&&decide (i<ds.length))=true then some i.toNat else none)=some j→0≤i∧i<ds.length∧j=i.toNat:=fun i h=>by
  by_cases c:(decide (0≤i)&&decide (i<ds.length))=true
  ·rw[if_pos c]at h
   have c:=and_eq_true_iff.mp c
   exact⟨of_decide_eq_true c.1,of_decide_eq_true c.2,(Option.some.inj h).symm⟩
  ·rw[if_neg c]at h;cases h
 delta seqIndex? at h1
 have q:=q _ h1
 by_cases hk:k<0
 ·rw[if_pos hk]at q
  exact⟨by exact Af q.1,by exact Aq hk (natCast_nonneg ds.length),.inr ⟨hk,q.2.2⟩⟩
 ·rw[if_neg hk]at q
  exact⟨by exact Aq q.1 (natCast_nonneg ds.length),q.2.1,.inl ⟨q.1,q.2.2⟩⟩
inductive fN(st:St)(a b:EV)(Q:EV→St→Prop):Prop
 |mk (x:Dat) (ds:List Dat) (k:Int) (d:Dat) (ex:rd st a=some x) (es:Eu x=some ds) (ek:rd st b=some (.int k)) (hl:ds.length<2^62) (ei:AK ds k=some d) (q:Q (.dat d) st)
theorem SL{value slice:Expr}{x:Dat}{k:Int}(hu:Now (vis R as s.heap) s.heap u x)(hx:Eu x=some ds)(hv:Now (vis R as s.heap) s.heap v (.int k))(hz:ds.length<2^62)
 (e:AK ds k=some d) {Q:Value→Shared→Prop} (q:∀y,Fz (vis R as s.heap) y d→Q y s):wpAny (model O w) A (subscriptTail value slice u v) Q (fun V V=>False) s:=by
 obtain⟨j,hj,hd,lo,hi,hk⟩:=Jv e
 refine Now.intP hv fun t=>?_
 have hn:(ds.length:Int)≤((2^63:Nat):Int):=Int.ofNat_le.mpr (Nat.le_of_lt (Nat.lt_trans hz (by decide)))
 have lo': -(2^63)≤k:=Int.le_trans (neg_le_neg hn) lo
 have hi':k<2^63:=Int.lt_of_lt_of_le hi hn
 cases x<;>first|(cases hx;done)|skip
 ·cases hx
  refine Now.tupleP hu fun a vs m ho f=>?_
  obtain⟨y,hy,fy⟩:=f.get hd
  have hl:vs.length=ds.length:=f.length
  exact Gy (T:="tuple") ⟨_,ho.2.2,rfl⟩ PyProof.Rows.slot_tuple_getitem.lookup (PyProof.Rows.getItem_tuple (items:=vs.toArray) ⟨_,ho.2.2,rfl,_,rfl⟩ lo' hi' (j:=j) (by refine rr size_toArray (rr hl ?_);exact hj) (by simpa using hy) (q y fy))
 ·cases hx
  refine Now.listP hu Bu fun a vs m ho f=>?_
  obtain⟨y,hy,fy⟩:=f.get hd
  have hl:vs.length=ds.length:=f.length
  refine Gy (T:="list") ⟨_,ho,rfl⟩ slot_list_getitem.lookup ?_
  rcases hk with⟨h0,rfl⟩|⟨h0,rfl⟩
  ·exact wpAny_getItem_list (items:=vs.toArray) ⟨_,ho,rfl,_,rfl⟩ h0 hi' (by simpa using hy) (q y fy)
  ·exact wpAny_getItem_list_neg (items:=vs.toArray) ⟨_,ho,rfl,_,rfl⟩ h0 (by refine rr size_toArray (rr hl ?_);exact lo) lo' (by refine rr size_toArray (rr hl ?_);simpa using hy) (q y fy)
set_option tactic.hygienic true in
@[elab_as_elim] theorem Now.strP{motive:Value→Prop}(hv:Now g h v (.str x))(k:∀t,motive (.str x t)):motive v:=by
 generalize e:Dat.str x=d at hv
 cases hv<;>first|(cases e;exact k _)|(cases e;done)|skip
 ·rename_i f
  subst e
  cases f
  exact k _
set_option tactic.hygienic true in
@[elab_as_elim] theorem Now.dictP{motive:Value→Prop}{fs:List (Str×Int)}(hv:Now g h v (.dict w fs))(k:∀a o es ep,g a o→o.ExactDict→o.data=.dict es ep→(∀e∈es,∃k,Value.isStrOf k e.key=true∧e.hash=hashStr w k)→(∀k i,fs.lookup k=some i→∃t,findBy Value.isStrOf es k=some (.int i t))→motive (.ref a)):motive v:=by
 generalize e:Dat.dict w fs=d at hv
 cases hv<;>first|(cases e;done)|skip
 ·rename_i f
  subst e
  cases f with
  |dict a c d e f=>exact k _ _ _ _ a c d e f
inductive fO(w:World)(st:St)(a b:EV)(Q:EV→St→Prop):Prop
 |mk (fs:List (Str×Int)) (x:Str) (i:Int) (ex:rd st a=some (.dict w fs)) (ek:rd st b=some (.str x)) (ei:fs.lookup x=some i) (q:Q (.dat (.int i)) st)
theorem Zn{l:Expr}{Q:EV→St→Prop}(h:Ev O w U sc n l st fun a st1=>Ev O w U sc n e2 st1 fun b st2=>fN st2 a b Q∨fO w st2 a b Q):Ev O w U sc n (.Subscript l e2 pos) st Q:=by
 intro A Y R as s hR hE r
 refine Subscript_ (IR (g:=fun a b=>subscriptTail l e2 a b) hR hE r h ?_)
 rintro u v a b st2 as2 h2 t2 e hlt r2 x1 x2 (⟨x,ds,k,d,ex,hx,ek,hz,ed,q⟩|⟨fs,x,i,ex,ek,ei,q⟩)
 ·exact SL (s:={s with heap:=h2,toks:=t2}) (r2.now x1 ex) hx (r2.now x2 ek) hz ed fun y fy=>PE.after (t1:=t2) e (PE.grown (t1:=t2) r2 rfl (fun V V e=>e) fy q)
 refine Now.dictP (r2.now x1 ex) fun d o es ep ho xd hd hk hf=>?_
 refine Now.strP (r2.now x2 ek) fun t=>?_
 obtain⟨t',hv⟩:=hf x i ei
 have hm:h2.MapOf (strKind O w) d (findBy Value.isStrOf es):=⟨o,es,ep,ho.2.2,xd,hd,hk,fun V=>rfl⟩
 refine Gy (s:={s with heap:=h2,toks:=t2}) (T:="dict") ⟨o,ho.2.2,xd.1⟩ slot_dict_getitem.lookup (wpAny_getItem_of (s:={s with heap:=h2,toks:=t2}) (strKind_is O w x t) hm hv ?_)
 exact PE.after (t1:=t2) e (PE.grown (t1:=t2+1) r2 rfl (fun V V e=>e) (.int i t') q)
theorem At{a b:Addr}(h:b∈[a]):b=a:=by simpa using h
theorem Hz{b:Addr}(e:h.get? b=none)(e':h.get? b=some o):False:=IN (e.symm.trans e')
theorem Bf{b:Addr}(e:h.get? b=none)(e':∃o,h.get? b=some o):False:=e'.elim fun V=>Hz e
theorem VT{p:Addr→Prop}{D:Addr}(hC:p C)(hD:p D):∀b∈[C,D],p b:=fun V hb=>(mem_cons.mp hb).elim (fun e=>e▸hC) fun hb=>At hb▸hD
inductive PF(U:Heap)(R:List Addr)(Y:Env)(as:List Addr)(s:Shared)(Q:AF→St→Prop)(v:Value)(s':Shared):Prop
 |mk (av:AF) (st':St) (as':List Addr) (h':Heap) (tk':Nat) (cs:List Addr) (hs:s'={s with heap:=h',toks:=tk'}) (e:Ai as s.heap as' h') (r:Rel U (cs++R) Y st' as' h') (x:Cp (vis (cs++R) as' h') h' v av cs) (f:∀b∈cs,s.heap.get? b=none) (q:Q av st')
def Ef(O:Program)(w:World)(U:Heap)(sc:Scope)(n:Nat)(e:Expr)(st:St)(Q:AF→St→Prop):Prop:=
 ∀(A:Around) (Y:Env) (R as:List Addr) (s:Shared),CG A n→AN sc Y→Rel U R Y st as s.heap→wpAny (model O w) A (eval e Y) (PF U R Y as s Q) (fun V V=>False) s
theorem Ef.go{Q:AF→St→Prop}(h:Ef O w U sc n e st Q){P:Value→Shared→Prop}(hR:CG A n)(hE:AN sc Y)(r:Rel U R Y st as s.heap)
 (k:∀v a st' as' h' tk' cs,Ai as s.heap as' h'→Rel U (cs++R) Y st' as' h'→Cp (vis (cs++R) as' h') h' v a cs→(∀b∈cs,s.heap.get? b=none)→Q a st'→P v {s with heap:=h',toks:=tk'}):wpAny (model O w) A (eval e Y) P E s:=
 wpAny_mono (h A Y R as s hR hE r) (by rintro _ _ ⟨a,st',as',h',tk',cs,hs,e,r,x,f,q⟩;exact hs▸k _ a st' as' h' tk' cs e r x f q) fun V V x=>x.elim
theorem FJ(k:∀b∈R,b∈R'):∀b o,vis R' as h b o→vis R as h b o:=by rintro b _ ⟨p,q,e⟩;exact⟨fun z=>p (k b z),q,e⟩
theorem Rel.less(r:Rel U R' Y st as h)(k:∀b∈R,b∈R')(hl:Y.locals∈R)(hc:∀x c,Y.cells.lookup x=some c→c∈R):Rel U R Y st as h:=by
 obtain⟨val,cs,hr,hd⟩:=r.1;have hn:=r.2;have hsep:=r.3;have hlo:=r.6;have hcl:=r.7;have hi:=r.8;have hb:=r.9
 exact⟨⟨val,cs,fun x a hx=>(by obtain⟨p,q,z⟩:=hr x a hx;exact⟨p,q.mono (FJ k) fun V V V e=>e,z⟩),hd⟩,hn,fun b hb=>hsep b (k b hb),hl,hc,hlo,hcl,fun b hb=>hi b (k b hb),fun b o e=>FJ k b o (hb b o e)⟩
theorem AV{Q:EV→St→Prop}(h:Ef O w U sc n e st fun av st1=>Q (.dat (Hq av)) st1):Ev O w U sc n e st Q:=by
 intro A Y R as s hR hE r
 refine h.go hR hE r fun v av st1 as1 h1 t1 cs e1 r1 rep hcs q=>?_
 have sub:∀b∈R,b∈cs++R:=fun b hb=>mem_append_right _ hb
 refine⟨.dat (Hq av),st1,as1,h1,t1,rfl,e1,r1.less sub r.locR r.celR,?_,q⟩
 refine rep.frz (FJ sub) fun b hb o e=>⟨fun z=>?_,r1.sep b (mem_append_left _ hb),e⟩
 obtain⟨o',e'⟩:=r.inb b z
 rw[hcs b hb]at e';cases e'
theorem Rel.laid(r:Rel U R Y st as h)(k:∀b o,h.get? b=some o→h'.get? b=some o)(hcs:∀b∈cs,h.get? b=none∧∃o,h'.get? b=some o)(hlt:∀b∈as,∃o,h.get? b=some o):
 Rel U (cs++R) Y st as h'∧∀b o,vis R as h b o→vis (cs++R) as h' b o:=by
 have off:∀b o,h.get? b=some o→b∉cs:=fun b o e q=>by rw[(hcs b q).1]at e;cases e
 have kv:∀b o,vis R as h b o→vis (cs++R) as h' b o:=by rintro b o ⟨p,q,e⟩;exact⟨fun z=>(mem_append.mp z).elim (off b o e) p,q,k b o e⟩
 obtain⟨val,cs',hr,hd⟩:=r.1;have hn:=r.2;have hsep:=r.3;have hl:=r.4;have hc:=r.5;obtain⟨m,hm⟩:=r.6;have hcl:=r.7;have hi:=r.8;have hb:=r.9
 refine⟨⟨⟨val,cs',fun x a hx=>(by obtain⟨p,q,z⟩:=hr x a hx;exact⟨p.keep fun b o V e=>k b o e,q.mono kv fun b V o e=>k b o e,z⟩),hd⟩,hn,fun b hb z=>?_,mem_append_right _ hl,fun x c e=>mem_append_right _ (hc x c e),⟨m,hm.keeps k⟩,
  fun x c e=>(by obtain⟨v,o,ho,hd⟩:=hcl x c e;exact⟨v,o,k _ _ ho,hd⟩),fun b hb=>?_,fun b o e=>kv b o (hb b o e)⟩,kv⟩
 ·rcases mem_append.mp hb with hb|hb
  ·obtain⟨o,e⟩:=hlt b z;exact off b o e hb
  ·exact hsep b hb z
 ·rcases mem_append.mp hb with hb|hb
  ·exact(hcs b hb).2
  ·obtain⟨o,e⟩:=hi b hb;exact⟨o,k b o e⟩
theorem eO(h:Heap)(o1 o2:Obj)(hf:o2.isFreed=false):∃o,((h.push o1).push o2).get? (h.objs.size+1)=some o:=by
 have:=get?_push_size (h.push o1) hf
 rw[size_push]at this
 exact⟨_,this⟩
theorem AH(h:Heap){b:Addr}(k:h.objs.size≤b):h.get? b=none:=Heap.get?_none_of_le k
theorem VU{Q:AF→St→Prop}(h:El O w U sc n es st fun ds st1=>ds.length≤sizeLine∧Q (.lst ds) st1):Ef O w U sc n (.List es pos) st Q:=by
 intro A Y R as s hR hE r
 refine wpAny_List (h.go hR hE r fun vs ds st1 as0 h1 t1 e0 r0 f0 qq=>?_)
 have hz:=qq.1;have q:=qq.2
 refine r0.trimP fun as1 sub hlt r1=>?_
 have e1:=e0.trans (Ai.less sub)
 have f1:FzL (vis R as1 h1) vs ds:=FzL.mono (Ai.less sub).vis f0
 refine⟨by refine rr f1.length ?_;exact hz,?_⟩
 obtain⟨r2,kv⟩:=r1.laid (cs:=[h1.objs.size]) (h':=h1.push (seqObj "list" vs.toArray 0)) (fun b o e=>get?_push_of_some _ e) (fun b hb=>At hb▸⟨AH _ (le_refl _),_,get?_push_size h1 rfl⟩) hlt
 exact⟨.lst ds,st1,as1,_,t1,[h1.objs.size],rfl,e1.trans (Ai.grow _ fun b o e=>get?_push_of_some _ e),r2,.lst (get?_push_size h1 rfl) (f1.mono kv),fun b hb=>At hb▸e1.live.none (AH _ (le_refl _)),q⟩
def Eo(O:Program)(w:World)(U:Heap)(sc:Scope)(n:Nat):Option Expr→St→(Option Int→St→Prop)→Prop
 |none,st,Q=>Q none st
 |some e,st,Q=>Ev O w U sc n e st fun a st1=>∃k,rd st1 a=some (.int k)∧Q (some k) st1
inductive PO(U:Heap)(R:List Addr)(Y:Env)(as:List Addr)(s:Shared)(Q:Option Int→St→Prop)(v:Value)(s':Shared):Prop
 |mk (k:Option Int) (st':St) (as':List Addr) (h':Heap) (tk':Nat) (hs:s'={s with heap:=h',toks:=tk'}) (e:Ai as s.heap as' h') (r:Rel U R Y st' as' h') (x:IsPart v k) (q:Q k st')
theorem Eo.run{o:Option Expr}{Q:Option Int→St→Prop}(h:Eo O w U sc n o st Q)(hR:CG A n)(hE:AN sc Y)(r:Rel U R Y st as s.heap):
 wpAny (model O w) A (evalPart o Y) (PO U R Y as s Q) (fun V V=>False) s:=by
 rcases o with _|⟨e⟩
 ·refine rr (evalPart_none ..) ?_;exact wpAny_pure ⟨none,st,as,s.heap,s.toks,rfl,Ai.refl _ _,r,.none,h⟩
 ·
  refine rr (evalPart_some ..) ?_
  refine h.go hR hE r fun v a st1 as1 h1 t1 e1 r1 x1 qq=>?_
  obtain⟨k,ek,q⟩:=qq
  refine Now.intP (r1.now x1 ek) fun t=>?_
  exact⟨some k,st1,as1,h1,t1,rfl,e1,r1,.int k t,q⟩
theorem Eo.go{o:Option Expr}{Q:Option Int→St→Prop}(h:Eo O w U sc n o st Q){P:Value→Shared→Prop}(hR:CG A n)(hE:AN sc Y)(r:Rel U R Y st as s.heap)
 (k:∀v a st' as' h' tk',Ai as s.heap as' h'→Rel U R Y st' as' h'→IsPart v a→Q a st'→P v {s with heap:=h',toks:=tk'}):wpAny (model O w) A (evalPart o Y) P E s:=
 wpAny_mono (h.run hR hE r) (by rintro _ _ ⟨a,st',as',h',tk',hs,e,r,x,q⟩;exact hs▸k _ a st' as' h' tk' e r x q) fun V V x=>x.elim
theorem FzL.pick(f:FzL g vs ds)(lo hi:Option Int):FzL g (Mine.Internal.FH lo hi vs) (Mine.Internal.FH lo hi ds):=by
 delta Mine.Internal.FH
 refine rr f.length ?_
 exact(f.drop _).take _
inductive SlP(st:St)(a:EV)(Q:Dat→St→Prop):Prop
 |mk (x:Dat) (e:rd st a=some x) (q:Q x st)
theorem Jw{l:Expr}{lo hi:Option Expr}{p:Pos}{Q:AF→St→Prop}
 (h:Ev O w U sc n l st fun a st1=>Eo O w U sc n lo st1 fun i st2=>Eo O w U sc n hi st2 fun j st3=>∃ds,rd st3 a=some (.list ds)∧ds.length≤sizeLine∧Q (.lst (FH i j ds)) st3):Ef O w U sc n (.Subscript l (.Slice lo hi none p) pos) st Q:=by
 intro A Y R as s hR hE r
 refine Subscript_ (h.go hR hE r fun u a st1 as1 h1 t1 e1 r1 x1 q1=>?_)
 refine wpAny_Slice (Eo.go q1 (s:={s with heap:=h1,toks:=t1}) hR hE r1 fun v1 i st2 as2 h2 t2 e2 r2 p2 q2=>?_)
 refine Eo.go q2 (s:={s with heap:=h2,toks:=t2}) hR hE r2 fun v2 j st3 as0 h3 t3 e3 r0 p3 qq=>?_
 obtain⟨ds,ed,hz,q3⟩:=qq
 refine rr (evalPart_none ..) ?_
 refine wpAny_pure ?_
 refine r0.trimP fun as3 sub hlt r3=>?_
 have e4:Ai as0 h3 as3 h3:=Ai.less sub
 have x3:=((x1.step e2 r1.locA r1.celA).step e3 r2.locA r2.celA).step e4 r0.locA r0.celA
 refine Now.listP (r3.now x3 ed) Bu fun b vs m ho f=>?_
 have es:Ai as s.heap as3 h3:=((e1.trans e2).trans e3).trans e4
 refine Gy (T:="list") ⟨_,get?_push_of_some _ ho,rfl⟩ slot_list_getitem.lookup ?_
 refine wpAny_getItem_list_slice (items:=vs.toArray) (lo:=i) (hi:=j) (st:=none) ⟨_,get?_push_of_some _ ho,rfl,_,rfl⟩ (Heap.IsSliceOf.new ..) p2 p3 .none (by simp) ?_ (by refine rr size_toArray (rr f.length ?_);exact hz)
 have ep:slicePick vs.toArray i j none=(FH i j vs).toArray:=by refine rr (kms_pick_eq ..) ?_;rfl
 refine rr ep (rr (size_push ..) ?_)
 obtain⟨r4,kv⟩:=r3.laid (cs:=[h3.objs.size+1]) (h':=(h3.push {cls:=.type "slice",data:=.fields #[v1,v2,.none]}).push (seqObj "list" (FH i j vs).toArray 0)) (fun b o e=>get?_push_of_some _ (get?_push_of_some _ e)) (fun b hb=>At hb▸⟨AH _ (le_succ _),eO _ _ _ rfl⟩) hlt
 refine⟨.lst (FH i j ds),st3,as3,_,t3,[h3.objs.size+1],rfl,es.trans (Ai.grow _ fun b o e=>get?_push_of_some _ (get?_push_of_some _ e)),r4,?_,fun b hb=>At hb▸es.live.none (AH _ (le_succ _)),q3⟩
 refine .lst (n:=0) ?_ ((f.pick i j).mono kv)
 have:=get?_push_size (h3.push {cls:=.type "slice",data:=.fields #[v1,v2,.none]}) (o:=seqObj "list" (FH i j vs).toArray 0) rfl
 rwa [size_push]at this
theorem Ew{l:Expr}{lo hi:Option Expr}{p:Pos}{Q:EV→St→Prop}
 (h:Ev O w U sc n l st fun a st1=>Eo O w U sc n lo st1 fun i st2=>Eo O w U sc n hi st2 fun j st3=>∃ds,rd st3 a=some (.tuple ds)∧ds.length≤sizeLine∧Q (.dat (.tuple (FH i j ds))) st3):Ev O w U sc n (.Subscript l (.Slice lo hi none p) pos) st Q:=by
 intro A Y R as s hR hE r
 refine Subscript_ (h.go hR hE r fun u a st1 as1 h1 t1 e1 r1 x1 q1=>?_)
 refine wpAny_Slice (Eo.go q1 (s:={s with heap:=h1,toks:=t1}) hR hE r1 fun v1 i st2 as2 h2 t2 e2 r2 p2 q2=>?_)
 refine Eo.go q2 (s:={s with heap:=h2,toks:=t2}) hR hE r2 fun v2 j st3 as0 h3 t3 e3 r0 p3 qq=>?_
 obtain⟨ds,ed,hz,q3⟩:=qq
 refine rr (evalPart_none ..) ?_
 refine wpAny_pure ?_
 refine r0.trimP fun as3 sub hlt r3=>?_
 have e4:Ai as0 h3 as3 h3:=Ai.less sub
 have x3:=((x1.step e2 r1.locA r1.celA).step e3 r2.locA r2.celA).step e4 r0.locA r0.celA
 refine Now.tupleP (r3.now x3 ed) fun b vs m ho f=>?_
 have es:Ai as s.heap as3 h3:=((e1.trans e2).trans e3).trans e4
 have ho':=get?_push_of_some {cls:=.type "slice",data:=.fields #[v1,v2,.none]} ho.2.2
 have e5:Ai as3 h3 as3 (h3.push {cls:=.type "slice",data:=.fields #[v1,v2,.none]}):=Ai.grow _ fun b o e=>get?_push_of_some _ e
 have r5:=r3.grow (h':=h3.push {cls:=.type "slice",data:=.fields #[v1,v2,.none]}) (fun b o e=>get?_push_of_some _ e)
 refine Gy (T:="tuple") ⟨_,ho',rfl⟩ PyProof.Rows.slot_tuple_getitem.lookup ?_
 refine Fi ho' (get?_push_size _ rfl) p2 p3 (by refine rr f.length ?_;exact hz) (fun whole=>?_) ?_
 ·refine PE.after (t1:=t3) (es.trans e5) (PE.grown (t1:=t3) r5 rfl (fun V V e=>e) (d:=.tuple (FH i j ds)) ?_ q3)
  have q9:FzL (vis R as3 (h3.push {cls:=.type "slice",data:=.fields #[v1,v2,.none]})) (FH i j vs) (FH i j ds):=(f.pick i j).mono e5.vis
  rw[whole]at q9
  exact .tuple (e5.vis _ _ ho) q9
 ·refine PE.after (t1:=t3) (es.trans e5) (PE.grown (t1:=t3) r5 rfl (fun b o e=>get?_push_of_some _ e) (d:=.tuple (FH i j ds)) ?_ q3)
  exact .tuple (Gw r5 (fun b hb=>(by obtain⟨o,e⟩:=hlt b hb;exact⟨o,get?_push_of_some _ e⟩)) rfl) (((f.pick i j).mono e5.vis).mono (EO _))
theorem Zo{l:Expr}{k:Expr}{p:Pos}{Q:AF→St→Prop}
 (h:Ev O w U sc n l st fun a st1=>Ev O w U sc n k st1 fun b st2=>rd st2 b=some (.int (-1))∧∃ds,rd st2 a=some (.list ds)∧ds.length≤sizeLine∧Q (.lst ds.reverse) st2):Ef O w U sc n (.Subscript l (.Slice none none (some k) p) pos) st Q:=by
 intro A Y R as s hR hE r
 refine Subscript_ (h.go hR hE r fun u a st1 as1 h1 t1 e1 r1 x1 q1=>?_)
 refine wpAny_Slice ?_
 refine rr (evalPart_none ..) ?_
 refine wpAny_pure (wpAny_pure ?_)
 refine rr (evalPart_some ..) ?_
 refine q1.go hR hE r1 fun v b st2 as0 h3 t3 e3 r0 x2 qq=>?_
 have ek:=qq.1;obtain⟨ds,ed,hz,q3⟩:=qq.2
 refine r0.trimP fun as3 sub hlt r3=>?_
 have e4:Ai as0 h3 as3 h3:=Ai.less sub
 have x3:=(x1.step e3 r1.locA r1.celA).step e4 r0.locA r0.celA
 refine Now.intP (r0.now x2 ek) fun t=>?_
 refine Now.listP (r3.now x3 ed) Bu fun b vs m ho f=>?_
 have es:Ai as s.heap as3 h3:=(e1.trans e3).trans e4
 refine Gy (T:="list") ⟨_,get?_push_of_some _ ho,rfl⟩ slot_list_getitem.lookup ?_
 refine wpAny_getItem_list_slice (items:=vs.toArray) (lo:=none) (hi:=none) (st:=some (-1)) ⟨_,get?_push_of_some _ ho,rfl,_,rfl⟩ (Heap.IsSliceOf.new ..) .none .none (.int _ _) (by decide) ?_ (by refine rr size_toArray (rr f.length ?_);exact hz)
 have ep:slicePick vs.toArray none none (some (-1))=vs.reverse.toArray:=by refine rr (krv_pick ..) ?_;rfl
 refine rr ep (rr (size_push ..) ?_)
 obtain⟨r4,kv⟩:=r3.laid (cs:=[h3.objs.size+1]) (h':=(h3.push {cls:=.type "slice",data:=.fields #[.none,.none,.int (-1) t]}).push (seqObj "list" vs.reverse.toArray 0)) (fun b o e=>get?_push_of_some _ (get?_push_of_some _ e)) (fun b hb=>At hb▸⟨AH _ (le_succ _),eO _ _ _ rfl⟩) hlt
 refine⟨.lst ds.reverse,st2,as3,_,t3,[h3.objs.size+1],rfl,es.trans (Ai.grow _ fun b o e=>get?_push_of_some _ (get?_push_of_some _ e)),r4,?_,fun b hb=>At hb▸es.live.none (AH _ (le_succ _)),q3⟩
 refine .lst (n:=0) ?_ (f.reverse.mono kv)
 have:=get?_push_size (h3.push {cls:=.type "slice",data:=.fields #[.none,.none,.int (-1) t]}) (o:=seqObj "list" vs.reverse.toArray 0) rfl
 rwa [size_push]at this
noncomputable def BD(sc:Scope)(x:Str):Bool:=!DZ sc x&&match sc.names.lookup x with
 |some .local=>true
 |some .cell=>Fh sc x
 |_=>false
structure Ex(Y:Env)(x:Str)(v:Value)(h h':Heap):Prop where
 var:AB h' Y x v
 other:∀y u,y≠x→AB h Y y u→AB h' Y y u
 keep:∀b o,b≠Y.locals→Va Y b→h.get? b=some o→h'.get? b=some o
 locs:∃m,h'.Ns Y.locals m
 cels:∀z c,Y.cells.lookup z=some c→∃v,h'.IsCell c v
 loose:DZ Y.scope x=false
theorem Ex.pin(S:Ex Y x v h h')(hp:DZ Y.scope y=true)(hv:AB h Y y u):AB h' Y y u:=S.other y u (fun q=>by rw[q,S.loose]at hp;cases hp) hv
theorem Ex.live(S:Ex Y x v h h'):LY h h':=fun b o e=>by
 by_cases h1:b=Y.locals
 ·obtain⟨m,o,_,_,ho,_⟩:=S.locs;exact⟨o,h1▸ho⟩
 ·by_cases h2:∃z,Y.cells.lookup z=some b
  ·obtain⟨z,ez⟩:=h2;obtain⟨_,o,ho,_⟩:=S.cels z b ez;exact⟨o,ho⟩
  ·exact⟨o,S.keep b o h1 (fun z V q=>h2 ⟨z,q⟩) e⟩
theorem AN.ne(hE:AN sc Y){c:Addr}(e:Y.cells.lookup x=some c):c≠Y.locals:=hE.apart x c e
theorem Jx{Q:Unit→Shared→Prop}(hE:AN sc Y)(hs:BD sc x=true)
 (hl:∃m,s.heap.Ns Y.locals m) (hc:∀x c,Y.cells.lookup x=some c→∃v,s.heap.IsCell c v) (hx:sc.names.lookup x=some .cell→∃c,Y.cells.lookup x=some c)
 (h:∀h' tk,Ex Y x v s.heap h'→Q () {s with heap:=h',toks:=tk}):wpAny (model O w) A (storeName Y x v) Q E s:=by
 have hk:Y.scope.kind=.function:=by refine rr hE.isSc ?_;exact hE.kind
 have ek:Y.kindOf x=sc.names.lookup x:=by show Y.scope.names.lookup x=_;refine rr hE.isSc ?_;rfl
 obtain⟨m,hm⟩:=hl
 delta BD at hs
 rw[and_eq_true]at hs
 have hpin:DZ Y.scope x=false:=by refine rr hE.isSc ?_;simpa using hs.1
 replace hs:=hs.2
 rcases e:sc.names.lookup x with _|k<;>rw[e]at hs
 ·cases hs
 cases k<;>first|(cases hs;done)|skip
 ·refine wpAny_storeName_local (ek.trans e) hm (fun h' hn hsb=>h h' _ ⟨.inl ⟨ek.trans e,_,hn,by simp⟩,fun y u ne hy=>?_,fun b o h1 V e=>(hsb.2 b h1).trans e,⟨_,hn⟩,fun z c ez=>?_,hpin⟩) ?_
  ·rcases hy with⟨k,m',hn',e'⟩|⟨k,c,hc',o,ho,hd⟩
   ·refine .inl ⟨k,_,hn,?_⟩
    have:=(AB.unique (h:=s.heap) (Y:=Y) (x:=y) (.inl ⟨k,m',hn',e'⟩) (w:=u) (.inl ⟨k,m',hn',e'⟩))
    simp only[ne,if_false]
    obtain⟨o1,es1,ep1,p1,p2,_,p4⟩:=hn'
    obtain⟨o2,es2,ep2,q1,q2,_,q4⟩:=hm
    rw[p1]at q1;cases q1;rw[p2]at q2;cases q2
    refine rl (q4 ..) (rr (p4 ..) ?_);exact e'
   ·exact .inr ⟨k,c,hc',o,(hsb.2 c (hE.ne hc')).trans ho,hd⟩
  ·obtain⟨v,o,ho,hd⟩:=hc z c ez
   exact⟨v,o,(hsb.2 c (hE.ne ez)).trans ho,hd⟩
  ·refine rr hk ?_;rfl
 ·obtain⟨c,ec⟩:=hx e
  obtain⟨v₀,hv⟩:=hc x c ec
  refine wpAny_storeName_cell hk (ek.trans e) ec hv fun h' hv' hsb=>h h' _ ⟨.inr ⟨.inl (ek.trans e),c,ec,hv'⟩,fun y u ne hy=>?_,fun b o V h2 e=>(hsb.2 b fun q=>h2 x (by refine rr hE.isSc ?_;exact hs) (q▸ec)).trans e,⟨m,hm.sameBut hsb (Ne.symm (hE.ne ec))⟩,fun z d ez=>?_,hpin⟩
  ·rcases hy with⟨k,m',hn',e'⟩|⟨k,d,hd',o,ho,hd⟩
   ·exact .inl ⟨k,m',hn'.sameBut hsb (Ne.symm (hE.ne ec)),e'⟩
   ·exact .inr ⟨k,d,hd',o,(hsb.2 d fun q=>ne (hE.inj y x d hd' (q▸ec))).trans ho,hd⟩
  ·by_cases q:d=c
   ·exact⟨_,q▸hv'⟩
   ·obtain⟨v,o,ho,hd⟩:=hc z d ez
    exact⟨v,o,(hsb.2 d q).trans ho,hd⟩
theorem Rel.bind(r:Rel U (cs++R) Y st as h)(rep:Cp (vis (cs++R) as h) h v av cs)(hl:Y.locals∈R)(hc:∀x c,Y.cells.lookup x=some c→c∈R)(hd:∀b∈cs,b∉R)(S:Ex Y x v h h'):
 Rel U R Y (put x av st) (cs++as) h':=by
 obtain⟨val,cs',hr,hdis⟩:=r.1;have hn:=r.2;have hsep:=r.3;have hi:=r.8;have hb:=r.9
 have kv:∀b o,vis (cs++R) as h b o→vis R (cs++as) h' b o:=fun b o ⟨p,q,e⟩=>
  ⟨fun z=>p (mem_append_right _ z),fun z=>(mem_append.mp z).elim (fun z=>p (mem_append_left _ z)) q,S.keep b o (fun z=>p (mem_append_right _ (z▸hl))) (fun y V z=>p (mem_append_right _ (hc y b z))) e⟩
 have apart:∀b∈cs,b∉as:=fun b hb=>hsep b (mem_append_left _ hb)
 have off:∀b∉R,b≠Y.locals∧∀z,Y.cells.lookup z≠some b:=fun b hb=>⟨fun q=>hb (q▸hl),fun z q=>hb (hc z b q)⟩
 refine⟨⟨fun z=>if z=x then v else val z,fun z=>if z=x then cs else cs' z,fun z b hz=>?_,fun z b z' b' hz hz' ne c hc1=>?_⟩,KI hn,fun b hb z=>?_,hl,hc,S.locs,S.cels,fun b hb=>?_,fun b o e=>kv b o (hb b o e)⟩
 ·dsimp only
  by_cases hzx:z=x
  ·subst hzx
   refine rr (if_pos rfl) (rr (if_pos rfl) ?_)
   have:=IP hn hz
   subst this
   exact⟨S.var,rep.mono kv fun b hb o e=>S.keep b o (off b (hd b hb)).1 (fun z V=>(off b (hd b hb)).2 z) e,fun b hb=>mem_append_left _ hb⟩
  ·refine rr (if_neg hzx) (rr (if_neg hzx) ?_)
   obtain⟨p,q,t⟩:=hr z b (Bt hn hz hzx)
   refine⟨S.other z _ hzx p,q.mono kv fun b hb o e=>?_,fun b hb=>mem_append_right _ (t b hb)⟩
   have nr:b∉R:=fun z=>hsep b (mem_append_right _ z) (t b hb)
   exact S.keep b o (off b nr).1 (fun z V=>(off b nr).2 z) e
 ·dsimp only at hc1⊢
  by_cases hzx:z=x
  ·rw[if_pos hzx]at hc1
   refine rr (if_neg (fun q=>ne (hzx.trans q.symm))) ?_
   exact fun q=>apart c hc1 ((hr z' b' (Bt hn hz' (fun q=>ne (hzx.trans q.symm)))).2.2 c q)
  ·rw[if_neg hzx]at hc1
   by_cases hzx':z'=x
   ·refine rr (if_pos hzx') ?_;exact fun q=>apart c q ((hr z b (Bt hn hz hzx)).2.2 c hc1)
   ·refine rr (if_neg hzx') ?_;exact hdis z b z' b' (Bt hn hz hzx) (Bt hn hz' hzx') ne c hc1
 ·rcases mem_append.mp z with z|z
  ·exact hd b z hb
  ·exact hsep b (mem_append_right _ hb) z
 ·obtain⟨o,e⟩:=hi b (mem_append_right _ hb);exact S.live b o e
theorem Ex.step(S:Ex Y x v h h')(k:∀b∈cs,h.get? b=none∨b∈as):Bc Y as h (cs++as) h':=
 ⟨fun b o h1 h2 V e=>S.keep b o h1 h2 e,fun b hb=>(mem_append.mp hb).elim (fun z=>(k b z).symm) .inl,S.live,fun V V V hp hv=>S.pin hp hv⟩
inductive PB(U:Heap)(R:List Addr)(Y:Env)(as:List Addr)(s:Shared)(Q:St→Prop)(s':Shared):Prop
 |mk (st':St) (as':List Addr) (h':Heap) (tk':Nat) (hs:s'={s with heap:=h',toks:=tk'}) (e:Bc Y as s.heap as' h') (r:Rel U R Y st' as' h') (q:Q st')
theorem PB.after{Q:St→Prop}(e:Bc Y as s.heap as1 h1)(p:PB U R Y as1 {s with heap:=h1,toks:=t1} Q s'):PB U R Y as s Q s':=by
 obtain⟨st',as',h',tk',rfl,e',r',q⟩:=p
 exact⟨st',as',h',tk',rfl,e.trans e',r',q⟩
def As(O:Program)(w:World)(U:Heap)(sc:Scope)(n:Nat)(t:Expr)(d:Dat)(st:St)(Q:St→Prop):Prop:=
 ∀(A:Around) (Y:Env) (R as:List Addr) (s:Shared) (v:Value),CG A n→AN sc Y→Rel U R Y st as s.heap→Fz (vis R as s.heap) v d→wpAny (model O w) A (assign t Y v) (fun V s'=>PB U R Y as s Q s') (fun V V=>False) s
def AsL(O:Program)(w:World)(U:Heap)(sc:Scope)(n:Nat)(ts:List Expr)(ds:List Dat)(st:St)(Q:St→Prop):Prop:=
 ∀(A:Around) (Y:Env) (R as:List Addr) (s:Shared) (vs:List Value),CG A n→AN sc Y→Rel U R Y st as s.heap→FzL (vis R as s.heap) vs ds→wpAny (model O w) A (assignInOrder ((assignEach ts Y).map (·.2)) vs) (fun V s'=>PB U R Y as s Q s') (fun V V=>False) s
theorem PR{Q:St→Prop}(hE:AN sc Y)(r:Rel U R Y st as s.heap)(f:Fz (vis R as s.heap) v d)(hs:BD sc x=true)(q:Q (put x (.dat d) st)):
 wpAny (model O w) A (storeName Y x v) (fun V s'=>PB U R Y as s Q s') (fun V V=>False) s:=by
 refine Jx hE hs r.locs r.cels (fun e=>hE.has x (.inl e)) fun h' tk S=>?_
 exact⟨_,[]++as,h',tk,rfl,S.step Cc,Rel.bind (cs:=[]) r (.dat f) r.locR r.celR Cc S,q⟩
theorem Jy{p:Pos}{Q:St→Prop}(hs:BD sc x=true)(q:Q (put x (.dat d) st)):As O w U sc n (.Name x p) d st Q:=
 fun V V V V V V V hE r f=>PyProof.Rows.assign_Name (PR hE r f hs q)
theorem Ma{Q:St→Prop}(q:Q st):AsL O w U sc n [] ds st Q:=fun V V V as s V V V r V=>wpAny_pure ⟨st,as,s.heap,s.toks,rfl,Bc.refl _ _ _,r,q⟩
theorem ER{Q:St→Prop}(h:As O w U sc n t d st fun st1=>AsL O w U sc n ts ds st1 Q)
 (he:autoParam (∀Y,assignEach (t::ts) Y=(false,assign t Y)::assignEach ts Y) au.a1._auto_1):AsL O w U sc n (t::ts) (d::ds) st Q:=by
 intro A Y R as s vs hR hE r f
 cases f with
 |cons f fs=>
  refine rr (he ..) (rr map_cons ?_)
  refine wpAny_bind (wpAny_holding (wpAny_mono (h A Y R as s _ hR hE r f) ?_ fun V V x=>x))
  rintro _ s1 ⟨st1,as1,h1,t1,rfl,e1,r1,q1⟩
  exact wpAny_mono (q1 A Y R as1 _ _ hR hE r1 (fs.mono (e1.vis r.locR r.celR))) (fun V V p=>PB.after e1 p) fun V V x=>x
theorem FK(x:Heap.ExtBut h.objs.size h h'):∀b o,h.get? b=some o→h'.get? b=some o:=fun b o e=>x b o (ne_of_lt (lt_size e)) e
theorem Du(ts:List Expr)(Y:Env):(assignEach ts Y).length=ts.length:=by
 induction ts with
 |nil=>rfl
 |cons t ts ih=>cases t<;>exact congrArg Nat.succ ih
set_option tactic.hygienic true in
theorem MW{p:Pos}{Q:St→Prop}(hd:Eu d=some ds)(hl:ts.length=ds.length)(hstar:∀Y,(assignEach ts Y).findIdx? (·.1)=none)(h:AsL O w U sc n ts ds st Q):As O w U sc n (.Tuple ts k p) d st Q:=by
 intro A Y R as s v hR hE r f
 have rest:∀{h':Heap}{vs:List Value},FzL (vis R as s.heap) vs ds→(∀b o,s.heap.get? b=some o→h'.get? b=some o)→wpAny (model O w) A (assignInOrder ((assignEach ts Y).map (·.2)) vs) (fun _ s'=>PB U R Y as s Q s') (fun _ _=>False) {s with heap:=h'}:=fun{h' vs} fs k=>
  wpAny_mono (h A Y R as {s with heap:=h'} _ hR hE (r.grow k) (fs.mono (Ai.grow as k).vis)) (fun _ _ p=>PB.after (t1:=s.toks) (Ai.grow as k).toS p) fun _ _ x=>x
 cases f<;>first|(cases hd;done)|skip
 ·rename_i a vs m ds' ho fs
  cases hd
  exact wpAny_assign_Tuple (items:=vs.toArray) hR.handled ⟨_,ho.2.2,rfl,_,rfl⟩ (by refine rr (Du ..) (rr hl ?_);refine rr size_toArray (rr fs.length ?_);rfl) (hstar Y) fun h' hx=>rest fs (FK hx)
 ·rename_i a vs m ds' ho fs
  cases hd
  refine rr (arm_assign_Tuple ..) ?_
  refine wpAny_bind (wpAny_standAt ?_)
  delta unpack
  refine rr (hstar Y) (rr (Du ..) ?_);refine rr hl (rl fs.length ?_)
  refine wpAny_bind (wpAny_holding ?_)
  exact kun_itemsOf (items:=vs.toArray) hR.handled ⟨_,ho.2.2,rfl,_,rfl⟩ fun h' hx=>rest fs (FK hx)
theorem PB.toPX(p:PB U R Y as s (Q .next) s'):PX U R Y as s Q .next s':=by
 obtain⟨st',as',h',tk',e,e',r',q⟩:=p
 exact⟨.next,st',as',h',tk',e,e',r',trivial,q⟩
theorem Vc(q:Q .next st):Ss O w U sc n [] st Q:=fun V V V as s V V r=>wpAny_execs_nil ⟨.next,st,as,s.heap,s.toks,rfl,Bc.refl _ _ _,r,trivial,q⟩
def FL(O:Program)(w:World)(U:Heap)(sc:Scope)(n:Nat)(xs:List Stmt)(Q:Fl→St→Prop)(f:Fl)(st:St):Prop:=match f with
 | .next=>Ss O w U sc n xs st Q
 |f=>Q f st
theorem Bl{x:Stmt}{xs:List Stmt}(h:Sx O w U sc n x st (FL O w U sc n xs Q)):Ss O w U sc n (x::xs) st Q:=by
 intro A Y R as s hR hE r
 refine wpAny_execs_cons (h.go hR hE r fun f fl st1 as1 h1 t1 e1 r1 fo q1=>?_)
 cases f<;>cases fl<;>first|exact fo.elim|skip
 ·exact wpAny_mono (q1 A Y R as1 _ hR hE r1) (fun V V p=>PX.after e1 p) fun V V x=>x
 ·exact⟨.brk,st1,as1,h1,t1,rfl,e1,r1,trivial,q1⟩
 ·exact⟨.cont,st1,as1,h1,t1,rfl,e1,r1,trivial,q1⟩
 ·exact⟨.ret _,st1,as1,h1,t1,rfl,e1,r1,fo,q1⟩
theorem Mb{P:Unit→Shared→Prop}(hE:AN sc Y)(r:Rel U (cs++R) Y st as s.heap)(rep:Cp (vis (cs++R) as s.heap) s.heap v av cs)(hl:Y.locals∈R)(hc:∀x c,Y.cells.lookup x=some c→c∈R)
 (hd:∀b∈cs,b∉R) (hs:BD sc x=true) (k:∀h' tk',Ex Y x v s.heap h'→Rel U R Y (put x av st) (cs++as) h'→P () {s with heap:=h',toks:=tk'}):wpAny (model O w) A (storeName Y x v) P E s:=
 Jx hE hs r.locs r.cels (fun e=>hE.has x (.inl e)) fun h' tk S=>k h' tk S (Rel.bind r rep hl hc hd S)
theorem BS(r:Rel U R Y st as h)(hcs:∀b∈cs,h.get? b=none):∀b∈cs,b∉R:=fun b hb q=>by obtain⟨o,e⟩:=r.inb b q;rw[hcs b hb]at e;cases e
theorem DQ{p:Pos}(h:Ef O w U sc n e st fun av st1=>Q .next (put x av st1))(hs:BD sc x=true)
 (hw:autoParam (∀Y,swapsWith e (some (.Name x p)) pos.line Y=pure false) au.a1._auto_1):Sx O w U sc n (.Assign [.Name x p] e pos) st Q:=by
 intro A Y R as s hR hE r
 refine wpAny_Assign_Name (h.go hR hE r fun v av st1 as1 h1 t1 cs e1 r1 rep hcs q=>?_) (hw Y)
 refine Mb (s:={s with heap:=h1,toks:=t1}) hE r1 rep r.locR r.celR (BS r hcs) hs fun h2 t2 S r2=>?_
 have q2:=q
 refine⟨.next,_,cs++as1,h2,t2,rfl,?_,r2,trivial,q2⟩
 refine⟨fun b o n1 n2 hb eb=>S.keep b o n1 n2 (e1.keep b o hb eb),fun b hb=>?_,e1.live.trans S.live,fun F V V hp hv=>S.pin hp (e1.pin F hv)⟩
 rcases mem_append.mp hb with hb|hb
 ·exact .inr (hcs b hb)
 ·exact e1.fresh b hb
theorem cA{b o:List Stmt}(h:Et O w U sc n t st fun c st1=>(c=true→Ss O w U sc n b st1 Q)∧(c=false→Ss O w U sc n o st1 Q)):Sx O w U sc n (.If t b o pos) st Q:=by
 intro A Y R as s hR hE r
 refine wpAny_If (h.go hR hE r fun c st1 as1 h1 t1 e1 r1 qq=>?_)
 obtain⟨q1,q2⟩:=qq
 rcases c with _|_
 ·exact wpAny_mono (q2 rfl A Y R as1 _ hR hE r1) (fun V V p=>PX.after e1.toS p) fun V V x=>x
 ·exact wpAny_mono (q1 rfl A Y R as1 _ hR hE r1) (fun V V p=>PX.after e1.toS p) fun V V x=>x
theorem Zp(h:Ed O w U sc n e st fun d st1=>Q (.ret d) st1):Sx O w U sc n (.Return (some e) pos) st Q:=by
 intro A Y R as s hR hE r
 refine wpAny_Return_some (h.go hR hE r fun v d st1 as1 h1 t1 e1 r1 f1 q=>?_)
 exact⟨.ret d,st1,as1,h1,t1,rfl,e1.toS,r1,f1,q⟩
theorem VW(q:Q (.ret .none) st):Sx O w U sc n (.Return none pos) st Q:=
 fun V V V as s V V r=>wpAny_Return_none ⟨.ret .none,st,as,s.heap,s.toks,rfl,Bc.refl _ _ _,r,.none,q⟩
theorem VX(h:Ev O w U sc n e st fun V st1=>Q .next st1)(hw:autoParam (∀Y,swapsWith e none pos.line Y=pure false) au.a1._auto_1):Sx O w U sc n (.Expr e pos) st Q:=by
 intro A Y R as s hR hE r
 refine wpAny_Expr_any (wpAny_mono (h A Y R as s hR hE r) ?_ fun V V x=>x) ?_ (hw Y)
 ·rintro v s1 ⟨ev,st1,as1,h1,t1,rfl,e1,r1,x1,q⟩
  exact⟨.next,st1,as1,h1,t1,rfl,e1.toS,r1,trivial,q⟩
 ·delta interactive
  refine rr hE.isSc (rr hE.kind ?_);rfl
theorem Hr{p:Pos}(h:Ed O w U sc n e st fun d st1=>As O w U sc n (.Tuple ts k p) d st1 (Q .next))
 (hw:∀Y,Y.scope=sc→swapsWithSole [.Tuple ts k p] e pos.line Y=pure false) (hv:∀Y,Y.scope=sc→swappedStores [.Tuple ts k p] e Y=pure none):Sx O w U sc n (.Assign [.Tuple ts k p] e pos) st Q:=by
 intro A Y R as s hR hE r
 refine Assign_Tuple (h.go hR hE r fun v d st1 as1 h1 t1 e1 r1 f1 q=>?_) (hw Y hE.isSc) (hv Y hE.isSc)
 exact wpAny_mono (q A Y R as1 _ v hR hE r1 f1) (fun V V p=>PX.after e1.toS p.toPX) fun V V x=>x
theorem Vd{Q:AF→St→Prop}(h:Ed O w U sc n e st fun d st1=>Q (.dat d) st1):Ef O w U sc n e st Q:=by
 intro A Y R as s hR hE r
 refine h.go hR hE r fun v d st1 as1 h1 t1 e1 r1 f1 q=>?_
 exact⟨.dat d,st1,as1,h1,t1,[],rfl,e1,r1,.dat f1,Cc,q⟩
theorem Rel.perm(r:Rel U R Y st as h)(k:∀b,b∈R↔b∈R'):Rel U R' Y st as h:=by
 have kv:∀b o,vis R as h b o→vis R' as h b o:=fun b o ⟨p,q,e⟩=>⟨fun z=>p ((k b).mpr z),q,e⟩
 obtain⟨⟨val,cs,hr,hd⟩,hn,hsep,hl,hc,hlo,hcl,hi,hb⟩:=r
 exact⟨⟨val,cs,fun x a hx=>(by obtain⟨p,q,z⟩:=hr x a hx;exact⟨p,q.mono kv fun V V V e=>e,z⟩),hd⟩,hn,fun b hb=>hsep b ((k b).mpr hb),(k _).mp hl,fun x c e=>(k c).mp (hc x c e),hlo,hcl,fun b hb=>hi b ((k b).mpr hb),fun b o e=>kv b o (hb b o e)⟩
theorem Cp.cellsOld(rep:Cp (vis (cs++R) as h) h v av cs)(r:Rel U (cs++R) Y st as h)(e:Ai as h as' h')(hcs:∀b∈cs',h.get? b=none):Cp (vis (cs'++(cs++R)) as' h') h' v av cs:=by
 refine rep.mono (fun b o z=>?_) fun b hb o eo=>e.keep b o (r.sep b (mem_append_left _ hb)) eo
 have z':=e.vis (R:=cs++R) b o z
 refine⟨fun q=>(mem_append.mp q).elim (fun q=>?_) z'.1,z'.2⟩
 have:=z.2.2
 rw[hcs b q]at this;cases this
theorem Cp.stored(rep:Cp (vis (cs'++(cs++R)) as h) h u av cs)(S:Ex Y x v h h')(hl:Y.locals∈R)(hc:∀x c,Y.cells.lookup x=some c→c∈R)(hd:∀b∈cs,b∉R):
 Cp (vis (cs++R) (cs'++as) h') h' u av cs:=by
 refine rep.mono (fun b o ⟨p,q,e⟩=>?_) fun b hb o eo=>S.keep b o (fun z=>hd b hb (z▸hl)) (fun y V z=>hd b hb (hc y b z)) eo
 have pR:b∉R:=fun z=>p (mem_append_right _ (mem_append_right _ z))
 exact⟨fun z=>p (mem_append_right _ z),fun z=>(mem_append.mp z).elim (fun z=>p (mem_append_left _ z)) q,S.keep b o (fun z=>pR (z▸hl)) (fun y V z=>pR (hc y b z)) e⟩
theorem SM{p1 p vp:Pos}{k':Nat}(h:Ef O w U sc n e1 st fun a st1=>Ef O w U sc n e2 st1 fun b st2=>Q .next (put x a (put y b st2)))
 (hx:BD sc x=true) (hy:BD sc y=true)
 (hw:∀Y,Y.scope=sc→swapsWithSole [.Tuple [.Name x p1,.Name y p2] k p] (.Tuple [e1,e2] k' vp) pos.line Y=pure false) (hv:∀Y,Y.scope=sc→swappedStores [.Tuple [.Name x p1,.Name y p2] k p] (.Tuple [e1,e2] k' vp) Y=pure (some [x,y]))
 (h1':autoParam (∀Y,starEach [e1,e2] Y=(false,eval e1 Y)::starEach [e2] Y) au.a1._auto_1) (h2':autoParam (∀Y,starEach [e2] Y=(false,eval e2 Y)::starEach [] Y) au.a1._auto_1):
 Sx O w U sc n (.Assign [.Tuple [.Name x p1,.Name y p2] k p] (.Tuple [e1,e2] k' vp) pos) st Q:=by
 intro A Y R as s hR hE r
 refine Assign_Tuple_swapped (names:=[x,y]) (wpAny_Tuple ?_) (hw Y hE.isSc) (hv Y hE.isSc)
 refine wpAny_items_cons (h.go hR hE r fun v1 a st1 as1 g1 t1 cs1 e1 r1 rep1 hc1 q1=>?_) (h1' Y)
 refine wpAny_items_cons (q1.go hR hE r1 fun v2 b st2 as2 g2 t2 cs2 e2 r2 rep2 hc2 q2=>?_) (h2' Y)
 refine wpAny_items_nil ⟨by refine rr sizeLine_eq ?_;simp,?_⟩
 --both values stand;the tuple is made and taken apart
 have rep1':=rep1.cellsOld r1 e2 hc2
 have es:=e1.trans e2
 have off1:∀z∈cs1,z∉R:=BS r hc1
 have off2:∀z∈cs2,z∉cs1++R:=BS r1 hc2
 refine unpackItems_tuple (items:=[v1,v2].toArray) hR.handled ⟨_,get?_push_size _ rfl,rfl,_,rfl⟩ fun g3 hx3=>?_
 have k3:∀z o,g2.get? z=some o→g3.get? z=some o:=fun z o e=>FK hx3 z o (get?_push_of_some _ e)
 have e3:Ai as2 g2 as2 g3:=Ai.grow _ k3
 have r3:=r2.grow k3
 have rep1'':Cp (vis (cs2++(cs1++R)) as2 g3) g3 v1 a cs1:=rep1'.mono e3.vis fun z hz o e=>k3 z o e
 have rep2'':Cp (vis (cs2++(cs1++R)) as2 g3) g3 v2 b cs2:=rep2.mono e3.vis fun z hz o e=>k3 z o e
 show wpAny _ _ (do holding [v1] (bindName Y y v2);do holding [] (bindName Y x v1);pure ()) _ _ _
 refine wpAny_bind (wpAny_holding (wpAny_bindName ?_))
 refine Mb (s:={s with heap:=g3,toks:=t2}) hE r3 rep2'' (mem_append_right _ r.locR) (fun x c e=>mem_append_right _ (r.celR x c e)) off2 hy fun g4 t4 S4 r4=>?_
 have rep4:Cp (vis (cs1++R) (cs2++as2) g4) g4 v1 a cs1:=rep1''.stored S4 r.locR r.celR off1
 refine wpAny_bind (wpAny_holding (wpAny_bindName ?_))
 refine Mb (s:={s with heap:=g4,toks:=t4}) hE r4 rep4 r.locR r.celR off1 hx fun g5 t5 S5 r5=>?_
 have q5:=q2
 refine wpAny_pure ⟨.next,_,_,g5,t5,rfl,?_,r5,trivial,q5⟩
 have ea:=es.trans e3
 refine⟨fun z o n1 n2 hz ez=>S5.keep z o n1 n2 (S4.keep z o n1 n2 (ea.keep z o hz ez)),fun z hz=>?_,(ea.live.trans S4.live).trans S5.live,fun F V V hp hv=>S5.pin hp (S4.pin hp (ea.pin F hv))⟩
 rcases mem_append.mp hz with hz|hz
 ·exact .inr (hc1 z hz)
 ·rcases mem_append.mp hz with hz|hz
  ·exact .inr (e1.live.none (hc2 z hz))
  ·exact ea.fresh z hz
theorem SN{u:Str}{p1 p3 p vp:Pos}{k':Nat}{e3:Expr}(h:Ef O w U sc n e1 st fun a st1=>Ef O w U sc n e2 st1 fun b st2=>Ef O w U sc n e3 st2 fun c st3=>Q .next (put x a (put y b (put u c st3))))
 (hx:BD sc x=true) (hy:BD sc y=true) (hu:BD sc u=true)
 (hw:∀Y,Y.scope=sc→swapsWithSole [.Tuple [.Name x p1,.Name y p2,.Name u p3] k p] (.Tuple [e1,e2,e3] k' vp) pos.line Y=pure false) (hv:∀Y,Y.scope=sc→swappedStores [.Tuple [.Name x p1,.Name y p2,.Name u p3] k p] (.Tuple [e1,e2,e3] k' vp) Y=pure (some [x,y,u]))
 (h1':autoParam (∀Y,starEach [e1,e2,e3] Y=(false,eval e1 Y)::starEach [e2,e3] Y) au.a1._auto_1) (h2':autoParam (∀Y,starEach [e2,e3] Y=(false,eval e2 Y)::starEach [e3] Y) au.a1._auto_1) (h3':autoParam (∀Y,starEach [e3] Y=(false,eval e3 Y)::starEach [] Y) au.a1._auto_1):
 Sx O w U sc n (.Assign [.Tuple [.Name x p1,.Name y p2,.Name u p3] k p] (.Tuple [e1,e2,e3] k' vp) pos) st Q:=by
 intro A Y R as s hR hE r
 refine Assign_Tuple_swapped (names:=[x,y,u]) (wpAny_Tuple ?_) (hw Y hE.isSc) (hv Y hE.isSc)
 refine wpAny_items_cons (h.go hR hE r fun v1 a st1 as1 g1 t1 cs1 e1 r1 rep1 hc1 q1=>?_) (h1' Y)
 refine wpAny_items_cons (q1.go hR hE r1 fun v2 b st2 as2 g2 t2 cs2 e2 r2 rep2 hc2 q2=>?_) (h2' Y)
 refine wpAny_items_cons (q2.go hR hE r2 fun v3 c st3 as3 g3 t3 cs3 e3 r3 rep3 hc3 q3=>?_) (h3' Y)
 refine wpAny_items_nil ⟨by refine rr sizeLine_eq ?_;simp,?_⟩
 have rep2':=rep2.cellsOld r2 e3 hc3
 have rep1':Cp (vis (cs2++(cs1++R)) as2 g2) g2 v1 a cs1:=rep1.cellsOld r1 e2 hc2
 have rep1b:Cp (vis (cs3++(cs2++(cs1++R))) as3 g3) g3 v1 a cs1:=by
  refine rep1'.mono (fun z o w=>?_) fun z hz o eo=>e3.keep z o (r2.sep z (mem_append_right _ (mem_append_left _ hz))) eo
  have w':=e3.vis (R:=cs2++(cs1++R)) z o w
  refine⟨fun q=>(mem_append.mp q).elim (fun q=>?_) w'.1,w'.2⟩
  have:=w.2.2
  rw[hc3 z q]at this;cases this
 have es:=(e1.trans e2).trans e3
 have off1:∀z∈cs1,z∉R:=BS r hc1
 have off2:∀z∈cs2,z∉cs1++R:=BS r1 hc2
 have off3:∀z∈cs3,z∉cs2++(cs1++R):=BS r2 hc3
 refine unpackItems_tuple (items:=[v1,v2,v3].toArray) hR.handled ⟨_,get?_push_size _ rfl,rfl,_,rfl⟩ fun g4 hx4=>?_
 have k4:∀z o,g3.get? z=some o→g4.get? z=some o:=fun z o e=>FK hx4 z o (get?_push_of_some _ e)
 have e4:Ai as3 g3 as3 g4:=Ai.grow _ k4
 have r4:=r3.grow k4
 have s1'':Cp (vis (cs3++(cs2++(cs1++R))) as3 g4) g4 v1 a cs1:=rep1b.mono e4.vis fun z hz o e=>k4 z o e
 have s2'':Cp (vis (cs3++(cs2++(cs1++R))) as3 g4) g4 v2 b cs2:=rep2'.mono e4.vis fun z hz o e=>k4 z o e
 have s3'':Cp (vis (cs3++(cs2++(cs1++R))) as3 g4) g4 v3 c cs3:=rep3.mono e4.vis fun z hz o e=>k4 z o e
 show wpAny _ _ (do holding [v2,v1] (bindName Y u v3);do holding [v1] (bindName Y y v2);do holding [] (bindName Y x v1);pure ()) _ _ _
 refine wpAny_bind (wpAny_holding (wpAny_bindName ?_))
 have lR:=r.locR
 have cR:=r.celR
 refine Mb (s:={s with heap:=g4,toks:=t3}) hE r4 s3'' (mem_append_right _ (mem_append_right _ lR)) (fun x c e=>mem_append_right _ (mem_append_right _ (cR x c e))) off3 hu fun g5 t5 S5 r5=>?_
 have t2'':Cp (vis (cs2++(cs1++R)) (cs3++as3) g5) g5 v2 b cs2:=s2''.stored S5 (mem_append_right _ lR) (fun x c e=>mem_append_right _ (cR x c e)) off2
 have t1'':Cp (vis (cs2++(cs1++R)) (cs3++as3) g5) g5 v1 a cs1:=by
  refine s1''.mono (fun z o ⟨p,q,e⟩=>?_) fun z hz o eo=>S5.keep z o (fun q=>off1 z hz (q▸lR)) (fun y V q=>off1 z hz (cR y z q)) eo
  have pR:z∉R:=fun q=>p (mem_append_right _ (mem_append_right _ (mem_append_right _ q)))
  exact⟨fun q=>p (mem_append_right _ q),fun q'=>(mem_append.mp q').elim (fun q'=>p (mem_append_left _ q')) q,S5.keep z o (fun q=>pR (q▸lR)) (fun y V q=>pR (cR y z q)) e⟩
 refine wpAny_bind (wpAny_holding (wpAny_bindName ?_))
 refine Mb (s:={s with heap:=g5,toks:=t5}) hE r5 t2'' (mem_append_right _ lR) (fun x c e=>mem_append_right _ (cR x c e)) off2 hy fun g6 t6 S6 r6=>?_
 have w1'':Cp (vis (cs1++R) (cs2++(cs3++as3)) g6) g6 v1 a cs1:=t1''.stored S6 lR cR off1
 refine wpAny_bind (wpAny_holding (wpAny_bindName ?_))
 refine Mb (s:={s with heap:=g6,toks:=t6}) hE r6 w1'' lR cR off1 hx fun g7 t7 S7 r7=>?_
 have q7:=q3
 refine wpAny_pure ⟨.next,_,_,g7,t7,rfl,?_,r7,trivial,q7⟩
 have ea:=es.trans e4
 refine⟨fun z o n1 n2 hz ez=>S7.keep z o n1 n2 (S6.keep z o n1 n2 (S5.keep z o n1 n2 (ea.keep z o hz ez))),fun z hz=>?_,((ea.live.trans S5.live).trans S6.live).trans S7.live,fun F V V hp hv=>S7.pin hp (S6.pin hp (S5.pin hp (ea.pin F hv)))⟩
 rcases mem_append.mp hz with hz|hz
 ·exact .inr (hc1 z hz)
 ·rcases mem_append.mp hz with hz|hz
  ·exact .inr (e1.live.none (hc2 z hz))
  ·rcases mem_append.mp hz with hz|hz
   ·exact .inr ((e1.trans e2).live.none (hc3 z hz))
   ·exact ea.fresh z hz
theorem MX{a:Addr}(sub:∀b∈cs,b∈as)(ha:a∈cs)(S:Heap.SameBut a h h')(e:h'.get? a=some o):Mut R as [] cs cs h h':=
 ⟨sub,fun b V hb e=>(S.2 b fun q=>hb (q▸ha)).trans e,fun b o' e'=>if q:b=a then⟨o,q▸e⟩else⟨o',(S.2 b q).trans e'⟩,fun V h=>.inl h,Cc⟩
@[elab_as_elim] theorem Rel.mutList{motive:Value→Prop}(r:Rel U R Y st as h)(hx:look x st=some (.lst ds))(hv:AB h Y x v)
 (c:∀a vs m,h.get? a=some (seqObj "list" vs.toArray m)→FzL (vis R as h) vs ds→(∀{h':Heap}{vs':List Value}{m':Nat}{ds':List Dat},Heap.SameBut a h h'→h'.get? a=some (seqObj "list" vs'.toArray m')→FzL (vis R as h) vs' ds'→
  ∃as',Rel U R Y (put x (.lst ds') st) as' h'∧Ai as h as' h')→motive (.ref a)):motive v:=
 Rel.mut (ns:=[]) r hx hv r.locR r.celR fun cs rep sub k=>by
  revert sub k
  exact rep.lstP fun a vs m ho f sub k=>c a vs m ho f fun S e f'=>have M:=MX (R:=R) sub (.head _) S e;⟨_,k M (.lst e (f'.mono M.vis)),M.step (Ai.refl _ _) Cc⟩
theorem FM{a:Addr}{its:Array Value}{m:Nat}(ho:h.get? a=some (seqObj "list" its m))(f:Array Value→Array Value):∃m',(h.update a (Obj.mapSeq f)).get? a=some (seqObj "list" (f its) m'):=by
 refine⟨if(f its).size==its.size then m else m+1,?_⟩
 refine rr (get?_update_self _ ho rfl) ?_;rfl
theorem DY.get(x:DY g h m fs cs){f:Str}(e:fs.lookup f=some (.dat d)):∃v,m f=some v∧Fz g v d:=by
 induction x with
 |nil=>cases e
 |dat e1 fz _ ih=>
  rcases BK e with⟨rfl,e2⟩|⟨_,e⟩
  ·cases e2;exact⟨_,e1,fz⟩
  ·exact ih e
 |own e1 ho f' _ ih=>
  rcases BK e with⟨_,e⟩|⟨_,e⟩
  ·cases e
  ·exact ih e
theorem DY.getOwn(x:DY g h m fs cs){f:Str}(e:fs.lookup f=some (.own i ds)):i∈cs∧m f=some (.ref i)∧∃vs k,h.get? i=some (seqObj "list" vs.toArray k)∧FzL g vs ds:=by
 induction x with
 |nil=>cases e
 |dat e1 fz _ ih=>
  rcases BK e with⟨_,e⟩|⟨_,e⟩
  ·cases e
  ·exact ih e
 |own e1 ho f' _ ih=>
  rcases BK e with⟨rfl,e2⟩|⟨_,e⟩
  ·cases e2;exact⟨.head _,e1,_,_,ho,f'⟩
  ·obtain⟨a,b⟩:=ih e;exact⟨.tail _ a,b⟩
noncomputable def Ej(f:Str)(a:CP):List (Str×CP)→List (Str×CP)
 |[]=>[(f,a)]
 |(y,b)::r=>if f=y then(y,a)::r else(y,b)::Ej f a r
set_option tactic.hygienic true in
theorem Jz{f:Str}{a:CP}:∀{fs:List (Str×CP)},y∈(Ej f a fs).map (·.1)↔y=f∨y∈fs.map (·.1):=by
 intro fs
 induction fs with
 |nil=>
  simp[Ej]
 |cons hd r ih=>
  obtain⟨z,b⟩:=hd
  unfold Ej
  split
  ·rename_i e;subst e
   simp
  ·simp only[map_cons,mem_cons,ih]
   constructor<;>(rintro(h|h|h)<;>simp[h])
set_option tactic.hygienic true in
theorem Ow{f:Str}{a:CP}:∀{fs:List (Str×CP)},(fs.map (·.1)).Nodup→((Ej f a fs).map (·.1)).Nodup:=by
 intro fs
 induction fs with
 |nil=>
  intro _
  simp[Ej]
 |cons hd r ih=>
  have z:=hd.1;have b:=hd.2
  intro h
  unfold Ej
  split
  ·exact h
  ·rename_i ne
   simp only[map_cons,nodup_cons]at h⊢
   exact⟨fun q=>(Jz.mp q).elim (fun q=>ne q.symm) h.1,ih h.2⟩
noncomputable def upd(m:Str→Option Value)(f:Str)(v:Value):Str→Option Value:=fun y=>if y=f then some v else m y
theorem DY.congr{m':Str→Option Value}(x:DY g h m fs cs)(k:∀y∈fs.map (·.1),m' y=m y):DY g h m' fs cs:=by
 induction x with
 |nil=>exact .nil
 |dat e f _ ih=>exact .dat ((k _ (.head _)).trans e) f (ih fun y hy=>k y (.tail _ hy))
 |own e ho f _ ih=>exact .own ((k _ (.head _)).trans e) ho f (ih fun y hy=>k y (.tail _ hy))
theorem DY.joinF{ca:List Addr}{f:Str}{a:CP}(one:DY g h m [(f,a)] ca)(y:DY g h m fs cs):DY g h m ((f,a)::fs) (ca++cs):=by
 cases one with
 |dat e fz r=>cases r;exact .dat e fz y
 |own e ho fz r=>cases r;exact .own e ho fz y
set_option tactic.hygienic true in
theorem DY.put(x:DY g h m fs cs)(nd:(fs.map (·.1)).Nodup){f:Str}{a:CP}{ca:List Addr}(one:DY g h (upd m f v) [(f,a)] ca):
 ∃cs',(∀b∈cs',b∈ca∨b∈cs)∧(cs.Nodup→ca.Nodup→(∀b∈ca,b∉cs)→cs'.Nodup)∧DY g h (upd m f v) (Ej f a fs) cs':=by
 have sing:∀{fs':List (Str×CP)}{cs'':List Addr},DY g h (upd m f v) fs' cs''→∃cs',(∀b∈cs',b∈ca∨b∈cs'')∧(cs''.Nodup→ca.Nodup→(∀b∈ca,b∉cs'')→cs'.Nodup)∧DY g h (upd m f v) ((f,a)::fs') cs':=fun y=>
  ⟨_,fun _ hb=>mem_append.mp hb,fun q1 q2 q3=>List.nodup_append.mpr ⟨q2,q1,fun b hb c hc e=>q3 b hb (e▸hc)⟩,one.joinF y⟩
 induction x with
 |nil=>exact sing .nil
 |dat e fz r ih=>
  rename_i y v' d fs cs
  simp only[map_cons,nodup_cons]at nd
  unfold Ej
  split
  ·rename_i q;subst q
   exact sing (r.congr (m':=upd m f v) fun z hz=>if_neg (fun q:z=f=>nd.1 (q▸hz)))
  ·rename_i q
   obtain⟨cs',k1,k2,k3⟩:=ih nd.2
   exact⟨cs',k1,k2,.dat (by unfold upd;refine rr (if_neg (fun z=>q z.symm)) ?_;exact e) fz k3⟩
 |own e ho fz r ih=>
  rename_i y i vs k ds fs cs
  simp only[map_cons,nodup_cons]at nd
  unfold Ej
  split
  ·rename_i q;subst q
   obtain⟨cs',k1,k2,k3⟩:=sing (r.congr (m':=upd m f v) fun z hz=>if_neg (fun q:z=f=>nd.1 (q▸hz)))
   exact⟨cs',fun b hb=>(k1 b hb).imp id fun q=>.tail _ q,fun q1 q2 q3=>k2 (nodup_cons.mp q1).2 q2 fun b hb z=>q3 b hb (.tail _ z),k3⟩
  ·rename_i q
   obtain⟨cs',k1,k2,k3⟩:=ih nd.2
   refine⟨i::cs',fun b hb=>?_,fun q1 q2 q3=>?_,.own (by unfold upd;refine rr (if_neg (fun z=>q z.symm)) ?_;exact e) ho fz k3⟩
   ·cases hb with
    |head=>exact .inr (.head _)
    |tail _ hb=>exact(k1 b hb).imp id fun q=>.tail _ q
   ·have q1':=nodup_cons.mp q1
    refine nodup_cons.mpr ⟨fun z=>?_,k2 q1'.2 q2 fun b hb z=>q3 b hb (.tail _ z)⟩
    exact(k1 i z).elim (fun z=>q3 i z (.head _)) q1'.1
set_option tactic.hygienic true in
theorem JA(x:LCg.NsObj o m)(f:Str):lookIn f o=some (m f):=by
 obtain⟨es,ep,hd,hk,hf⟩:=x
 unfold lookIn
 refine rr hd ?_
 dsimp only
 have e:=hf f
 unfold nsFind findBy at e
 rw[←Array.find?_toList]at e
 split
 ·rename_i en he
  rw[he]at e
  refine rl e ?_;rfl
 ·rename_i he
  rw[he]at e
  have:es.toList.any (·.refKey)=false:=by
   rewrite[List.any_eq_false]
   intro en hen
   obtain⟨nm,t,ek⟩:=hk en (by simpa using hen)
   unfold DictEntry.refKey
   refine rr ek ?_;exact Bool.false_ne_true
  refine rr this (rl e ?_);rfl
structure CU(K:Frag)(C:Addr):Prop where
 get:findIn K (.ref C) "__getattribute__"=some (some (.builtin "object.__getattribute__"))
 geta:findIn K (.ref C) "__getattr__"=some none
 seta:findIn K (.ref C) "__setattr__"=some (some (.builtin "object.__setattr__"))
 over:plainOver K C=true
 dict:hasDictIn K C=true
def BP(K:Frag)(C:Addr)(f:Str):Prop:=findIn K (.ref C) f=some none
theorem Fz.handed(f:Fz g v d):handedIn v=true:=by cases f<;>rfl
theorem Mc{a:Addr}(h1:h.get? a=some (instObj C dx))(h2:h.get? dx=some o):InstAt h a (instObj C dx) C (some o):=⟨h1,rfl,rfl,h2⟩
theorem ES{a:Addr}{f:Str}{Q:Value→Shared→Prop}(X:K.In s.heap)(ok:CU K C)(fo:BP K C f)
 (h1:s.heap.get? a=some (instObj C dx)) (h2:s.heap.get? dx=some o) (hn:LCg.NsObj o m) (e:m f=some v) (hh:handedIn v=true) (q:Q v {s with toks:=s.toks+1}):wpAny (model O w) A (getAttr (.ref a) f true) Q E s:=
 get_value X (Mc h1 h2) ok.get (findObj_own (attr:=none) ok.dict fo rfl (by rewrite[JA hn];refine rr e ?_;(with_reducible rfl))) hh q
theorem Ao.at(S:Ao O K U)(r:Rel U R Y st as h):K.In h:=S.X.keeps fun b o e=>(r.base b o e).2.2
inductive Plc where
 |var (x:Str)
 |fld (x f:Str)
inductive PlE:Expr→Plc→Prop
 |var {x:Str}{p:Pos}:PlE (.Name x p) (.var x)
 |fld {x f:Str}{p q:Pos}:PlE (.Attribute (.Name x p) f q) (.fld x f)
noncomputable def DD:Plc→St→Option (List Dat)
 | .var x,st=>match look x st with
  |some (.lst ds)=>some ds
  |_=>none
 | .fld x f,st=>match look x st with
  |some (.obj _ fs)=>(match fs.lookup f with
   |some (.own _ ds)=>some ds
   |_=>none)
  |_=>none
noncomputable def DE:Plc→St→Option Addr
 | .var _,_=>none
 | .fld x f,st=>match look x st with
  |some (.obj _ fs)=>(match fs.lookup f with
   |some (.own i _)=>some i
   |_=>none)
  |_=>none
noncomputable def YM(ds:List Dat):Plc→St→St
 | .var x,st=>put x (.lst ds) st
 | .fld x f,st=>match look x st with
  |some (.obj C fs)=>(match fs.lookup f with
   |some (.own i _)=>put x (.obj C (Ej f (.own i ds) fs)) st
   |_=>st)
  |_=>st
def cb(K:Frag):Plc→St→Prop
 | .var x,_=>(x==("__debug__":Str))=false∧(x==("__classdict__":Str))=false
 | .fld x f,st=>((x==("__debug__":Str))=false∧(x==("__classdict__":Str))=false)∧∀C fs,look x st=some (.obj C fs)→CU K C∧BP K C f
def PAt(h:Heap)(Y:Env)(st:St):Plc→Addr→Prop
 | .var x,a=>AB h Y x (.ref a)
 | .fld x f,a=>DE (.fld x f) st=some a∧∃v,AB h Y x v
theorem Rel.row{a:AF}(r:Rel U R Y st as h)(hx:look x st=some a):∃v cs,AB h Y x v∧Cp (vis R as h) h v a cs∧∀b∈cs,b∈as:=by
 obtain⟨val,ks,hr,_⟩:=r.rows
 exact⟨_,_,hr x a (CT hx)⟩
section
variable{P:Prop}
theorem Rel.rowP{a:AF}(r:Rel U R Y st as h)(hx:look x st=some a)(k:∀v cs,AB h Y x v→Cp (vis R as h) h v a cs→(∀b∈cs,b∈as)→P):P:=by
 obtain⟨v,cs,a,b,c⟩:=r.row hx
 exact k v cs a b c
theorem Rel.objP(r:Rel U R Y st as h)(hx:look x st=some (.obj C fs))(k:∀a dx o m cs,AB h Y x (.ref a)→h.get? a=some (instObj C dx)→h.get? dx=some o→LCg.NsObj o m→DY (vis R as h) h m fs cs→(∀y v,m y=some v→y∈fs.map (·.1))→P):P:=
 r.rowP hx fun v cs hv rep V=>by
  revert hv
  exact rep.objP fun a dx o m cs g1 g2 hn fl V V ex hv=>k a dx o m cs hv g1 g2 hn fl ex.1
theorem Rel.lstP(r:Rel U R Y st as h)(hx:look x st=some (.lst ds))(k:∀a,AB h Y x (.ref a)→P):P:=
 r.rowP hx fun v cs hv rep V=>by
  revert hv
  exact rep.lstP fun a V V V V hv=>k a hv
theorem Rel.datP(r:Rel U R Y st as h)(hx:look x st=some (.dat d))(k:∀v,AB h Y x v→Fz (vis R as h) v d→P):P:=
 r.rowP hx fun v cs hv rep V=>rep.datP fun f=>k v hv f
end
theorem PAt.step{pl:Plc}{a:Addr}(x:PAt h Y st pl a)(e:Ai as h as' h')(hl:Y.locals∉as)(hc:∀y c,Y.cells.lookup y=some c→c∉as)(same:DE pl st'=DE pl st):PAt h' Y st' pl a:=by
 cases pl with
 |var y=>exact AB.keep x fun b o hb eo=>e.keep b o (hb.elim (fun q=>q▸hl) (by rintro⟨y,q⟩;exact hc y b q)) eo
 |fld y f=>exact⟨same.trans x.1,(by obtain⟨v,hv⟩:=x.2;exact⟨v,AB.keep hv fun b o hb eo=>e.keep b o (hb.elim (fun q=>q▸hl) (by rintro⟨y,q⟩;exact hc y b q)) eo⟩)⟩
theorem KL(e:DD (.var x) st=some ds):look x st=some (.lst ds):=by
 have e:(match look x st with|some (.lst ds)=>some ds|_=>none)=some ds:=e
 rcases q:look x st with _|(_|ds|_)<;>rw[q]at e<;>cases e
 rfl
theorem KM{f:Str}{a:Addr}(e:DD (.fld x f) st=some ds)(ea:DE (.fld x f) st=some a):∃C fs,look x st=some (.obj C fs)∧fs.lookup f=some (.own a ds):=by
 have e:(match look x st with|some (.obj _ fs)=>(match fs.lookup f with|some (.own _ ds)=>some ds|_=>none)|_=>none)=some ds:=e
 have ea:(match look x st with|some (.obj _ fs)=>(match fs.lookup f with|some (.own i _)=>some i|_=>none)|_=>none)=some a:=ea
 rcases q:look x st with _|(_|_|⟨C,fs⟩)<;>rw[q]at e ea<;>try cases e
 dsimp only at e ea
 rcases q':fs.lookup f with _|(_|⟨i,ds'⟩)<;>rw[q']at e ea<;>cases e
 cases ea
 exact⟨C,fs,rfl,q'⟩
theorem JB{f:Str}{ds':List Dat}{a:Addr}(h1:look x st=some (.obj C fs))(h2:fs.lookup f=some (.own a ds)):YM ds' (.fld x f) st=put x (.obj C (Ej f (.own a ds') fs)) st:=by simp only[YM,h1,h2]
set_option tactic.hygienic true in
theorem DY.setOwn(x:DY g h m fs cs){f:Str}{ds':List Dat}(e:fs.lookup f=some (.own i ds))(hnd:cs.Nodup)(kg:∀b o,g b o→g' b o)(keep:∀b∈cs,b≠i→∀o,h.get? b=some o→h'.get? b=some o)
  (ho:h'.get? i=some (seqObj "list" vs.toArray k)) (hf:FzL g' vs ds'):DY g' h' m (Ej f (.own i ds') fs) cs:=by
 induction x with
 |nil=>cases e
 |dat e1 fz r ih=>
  rcases BK e with⟨_,e⟩|⟨q,e⟩
  ·cases e
  ·unfold Ej
   refine rr (if_neg q) ?_
   exact .dat e1 (fz.mono kg) (ih e hnd fun b hb=>keep b hb)
 |own e1 ho1 f1 r ih=>
  rename_i y j ws l es fs' cs'
  have nd:=nodup_cons.mp hnd
  rcases BK e with⟨rfl,e2⟩|⟨q,e⟩
  ·cases e2
   unfold Ej
   refine rr (if_pos rfl) ?_
   exact .own e1 ho hf (r.mono kg fun b hb o eo=>keep b (.tail _ hb) (fun z=>nd.1 (z▸hb)) o eo)
  ·rename_i q
   unfold Ej
   refine rr (if_neg (fun z=>by rw[z]at q;simp at q)) ?_
   have ne:j≠i:=fun z=>nd.1 (z▸(r.getOwn e).1)
   exact .own e1 (keep j (.head _) ne _ ho1) (f1.mono kg) (ih e nd.2 fun b hb=>keep b (.tail _ hb))
set_option tactic.hygienic true in
theorem GA{f:Str}{a b:CP}:∀{fs:List (Str×CP)},fs.lookup f=some b→(Ej f a fs).map (·.1)=fs.map (·.1):=by
 intro fs
 induction fs with
 |nil=>
  intro h
  cases h
 |cons hd r ih=>
  obtain⟨y,c⟩:=hd
  intro h
  unfold Ej
  split
  ·rfl
  ·rename_i ne
   rcases BK h with⟨q,_⟩|⟨_,h⟩
   ·exact absurd q ne
   ·refine rr map_cons ?_;refine rr map_cons (rr (ih h) ?_);rfl
theorem Rel.mutPl{P:Prop}{pl:Plc}{a:Addr}(r:Rel U R Y st as h)(hx:DD pl st=some ds)(hv:PAt h Y st pl a)
 (c:∀vs m,h.get? a=some (seqObj "list" vs.toArray m)→FzL (vis R as h) vs ds→(∀{h':Heap}{vs':List Value}{m':Nat}{ds':List Dat},Heap.SameBut a h h'→h'.get? a=some (seqObj "list" vs'.toArray m')→FzL (vis R as h) vs' ds'→
  ∃as',Rel U R Y (YM ds' pl st) as' h'∧Ai as h as' h')→P):P:=by
 cases pl with
 |var x=>exact Rel.mutList (motive:=fun v=>v=.ref a→P) r (KL hx) hv (fun a' vs m ho f k e=>by obtain rfl:=Value.ref.inj e;exact c vs m ho f k) rfl
 |fld x f=>
  obtain⟨ha,v,hv⟩:=hv
  obtain⟨C,fs,h1,h2⟩:=KM hx ha
  refine Rel.mut (ns:=[]) r h1 hv r.locR r.celR fun cs rep sub k=>?_
  clear hv
  revert sub k
  refine rep.objP fun b dx o m cs g1 g2 hn fl nd nf ex sub k=>?_
  obtain⟨hi,em,vs,l,ho,hf⟩:=fl.getOwn h2
  refine c vs l ho hf fun{h' vs' m' ds'} S e f'=>?_
  have nd1:=nodup_cons.mp nd
  have nd2:=nodup_cons.mp nd1.2
  have nb:b≠a:=fun z=>nd1.1 (.tail _ (z▸hi))
  have nx:dx≠a:=fun z=>nd2.1 (z▸hi)
  have M:=MX (R:=R) sub (.tail _ (.tail _ hi)) S e
  refine rr (JB h1 h2) ?_
  have names:=GA (a:=.own a ds') h2
  have len:(Ej f (.own a ds') fs).length=fs.length:=by simpa using congrArg List.length names
  exact⟨_,k M (.obj ((S.2 b nb).trans g1) ((S.2 dx nx).trans g2) hn (fl.setOwn h2 nd2.2 M.vis (fun c V nc o eo=>(S.2 c nc).trans eo) e (f'.mono M.vis)) nd (names.symm▸nf) ⟨fun y v ey=>names.symm▸ex.1 y v ey,fun es ep eo=>len.symm▸ex.2 es ep eo⟩),M.step (Ai.refl _ _) Cc⟩
set_option tactic.hygienic true in
theorem VY(S:Ao O K U){pl:Plc}{o:Expr}(hp:PlE o pl)(hx:DD pl st=some ds)(ok:cb K pl st){Q:Value→Shared→Prop}(hE:AN sc Y)(r:Rel U R Y st as s.heap)
 (q:∀a tk,PAt s.heap Y st pl a→Q (.ref a) {s with toks:=tk}):wpAny (model O w) A (eval o Y) Q (fun _ _=>False) s:=by
 cases hp with
 |var=>exact r.lstP (KL hx) fun a hv=>CZ hE hv (q _ s.toks hv) ok.1 ok.2
 |fld=>
  rename_i x f p p'
  refine rr (arm_eval_Attribute ..) ?_
  obtain⟨a,ea⟩:∃a,DE (.fld x f) st=some a:=by
   have hx:(match look x st with|some (.obj _ fs)=>(match fs.lookup f with|some (.own _ ds)=>some ds|_=>none)|_=>none)=some ds:=hx
   show∃a,(match look x st with|some (.obj _ fs)=>(match fs.lookup f with|some (.own i _)=>some i|_=>none)|_=>none)=some a
   rcases q:look x st with _|(_|_|⟨C,fs⟩)<;>rw[q]at hx<;>try cases hx
   dsimp only at hx⊢
   rcases q':fs.lookup f with _|(_|⟨i,ds'⟩)<;>rw[q']at hx<;>cases hx
   exact⟨_,rfl⟩
  obtain⟨C,fs,h1,h2⟩:=KM hx ea
  have ok2:=ok.2 C fs h1
  exact r.objP h1 fun _ _ _ _ _ hv g1 g2 hn fl _=>wpAny_bind (CZ hE hv (wpAny_bind (wpAny_standAt (wpAny_bind (wpAny_holding (ES (S.at r) ok2.1 ok2.2 g1 g2 hn (fl.getOwn h2).2.1 rfl (wpAny_bind (wpAny_pure (wpAny_pure (q a _ ⟨ea,_,hv⟩))))))))) ok.1.1 ok.1.2)
theorem PU{pl:Plc}{o:Expr}(hp:PlE o pl)(name:Str)(Y:Env):attributeBase o name Y (eval o Y)=eval o Y:=by cases hp<;>rfl
theorem MY(S:Ao O K U){pl:Plc}{o:Expr}{name:Str}{id:String}{ap pos:Pos}{e:Expr}{ds0:List Dat}{Q:EV→St→Prop}(hp:PlE o pl)(h0:DD pl st=some ds0)(ok:cb K pl st){T:List Dat→Dat→St→Prop}
 (h:Ed O w U sc n e st fun d st1=>DE pl st1=DE pl st∧∃ds,DD pl st1=some ds∧T ds d st1) (slot:Slot "list" name id) (hty:typeOf (.builtin id)=pure (.type "method_descriptor"))
 (step:∀{A:Around}{Y:Env}{R as:List Addr}{s:Shared}{a:Addr}{vs:List Value}{m:Nat}{u:Value}{ds:List Dat}{d:Dat}{st1:St},CG A n→Rel U R Y st1 as s.heap→s.heap.get? a=some (seqObj "list" vs.toArray m)→FzL (vis R as s.heap) vs ds→Fz (vis R as s.heap) u d→
  (∀{h':Heap}{vs':List Value}{m':Nat}{ds':List Dat},Heap.SameBut a s.heap h'→h'.get? a=some (seqObj "list" vs'.toArray m')→FzL (vis R as s.heap) vs' ds'→∃as',Rel U R Y (YM ds' pl st1) as' h'∧Ai as s.heap as' h')→T ds d st1→
  wpAny (model O w) A (call (.builtin id) [.ref a,u]) (PE U R Y as s Q) (fun V V=>False) s)
 (hfew:∀Y,((backTo pos (starEach [e] Y)).all (fun x=>!x.1)&&(backToKw pos (keywordEach [] Y)).all (fun x=>x.1.isSome)
  &&decide ([e].length+([]:List Keyword).length+(if([]:List Keyword).isEmpty then 0 else 1)<30))=true)
 (hline:(ap.endLine==pos.line)=true) (hs:∀Y,starEach [e] Y=(false,eval e Y)::starEach [] Y):
 Ev O w U sc n (.Call (.Attribute o name ap) [e] [] pos) st Q:=by
 intro A Y R as s hR hE r
 refine PySem.wpAny_Call_method (PU hp name Y) (hfew Y) hline PySem.F.plainAttrs_list slot hty ?_
 refine VY S hp h0 ok hE r fun a tk pa=>?_
 refine r.mutPl h0 pa fun vs m ho f0 V=>?_
 refine⟨⟨_,ho,rfl⟩,(fun V q=>by cases q;exact⟨_,ho,rfl⟩),PyProof.Rows.callWith_method1 ?_ (hs Y)⟩
 refine wpAny_items_cons (h.go (s:={s with toks:=tk}) hR hE r fun u d st1 as1 g1 t1 e1 r1 f1 qq=>wpAny_items_nil ?_) (hs Y)
 refine r1.mutPl qq.2.choose_spec.1 (pa.step e1 r.locA r.celA qq.1) fun vs1 m1 ho1 fs1 k=>?_
 exact wpAny_mono (step (s:={s with heap:=g1,toks:=t1}) hR r1 ho1 fs1 f1 k qq.2.choose_spec.2) (fun v s' p=>PE.after (s:=s) (t1:=t1) e1 p) fun V V x=>x
theorem KN(S:Ao O K U){pl:Plc}{o:Expr}{Q:EV→St→Prop}(h0:DD pl st=some ds0)(ok:cb K pl st)
 (h:Ed O w U sc n e st fun d st1=>DE pl st1=DE pl st∧∃ds,DD pl st1=some ds∧ds.length+1≤sizeLine∧Q (.dat .none) (YM (ds++[d]) pl st1)) (hp:autoParam (PlE o pl) au.a7._auto_1)
 (hfew:autoParam (∀Y,((backTo pos (starEach [e] Y)).all (fun x=>!x.1)&&(backToKw pos (keywordEach [] Y)).all (fun x=>x.1.isSome)
  &&decide ([e].length+([]:List Keyword).length+(if([]:List Keyword).isEmpty then 0 else 1)<30))=true) au.a1._auto_1)
 (hline:autoParam ((ap.endLine==pos.line)=true) au.a3._auto_1) (h1:autoParam (∀Y,starEach [e] Y=(false,eval e Y)::starEach [] Y) au.a1._auto_1):
 Ev O w U sc n (.Call (.Attribute o "append" ap) [e] [] pos) st Q:=by
 refine MY S hp h0 ok h PySem.F.slot_list_append PySem.F.type_list_append ?_ hfew hline h1
 intro A Y R as s a vs m u ds d st1 hR r ho f fu k ⟨hz,q⟩
 have hl:vs.length=ds.length:=f.length
 obtain⟨m',e'⟩:=FM ho (fun xs=>xs.push u)
 have e2:(vs.toArray.push u)=(vs++[u]).toArray:=by simp
 rw[e2]at e'
 obtain⟨as',r2,e3⟩:=k (Heap.SameBut.update ..) e' (f.snoc fu)
 refine call_meets PySem.F.slot_list_append ⟨_,ho,rfl⟩ PySem.F.entry_list_append (PySem.F.args_list_append_2 _ _) (PySem.list_append a vs.toArray m u (by refine rr size_toArray (rr hl ?_);exact Ay hz)) ⟨ho,?_⟩
 exact PE.after (s:=s) (t1:=s.toks) e3 (PE.grown (s:={s with heap:=_}) (t1:=s.toks) r2 rfl (fun V V e=>e) .none q)
theorem PV(S:Ao O K U){pl:Plc}{o:Expr}{Q:EV→St→Prop}(h0:DD pl st=some ds0)(ok:cb K pl st)
 (h:Ed O w U sc n e st fun d st1=>DE pl st1=DE pl st∧∃ds,DD pl st1=some ds∧∃es,d=.list es∧ds.length+es.length≤sizeLine∧Q (.dat .none) (YM (ds++es) pl st1)) (hp:autoParam (PlE o pl) au.a7._auto_1)
 (hfew:autoParam (∀Y,((backTo pos (starEach [e] Y)).all (fun x=>!x.1)&&(backToKw pos (keywordEach [] Y)).all (fun x=>x.1.isSome)
  &&decide ([e].length+([]:List Keyword).length+(if([]:List Keyword).isEmpty then 0 else 1)<30))=true) au.a1._auto_1)
 (hline:autoParam ((ap.endLine==pos.line)=true) au.a3._auto_1) (h1:autoParam (∀Y,starEach [e] Y=(false,eval e Y)::starEach [] Y) au.a1._auto_1):
 Ev O w U sc n (.Call (.Attribute o "extend" ap) [e] [] pos) st Q:=by
 refine MY S hp h0 ok h PySem.F.slot_list_extend PySem.F.type_list_extend ?_ hfew hline h1
 intro A Y R as s a vs m u ds d st1 hR r ho f fu k ⟨es,ed,hz,q⟩
 subst ed
 refine fu.listP fun b ws l hb fb=>?_
 ·
  have hl:vs.length=ds.length:=f.length
  have hl2:ws.length=es.length:=fb.length
  have hz':vs.toArray.size+ws.toArray.size≤sizeLine:=by refine rr size_toArray (rr size_toArray ?_);refine rr hl (rr hl2 ?_);exact hz
  obtain⟨m',e'⟩:=FM ho (fun xs=>xs++ws.toArray)
  have e2:(vs.toArray++ws.toArray)=(vs++ws).toArray:=by simp
  rw[e2]at e'
  obtain⟨as',r2,e3⟩:=k (Heap.SameBut.update ..) e' (f.append fb)
  refine call_meets PySem.F.slot_list_extend ⟨_,ho,rfl⟩ PySem.F.entry_list_extend (PySem.F.args_list_extend_2 _ _) (PySem.AutoSeq1.list_extend_list_list_0 a vs.toArray m b ws.toArray l (extend_door hz') (le_trans (le_add_right _ _) hz')) ⟨ho,hb.2.2,?_⟩
  exact PE.after (s:=s) (t1:=s.toks) e3 (PE.grown (s:={s with heap:=_}) (t1:=s.toks) r2 rfl (fun V V e=>e) .none q)
theorem Zq(S:Ao O K U){p:Pos}{Q:EV→St→Prop}(h0:look x st=some (.lst (ds++[d])))(hz:ds.length+1≤sizeLine)(q:Q (.dat d) (put x (.lst ds) st))
 (hfew:autoParam (∀Y,((backTo pos (starEach [] Y)).all (fun x=>!x.1)&&(backToKw pos (keywordEach [] Y)).all (fun x=>x.1.isSome)
  &&decide (([]:List Expr).length+([]:List Keyword).length+(if([]:List Keyword).isEmpty then 0 else 1)<30))=true) au.a1._auto_1)
 (hline:autoParam ((ap.endLine==pos.line)=true) au.a3._auto_1) (hd:autoParam ((x==("__debug__":Str))=false) au.a2._auto_1) (hc:autoParam ((x==("__classdict__":Str))=false) au.a2._auto_1):
 Ev O w U sc n (.Call (.Attribute (.Name x p) "pop" ap) [] [] pos) st Q:=by
 intro A Y R as s hR hE r
 refine PySem.wpAny_Call_method rfl (hfew Y) hline PySem.F.plainAttrs_list PySem.F.slot_list_pop PySem.F.type_list_pop ?_
 have h0':DD (.var x) st=some (ds++[d]):=by simp[DD,h0]
 refine VY S (.var (p:=p)) h0' ⟨hd,hc⟩ hE r fun a tk pa=>?_
 refine r.mutPl h0' pa fun vs m ho f0 k=>?_
 refine⟨⟨_,ho,rfl⟩,(fun V q=>by cases q;exact⟨_,ho,rfl⟩),PyProof.Rows.callWith_method0 ?_⟩
 have hl:vs.length=ds.length+1:=by refine rr f0.length ?_;simp
 obtain⟨y,hy,fy⟩:=f0.get (k:=ds.length) (d:=d) (by simp)
 obtain⟨m',e'⟩:=FM ho (fun xs=>xs.eraseIdxIfInBounds (vs.toArray.size-1))
 have e2:vs.toArray.eraseIdxIfInBounds (vs.toArray.size-1)=(vs.take ds.length).toArray:=by
  apply Array.toList_inj.mp
  refine rr size_toArray ?_;refine rr hl (rr (Nat.add_sub_cancel ..) ?_)
  simp only[Array.eraseIdxIfInBounds]
  refine rr (dif_pos (by refine rr size_toArray ?_;exact Ay (Nat.le_of_eq hl.symm))) ?_
  simp only[Array.toList_eraseIdx]
  refine rr (List.eraseIdx_eq_take_drop_succ ..) ?_;refine rr (List.drop_eq_nil_of_le (by exact Ay (Nat.le_of_eq hl))) (rr (append_nil ..) ?_);rfl
 rw[e2]at e'
 obtain⟨as',r2,e3⟩:=k (ds':=ds) (Heap.SameBut.update ..) e' (by have:=f0.take ds.length;simpa using this)
 refine call_meets (s:={s with toks:=tk}) PySem.F.slot_list_pop ⟨_,ho,rfl⟩ PySem.F.entry_list_pop (PySem.F.args_list_pop_1 _) (PySem.MeetsSeq.list_pop_last a vs.toArray m y (by refine rr size_toArray ?_;refine rr hl (rr (Nat.add_sub_cancel ..) ?_);simpa using hy) (by refine rr size_toArray (rr hl ?_);exact(Ay hz))) ⟨ho,?_⟩
 exact PE.after (s:=s) (t1:=tk) e3 (PE.grown (s:={s with heap:=_,toks:=tk}) (t1:=tk) r2 rfl (fun V V e=>e) (fy.mono e3.vis) q)
theorem JC{l:Addr}{m:Nat}{k:Int}{t:Tok}{Q:Unit→Shared→Prop}(ho:s.heap.get? l=some (seqObj "list" items m))
 (h0:0≤k) (hfit:k<2^63) (hn:k<items.size) (hQ:Q () {s with heap:=s.heap.update l (Obj.mapSeq (·.setIfInBounds k.toNat v))}):wpAny (model O w) A (setItem (.ref l) (.int k t) v) Q E s:=by
 have hl:s.heap.IsList l items:=⟨_,ho,rfl,_,rfl⟩
 delta setItem
 refine wpAny_holding ?_
 refine wpAny_bind (wpAny_sequenceKey hl.typeIs (by decide) ?_)
 refine wpAny_bind (wpAny_callSpecial?_slot (name:=Str.ofString "__setitem__") hl.typeIs slot_list_setitem
  (wpAny_call_entry slot_list_setitem hl.typeIs entry_list_setitem ?_ (args_list_setitem _ _ _)))
 show wpAny _ _ (Builtin.List.listSubscript? (.int k t)>>=_) _ _ s
 refine wpAny_bind (wpAny_listSubscript_int (fitsIndex_of h0 hfit) ?_)
 clear hfit
 obtain⟨j,rfl⟩:=Int.eq_ofNat_of_zero_le h0
 have hj:j<items.size:=by exact(Ay (ofNat_lt.mp hn))
 rw[toNat_natCast]at hQ
 have hx':items[j]?=some items[j]:=getElem?_eq_getElem hj
 show wpAny _ _ ((seqItemAt l j>>=fun r=>pure (r.map (j,·)))>>=_) _ _ s
 refine wpAny_bind (wpAny_bind (wpAny_seqItemAt ho rfl (wpAny_pure ?_)))
 refine rr hx' ?_
 show wpAny _ _ (setSeqItemAt l j v>>=_) _ _ s
 refine wpAny_bind (wpAny_setSeqItemAt ho rfl ?_)
 first
  |exact wpAny_bind (wpAny_pure (wpAny_pure ⟨.none,rfl,wpAny_pure hQ⟩))
  |exact wpAny_pure ⟨.none,rfl,wpAny_pure hQ⟩
theorem Ox{l:Addr}{m:Nat}{t:Tok}{Q:Unit→Shared→Prop}(ho:s.heap.get? l=some (seqObj "list" vs.toArray m))
 (hfit:(j:Int)<2^63) (hj:j<vs.length) (hQ:∀h' m',h'.get? l=some (seqObj "list" (vs.set j v).toArray m')→Heap.SameBut l s.heap h'→Q () {s with heap:=h'}):wpAny (model O w) A (setItem (.ref l) (.int (j:Int) t) v) Q E s:=by
 obtain⟨m',e'⟩:=FM ho (·.setIfInBounds j v)
 have e2:vs.toArray.setIfInBounds j v=(vs.set j v).toArray:=by simp
 refine JC ho (natCast_nonneg j) hfit (by simpa using hj) ?_
 refine rr (toNat_natCast ..) ?_
 refine hQ _ m' ?_ (Heap.SameBut.update ..)
 refine rl e2 ?_;exact e'
noncomputable def PW(x f:Str)(st:St):Option (Addr×Dat):=match look x st with
 |some (.dat (.inst C fs))=>(fs.lookup f).map fun d=>(C,d)
 |some (.obj C fs)=>(match fs.lookup f with
  |some (.dat d)=>some (C,d)
  |_=>none)
 |_=>none
theorem Md{f:Str}(e:PW x f st=some (C,d)):(∃fs,look x st=some (.dat (.inst C fs))∧fs.lookup f=some d)∨(∃fs,look x st=some (.obj C fs)∧fs.lookup f=some (.dat d)):=by
 have e:(match look x st with|some (.dat (.inst C fs))=>(fs.lookup f).map fun d=>(C,d)|some (.obj C fs)=>(match fs.lookup f with|some (.dat d)=>some (C,d)|_=>none)|_=>none)=some (C,d):=e
 rcases q:look x st with _|(d0|_|⟨C',fs⟩)<;>rw[q]at e
 ·cases e
 ·cases d0<;>first|(cases e;done)|skip
  obtain⟨d',e1,e2⟩:=map_eq_some_iff.mp e
  cases e2
  exact .inl ⟨_,rfl,e1⟩
 ·cases e
 ·dsimp only at e
  rcases q':fs.lookup f with _|(d'|_)<;>rw[q']at e<;>cases e
  exact .inr ⟨_,rfl,q'⟩
theorem Zr(S:Ao O K U){f:Str}{p:Pos}(e:PW x f st=some (C,d))(ok:CU K C)(fo:BP K C f){Q:Value→Shared→Prop}(hE:AN sc Y)(r:Rel U R Y st as s.heap)
 (q:∀v tk,Fz (vis R as s.heap) v d→Q v {s with toks:=tk}) (hd:(x==("__debug__":Str))=false) (hc:(x==("__classdict__":Str))=false):wpAny (model O w) A (eval (.Attribute (.Name x p) f ap) Y) Q (fun V V=>False) s:=by
 refine rr (arm_eval_Attribute ..) ?_
 rcases Md e with⟨fs,h1,h2⟩|⟨fs,h1,h2⟩
 ·refine r.datP h1 fun v hv fz=>?_
  revert hv
  refine fz.instP fun a dx o m g1 g2 hn ff V hv=>?_
  obtain⟨u,eu,fu⟩:=ff.get h2
  exact wpAny_bind (CZ hE hv (wpAny_bind (wpAny_standAt (wpAny_bind (wpAny_holding (ES (S.at r) ok fo g1.2.2 g2.2.2 hn eu fu.handed (wpAny_bind (wpAny_pure (wpAny_pure (q u _ fu))))))))) hd hc)
 ·refine r.objP h1 fun a dx o m cs hv g1 g2 hn fl V=>?_
  obtain⟨u,eu,fu⟩:=fl.get h2
  exact wpAny_bind (CZ hE hv (wpAny_bind (wpAny_standAt (wpAny_bind (wpAny_holding (ES (S.at r) ok fo g1 g2 hn eu fu.handed (wpAny_bind (wpAny_pure (wpAny_pure (q u _ fu))))))))) hd hc)
theorem VZ(S:Ao O K U){f:Str}{p:Pos}{Q:EV→St→Prop}(e:PW x f st=some (C,d))(ok:CU K C)(fo:BP K C f)(q:Q (.dat d) st)
 (hd:autoParam ((x==("__debug__":Str))=false) au.a2._auto_1) (hc:autoParam ((x==("__classdict__":Str))=false) au.a2._auto_1):Ev O w U sc n (.Attribute (.Name x p) f ap) st Q:=by
 intro A Y R as s _ hE r
 exact Zr S e ok fo hE r (fun v tk fz=>PE.grown (t1:=tk) r rfl (fun V V e=>e) fz q) hd hc
theorem SO{f:Str}:∀{fs:List (Str×CP)},fs.lookup f=some (.own i ds)→(fs.map YK).lookup f=some (.list ds):=by
 intro fs
 induction fs with
 |nil=>
  intro z0
  cases z0
 |cons hd fs ih=>
  obtain⟨y,b⟩:=hd
  intro e
  rcases BK e with⟨rfl,e2⟩|⟨ne,e⟩
  ·cases e2;exact List.lookup_cons_self
  ·have:=ih e
   have q:=beq_eq_false_iff_ne.mpr ne
   cases b<;>(refine rr map_cons ?_;unfold YK;refine rr lookup_cons (rr q ?_);exact this)
theorem Me{C' dx':Addr}(h:instObj C dx=instObj C' dx'):dx=dx':=by cases h;rfl
theorem Zs(kg:∀b o,g b o→h.get? b=some o){a:Addr}{f:Str}(g1:h.get? a=some (instObj C dx))(g2:h.get? dx=some o)(hn:LCg.NsObj o m)(em:m f=some (.ref i))(h2:fs.lookup f=some (.own i ds))
 (e:v=.ref a) (fz:Fz g v (.inst C (fs.map YK))):Fz g (.ref i) (.list ds):=by
 revert e
 refine fz.instP fun a' dx' o' m' k1 k2 kn ff V e=>?_
 obtain rfl:=Value.ref.inj e
 obtain rfl:=Me (Option.some.inj (g1.symm.trans (kg _ _ k1)))
 obtain rfl:=Option.some.inj (g2.symm.trans (kg _ _ k2))
 obtain⟨u,eu,fu⟩:=ff.get (SO h2)
 have:=(JA hn f).symm.trans (JA kn f)
 exact Option.some.inj (em.symm.trans ((Option.some.inj this).trans eu))▸fu
theorem KP(S:Ao O K U){f:Str}{p:Pos}{Q:EV→St→Prop}(h1:look x st=some (.obj C fs))(h2:fs.lookup f=some (.own i ds))(ok:CU K C)(fo:BP K C f)
 (q:Q (.dat (.list ds)) (put x (.dat (Hq (.obj C fs))) st))
 (hd:autoParam ((x==("__debug__":Str))=false) au.a2._auto_1) (hc:autoParam ((x==("__classdict__":Str))=false) au.a2._auto_1):Ev O w U sc n (.Attribute (.Name x p) f ap) st Q:=by
 intro A Y R as s _ hE r
 refine rr (arm_eval_Attribute ..) ?_
 refine r.objP h1 fun a dx o m cs hv g1 g2 hn fl V=>?_
 obtain⟨as',sub',r',fz⟩:=r.freeze (a:=.own x) (d:=Hq (.obj C fs)) (st':=put x (.dat (Hq (.obj C fs))) st) hv (by simp[frz,h1])
 have em:=(fl.getOwn h2).2.1
 exact wpAny_bind (CZ hE hv (wpAny_bind (wpAny_standAt (wpAny_bind (wpAny_holding (ES (S.at r) ok fo g1 g2 hn em rfl
  (wpAny_bind (wpAny_pure (wpAny_pure (PE.after (s:=s) (t1:=s.toks+1) (Ai.less sub') (PE.grown (s:={s with toks:=s.toks+1}) (t1:=s.toks+1) r' rfl (fun V V e=>e) (Zs Bu g1 g2 hn em h2 rfl fz) q)))))))))) hd hc)
theorem Oy(hn:LCg.NsObj o m)(f:Str)(hash:Int)(t:Tok)(v:Value)(hz:∀es ep,o.data=.dict es ep→es.size≤k):
 (Obj.putName f hash (.str f t) v o).isFreed=false∧LCg.NsObj (Obj.putName f hash (.str f t) v o) (upd m f v)∧∀es ep,(Obj.putName f hash (.str f t) v o).data=.dict es ep→es.size≤k+(if(m f).isSome then 0 else 1):=by
 obtain⟨es,ep,hd,hk,hm⟩:=hn
 have hz':=hz es ep hd
 obtain⟨c,d,dt,sl⟩:=o
 dsimp only at hd
 subst hd
 cases hi:es.findIdx? (·.key.isStr f)with
 |some i=>
  have e:Obj.putName f hash (.str f t) v ⟨c,d,.dict es ep,sl⟩=⟨c,d,.dict (es.modify i fun e=>{e with val:=v}) ep,sl⟩:=by simp only[Obj.putName_eq,Obj.putNameByArray,hi]
  refine rr e ?_
  refine⟨rfl,⟨_,_,rfl,hk.modify _ _,fun x=>?_⟩,fun es' ep' q=>?_⟩
  ·show _=if x=f then some v else m x
   refine rl (hm ..) ?_;exact findBy_modify (fun n v=>v.isStr n) Value.isStr_inj es f x v i hi
  ·cases q;refine rr Array.size_modify ?_;exact Ay hz'
 |none=>
  have e:Obj.putName f hash (.str f t) v ⟨c,d,.dict es ep,sl⟩=⟨c,d,.dict (es.push ⟨hash,.str f t,v⟩) (ep+1),sl⟩:=by simp only[Obj.putName_eq,Obj.putNameByArray,hi]
  have mf:m f=none:=by
   refine rl (hm ..) ?_
   delta nsFind findBy
   have:es.find? (fun e=>e.key.isStr f)=none:=by
    rewrite[Array.find?_eq_none]
    rw[Array.findIdx?_eq_none_iff]at hi
    intro x hx;simpa using hi x hx
   refine rr this ?_;rfl
  refine rr e ?_
  refine⟨rfl,⟨_,_,rfl,hk.push _ _ _ _,fun x=>?_⟩,fun es' ep' q=>?_⟩
  ·show _=if x=f then some v else m x
   refine rl (hm ..) ?_
   exact findBy_push (fun n v=>v.isStr n) es f x _ _ v (fun y=>by
    show(f==y)=decide (y=f)
    by_cases h:y=f
    ·subst h;simp
    ·have:¬f=y:=fun e=>h e.symm
     simp[h,this]) hi
  ·cases q;refine rr (Array.size_push ..) (rr mf ?_);simp;exact(Ay hz')
theorem IS{a:Addr}{f:Str}{Q:Unit→Shared→Prop}(X:K.In s.heap)(ok:CU K C)(fo:BP K C f)
 (h1:s.heap.get? a=some (instObj C dx)) (h2:s.heap.get? dx=some o) (hn:LCg.NsObj o m) (hz:∀es ep,o.data=.dict es ep→es.size≤k) (hk:k≤1000)
 (h:∀h' tk o',h'.get? dx=some o'→LCg.NsObj o' (upd m f v)→(∀es ep,o'.data=.dict es ep→es.size≤k+(if(m f).isSome then 0 else 1))→Heap.SameBut dx s.heap h'→Q () {s with heap:=h',toks:=tk}):
 wpAny (model O w) A (setAttr (.ref a) f v) Q E s:=by
 have I:=Mc h1 h2
 have ht:takerIn K C f=some none:=by delta takerIn;refine rr (show findIn K (.ref C) f=some none from fo) ?_;rfl
 refine set_plain X I ok.seta (osa_open (s:={s with toks:=s.toks+1}) X I ok.over ht fun b=>?_)
 obtain⟨cd,hc,hd'⟩:=any_some ok.dict
 refine wpAny_bind (wpAny_pure (wpAny_bind (wpAny_bind (wpAny_loadPart h1 (wpAny_bind (Looks.here (s:={s with toks:=s.toks+1}) (looks_clsIn X hc) ?_))))))
 refine rr hd' ?_
 refine wpAny_pure (a:=some dx) (wpAny_bind (wpAny_pure (wpAny_bind ?_)))
 delta nsSet
 refine wpAny_bind (wpAny_bind (wpAny_askSetting (wpAny_pure (wpAny_bind (wpAny_mkText (wpAny_bind (wpAny_loadPart h2 ?_)))))))
 obtain⟨p1,p2,p3⟩:=Oy hn f (PyData.keyHash w.params f) (s.toks+1) v hz
 obtain⟨es,ep,hd,hks,hm⟩:=id hn
 refine rr hd ?_
 dsimp only
 have hany:es.any (·.refKey)=false:=by
  rewrite[Array.any_eq_false'];intro e he;obtain⟨n,t,h⟩:=hks e he;simp[DictEntry.refKey,h]
 refine rr (aRefKeyMayBeTheName_at ..) ?_;refine rr hany (rr (Bool.and_false ..) ?_)
 refine wpAny_updatePart h2 ?_
 have h2':=get?_update_self (Obj.putName f (PyData.keyHash w.params f) (.str f (s.toks+1)) v) h2 p1
 refine wpAny_bind (wpAny_lookBehind h2' ?_ ?_)
 ·obtain⟨es',ep',hd2,_⟩:=p2
  refine rr hd2 ?_
  have:=p3 es' ep' hd2
  exact pastItsLine_dict (by refine rr sizeLine_eq ?_;split at this<;>exact(Gu hk this))
 ·exact wpAny_pure (h _ _ _ h2' p2 p3 (Heap.SameBut.update ..))
theorem DY.has(x:DY g h m fs cs):∀y∈fs.map (·.1),(m y).isSome=true:=by
 induction x with
 |nil=>intro y hy;cases hy
 |dat e _ _ ih=>intro y hy;cases hy with|head=>refine rr e ?_;rfl|tail _ hy=>exact ih y hy
 |own e _ _ _ ih=>intro y hy;cases hy with|head=>refine rr e ?_;rfl|tail _ hy=>exact ih y hy
set_option tactic.hygienic true in
theorem MZ{f:Str}{a:CP}:∀{fs:List (Str×CP)},(f∈fs.map (·.1)→(Ej f a fs).length=fs.length)∧(f∉fs.map (·.1)→(Ej f a fs).length=fs.length+1):=by
 intro fs
 induction fs with
 |nil=>
  exact⟨(fun h=>nomatch h),fun _=>rfl⟩
 |cons hd r ih=>
  obtain⟨y,b⟩:=hd
  have ih:=ih
  unfold Ej
  split
  ·rename_i e;subst e;exact⟨fun _=>rfl,fun q=>absurd (.head _) q⟩
  ·rename_i ne
   refine⟨fun q=>?_,fun q=>?_⟩
   ·cases q with
    |head=>exact absurd rfl ne
    |tail _ q=>simp only[length_cons,ih.1 q]
   ·simp only[length_cons,ih.2 fun z=>q (.tail _ z)]
set_option tactic.hygienic true in
@[elab_as_elim] theorem Rel.setFld{motive:Value→Prop}{ns:List Addr}(r:Rel U (ns++R) Y st as h)(hx:look x st=some (.obj C fs))(hv:AB h Y x v)(hl:Y.locals∈R)(hc:∀x c,Y.cells.lookup x=some c→c∈R)(off:∀b∈ns,b∉R)(hnd:ns.Nodup)(f:Str)
 (c:∀a dx o m,h.get? a=some (instObj C dx)→h.get? dx=some o→LCg.NsObj o m→(∀es ep,o.data=.dict es ep→es.size≤fs.length)→(∀{h':Heap}{u:Value}{b:CP}{o':Obj},Heap.SameBut dx h h'→h'.get? dx=some o'→LCg.NsObj o' (upd m f u)→
  (∀es ep,o'.data=.dict es ep→es.size≤fs.length+(if(m f).isSome then 0 else 1))→DY (vis (ns++R) as h) h (upd m f u) [(f,b)] ns→
  ∃cs cs',Mut R as ns cs cs' h h'∧Rel U R Y (put x (.obj C (Ej f b fs)) st) (swp cs cs' as) h')→motive (.ref a)):motive v:=by
 refine Rel.mut r hx hv hl hc fun cs rep sub k=>?_
 clear hv
 revert sub k
 refine rep.objP fun a dx o m cs g1 g2 hn fl nd nf ex sub k=>?_
 ·
  refine c a dx o m g1 g2 hn ex.2 fun{h' u b o'} S ho' hno' hz' one=>?_
  have nd1:=nodup_cons.mp nd
  have nd2:=nodup_cons.mp nd1.2
  obtain⟨cs1,k1,k2,k3⟩:=fl.put nf one
  have nsas:∀c∈ns,c∉as:=fun c hc=>r.sep c (mem_append_left _ hc)
  have M:Mut R as ns (a::dx::cs) (a::dx::cs1) h h':=by
   refine⟨sub,fun c o hcs e=>(S.2 c fun q=>hcs (q▸ .tail _ (.head _))).trans e,fun c o e=>if q:c=dx then⟨o',q▸ho'⟩else⟨o,(S.2 c q).trans e⟩,fun c hcs=>?_,off⟩
   cases hcs with
   |head=>exact .inl (.head _)
   |tail _ hcs=>cases hcs with
    |head=>exact .inl (.tail _ (.head _))
    |tail _ hcs=>exact(k1 c hcs).symm.imp (fun q=>.tail _ (.tail _ q)) .inl
  refine⟨_,_,M,k M ?_⟩
  have ndx:∀c∈cs1,c≠dx:=fun c hcs q=>(k1 c hcs).elim (fun z=>nsas dx (q▸z) (sub dx (.tail _ (.head _)))) fun z=>nd2.1 (q▸z)
  refine .obj ((S.2 a fun q=>nd1.1 (q▸ .head _)).trans g1) ho' hno' (k3.mono M.vis fun c hcs o e=>(S.2 c (ndx c hcs)).trans e) ?_ (Ow nf) ⟨fun y v ey=>?_,fun es ep eo=>?_⟩
  ·refine nodup_cons.mpr ⟨fun q=>?_,nodup_cons.mpr ⟨fun q=>ndx dx q rfl,k2 nd2.2 hnd fun c hc q=>nsas c hc (sub c (.tail _ (.tail _ q)))⟩⟩
   cases q with
   |head=>exact nd1.1 (.head _)
   |tail _ q=>exact(k1 a q).elim (fun z=>nsas a z (sub a (.head _))) fun z=>nd1.1 (.tail _ z)
  ·unfold upd at ey
   split at ey
   ·rename_i q;exact Jz.mpr (.inl q)
   ·exact Jz.mpr (.inr (ex.1 y v ey))
  ·have:=hz' es ep eo
   by_cases hf:f∈fs.map (·.1)
   ·refine rr (MZ.1 hf) ?_;rw[if_pos (fl.has f hf)]at this;exact this
   ·refine rr (MZ.2 hf) ?_;split at this<;>exact(Ay this)
theorem Ve{p:Pos}(h1:look x st=some (.obj C fs)){Q:Value→Shared→Prop}(hE:AN sc Y)(r:Rel U R Y st as s.heap)
 (q:∀v,AB s.heap Y x v→Q v s) (hd:(x==("__debug__":Str))=false) (hc:(x==("__classdict__":Str))=false):wpAny (model O w) A (eval (.Name x p) Y) Q (fun V V=>False) s:=by
 exact r.rowP h1 fun v cs hv V V=>CZ hE hv (q v hv) hd hc
theorem Zt(S:Ao O K U){f:Str}{Q:Shared→Prop}(r:Rel U R Y st as s.heap)(hx:look x st=some (.obj C fs))(hv:AB s.heap Y x v)(ok:CU K C)(fo:BP K C f)
 (fu:Fz (vis R as s.heap) u d) (hz:fs.length≤1000) (q:∀as' h' tk,Ai as s.heap as' h'→Rel U R Y (put x (.obj C (Ej f (.dat d) fs)) st) as' h'→Q {s with heap:=h',toks:=tk}):wpAny (model O w) A (setAttr v f u) (fun V s'=>Q s') (fun V V=>False) s:=by
 refine Rel.setFld (ns:=[]) r hx hv r.locR r.celR Cc .nil f fun a dx o m g1 g2 hn sz k=>?_
 refine IS (S.at r) ok fo g1 g2 hn sz hz fun h' tk o' ho' hn' hz' sb=>?_
 obtain⟨cs,cs',M,r'⟩:=k sb ho' hn' hz' (.dat (by simp[upd]) fu .nil)
 exact q _ h' tk (M.step (Ai.refl _ _) Cc) r'
theorem Wa(S:Ao O K U){f:Str}{p:Pos}
 (h:Ed O w U sc n e st fun d st1=>∃C fs,look x st1=some (.obj C fs)∧CU K C∧BP K C f∧fs.length≤1000∧Q .next (put x (.obj C (Ej f (.dat d) fs)) st1))
 (hd:autoParam ((x==("__debug__":Str))=false) au.a2._auto_1) (hc:autoParam ((x==("__classdict__":Str))=false) au.a2._auto_1)
 (hw:autoParam (∀Y,swapsWith e (some (.Attribute (.Name x p) f ap)) pos.line Y=pure false) au.a1._auto_1):
 Sx O w U sc n (.Assign [.Attribute (.Name x p) f ap] e pos) st Q:=by
 intro A Y R as s hR hE r
 refine plainObj_wpAny_Assign_Attribute (h.go hR hE r fun v d st1 as1 h1 t1 e1 r1 f1 qq=>?_) (hw Y)
 obtain⟨C,fs,hx,ok,fo,hz,q⟩:=qq
 refine Ve hx hE r1 (fun u hu=>?_) hd hc
 exact Zt S r1 hx hu ok fo f1 hz fun as' h' tk e2 r2=>⟨.next,_,as',h',tk,rfl,(e1.trans e2).toS,r2,trivial,q⟩
theorem Mf(S:Ao O K U){f:Str}{p:Pos}
 (h:Ef O w U sc n e st fun av st1=>∃ds C fs,av=.lst ds∧look x st1=some (.obj C fs)∧CU K C∧BP K C f∧fs.length≤1000∧∀i,Q .next (put x (.obj C (Ej f (.own i ds) fs)) st1))
 (hd:autoParam ((x==("__debug__":Str))=false) au.a2._auto_1) (hc:autoParam ((x==("__classdict__":Str))=false) au.a2._auto_1)
 (hw:autoParam (∀Y,swapsWith e (some (.Attribute (.Name x p) f ap)) pos.line Y=pure false) au.a1._auto_1):
 Sx O w U sc n (.Assign [.Attribute (.Name x p) f ap] e pos) st Q:=by
 intro A Y R as s hR hE r
 refine plainObj_wpAny_Assign_Attribute (h.go hR hE r fun v av st1 as1 h1 t1 cs0 e1 r1 rep hcs qq=>?_) (hw Y)
 obtain⟨ds,C,fs,rfl,hx,ok,fo,hz,q⟩:=qq
 obtain⟨i,vs,m,rfl,rfl,ho,fz⟩:=rep.lstE
 refine Ve hx hE r1 (fun u hu=>?_) hd hc
 ·
  refine Rel.setFld r1 hx hu r.locR r.celR (BS r hcs) (by simp) f fun a dx o m g1 g2 hn sz k=>?_
  refine IS (S.at r1) ok fo g1 g2 hn sz hz fun h' tk o' ho' hn' hz' sb=>?_
  obtain⟨cs,cs',M,r'⟩:=k sb ho' hn' hz' (.own (by simp[upd]) ho fz .nil)
  exact⟨.next,_,_,h',tk,rfl,(M.step e1 hcs).toS,r',trivial,q i⟩
noncomputable def Na:Operator→Int→Int→Int
 | .Add,a,b=>a+b
 | .Sub,a,b=>a-b
 |_,_,_=>0
noncomputable def Wb:Operator→Bool
 | .Add=>true
 | .Sub=>true
 |_=>false
theorem Wc{t u:Tok}{Q:Value→Shared→Prop}(ok:Wb op=true)(q:Q (.int (Na op a b) s.toks) {s with toks:=s.toks+1}):wpAny (model O w) A (inplaceOp op (.int a t) (.int b u)) Q E s:=by
 cases op<;>first|(cases ok;done)|skip
 ·exact wpAny_iadd_int q
 ·exact PyProof.Rows.isub_int q
theorem Zu{Q:Value→Shared→Prop}(hE:AN sc Y)(hv:AB s.heap Y x v)(h:Q v s)
 (hc:(x==("__classdict__":Str))=false):wpAny (model O w) A (loadName Y x) Q E s:=by
 rcases hv with⟨k,m,hn,e⟩|⟨k|k,c,hc',hv⟩
 ·exact wpAny_loadName_local (by refine rr hE.isSc ?_;exact hE.kind) k hn e h
 ·exact wpAny_loadName_cell (by refine rr hE.isSc ?_;exact hE.kind) k hc' hv h
 ·exact wpAny_loadName_free (by refine rr hE.isSc ?_;exact hE.kind) k hc' hv h hc
theorem Zv{p:Pos}(h0:look x st=some (.dat (.int a)))(h:Ed O w U sc n e st fun d st1=>∃b,d=.int b∧Q .next (put x (.dat (.int (Na op a b))) st1))
 (hs:BD sc x=true) (ok:autoParam (Wb op=true) au.a3._auto_1) (hc:autoParam ((x==("__classdict__":Str))=false) au.a2._auto_1):Sx O w U sc n (.AugAssign (.Name x p) op e pos) st Q:=by
 intro A Y R as s hR hE r
 refine r.datP h0 fun v hv fz=>?_
 refine wpAny_AugAssign_Name (Zu hE hv ?_ hc)
 refine fz.intP fun t=>?_
 refine h.go hR hE r fun v d st1 as1 h1 t1 e1 r1 f1 qq=>?_
 obtain⟨b,rfl,q⟩:=qq
 refine f1.intP fun t'=>Wc ok ?_
 exact wpAny_mono (PR (Q:=Q .next) (s:={s with heap:=h1,toks:=t1+1}) hE r1 (.int _ _) hs q) (fun V V p=>PX.after (t1:=t1+1) e1.toS p.toPX) fun V V x=>x
structure YN(K:Frag)(f:Addr)(fd:FuncData)(body:List Stmt)(ps:List Str):Prop where
 look:∃o,K.lookup f=some o∧o.data=.func fd
 code:codeIn K fd.code fd.qualname=true
 body:fd.body=.stmts body
 clo:fd.closure=[]
 glob:fd.globals=mainGlobals
 blt:fd.builtins=builtinsNs
 binds:∀vs:List Value,vs.length=ps.length→∀s:Shared,K.In s.heap→BindsTo s fd ⟨vs,[]⟩ (ps.zip vs)
 kinds:∀x∈ps,fd.scope.names.lookup x=some .local∨fd.scope.names.lookup x=some .cell
 nodup:ps.Nodup
 cells:∀x,fd.scope.names.lookup x=some .cell∨fd.scope.names.lookup x=some .free→((cellsFrom 0 fd.scope.names []).lookup x).isSome=true
 co:fd.scope.isCoroutine=false
 gen:fd.scope.isGenerator=false
 kind:fd.scope.kind=.function
theorem CQ:∀{l l':List (Str×α)},l.map (·.1)=l'.map (·.1)→∀x,(l.lookup x).isSome=(l'.lookup x).isSome:=by
 intro l
 induction l with
 |nil=>
  intro zz4
  rcases zz4 with _|⟨_,_⟩
  ·intro _ _
   exact rfl
  ·intro h _
   cases h
 |cons hd r ih=>
  obtain⟨a,b⟩:=hd
  intro zz4
  rcases zz4 with _|⟨⟨a',b'⟩,r'⟩
  ·intro h _
   cases h
  ·intro h x
   simp only[map_cons,List.cons.injEq]at h
   obtain⟨rfl,h⟩:=h
   refine rr lookup_cons (rr lookup_cons ?_)
   cases x==a
   ·exact ih h x
   ·rfl
theorem Oz:∀(l:List (Str×Value)) (m:Str→Option Value) (x:Str),x∉l.map (·.1)→bindL kindOf l m x=m x:=by
 intro l
 induction l with
 |nil=>
  intro _ _ _
  exact rfl
 |cons hd r ih=>
  obtain⟨y,v⟩:=hd
  intro m x h
  have ne:x≠y:=fun q=>h (by refine rr q ?_;exact .head _)
  unfold bindL
  refine rr (ih _ x (fun q=>h (.tail _ q))) ?_
  split
  ·simp only[ne,if_false]
  ·rfl
theorem OA:∀(l:List (Str×Value)) (m:Str→Option Value) (x:Str),x∉l.map (·.1)→bindC kindOf l m x=m x:=by
 intro l
 induction l with
 |nil=>
  intro _ _ _
  exact rfl
 |cons hd r ih=>
  obtain⟨y,v⟩:=hd
  intro m x h
  have ne:x≠y:=fun q=>h (by refine rr q ?_;exact .head _)
  unfold bindC
  refine rr (ih _ x (fun q=>h (.tail _ q))) ?_
  split
  ·rfl
  ·simp only[ne,if_false]
theorem Nb:∀(l:List (Str×Value)) (m:Str→Option Value) (x:Str) (v:Value),(l.map (·.1)).Nodup→(x,v)∈l→kindOf x=some .local→bindL kindOf l m x=some v:=by
 intro l
 induction l with
 |nil=>
  intro _ _ _ _ h _
  cases h
 |cons hd r ih=>
  obtain⟨y,u⟩:=hd
  intro m x v nd h k
  simp only[map_cons,nodup_cons]at nd
  unfold bindL
  rcases mem_cons.mp h with q|q
  ·cases q
   rewrite[Oz r _ _ nd.1,if_pos k,if_pos rfl];(with_reducible rfl)
  ·exact ih _ x v nd.2 q k
theorem Nc:∀(l:List (Str×Value)) (m:Str→Option Value) (x:Str) (v:Value),(l.map (·.1)).Nodup→(x,v)∈l→kindOf x≠some .local→bindC kindOf l m x=some v:=by
 intro l
 induction l with
 |nil=>
  intro _ _ _ _ h _
  cases h
 |cons hd r ih=>
  obtain⟨y,u⟩:=hd
  intro m x v nd h k
  simp only[map_cons,nodup_cons]at nd
  unfold bindC
  rcases mem_cons.mp h with q|q
  ·cases q
   rewrite[OA r _ _ nd.1,if_neg k,if_pos rfl];(with_reducible rfl)
  ·exact ih _ x v nd.2 q k
noncomputable def flV(f:Flow):Value:=match f with
 | .ret v=>v
 |_=>.none
noncomputable def flD:Fl→Dat
 | .ret d=>d
 |_=>.none
theorem IQ.val{f:Flow}(x:IQ g f fl):Fz g (flV f) (flD fl):=by cases f<;>cases fl<;>first|exact x.elim|exact x|exact .none
theorem CG.deep(r:CG A (n+1))(hE:AN sc Y)(hg:sc.isGenerator=false)(hc:sc.isCoroutine=false):CG (A.deeper Y) n:=by
 obtain⟨h1,h2,h3,e,l,hf,_⟩:=r
 refine⟨h1,?_,?_,Y,e::l,?_,?_,?_,hE.blt,hE.glob⟩
 ·show A.depth+1+3*n+110<recursionLimit
  exact Ay h2
 ·show A.units+3+20*n+100<cLine
  exact Ay h3
 ·show A.frames.map (Y:: ·)=_
  refine rr hf ?_;rfl
 ·refine rr hE.isSc ?_;exact hg
 ·refine rr hE.isSc ?_;exact hc
def KQ(Q:Value→Shared→Prop)(E:Value→Shared→Prop)(r:Result)(s':Shared):Prop:=match r with
 | .ok (.ret v)=>Q v s'
 | .ok _=>False
 | .error e=>E e s'
theorem IT{Q Q':Value→Shared→Prop}(k:∀v s,Q v s→Q' v s){r:Result}(h:KQ Q E r s'):KQ Q' E r s':=by
 rcases r with e|(v|_|_|_)<;>first|exact h|exact k _ _ h
theorem IU{A:Around}{s:Shared}{R:Result→Shared→Prop}{a:Addr}{o:Obj}{fd:FuncData}{body:List Stmt}{vals:List Value}{binds:List (Str×Value)}
 (hroom:A.depth<recursionLimit) (ho:s.heap.get? a=some o) (hdata:o.data=.func fd) (hlim:s.heap.NoLimit) (hcd:s.heap.CodeRec fd.code fd.qualname)
 (hbody:fd.body=.stmts body) (hbind:BindsTo s fd ⟨vals,[]⟩ binds) (hclo:fd.closure=[])
 (hkind:∀x∈binds,fd.scope.names.lookup x.1=some .local∨(fd.scope.names.lookup x.1=some .cell∧((cellsFrom (s.heap.objs.size+1) fd.scope.names []).lookup x.1).isSome=true))
 (h:∀s₁,InCallC s (callEnvC fd s.heap.objs.size a).locals (bindL (callEnvC fd s.heap.objs.size a).kindOf binds fun V=>none) (callEnvC fd s.heap.objs.size a).cells
  (bindC (callEnvC fd s.heap.objs.size a).kindOf binds fun V=>none) s₁→
  wpAny (model O w) (A.deeper (callEnvC fd s.heap.objs.size a)) (execs body (callEnvC fd s.heap.objs.size a)) (fun f s'=>R (.ok (.ret (match f with| .ret v=>v|_=>.none))) s')
   (fun e s'=>wpAny (model O w) (A.deeper (callEnvC fd s.heap.objs.size a)) (leaving (callEnvC fd s.heap.objs.size a) e) (fun V s''=>R (.error e) s'') (fun e' s''=>R (.error e') s'') s') s₁)
 (hco:fd.scope.isCoroutine=false) (hgen:fd.scope.isGenerator=false) (hk:fd.scope.kind=.function):
 codeAny (model O w) A (.call (.ref a) ⟨vals,[]⟩) R s:=by
 refine codeAny_call_function hroom ho hdata hco hgen hbody hcd (hbind _ _ _ _ ?_)
 refine rr hclo ?_
 refine wpAny_newFunctionEnv_cells hk hkind fun Y he s' x=>?_
 subst he
 exact⟨hlim.keeps x.toInCall.keep,codeAny_func (h s' x)⟩
theorem Zw{ps:List Str}(S:Ao O K U)(ok:YN K f fd body ps){Q:Value→Shared→Prop}(hR:CG A (n+1))(hl:vs.length=ps.length)
 (hb:∀b o,U.get? b=some o→s.heap.get? b=some o)
 (h:∀Y h' tk,AN fd.scope Y→(∀b o,s.heap.get? b=some o→h'.get? b=some o)→(s.heap.get? Y.locals=none∧∃m,h'.Ns Y.locals m)→(∀x c,Y.cells.lookup x=some c→s.heap.get? c=none∧∃v,h'.IsCell c v)→
  (∀x v,(x,v)∈ps.zip vs→AB h' Y x v)→wpAny (model O w) (A.deeper Y) (execs body Y) (fun f s'=>Q (flV f) s') (fun V V=>False) {s with heap:=h',toks:=tk}):
 codeAny (model O w) A (.call (.ref f) ⟨vs,[]⟩) (KQ Q E) s:=by
 obtain⟨o,ho,hd⟩:=ok.look
 have X:=S.X.keeps hb
 have names:∀k x,((cellsFrom k fd.scope.names []).lookup x).isSome=((cellsFrom 0 fd.scope.names []).lookup x).isSome:=fun k x=>CQ (cellsFrom_names _ _ _ _ _ rfl) x
 have hmem:∀x∈ps.zip vs,x.1∈ps:=fun x hx=>(of_mem_zip (a:=x.1) (b:=x.2) hx).1
 have hnd:((ps.zip vs).map (·.1)).Nodup:=by
  refine rr (List.map_fst_zip (by exact Ay (Nat.le_of_eq hl.symm))) ?_;exact ok.nodup
 refine(IU (by have:=hR.depth;exact Ay this) (X _ _ ho) hd (S.lim.keeps hb) (codeRec_of X ok.code) ok.body (ok.binds vs hl s X) ok.clo (fun x hx=>?_) (fun s1 ic=>?_) ok.co ok.gen ok.kind)
 ·rcases ok.kinds x.1 (hmem x hx)with q|q
  ·exact .inl q
  ·exact .inr ⟨q,by refine rr (names ..) ?_;exact ok.cells _ (.inl q)⟩
 ·obtain⟨h',tk,rfl,hk⟩:=ic.done
  have hL:(callEnvC fd s.heap.objs.size f).locals=s.heap.objs.size:=rfl
  refine wpAny_mono (h (callEnvC fd s.heap.objs.size f) h' tk ⟨rfl,ok.kind,ok.glob,ok.blt,fun x c e q=>?_,fun x y c e1 e2=>?_,fun x hx=>?_⟩ hk ⟨AH _ (le_refl _),_,ic.toInCall.ns⟩ (fun x c e=>⟨AH _ ?_,_,ic.cell x c e⟩) fun x v hx=>?_) (fun f s' q=>q) fun V V q=>q.elim
  ·have:=ic.above x c (mem_of_lookup e)
   rw[q]at this;exact lt_irrefl _ this
  ·exact name_of_addr ic.apart (mem_of_lookup e1) (mem_of_lookup e2)
  ·have:=ok.cells x hx
   rw[←names (s.heap.objs.size+1)]at this
   exact isSome_iff_exists.mp this
  ·exact Nat.le_of_lt (ic.above x c (mem_of_lookup e))
  ·have hx1:(callEnvC fd s.heap.objs.size f).kindOf x=fd.scope.names.lookup x:=rfl
   rcases ok.kinds x (hmem _ hx)with q|q
   ·exact .inl ⟨hx1.trans q,_,ic.toInCall.ns,Nb _ _ x v hnd hx (hx1.trans q)⟩
   ·have hs:=ok.cells x (.inl q)
    rw[←names (s.heap.objs.size+1)]at hs
    obtain⟨c,hc⟩:=isSome_iff_exists.mp hs
    have:=ic.cell x c hc
    rw[Nc _ _ x v hnd hx (by refine rr hx1 (rr q ?_);decide)]at this
    exact .inr ⟨.inl (hx1.trans q),c,hc,this⟩
inductive RL(R cs:List Addr)(s:Shared)(v:Value)(Q:Dat→AF→Prop)(r:Value)(s':Shared):Prop
 |mk (d:Dat) (a':AF) (cs':List Addr) (h':Heap) (tk':Nat) (hs:s'={s with heap:=h',toks:=tk'}) (e:Ai cs s.heap cs' h') (rep:Cp (vis R cs' h') h' v a' cs') (x:Fz (vis R cs' h') r d) (q:Q d a')
inductive RP(R:List Addr)(s:Shared)(Q:Dat→Prop)(r:Value)(s':Shared):Prop
 |mk (d:Dat) (h':Heap) (tk':Nat) (hs:s'={s with heap:=h',toks:=tk'}) (e:Ai [] s.heap [] h') (x:Fz (vis R [] h') r d) (q:Q d)
structure FnL(O:Program)(w:World)(U:Heap)(n:Nat)(f:Addr)(a:AF)(ds:List Dat)(Q:Dat→AF→Prop):Prop where
 run:∀(A:Around) (R cs:List Addr) (s:Shared) (v:Value) (vs:List Value),CG A n→(∀b o,U.get? b=some o→vis R cs s.heap b o)→(∀b∈R,∃o,s.heap.get? b=some o)→(∀b∈R,b∉cs)→Cp (vis R cs s.heap) s.heap v a cs→FzL (vis R cs s.heap) vs ds→
  codeAny (model O w) A (.call (.ref f) ⟨v::vs,[]⟩) (KQ (RL R cs s v Q) (fun V V=>False)) s
structure FnP(O:Program)(w:World)(U:Heap)(n:Nat)(f:Addr)(ds:List Dat)(Q:Dat→Prop):Prop where
 run:∀(A:Around) (R:List Addr) (s:Shared) (vs:List Value),CG A n→(∀b o,U.get? b=some o→vis R [] s.heap b o)→(∀b∈R,∃o,s.heap.get? b=some o)→FzL (vis R [] s.heap) vs ds→
  codeAny (model O w) A (.call (.ref f) ⟨vs,[]⟩) (KQ (RP R s Q) (fun V V=>False)) s
theorem FnL.mono{a:AF}{Q Q':Dat→AF→Prop}(h:FnL O w U n f a ds Q)(k:∀d a,Q d a→Q' d a):FnL O w U n f a ds Q':=
 ⟨fun A R cs s v vs h1 h2 h3 h4 h5 h6=>codeAny_mono (h.run A R cs s v vs h1 h2 h3 h4 h5 h6) fun V V y=>IT (by rintro _ _ ⟨d,a',cs',h',tk',e,x,y,z,q⟩;exact⟨d,a',cs',h',tk',e,x,y,z,k _ _ q⟩) y⟩
theorem FnP.mono{Q Q':Dat→Prop}(h:FnP O w U n f ds Q)(k:∀d,Q d→Q' d):FnP O w U n f ds Q':=
 ⟨fun A R s vs h1 h2 h3 h4=>codeAny_mono (h.run A R s vs h1 h2 h3 h4) fun V V y=>IT (by rintro _ _ ⟨d,h',tk',e,x,z,q⟩;exact⟨d,h',tk',e,x,z,k _ q⟩) y⟩
noncomputable def BE:List Str→List Dat→St
 |p::ps,d::ds=>(p,.dat d)::BE ps ds
 |_,_=>[]
theorem GB:∀{ps:List Str}{ds:List Dat}{x:Str}{a:AF},(x,a)∈BE ps ds→∃(k:Nat) (d:Dat),ps[k]?=some x∧ds[k]?=some d∧a=.dat d:=by
 intro ps
 induction ps with
 |nil=>
  intro _ _ _ h
  cases h
 |cons p ps ih=>
  intro zz4
  rcases zz4 with _|⟨d,ds⟩
  ·intro _ _ h
   cases h
  ·intro x a h
   unfold BE at h
   rcases mem_cons.mp h with q|q
   ·cases q;exact⟨0,d,rfl,rfl,rfl⟩
   ·obtain⟨k,e,h1,h2,h3⟩:=ih q;exact⟨k+1,e,h1,h2,h3⟩
theorem GW:∀{ps:List Str}{ds:List Dat}{x:Str},x∈(BE ps ds).map (·.1)→x∈ps:=by
 intro ps
 induction ps with
 |nil=>
  intro _ _ h
  cases h
 |cons p ps ih=>
  intro zz4
  rcases zz4 with _|⟨d,ds⟩
  ·intro _ h
   cases h
  ·intro x h
   unfold BE at h
   rcases mem_cons.mp h with q|q
   ·refine rr q ?_;exact .head _
   ·exact .tail _ (ih q)
theorem Ey:∀{ps:List Str}{ds:List Dat},ps.Nodup→((BE ps ds).map (·.1)).Nodup:=by
 intro ps
 induction ps with
 |nil=>
  intro _ _
  simp[BE]
 |cons p ps ih=>
  intro zz4
  rcases zz4 with _|⟨d,ds⟩
  ·intro _
   simp[BE]
  ·intro h
   unfold BE
   simp only[map_cons,nodup_cons]at h⊢
   exact⟨fun q=>h.1 (GW q),ih h.2⟩
theorem GC:∀{l:List α}{m:List β}{k:Nat}{a:α}{b:β},l[k]?=some a→m[k]?=some b→(a,b)∈l.zip m:=by
 intro l
 induction l with
 |nil=>
  intro _ _ _ _ h1 _
  simp at h1
 |cons x l ih=>
  intro zz4
  rcases zz4 with _|⟨y,m⟩
  ·intro _ _ _ _ h2
   simp at h2
  ·intro zz6
   rcases zz6 with _|k
   ·intro a b h1 h2
    simp at h1 h2;subst h1 h2;exact .head _
   ·intro a b h1 h2
    exact .tail _ (ih (by simpa using h1) (by simpa using h2))
noncomputable def SP(Y:Env)(R:List Addr):List Addr:=(Y.locals::(Y.cells.map (·.1)).filterMap fun x=>Y.cells.lookup x)++R
theorem Dn{b:Addr}:b∈SP Y R↔(b=Y.locals∨∃x,Y.cells.lookup x=some b)∨b∈R:=by
 delta SP
 rewrite[mem_append];rewrite[mem_cons];rewrite[List.mem_filterMap]
 refine or_congr (or_congr Iff.rfl ⟨fun⟨x,_,e⟩=>⟨x,e⟩,fun⟨x,e⟩=>⟨x,?_,e⟩⟩) Iff.rfl
 exact mem_map.mpr ⟨(x,b),mem_of_lookup e,rfl⟩
theorem Wd(base:∀b o,U.get? b=some o→vis R cs h b o)(inb:∀b∈R,∃o,h.get? b=some o)(sep:∀b∈R,b∉cs)(alive:∀b∈cs,∃o,h.get? b=some o)
 (hk:∀b o,h.get? b=some o→h'.get? b=some o) (hl:h.get? Y.locals=none∧∃m,h'.Ns Y.locals m) (hc:∀x c,Y.cells.lookup x=some c→h.get? c=none∧∃v,h'.IsCell c v) (names:(st.map (·.1)).Nodup)
 (ks:Str→List Addr) (rows:∀x a,(x,a)∈st→∃u,AB h' Y x u∧Cp (vis R cs h) h u a (ks x)∧∀b∈ks x,b∈cs) (apart:∀x y,x≠y→∀c∈ks x,c∉ks y):
 Rel U (SP Y R) Y st cs h'∧∀b o,vis R cs h b o→vis (SP Y R) cs h' b o:=by
 have new:∀b,(b=Y.locals∨∃x,Y.cells.lookup x=some b)→h.get? b=none:=fun b q=>q.elim (fun q=>q▸hl.1) fun⟨x,e⟩=>(hc x b e).1
 have kv:∀b o,vis R cs h b o→vis (SP Y R) cs h' b o:=(by rintro b o ⟨p,q,e⟩;exact⟨fun z=>(Dn.mp z).elim (fun z=>by rw[new b z]at e;cases e) p,q,hk b o e⟩)
 refine⟨⟨?_,names,fun b hb q=>?_,Dn.mpr (.inl (.inl rfl)),fun x c e=>Dn.mpr (.inl (.inr ⟨x,e⟩)),hl.2,fun x c e=>(hc x c e).2,fun b hb=>?_,fun b o e=>kv b o (base b o e)⟩,kv⟩
 ·have ch:∀x,∃u,∀a,(x,a)∈st→AB h' Y x u∧Cp (vis R cs h) h u a (ks x):=fun x=>by
   by_cases q:∃a,(x,a)∈st
   ·obtain⟨a,ha⟩:=q
    obtain⟨u,hu,_,_⟩:=rows x a ha
    refine⟨u,fun b hb=>?_⟩
    obtain⟨u',hu',r',_⟩:=rows x b hb
    cases hu.unique hu'
    exact⟨hu,r'⟩
   ·exact⟨.none,fun a ha=>absurd ⟨a,ha⟩ q⟩
  refine⟨fun x=>(ch x).choose,ks,fun x a hx=>?_,fun x a y b V V ne=>apart x y ne⟩
  obtain⟨p,q⟩:=(ch x).choose_spec a hx
  obtain⟨_,_,_,t⟩:=rows x a hx
  exact⟨p,q.mono kv fun b V o e=>hk b o e,t⟩
 ·rcases Dn.mp hb with z|z
  ·obtain⟨o,e⟩:=alive b q;rw[new b z]at e;cases e
  ·exact sep b z q
 ·rcases Dn.mp hb with(z|⟨x,z⟩)|z
  ·obtain⟨m,o,_,_,e,_⟩:=hl.2;exact⟨o,z▸e⟩
  ·obtain⟨_,v,o,e,_⟩:=hc x b z;exact⟨o,e⟩
  ·obtain⟨o,e⟩:=inb b z;exact⟨o,hk b o e⟩
theorem SQ(r:Rel U (SP Y R) Y st cs h'):Zb Y cs h':=fun b hb=>by
 have hm:b∈SP Y R:=Dn.mpr (.inl hb)
 exact⟨r.sep b hm,r.inb b hm⟩
theorem KR(hk:∀b o,h.get? b=some o→h'.get? b=some o)(hl:h.get? Y.locals=none)(hc:∀x c,Y.cells.lookup x=some c→h.get? c=none)(s:Bc Y cs h' as' h2)(sub:∀b∈cs',b∈as'):Ai cs h cs' h2:=
 ⟨fun b o hb e=>s.keep b o (fun q=>by rw[q,hl]at e;cases e) (fun x V q=>by rw[hc x b q]at e;cases e) hb (hk b o e),
  fun b hb=>(s.fresh b (sub b hb)).imp id fun q=>(LY.of hk).none q,(LY.of hk).trans s.live⟩
theorem FnL.of(S:Ao O K U){p:Str}{ps:List Str}{a:AF}{Q:Dat→AF→Prop}(ok:YN K f fd body (p::ps))(hp:DZ fd.scope p=true)(hlen:ds.length=ps.length)
 (h:Ss O w U fd.scope n body ((p,a)::BE ps ds) (fun fl st'=>∃a',look p st'=some a'∧Q (flD fl) a')):FnL O w U (n+1) f a ds Q:=by
 refine⟨fun A R cs s v vs hR base inb sep rep fz=>?_⟩
 have hvl:vs.length=ds.length:=fz.length
 have nd:=nodup_cons.mp ok.nodup
 refine Zw S ok hR (by simp[hvl,hlen]) (fun b o e=>(base b o e).2.2) fun Y h' tk hE hk hl hc hv=>?_
 have hpv:AB h' Y p v:=hv p v (.head _)
 have rows:∀x b,(x,b)∈(p,a)::BE ps ds→∃u,AB h' Y x u∧Cp (vis R cs s.heap) s.heap u b (if x=p then cs else[])∧∀c∈(if x=p then cs else[]),c∈cs:=fun x b hx=>by
  rcases mem_cons.mp hx with q|q
  ·cases q
   exact⟨v,hpv,by simpa using rep,by simp⟩
  ·obtain⟨k,d,h1,h2,rfl⟩:=GB q
   have ne:x≠p:=fun e=>nd.1 (e▸List.mem_of_getElem? h1)
   obtain⟨u,hu,fu⟩:∃u,vs[k]?=some u∧Fz (vis R cs s.heap) u d:=fz.get h2
   exact⟨u,hv x u (.tail _ (GC h1 hu)),by simp only[ne,if_false];exact .dat fu,by simp[ne]⟩
 have apart:∀x y,x≠y→∀c∈(fun x=>if x=p then cs else[]) x,c∉(fun x=>if x=p then cs else[]) y:=fun x y ne c hc1=>by
  dsimp only at hc1⊢
  by_cases q:x=p
  ·refine rr (if_neg (fun e=>ne (q.trans e.symm))) ?_;exact fun z=>nomatch z
  ·rw[if_neg q]at hc1;cases hc1
 obtain⟨r,kv⟩:=Wd (st:=(p,a)::BE ps ds) base inb sep rep.alive hk hl hc (by
  simp only[map_cons,nodup_cons];exact⟨fun q=>nd.1 (GW q),Ey nd.2⟩) (fun x=>if x=p then cs else[]) rows apart
 refine wpAny_mono (h (A.deeper Y) Y _ cs {s with heap:=h',toks:=tk} (hR.deep hE ok.gen ok.co) hE r) ?_ fun V V x=>x
 rintro fl s2 ⟨fl',st',as',h2,t2,rfl,S2,r2,fo,a',ha',q⟩
 have pv2:AB h2 Y p v:=S2.pin (SQ r) p v (by refine rr hE.isSc ?_;exact hp) hpv
 obtain⟨v',cs',hv',rep',sub'⟩:=r2.row ha'
 cases hv'.unique pv2
 have kv2:∀b o,vis (SP Y R) as' h2 b o→vis R cs' h2 b o:=(by rintro b o ⟨p,q,e⟩;exact⟨fun z=>p (Dn.mpr (.inr z)),fun z=>q (sub' b z),e⟩)
 exact⟨flD fl',a',cs',h2,t2,rfl,KR hk hl.1 (fun x c e=>(hc x c e).1) S2 sub',rep'.mono kv2 fun V V V e=>e,fo.val.mono kv2,q⟩
theorem FnP.of(S:Ao O K U){ps:List Str}{Q:Dat→Prop}(ok:YN K f fd body ps)(hlen:ds.length=ps.length)
 (h:Ss O w U fd.scope n body (BE ps ds) (fun fl V=>Q (flD fl))):FnP O w U (n+1) f ds Q:=by
 refine⟨fun A R s vs hR base inb fz=>?_⟩
 have hvl:vs.length=ds.length:=fz.length
 refine Zw S ok hR (by simp[hvl,hlen]) (fun b o e=>(base b o e).2.2) fun Y h' tk hE hk hl hc hv=>?_
 have rows:∀x b,(x,b)∈BE ps ds→∃u,AB h' Y x u∧Cp (vis R [] s.heap) s.heap u b []∧∀c∈([]:List Addr),c∈([]:List Addr):=fun x b hx=>by
  obtain⟨k,d,h1,h2,rfl⟩:=GB hx
  obtain⟨u,hu,fu⟩:∃u,vs[k]?=some u∧Fz (vis R [] s.heap) u d:=fz.get h2
  exact⟨u,hv x u (GC h1 hu),.dat fu,fun V h=>h⟩
 obtain⟨r,kv⟩:=Wd (st:=BE ps ds) base inb (fun V V=>not_mem_nil) Cc hk hl hc (Ey ok.nodup) (fun V=>[]) rows (fun x y ne c hc1=>nomatch hc1)
 refine wpAny_mono (h (A.deeper Y) Y _ [] {s with heap:=h',toks:=tk} (hR.deep hE ok.gen ok.co) hE r) ?_ fun V V x=>x
 rintro fl s2 ⟨fl',st',as',h2,t2,rfl,S2,r2,fo,q⟩
 have kv2:∀b o,vis (SP Y R) as' h2 b o→vis R [] h2 b o:=(by rintro b o ⟨p,q,e⟩;exact⟨fun z=>p (Dn.mpr (.inr z)),(fun z=>nomatch z),e⟩)
 exact⟨flD fl',h2,t2,rfl,KR hk hl.1 (fun x c e=>(hc x c e).1) S2 Cc,fo.val.mono kv2,q⟩
def GlF(sc:Scope)(K:Frag)(x:Str)(v:Value):Prop:=sc.names.lookup x=some .globalImplicit∧nsIn K mainGlobals x=some (some v)∧(x==("__debug__":Str))=false
theorem Nd(S:Ao O K U)(g:GlF sc K x v){p:Pos}{Q:Value→Shared→Prop}(hE:AN sc Y)(r:Rel U R Y st as s.heap)(q:Q v s):
 wpAny (model O w) A (eval (.Name x p) Y) Q E s:=by
 obtain⟨mg,mb,G,B,hb⟩:=S.top
 have k:∀b o,U.get? b=some o→s.heap.get? b=some o:=fun b o e=>(r.base b o e).2.2
 have ek:Y.kindOf x=sc.names.lookup x:=by show Y.scope.names.lookup x=_;refine rr hE.isSc ?_;rfl
 exact Name_function_global (by refine rr hE.isSc ?_;exact hE.kind) (ek.trans g.1) (loadGlobal_global (by refine rr hE.glob ?_;exact G.keeps k) (mg_of S.X G g.2.1) q) g.2.2
theorem KS(S:Ao O K U){p:Pos}{Q:EV→St→Prop}(g:GlF sc K x v)(f:Fz (fun b o=>K.lookup b=some o) v d)(q:Q (.dat d) st):Ev O w U sc n (.Name x p) st Q:=by
 intro A Y R as s _ hE r
 refine Nd S g hE r (PE.grown (t1:=s.toks) r rfl (fun V V e=>e) (f.mono fun b o e=>r.base b o (S.X b o e)) q)
def GlB(sc:Scope)(K:Frag)(x:Str):Prop:=sc.names.lookup x=some .globalImplicit∧nsIn K mainGlobals x=some none∧(x==("__debug__":Str))=false∧x≠"__name__"
theorem HA(S:Ao O K U)(g:GlB sc K x)(hv:bootBuiltins x=some v){p:Pos}{Q:Value→Shared→Prop}(hE:AN sc Y)(r:Rel U R Y st as s.heap)(q:Q v s):
 wpAny (model O w) A (eval (.Name x p) Y) Q E s:=by
 obtain⟨mg,mb,G,B,hb⟩:=S.top
 have k:∀b o,U.get? b=some o→s.heap.get? b=some o:=fun b o e=>(r.base b o e).2.2
 have ek:Y.kindOf x=sc.names.lookup x:=by show Y.scope.names.lookup x=_;refine rr hE.isSc ?_;rfl
 exact Name_function_global (by refine rr hE.isSc ?_;exact hE.kind) (ek.trans g.1) (loadGlobal_builtin (by refine rr hE.glob ?_;exact G.keeps k) (mg_none_of S.X G g.2.1) (by refine rr hE.blt ?_;exact B.keeps k) ((hb x g.2.2.2).trans hv) q) g.2.2.1
theorem Zx{a:AF}{Q:EV→St→Prop}(hR:CG A n)(r0:Rel U R Y st as s.heap)(hx:look x st=some a)(hv:AB s.heap Y x v)(fz:FzL (vis R as s.heap) vs ds)
 (h:FnL O w U n f a ds fun d a'=>Q (.dat d) (put x a' st)):wpAny (model O w) A (call (.ref f) (v::vs)) (PE U R Y as s Q) (fun V V=>False) s:=by
 refine r0.trimP fun as1 sub hlt r=>?_
 have fz1:FzL (vis R as1 s.heap) vs ds:=FzL.mono (Ai.less sub).vis fz
 refine Rel.mut (ns:=[]) r hx hv r.locR r.celR fun cs rep csub k=>?_
 have kv:∀b o,vis R as1 s.heap b o→vis (R++as1.filter (fun b=>decide (b∉cs))) cs s.heap b o:=fun b o ⟨p,q,e⟩=>
  ⟨fun z=>(mem_append.mp z).elim p fun z=>q (mem_filter.mp z).1,fun z=>q (csub b z),e⟩
 refine wpAny_mono (wpAny_call (h.run A (R++as1.filter (fun b=>decide (b∉cs))) cs s v vs hR (fun b o e=>kv b o (r.base b o e)) (fun b hb=>(mem_append.mp hb).elim (r.inb b) fun z=>hlt b (mem_filter.mp z).1)
  (fun b hb z=>(mem_append.mp hb).elim (fun y=>r.sep b y (csub b z)) fun y=>of_decide_eq_true (mem_filter.mp y).2 z) (rep.mono kv fun V V V e=>e) (fz1.mono kv))) ?_ fun V V x=>x
 rintro u s1 ⟨d,a',cs',h',tk',rfl,e1,rep1,f1,q⟩
 have M:Mut R as1 [] cs cs' s.heap h':=⟨csub,fun b o hb e=>e1.keep b o hb e,e1.live,fun b hb=>(e1.fresh b hb).imp id .inr,Cc⟩
 have kv2:∀b o,vis (R++as1.filter (fun b=>decide (b∉cs))) cs' h' b o→vis R (swp cs cs' as1) h' b o:=fun b o ⟨p,q,e⟩=>
  ⟨fun z=>p (mem_append_left _ z),fun z=>(Ep.mp z).elim q fun z=>p (mem_append_right _ (mem_filter.mpr ⟨z.1,decide_eq_true z.2⟩)),e⟩
 have r1:=k M (rep1.mono kv2 fun V V V e=>e)
 exact⟨.dat d,_,_,h',tk',rfl,(Ai.less sub).trans (M.step (Ai.refl _ _) Cc),r1,f1.mono kv2,q⟩
theorem Zy{Q:EV→St→Prop}(hR:CG A n)(r0:Rel U R Y st as s.heap)(fz:FzL (vis R as s.heap) vs ds)
 (h:FnP O w U n f ds fun d=>Q (.dat d) st):wpAny (model O w) A (call (.ref f) vs) (PE U R Y as s Q) (fun V V=>False) s:=by
 refine r0.trimP fun as1 sub hlt r=>?_
 have fz1:FzL (vis R as1 s.heap) vs ds:=FzL.mono (Ai.less sub).vis fz
 have kv:∀b o,vis R as1 s.heap b o→vis (R++as1) [] s.heap b o:=by rintro b o ⟨p,q,e⟩;exact⟨fun z=>(mem_append.mp z).elim p q,(fun z=>nomatch z),e⟩
 refine wpAny_mono (wpAny_call (h.run A (R++as1) s vs hR (fun b o e=>kv b o (r.base b o e)) (fun b hb=>(mem_append.mp hb).elim (r.inb b) (hlt b)) (fz1.mono kv))) ?_ fun V V x=>x
 rintro u s1 ⟨d,h',tk',rfl,e1,f1,q⟩
 have keep:∀b o,s.heap.get? b=some o→h'.get? b=some o:=fun b o e=>e1.keep b o (fun z=>nomatch z) e
 have kv2:∀b o,vis (R++as1) [] h' b o→vis R as1 h' b o:=by rintro b o ⟨p,q,e⟩;exact⟨fun z=>p (mem_append_left _ z),fun z=>p (mem_append_right _ z),e⟩
 exact PE.after (s:=s) (t1:=s.toks) (Ai.less sub) (PE.grown (t1:=tk') (h1:=h') r rfl keep (f1.mono kv2) q)
theorem SR(S:Ao O K U){g:Str}{p:Pos}{Q:EV→St→Prop}(hg:GlF sc K g (.ref f))(hk:keepIn K (.ref f)=true)
 (h:El O w U sc n (e::es) st fun ds st1=>FnP O w U n f ds fun d=>Q (.dat d) st1)
 (he:autoParam (∀Y,starEach (e::es) Y=(false,eval e Y)::starEach es Y) au.a1._auto_1) (hp:autoParam (∀Y,(backTo pos (starEach es Y)).any (·.1)=false) au.a1._auto_1):
 Ev O w U sc n (.Call (.Name g p) (e::es) [] pos) st Q:=by
 intro A Y R as s hR hE r
 refine Call_Name rfl (Nd S hg hE r (callWith_K (S.at r) hk ?_ (he Y) (hp Y)))
 refine h.go hR hE r fun vs ds st1 as1 h1 t1 e1 r1 f1 q=>?_
 exact⟨S.at r1,wpAny_mono (Zy (s:={s with heap:=h1,toks:=t1}) hR r1 f1 q) (fun V V p=>PE.after (t1:=t1) e1 p) fun V V x=>x⟩
theorem ST(S:Ao O K U){g:Str}{p:Pos}{a0:AF}{Q:EV→St→Prop}(hg:GlF sc K g (.ref f))(hk:keepIn K (.ref f)=true)(h0:look x st=some a0)
 (h:El O w U sc n es st fun ds st1=>∃a,look x st1=some a∧FnL O w U n f a ds fun d a'=>Q (.dat d) (put x a' st1))
 (h1':VN x a0=.own x)
 (he:autoParam (∀Y,starEach (.Name x px::es) Y=(false,eval (.Name x px) Y)::starEach es Y) au.a1._auto_1) (hp:autoParam (∀Y,(backTo pos (starEach es Y)).any (·.1)=false) au.a1._auto_1)
 (hd:autoParam ((x==("__debug__":Str))=false) au.a2._auto_1) (hc:autoParam ((x==("__classdict__":Str))=false) au.a2._auto_1):
 Ev O w U sc n (.Call (.Name g p) (.Name x px::es) [] pos) st Q:=by
 intro A Y R as s hR hE r
 refine Call_Name rfl (Nd S hg hE r (callWith_K (S.at r) hk ?_ (he Y) (hp Y)))
 refine wpAny_items_cons ?_ (he Y)
 refine r.rowP h0 fun v cs hv V V=>?_
 refine CZ hE hv ?_ hd hc
 refine h.go hR hE r fun vs ds st1 as1 h1 t1 e1 r1 f1 qq=>?_
 obtain⟨a,hx,q⟩:=qq
 have hv1:AB h1 Y x v:=Pu.step (R:=R) (ev:=.own x) hv e1 r.locA r.celA
 exact⟨S.at r1,wpAny_mono (Zx (s:={s with heap:=h1,toks:=t1}) hR r1 hx hv1 f1 q) (fun V V p=>PE.after (t1:=t1) e1 p) fun V V x=>x⟩
structure KT(K:Frag)(C:Addr)(name:Str)(f:Addr):Prop where
 find:findIn K (.ref C) name=some (some (.ref f))
 fn:typeIn K (.ref f)=some (.type "function")
 keep:keepIn K (.ref f)=true
theorem PY{o:Expr}{a:Addr}{od:Obj}{apos:Pos}{args:List Expr}{Q:Value→Shared→Prop}
 (hbase:attributeBase o name Y (eval o Y)=eval o Y)
 (hfew:((backTo pos (starEach args Y)).all (fun x=>!x.1)&&(backToKw pos (keywordEach [] Y)).all (fun x=>x.1.isSome)
  &&decide (args.length+([]:List Keyword).length+(if([]:List Keyword).isEmpty then 0 else 1)<30))=true)
 (hline:(apos.endLine==pos.line)=true) (X:K.In s.heap) (ok:CU K C) (mo:KT K C name f) (g1:s.heap.get? a=some (instObj C dx)) (g2:s.heap.get? dx=some od) (hn:LCg.NsObj od m) (free:m name=none)
 (h:wpAny (model O w) A (eval o Y) (fun ov s₁=>ov=.ref a∧s₁=s∧
  wpAny (model O w) A (callWith pos (.ref f) [.ref a] (backTo pos (starEach args Y)) []) Q E s) E s):
 wpAny (model O w) A (eval (.Call (.Attribute o name apos) args [] pos) Y) Q E s:=by
 refine rr (arm_eval_Call ..) (rr hbase ?_)
 refine wpAny_bind (wpAny_mono h (fun ov s₁ h₁=>?_) fun V V e=>e)
 obtain⟨rfl,rfl,hc⟩:=h₁
 refine wpAny_bind (wpAny_standAt ?_)
 have hform:methodCallForm (args.length+([]:List Keyword).length) (backTo pos (starEach args Y)) (backToKw pos (keywordEach [] Y))=true:=hfew
 have hpos:methodCallPos true o Y apos pos=pure pos:=by delta methodCallPos;simp[hline]
 delta methodCall
 refine rr hform ?_
 refine wpAny_bind (wpAny_holding (method_fn X (Mc g1 g2) ok.get ok.geta mo.find mo.fn (by show(lookIn name od).map _=_;rewrite[JA hn];refine rr free ?_;rfl) ?_))
 exact wpAny_bind (wpAny_of_eq hpos hc)
theorem NsObj.free{ns:List Str}(ex:∀y v,m y=some v→y∈ns)(h:ns.contains name=false):m name=none:=by
 cases e:m name with
 |none=>rfl
 |some v=>exact absurd (by simpa using ex _ _ e) (by simpa using h)
theorem SU(S:Ao O K U){Q:EV→St→Prop}(h0:look x st=some (.obj C fs))(ok:CU K C)(mo:KT K C name f)(free:(fs.map (·.1)).contains name=false)
 (h:El O w U sc n (e::es) st fun ds st1=>∃a,look x st1=some a∧FnL O w U n f a ds fun d a'=>Q (.dat d) (put x a' st1))
 (hfew:autoParam (∀Y,((backTo pos (starEach (e::es) Y)).all (fun x=>!x.1)&&(backToKw pos (keywordEach [] Y)).all (fun x=>x.1.isSome)
  &&decide ((e::es).length+([]:List Keyword).length+(if([]:List Keyword).isEmpty then 0 else 1)<30))=true) au.a1._auto_1)
 (hline:autoParam ((ap.endLine==pos.line)=true) au.a3._auto_1)
 (he:autoParam (∀Y,starEach (e::es) Y=(false,eval e Y)::starEach es Y) au.a1._auto_1) (hp:autoParam (∀Y,(backTo pos (starEach es Y)).any (·.1)=false) au.a1._auto_1)
 (hd:autoParam ((x==("__debug__":Str))=false) au.a2._auto_1) (hc:autoParam ((x==("__classdict__":Str))=false) au.a2._auto_1):
 Ev O w U sc n (.Call (.Attribute (.Name x px) name ap) (e::es) [] pos) st Q:=by
 intro A Y R as s hR hE r
 refine r.objP h0 fun a' dx o m cs hv g1 g2 hn fl ex=>?_
 ·
  refine PY rfl (hfew Y) hline (S.at r) ok mo g1 g2 hn (NsObj.free ex free) (CZ hE hv ⟨rfl,rfl,callWith_K (S.at r) mo.keep ?_ (he Y) (hp Y)⟩ hd hc)
  refine h.go hR hE r fun vs ds st1 as1 h1 t1 e1 r1 f1 qq=>?_
  obtain⟨a,hx,q⟩:=qq
  have hv1:AB h1 Y x _:=Pu.step (R:=R) (ev:=.own x) hv e1 r.locA r.celA
  exact⟨S.at r1,wpAny_mono (Zx (s:={s with heap:=h1,toks:=t1}) hR r1 hx hv1 f1 q) (fun V V p=>PE.after (t1:=t1) e1 p) fun V V x=>x⟩
theorem PZ(S:Ao O K U){fs:List (Str×Dat)}{Q:EV→St→Prop}(h0:look x st=some (.dat (.inst C fs)))(ok:CU K C)(mo:KT K C name f)(free:(fs.map (·.1)).contains name=false)
 (h:FnP O w U n f [.inst C fs] fun d=>Q (.dat d) st)
 (hfew:autoParam (∀Y,((backTo pos (starEach [] Y)).all (fun x=>!x.1)&&(backToKw pos (keywordEach [] Y)).all (fun x=>x.1.isSome)
  &&decide (([]:List Expr).length+([]:List Keyword).length+(if([]:List Keyword).isEmpty then 0 else 1)<30))=true) au.a1._auto_1)
 (hline:autoParam ((ap.endLine==pos.line)=true) au.a3._auto_1)
 (hd:autoParam ((x==("__debug__":Str))=false) au.a2._auto_1) (hc:autoParam ((x==("__classdict__":Str))=false) au.a2._auto_1):
 Ev O w U sc n (.Call (.Attribute (.Name x px) name ap) [] [] pos) st Q:=by
 intro A Y R as s hR hE r
 refine r.datP h0 fun v hv fz=>?_
 have fz0:=FzL.cons fz .nil
 revert hv fz0
 exact fz.instP fun a' dx o m g1 g2 hn ff ex hv fz0=>PY rfl (hfew Y) hline (S.at r) ok mo g1.2.2 g2.2.2 hn (NsObj.free ex free) (CZ hE hv ⟨rfl,rfl,callWith_K0 (S.at r) mo.keep (Zy hR r fz0 h)⟩ hd hc)
theorem CG.under(r:CG A (n+1)):CG (A.under (.builtin "type.__call__" ⟨.ref C::vs,[]⟩)) n:=by
 obtain⟨h1,h2,h3,h4⟩:=r
 refine⟨h1,?_,?_,h4⟩
 ·show A.depth+1+3*n+110<recursionLimit
  exact(Ay h2)
 ·show A.units+1+20*n+100<cLine
  exact(Ay h3)
theorem We:LCg.NsObj emptyDict (fun V=>none):=⟨#[],0,rfl,fun e he=>by simp at he,fun V=>rfl⟩
theorem Qa(S:Ao O K U){g:Str}{fI:Addr}{p:Pos}{Q:AF→St→Prop}(hg:GlF sc K g (.ref C))(hk:keepIn K (.ref C)=true)(hm:makesIn K C=true)
 (hi:findIn K (.ref C) "__init__"=some (some (.ref fI))) (hf:typeIn K (.ref fI)=some (.type "function"))
 (h:El O w U sc (n+1) (e::es) st fun ds st1=>FnL O w U n fI (.obj C []) ds fun d a'=>d=.none∧Q a' st1)
 (he:autoParam (∀Y,starEach (e::es) Y=(false,eval e Y)::starEach es Y) au.a1._auto_1) (hp:autoParam (∀Y,(backTo pos (starEach es Y)).any (·.1)=false) au.a1._auto_1):
 Ef O w U sc (n+1) (.Call (.Name g p) (e::es) [] pos) st Q:=by
 intro A Y R as s hR hE r
 refine Call_Name rfl (Nd S hg hE r (callWith_K (S.at r) hk ?_ (he Y) (hp Y)))
 refine h.go hR hE r fun vs ds st1 as0 h1 t1 e1 r0 f0 q=>?_
 refine⟨S.at r0,?_⟩
 refine r0.trimP fun as1 sub hlt r1=>?_
 have f1:FzL (vis R as1 h1) vs ds:=FzL.mono (Ai.less sub).vis f0
 have X:=S.at r1
 refine wpAny_call (make_core (makes_of X hm) (looks_findIn X hi) (fun self=>bind_fn X self hf) (.inl rfl) ?_)
 have k:∀b o,h1.get? b=some o→((h1.push emptyDict).push (instObj C h1.objs.size)).get? b=some o:=fun b o e=>get?_push_of_some _ (get?_push_of_some _ e)
 have gd:((h1.push emptyDict).push (instObj C h1.objs.size)).get? h1.objs.size=some emptyDict:=get?_push_of_some _ (get?_push_size _ rfl)
 have gx:((h1.push emptyDict).push (instObj C h1.objs.size)).get? (h1.objs.size+1)=some (instObj C h1.objs.size):=by
  have:=get?_push_size (h1.push emptyDict) (o:=instObj C h1.objs.size) rfl
  rwa [size_push]at this
 have nx:h1.get? (h1.objs.size+1)=none:=AH _ (le_succ _)
 have nd:h1.get? h1.objs.size=none:=AH _ (le_refl _)
 have new:∀b∈[h1.objs.size+1,h1.objs.size],h1.get? b=none:=VT (p:=fun b=>h1.get? b=none) nx nd
 have kv:∀b o,vis R as1 h1 b o→vis (R++as1) [h1.objs.size+1,h1.objs.size] ((h1.push emptyDict).push (instObj C h1.objs.size)) b o:=fun b o ⟨p,q,e⟩=>
  ⟨fun z=>(mem_append.mp z).elim p q,fun z=>Hz (new b z) e,k b o e⟩
 have alive:∀b∈R++as1,∃o,h1.get? b=some o:=fun b hb=>(mem_append.mp hb).elim (r1.inb b) (hlt b)
 refine codeAny_mono (q.run (A.under (.builtin "type.__call__" ⟨.ref C::vs,[]⟩)) (R++as1) [h1.objs.size+1,h1.objs.size] {s with heap:=(h1.push emptyDict).push (instObj C h1.objs.size),toks:=t1} (.ref (h1.objs.size+1)) vs hR.under (fun b o e=>kv b o (r1.base b o e)) (fun b hb=>(by obtain⟨o,e⟩:=alive b hb;exact⟨o,k b o e⟩)) (fun b hb z=>Bf (new b z) (alive b hb))
  (.obj gx gd We .nil (by simp) (by simp) ⟨fun V V=>IN,fun es ep h=>(by cases h;exact le_refl 0)⟩) (f1.mono kv)) ?_
 rintro rr s2 hb
 rcases rr with er|(v|_|_|_)<;>first|exact hb|skip
 obtain⟨d,a',cs',h',tk',rfl,e2,rep,fr,rfl,q'⟩:=hb
 cases fr
 refine⟨rfl,?_⟩
 have keep:∀b o,h1.get? b=some o→h'.get? b=some o:=fun b o e=>e2.keep b o (fun z=>Hz (new b z) e) (k b o e)
 have hcs:∀b∈cs',h1.get? b=none:=fun b hb=>(e2.fresh b hb).elim (new b) fun z=>(LY.of k).none z
 obtain⟨r3,kv3⟩:=r1.laid (cs:=cs') keep (fun b hb=>⟨hcs b hb,rep.alive b hb⟩) hlt
 refine⟨a',st1,as1,h',tk',cs',rfl,(e1.trans (Ai.less sub)).trans (Ai.grow _ keep),r3,rep.mono (by rintro b o ⟨p,q,e⟩;exact⟨fun z=>(mem_append.mp z).elim q fun z=>p (mem_append_left _ z),fun z=>p (mem_append_right _ z),e⟩) fun V V V e=>e,fun b hb=>e1.live.none (hcs b hb),q'⟩
structure Src(O:Program)(w:World)(A:Around)(tgt:Expr)(I:Addr)(fp wr:List Addr)(G:Cd)(ds:List Dat)(St:Nat→Heap→Prop)(Mid:Nat→Value→Heap→Prop):Prop where
 sub:∀b∈wr,b∈fp
 seen:∀b∈fp,b∈wr∨∃o,G b o
 frame:∀i h h',St i h→(∀b∈fp,∀o,h.get? b=some o→h'.get? b=some o)→St i h'
 alive:∀i h,St i h→∀b∈wr,∃o,h.get? b=some o
 item:∀i (s:Shared) (Q:Option Value→Shared→Prop) (E:Value→Shared→Prop) (d:Dat),ds[i]?=some d→St i s.heap→(∀b o,G b o→s.heap.get? b=some o)→
  (∀v h' tk,Fz (fun b o=>G b o∨(s.heap.get? b=none∧h'.get? b=some o)) v d→Mid i v h'→(∀b o,b∉wr→s.heap.get? b=some o→h'.get? b=some o)→Q (some v) {s with heap:=h',toks:=tk})→wpAny (model O w) A (pyNext (.ref I)) Q E s
 go:∀i v (s:Shared) (Q:Unit→Shared→Prop) (E:Value→Shared→Prop),Mid i v s.heap→(∀h',St (i+1) h'→(∀b o,b∉wr→s.heap.get? b=some o→h'.get? b=some o)→Q () {s with heap:=h'})→wpAny (model O w) A (letOwnedTupleGo tgt (.ref I) v) Q E s
 done:∀(s:Shared) (Q:Option Value→Shared→Prop) (E:Value→Shared→Prop),St ds.length s.heap→(∀h' tk,(∀b o,b∉wr→s.heap.get? b=some o→h'.get? b=some o)→Q none {s with heap:=h',toks:=tk})→wpAny (model O w) A (pyNext (.ref I)) Q E s
 self:∀i (s:Shared) (Q:Value→Shared→Prop) (E:Value→Shared→Prop),St i s.heap→Q (.ref I) s→wpAny (model O w) A (pyIter (.ref I)) Q E s
theorem Bc.over(S:Bc Y as h as1 h1)(k:∀b o,b∉wr→h1.get? b=some o→h2.get? b=some o)(fr:∀b∈wr,h.get? b=none):Bc Y as h as1 h2:=by
 have off:∀b o,h.get? b=some o→b∉wr:=fun b o e q=>by rw[fr b q]at e;cases e
 refine⟨fun b o n1 n2 hb e=>k b o (off b o e) (S.keep b o n1 n2 hb e),S.fresh,fun b o e=>(by obtain⟨o',e'⟩:=S.live b o e;exact⟨o',k b o' (off b o e) e'⟩),fun F x v hp hv=>(S.pin F x v hp hv).keep fun b o hb e=>?_⟩
 obtain⟨_,o',e'⟩:=F b hb
 exact k b o (off b o' e') e
theorem Rel.turnR(r:Rel U (wr++R) Y st as h)(hl:Y.locals∈R)(hc:∀x c,Y.cells.lookup x=some c→c∈R)(off:∀b∈wr,b∉R)(k:∀b o,b∉wr→h.get? b=some o→h'.get? b=some o)(al:∀b∈wr,∃o,h'.get? b=some o):
 Rel U (wr++R) Y st as h'∧∀b o,vis (wr++R) as h b o→vis (wr++R) as h' b o:=by
 have kv:∀b o,vis (wr++R) as h b o→vis (wr++R) as h' b o:=(by rintro b o ⟨p,q,e⟩;exact⟨p,q,k b o (fun z=>p (mem_append_left _ z)) e⟩)
 have nR:∀b∈R,b∉wr:=fun b hb z=>off b z hb
 obtain⟨val,cs',hr,hd⟩:=r.1;have hn:=r.2;have hsep:=r.3;have hl':=r.4;have hc':=r.5;obtain⟨m,hm⟩:=r.6;have hcl:=r.7;have hi:=r.8;have hb:=r.9
 have na:∀b∈as,b∉wr:=fun b hb z=>hsep b (mem_append_left _ z) hb
 refine⟨⟨⟨val,cs',fun x a hx=>(by obtain⟨p,q,z⟩:=hr x a hx;exact⟨p.keep fun b o hb e=>k b o (hb.elim (fun q=>q▸nR _ hl) (by rintro⟨y,q⟩;exact nR _ (hc y b q))) e,q.mono kv fun b hb o e=>k b o (na b (z b hb)) e,z⟩),hd⟩,hn,hsep,hl',hc',⟨m,hm.at' fun o e=>k _ o (nR _ hl) e⟩,
  fun x c e=>(by obtain⟨v,o,ho,hd⟩:=hcl x c e;exact⟨v,o,k _ _ (nR _ (hc x c e)) ho,hd⟩),fun b hb=>?_,fun b o e=>kv b o (hb b o e)⟩,kv⟩
 rcases mem_append.mp hb with z|z
 ·exact al b z
 ·obtain⟨o,e⟩:=hi b (mem_append_right _ z);exact⟨o,k b o (nR b z) e⟩
theorem Rel.off(r:Rel U (wr++R) Y st as h)(hl:Y.locals∈R)(hc:∀x c,Y.cells.lookup x=some c→c∈R)(off:∀b∈wr,b∉R)(k:∀b o,b∉wr→h.get? b=some o→h'.get? b=some o):
 Rel U R Y st as h':=by
 have kv:∀b o,vis (wr++R) as h b o→vis R as h' b o:=(by rintro b o ⟨p,q,e⟩;exact⟨fun z=>p (mem_append_right _ z),q,k b o (fun z=>p (mem_append_left _ z)) e⟩)
 have nR:∀b∈R,b∉wr:=fun b hb z=>off b z hb
 obtain⟨⟨val,cs',hr,hd⟩,hn,hsep,hl',hc',⟨m,hm⟩,hcl,hi,hb⟩:=r
 have na:∀b∈as,b∉wr:=fun b hb z=>hsep b (mem_append_left _ z) hb
 exact⟨⟨val,cs',fun x a hx=>(by obtain⟨p,q,z⟩:=hr x a hx;exact⟨p.keep fun b o hb e=>k b o (hb.elim (fun q=>q▸nR _ hl) (by rintro⟨y,q⟩;exact nR _ (hc y b q))) e,q.mono kv fun b hb o e=>k b o (na b (z b hb)) e,z⟩),hd⟩,hn,fun b hb=>hsep b (mem_append_right _ hb),hl,hc,⟨m,hm.at' fun o e=>k _ o (nR _ hl) e⟩,
  fun x c e=>(by obtain⟨v,o,ho,hd⟩:=hcl x c e;exact⟨v,o,k _ _ (nR _ (hc x c e)) ho,hd⟩),fun b hb=>(by obtain⟨o,e⟩:=hi b (mem_append_right _ hb);exact⟨o,k b o (nR b hb) e⟩),fun b o e=>kv b o (hb b o e)⟩
inductive PS(O:Program)(w:World)(U:Heap)(A:Around)(R:List Addr)(Y:Env)(as:List Addr)(s:Shared)(tgt:Expr)(Q:List Dat→St→Prop)(it:Value)(s':Shared):Prop
 |mk (I:Addr) (ds:List Dat) (st':St) (as':List Addr) (h':Heap) (tk':Nat) (fp wr:List Addr) (S:Nat→Heap→Prop) (Mid:Nat→Value→Heap→Prop) (hi:it=.ref I) (hs:s'={s with heap:=h',toks:=tk'}) (e:Ai as s.heap as' h') (r:Rel U (wr++R) Y st' as' h') (src:Src O w A tgt I fp wr (vis (wr++R) as' h') ds S Mid) (s0:S 0 h') (f:∀b∈wr,s.heap.get? b=none) (q:Q ds st')
def Es(O:Program)(w:World)(U:Heap)(sc:Scope)(n:Nat)(iter tgt:Expr)(st:St)(Q:List Dat→St→Prop):Prop:=
 ∀(A:Around) (Y:Env) (R as:List Addr) (s:Shared),CG A n→AN sc Y→Rel U R Y st as s.heap→wpAny (model O w) A (eval iter Y) (fun x s1=>wpAny (model O w) A (pyIter x) (PS O w U A R Y as s tgt Q) (fun V V=>False) s1) (fun V V=>False) s
theorem Es.go{Q:List Dat→St→Prop}(h:Es O w U sc n iter tgt st Q){P E':Value→Shared→Prop}(hR:CG A n)(hE:AN sc Y)(r:Rel U R Y st as s.heap)
 (k:∀I ds st' as' h' tk' fp wr S Mid,Ai as s.heap as' h'→Rel U (wr++R) Y st' as' h'→Src O w A tgt I fp wr (vis (wr++R) as' h') ds S Mid→S 0 h'→(∀b∈wr,s.heap.get? b=none)→Q ds st'→P (.ref I) {s with heap:=h',toks:=tk'}):
 wpAny (model O w) A (eval iter Y) (fun x s1=>wpAny (model O w) A (pyIter x) P E s1) E' s:=
 wpAny_mono (h A Y R as s hR hE r) (fun V V hx=>wpAny_mono hx (by rintro _ _ ⟨I,ds,st',as',h',tk',fp,wr,S,Mid,hi,hs,e,r,W,h0,f,q⟩;exact hi▸hs▸k I ds st' as' h' tk' fp wr S Mid e r W h0 f q) fun V V e=>e.elim) fun V V e=>e.elim
def IV(Q:Fl→St→Prop)(next:St→Prop)(fl:Fl)(st:St):Prop:=match fl with
 | .next=>next st
 | .cont=>next st
 | .brk=>Q .next st
 | .ret d=>Q (.ret d) st
def Bv(O:Program)(w:World)(U:Heap)(sc:Scope)(n:Nat)(tgt:Expr)(body:List Stmt)(Q:Fl→St→Prop):List Dat→St→Prop
 |[],st=>Q .next st
 |d::ds,st=>As O w U sc n tgt d st fun st1=>Ss O w U sc n body st1 (IV Q (Bv O w U sc n tgt body Q ds))
theorem Mg{i:Nat}(h:i<k):k+1-(i+1)<k+1-i:=Nat.sub_lt_sub_left (Nat.lt_succ_of_lt h) (lt_succ_self i)
inductive Qb(O:Program)(w:World)(U:Heap)(sc:Scope)(n:Nat)(tgt:Expr)(body:List Stmt)(Q:Fl→St→Prop)(ds:List Dat)(R wr:List Addr)(Y:Env)(as:List Addr)(s:Shared)(as1:List Addr)(h1:Heap)(Sx:Nat→Heap→Prop)(k:Nat)(s':Shared):Prop
 |mk (i:Nat) (sti:St) (asi:List Addr) (h:Heap) (tk:Nat) (hs:s'={s with heap:=h,toks:=tk}) (hi:i≤ds.length) (hk:k=ds.length+1-i) (e:Bc Y as s.heap asi h) (r:Rel U (wr++R) Y sti asi h) (hst:Sx i h) (gv:∀b o,vis (wr++R) as1 h1 b o→vis (wr++R) asi h b o) (L:Bv O w U sc n tgt body Q (ds.drop i) sti)
theorem GX(h:Es O w U sc n iter tgt st (Bv O w U sc n tgt body Q))(hs:autoParam (∀Y x,foldedSetIterable iter Y x=pure x) au.a5._auto_1):
 Sx O w U sc n (.For tgt iter body [] pos) st Q:=by
 intro A Y R as s hR hE r
 refine wpAny_For (h.go hR hE r fun I ds st1 as1 h1 t1 fp wr Sx Mid e1 r1 W hst fr L=>?_) (hs Y)
 have offR:∀b∈wr,b∉R:=BS r fr
 have mkI:∀i sti asi h tk,i≤ds.length→Bc Y as s.heap asi h→Rel U (wr++R) Y sti asi h→Sx i h→(∀b o,vis (wr++R) as1 h1 b o→vis (wr++R) asi h b o)→Bv O w U sc n tgt body Q (ds.drop i) sti→Qb O w U sc n tgt body Q ds R wr Y as s as1 h1 Sx (ds.length+1-i) {s with heap:=h,toks:=tk}:=
  fun i sti asi h tk hi e r hst gv L=>⟨i,sti,asi,h,tk,rfl,hi,rfl,e,r,hst,gv,L⟩
 refine codeAny_forLoop_any (Qb O w U sc n tgt body Q ds R wr Y as s as1 h1 Sx) (fun k s' hI=>?_) (ds.length+1) (mkI 0 st1 as1 h1 t1 (zero_le _) e1.toS r1 hst (fun V V e=>e) L)
 obtain⟨i,sti,asi0,hh,tk,rfl,hi,rfl,S0,r0,hst,gv0,L⟩:=hI
 have mkX:=PX.mk' (U:=U) (R:=R) (Y:=Y) (as:=as) (s:=s) (Q:=Q)
 refine r0.trimP fun asi sub hlt r2=>?_
 have S2:Bc Y as s.heap asi hh:=S0.trans (Ai.less sub).toS
 have gv:∀b o,vis (wr++R) as1 h1 b o→vis (wr++R) asi hh b o:=fun b o e=>(Ai.less sub).vis b o (gv0 b o e)
 by_cases hlt2:i<ds.length
 ·have ed:ds[i]?=some ds[i]:=List.getElem?_eq_getElem hlt2
  rw[List.drop_eq_getElem_cons hlt2]at L
  refine W.item i _ _ _ _ ed hst (fun b o e=>(gv b o e).2.2) fun v h2 t2 fz mid k2=>?_
  refine W.go i v {s with heap:=h2,toks:=t2} _ _ mid fun h3 hst3 k3=>?_
  have k23:∀b o,b∉wr→hh.get? b=some o→h3.get? b=some o:=fun b o hb e=>k3 b o hb (k2 b o hb e)
  obtain⟨r3,kv3⟩:=r2.turnR r.locR r.celR offR k23 (W.alive _ _ hst3)
  have S3:Bc Y as s.heap asi h3:=S2.over k23 fr
  have gv3:∀b o,vis (wr++R) as1 h1 b o→vis (wr++R) asi h3 b o:=fun b o q=>kv3 b o (gv b o q)
  have fz3:Fz (vis (wr++R) asi h3) v ds[i]:=fz.mono fun b o q=>q.elim (gv3 b o) fun q=>
   have nwr:b∉wr++R:=fun z=>Bf q.1 (r2.inb b z)
   ⟨nwr,fun z=>Bf q.1 (hlt b z),k3 b o (fun z=>nwr (mem_append_left _ z)) q.2⟩
  have frames:∀{asj:List Addr}{h4:Heap},Bc Y asi h3 asj h4→Sx (i+1) h4:=fun{asj h4} S4=>W.frame _ _ _ hst3 fun b hb o e=>by
   rcases W.seen b hb with z|⟨o',z⟩
   ·exact S4.keep b o (fun q=>offR b z (q▸r.locR)) (fun x V q=>offR b z (r.celR x b q)) (r3.sep b (mem_append_left _ z)) e
   ·have:=gv3 _ _ z
    exact S4.keep b o (fun q=>this.1 (mem_append_right _ (q▸r.locR))) (fun x V q=>this.1 (mem_append_right _ (r.celR x b q))) this.2.1 e
  refine wpAny_mono (L A Y (wr++R) asi {s with heap:=h3,toks:=t2} v hR hE r3 fz3) ?_ fun V V x=>x.elim
  rintro _ s4 ⟨st4,as4,h4,t4,rfl,S4,r4,q4⟩
  refine q4.go (s:={s with heap:=h4,toks:=t4}) hR hE r4 fun f fl st5 as5 h5 t5 S5 r5 fo q5=>?_
  have S45:=S4.trans S5
  have Sall:Bc Y as s.heap as5 h5:=S3.trans S45
  have stay:Rel U R Y st5 as5 h5:=r5.off r.locR r.celR offR fun V V V e=>e
  have next:Bv O w U sc n tgt body Q (ds.drop (i+1)) st5→∃m,m<ds.length+1-i∧Qb O w U sc n tgt body Q ds R wr Y as s as1 h1 Sx m {s with heap:=h5,toks:=t5}:=
   fun L=>⟨ds.length+1-(i+1),Mg hlt2,mkI _ _ _ _ _ hlt2 Sall r5 (frames S45) (fun b o q=>S45.vis (R:=wr++R) (mem_append_right _ r.locR) (fun y c e=>mem_append_right _ (r.celR y c e)) b o (gv3 b o q)) L⟩
  cases f<;>cases fl<;>first|exact fo.elim|exact next q5|exact mkX _ .next _ _ _ _ Sall stay trivial q5|exact mkX _ (.ret _) _ _ _ _ Sall stay (fo.mono (by rintro b o ⟨p,q,e⟩;exact⟨fun z=>p (mem_append_right _ z),q,e⟩)) q5
 ·obtain rfl:=Nat.le_antisymm hi (Nat.le_of_not_lt hlt2)
  rw[List.drop_length]at L
  exact W.done _ _ _ hst fun h2 t2 k2=>wpAny_execs_nil (mkX _ .next _ _ _ _ (S2.over k2 fr) (r2.off r.locR r.celR offR k2) trivial L)
noncomputable def Hs(n:String):Bool:=!["enumerate","zip","dict_itemiterator","dict_reverseitemiterator","odict_iterator","itertools.zip_longest","itertools.pairwise"].contains n
theorem SV{Q:Unit→Shared→Prop}(ho:s.heap.get? I=some o)(hc:o.cls=.type T)(hT:Hs T=true)(q:Q () s):
 wpAny (model O w) A (letOwnedTupleGo tgt (.ref I) v) Q E s:=by
 obtain⟨c,d,dt,sl⟩:=o
 dsimp only at hc
 subst hc
 delta letOwnedTupleGo
 have key:wpAny (model O w) A (match(Value.ref I,v)with
  |(.ref r,.ref a)=>do
   let o←load r
   match o.cls,o.data with
   | .type n,.fields vs=>
    if["enumerate","zip","dict_itemiterator","dict_reverseitemiterator","odict_iterator","itertools.zip_longest","itertools.pairwise"].contains n&&vs[0]?==some (rawInt a)then
     rule "for.unpacks-the-owned-tuple"
     updateField r 0 .none
    else pure ()
   |_,_=>pure ()
  |_=>pure ()) Q E s:=by
  cases v<;>first|exact wpAny_pure q|skip
  refine wpAny_bind (wpAny_load ho ?_)
  cases dt<;>first|exact wpAny_pure q|skip
  dsimp only
  delta Hs at hT
  rw[Bool.not_eq_true']at hT
  refine rr hT (rr (Bool.false_and ..) ?_)
  exact wpAny_pure q
 cases tgt<;>first|exact wpAny_pure q|exact key
theorem Src.ofWalks{fp:List Addr}{G:Cd}{P:Nat→Value→Prop}(W:Walks O w A I fp [I] ds.length P S)(seen:∀b∈fp,b=I∨∃o,G b o)
 (hT:Hs T=true) (at_:∀i h,S i h→∃o,h.get? I=some o∧o.cls=.type T) (fz:∀i v d,P i v→ds[i]?=some d→Fz G v d):Src O w A tgt I fp [I] G ds S (fun i V h=>S (i+1) h) where
 sub:=W.sub
 seen:=fun b hb=>(seen b hb).imp (fun q=>by refine rr q ?_;exact .head _) id
 frame:=W.frame
 alive:=fun i h hs b hb=>(by obtain⟨o,e,_⟩:=at_ i h hs;exact At hb▸⟨o,e⟩)
 item:=fun i s Q E d ed hs hg hq=>W.item i s Q E (List.getElem?_eq_some_iff.mp ed).1 hs fun v h' tk hp hs' k=>hq v h' tk ((fz i v d hp ed).mono fun b o g=>.inl g) hs' k
 go:=fun i v s Q E hm hq=>(by obtain⟨o,e,c⟩:=at_ _ _ hm;exact SV e c hT (hq s.heap hm fun V V V e=>e))
 done:=W.done
 self:=W.self
theorem PS.mk'{Q:List Dat→St→Prop}{t2:Nat}{fp:List Addr}
 (e:Ai as s.heap as' h1) (r:Rel U R Y st' as' h1) (hlt:∀b∈as',∃o,h1.get? b=some o) (k:∀b o,h1.get? b=some o→h2.get? b=some o) (new:∀b∈wr,h1.get? b=none∧∃o,h2.get? b=some o)
 (W:Src O w A tgt I fp wr (vis (wr++R) as' h2) ds S Mid) (h0:S 0 h2) (q:Q ds st'):PS O w U A R Y as s tgt Q (.ref I) {s with heap:=h2,toks:=t2}:=by
 obtain⟨r2,kv⟩:=r.laid k new hlt
 exact⟨I,ds,st',as',h2,t2,fp,wr,S,Mid,rfl,rfl,e.trans (Ai.grow _ k),r2,W,h0,fun b hb=>e.live.none (new b hb).1,q⟩
theorem Vf{Q:List Dat→St→Prop}{a:Addr}{it:Obj}
 (e1:Ai as s.heap as1 h1) (r1:Rel U R Y st1 as1 h1) (hlt:∀b∈as1,∃o,h1.get? b=some o) (ho:vis R as1 h1 a o) (fs:FzL (vis R as1 h1) vs ds) (hf:it.isFreed=false) (hT:Hs T=true)
 (W:Walks O w A h1.objs.size [h1.objs.size,a] [h1.objs.size] vs.toArray.size (fun i v=>vs.toArray[i]?=some v) S) (at_:∀i h,S i h→∃o,h.get? h1.objs.size=some o∧o.cls=.type T)
 (h0:(h1.push it).get? h1.objs.size=some it→(h1.push it).get? a=some o→S 0 (h1.push it)) (q:Q ds st1):PS O w U A R Y as s tgt Q (.ref h1.objs.size) {s with heap:=h1.push it,toks:=t1}:=by
 have up:∀b o,h1.get? b=some o→(h1.push it).get? b=some o:=fun b o e=>get?_push_of_some _ e
 have g1:(h1.push it).get? h1.objs.size=some it:=get?_push_size _ hf
 have hS:=h0 g1 (up _ _ ho.2.2)
 have n1:h1.get? h1.objs.size=none:=AH _ (le_refl _)
 clear hf h0
 generalize h1.push it=H at*
 generalize h1.objs.size=I at*
 have kv:∀b o,vis R as1 h1 b o→vis ([I]++R) as1 H b o:=by rintro b o ⟨p,q,e⟩;exact⟨fun y=>(mem_append.mp y).elim (fun y=>Hz n1 (At y▸e)) p,q,up b o e⟩
 rw[size_toArray,fs.length]at W
 refine PS.mk' (t2:=t1) (wr:=[I]) e1 r1 hlt up (fun b hb=>At hb▸⟨n1,_,g1⟩) (Src.ofWalks W (fun b hb=>(mem_cons.mp hb).imp id fun z=>⟨_,At z▸kv _ _ ho⟩) hT at_ fun i v d hp ed=>?_) hS q
 obtain⟨v',ev,fv⟩:=fs.get ed
 rw[getElem?_toArray,ev]at hp
 exact Option.some.inj hp▸fv.mono kv
theorem FN{Q:List Dat→St→Prop}(h:Ed O w U sc n iter st fun d st1=>∃ds,Eu d=some ds∧Q ds st1):Es O w U sc n iter tgt st Q:=by
 intro A Y R as s hR hE r
 refine h.go hR hE r fun v d st1 as0 h1 t1 e0 r0 f0 qq=>?_
 obtain⟨ds,ed,q⟩:=qq
 refine r0.trimP fun as1 sub hlt r1=>?_
 have e1:=e0.trans (Ai.less sub)
 have f1:Fz (vis R as1 h1) v d:=f0.mono (Ai.less sub).vis
 cases d<;>first|exact IN ed|skip
 ·obtain rfl:=Option.some.inj ed
  refine f1.tupleP fun a vs k ho fs=>?_
  exact wpAny_pyIter_tuple (items:=vs.toArray) ⟨_,ho.2.2,rfl,_,rfl⟩ (Vf e1 r1 hlt ho fs rfl (by decide) (Walks.tuple hR.handled _ a (ne_of_lt (lt_size ho.2.2)) vs.toArray) (fun i h hs=>let⟨o,e,c,_⟩:=hs.1;⟨o,e,c⟩) (fun g1 g2=>⟨⟨_,g1,rfl,rfl⟩,⟨_,g2,rfl,_,rfl⟩⟩) q)
 ·obtain rfl:=Option.some.inj ed
  refine f1.listP fun a vs k ho fs=>?_
  exact wpAny_pyIter_list (items:=vs.toArray) ⟨_,ho.2.2,rfl,_,rfl⟩ (Vf e1 r1 hlt ho fs rfl (by decide) (Walks.list hR.handled _ a (ne_of_lt (lt_size ho.2.2)) vs.toArray) (fun i h hs=>let⟨o,e,c,_⟩:=hs.1;⟨o,e,c⟩) (fun g1 g2=>⟨⟨_,g1,rfl,rfl⟩,⟨_,g2,rfl,_,rfl⟩⟩) q)
theorem JD{p:Pos}{Q:List Dat→St→Prop}(S:Ao O K U)(g:GlB sc K x)(hv:bootBuiltins x=some (.type T)){Q':List Dat→St→Prop}
 (h:El O w U sc n (e::es) st Q')
 (k:∀{A:Around}{Y:Env}{R as:List Addr}{s:Shared}{vs:List Value}{ds:List Dat}{st1:St},CG A n→Rel U R Y st1 as s.heap→(∀b∈as,∃o,s.heap.get? b=some o)→FzL (vis R as s.heap) vs ds→Q' ds st1→
  wpAny (model O w) A (call (.type T) vs) (fun x s1=>wpAny (model O w) A (pyIter x) (PS O w U A R Y as s tgt Q) (fun V V=>False) s1) (fun V V=>False) s)
 (he:autoParam (∀Y,starEach (e::es) Y=(false,eval e Y)::starEach es Y) au.a1._auto_1) (hp:autoParam (∀Y,(backTo pos (starEach es Y)).any (·.1)=false) au.a1._auto_1):
 Es O w U sc n (.Call (.Name x p) (e::es) [] pos) tgt st Q:=by
 intro A Y R as s hR hE r
 refine Call_Name rfl (HA S g hv hE r (PyProof.Rows.callWith_type1 ?_ (he Y) (hp Y)))
 refine h.go hR hE r fun vs ds st1 as0 h1 t1 e0 r0 f0 q=>?_
 refine r0.trimP fun as1 sub hlt r1=>?_
 have f1:FzL (vis R as1 h1) vs ds:=FzL.mono (Ai.less sub).vis f0
 refine wpAny_mono (k (s:={s with heap:=h1,toks:=t1}) hR r1 hlt f1 q) (fun x s2 hx=>wpAny_mono hx ?_ fun V V x=>x) fun V V x=>x
 rintro it s3 ⟨I,ds',st2,as2,h2,t2,fp,wr,Sx,Mid,rfl,rfl,e2,r2,W,h0,fr,q2⟩
 exact⟨I,ds',st2,as2,h2,t2,fp,wr,Sx,Mid,rfl,rfl,(e0.trans (Ai.less sub)).trans e2,r2,W,h0,fun b hb=>(e0.live).none (fr b hb),q2⟩
noncomputable def Da(a c:Int)(m:Nat):List Dat:=(List.range m).map fun i:Nat=>.int (a+(i:Int)*c)
inductive RgA:List Dat→Int→Int→Int→Prop
 |one (b:Int):RgA [.int b] 0 b 1
 |two (a b:Int):RgA [.int a,.int b] a b 1
 |three (a b c:Int):RgA [.int a,.int b,.int c] a b c
theorem Hf(a b c:Int):((Builtin.Range.rangeSize a b c).toNat:Int)=Builtin.Range.rangeSize a b c:=by
 have hpos:0≤Builtin.Range.rangeSize a b c:=by
  delta Builtin.Range.rangeSize
  split<;>split<;>first|exact Int.le_refl 0|(have:=Int.ediv_nonneg (a:=b-a-1) (b:=c) (by lia) (by lia);exact Af this)|(have:=Int.ediv_nonneg (a:=a-b-1) (b:= -c) (by lia) (by lia);exact Af this)
 lia
@[elab_as_elim] theorem IW{motive:List Value→Prop}{i:Int}(f:FzL g vs (.int i::ds))(k:∀t ws,FzL g ws ds→motive (.int i t::ws)):motive vs:=f.consP fun V ws h r=>h.intP fun t=>k t ws r
theorem SW{Q:List Dat→St→Prop}{t u v:Tok}{tk:Nat}{H:Heap}(hR:CG A n)(r:Rel U R Y st1 as s.heap)(hlt:∀b∈as,∃o,s.heap.get? b=some o)
 (hs:Builtin.Range.small a b c=true) (up:∀b o,s.heap.get? b=some o→H.get? b=some o) (hI:H.get? I=some {cls:=.type "range",data:=.fields #[.int a t,.int b u,.int c v]}) (hle:s.heap.objs.size≤H.objs.size)
 (q:Q (Da a c (Builtin.Range.rangeSize a b c).toNat) st1):wpAny (model O w) A (pyIter (.ref I)) (PS O w U A R Y as s tgt Q) (fun V V=>False) {s with heap:=H,toks:=tk}:=by
 refine wpAny_pyIter_range (a:=a) (b:=b) (c:=c) (t:=t) (u:=u) (v:=v) hI hs ?_
 have W:=Walks.range (prog:=O) (w:=w) (A:=A) hR.handled H.objs.size a c (Builtin.Range.rangeSize a b c).toNat
 have hn:((Builtin.Range.rangeSize a b c).toNat:Int)=Builtin.Range.rangeSize a b c:=Hf a b c
 have g:(H.push {cls:=.type "range_iterator",data:=.fields #[rawInt a,rawInt (Builtin.Range.rangeSize a b c),rawInt c]}).get? H.objs.size=some {cls:=.type "range_iterator",data:=.fields #[rawInt a,rawInt (Builtin.Range.rangeSize a b c),rawInt c]}:=get?_push_size _ rfl
 generalize Builtin.Range.rangeSize a b c=sz at*
 generalize sz.toNat=k at*
 subst hn
 have e:(Da a c k).length=k:=by unfold Da;refine rr (length_map ..) (rr List.length_range ?_);rfl
 refine PS.mk' (t2:=tk) (wr:=[H.objs.size]) (Ai.refl _ _) r hlt (fun b o e=>get?_push_of_some _ (up b o e)) (fun b hb=>At hb▸⟨AH _ hle,_,g⟩)
  (Src.ofWalks (T:="range_iterator") (e.symm▸W) (fun b hb=>.inl (At hb)) (by decide) (fun i h hs=>⟨_,hs,rfl⟩) fun i v d hp ed=>?_) ?_ q
 ·obtain⟨t',rfl⟩:=hp
  unfold Da at ed
  rw[getElem?_map]at ed
  obtain⟨j,ej,rfl⟩:=map_eq_some_iff.mp ed
  obtain rfl:=(List.getElem_range _).symm.trans (List.getElem?_eq_some_iff.mp ej).2
  exact .int _ _
 ·show IsRangeIter _ _ _ _ _
  refine rr e ?_
  simpa using g
theorem Wf(hd:RgA ds a b c)(fz:FzL g vs ds)(hc:c≠0)(hp:PylongRoom (model O w) A s){Q:Value→Shared→Prop}
 (k:∀t u v tk,Q (.ref s.heap.objs.size) {s with heap:=s.heap.push {cls:=.type "range",data:=.fields #[.int a t,.int b u,.int c v]},toks:=tk}):wpAny (model O w) A (call (.type "range") vs) Q E s:=by
 cases hd with
 |one b=>exact IW fz fun t V f=>f.nilP (call_range_1 (k ..))
 |two a b=>exact IW fz fun t V f=>IW f fun t2 V f=>f.nilP (call_range_2 (k ..))
 |three a b c=>exact IW fz fun t V f=>IW f fun t2 V f=>IW f fun t3 V f=>f.nilP (call_range_3 hc (k ..) (.inr hp))
theorem Nf(S:Ao O K U){p:Pos}{Q:List Dat→St→Prop}(g:GlB sc K x)(hv:bootBuiltins x=some (.type "range"))
 (h:El O w U sc n (e::es) st fun ds st1=>∃a b c,RgA ds a b c∧c≠0∧Builtin.Range.small a b c=true∧Q (Da a c (Builtin.Range.rangeSize a b c).toNat) st1)
 (he:autoParam (∀Y,starEach (e::es) Y=(false,eval e Y)::starEach es Y) au.a1._auto_1) (hp:autoParam (∀Y,(backTo pos (starEach es Y)).any (·.1)=false) au.a1._auto_1):
 Es O w U sc n (.Call (.Name x p) (e::es) [] pos) tgt st Q:=
 JD S g hv h (fun hR r hlt fz hq=>by obtain⟨_,_,_,hd,hc,hs,q⟩:=hq;exact Wf hd fz hc (Vb S hR fun b o e=>(r.base b o e).2.2) fun V V V V=>SW hR r hlt hs (fun V V e=>get?_push_of_some _ e) (get?_push_size _ rfl) (by refine rr (size_push ..) ?_;exact le_succ _) q) he hp
noncomputable def FO(xs ys:List Dat):List Dat:=List.zipWith (fun x y=>.tuple [x,y]) xs ys
theorem Ng{xs ys:List Dat}{i:Nat}(e:(FO xs ys)[i]?=some d):∃x y,xs[i]?=some x∧ys[i]?=some y∧d=.tuple [x,y]:=by
 delta FO at e
 rw[List.getElem?_zipWith]at e
 cases hx:xs[i]?<;>cases hy:ys[i]?<;>simp[hx,hy]at e
 exact⟨_,_,rfl,rfl,e.symm⟩
theorem Zz(s:Nat)(l1 l2:Nat)(h1:l1<s)(h2:l2<s):ZipApart (s+4) (s+2) (s+3) s (s+1) l1 l2:=by
 constructor<;>(show@Ne Nat _ _)<;>lia
noncomputable def BF(scope:Scope):List Str:=(scope.names.filter fun p=>p.2== .free).map (·.1)
theorem KU(f:Str×NameKind→List (Str×Addr)→Sem (ForInStep (List (Str×Addr))))
 (hf:∀name kind acc,f (name,kind) acc=if kind== .free then(do let c←cellOf Y name;pure (.yield ((name,c)::acc)))else pure (.yield acc)):
 ∀(names:List (Str×NameKind)) (acc:List (Str×Addr)),(∀x,(x,NameKind.free)∈names→∃c,Y.cells.lookup x=some c)→
  ∃cl,forIn names acc f=pure cl∧∀x,cl.lookup x=if x∈(names.filter fun p=>p.2== .free).map (·.1)then Y.cells.lookup x else acc.lookup x:=by
 intro names
 induction names with
 |nil=>intro acc _;exact⟨acc,rfl,fun x=>by simp⟩
 |cons hd r ih=>
  obtain⟨name,kind⟩:=hd
  intro acc h
  refine rr (forIn_cons ..) (rr (hf ..) ?_)
  cases hk:(kind==NameKind.free)with
  |false=>
   obtain⟨cl,e,q⟩:=ih acc fun x hx=>h x (.tail _ hx)
   refine⟨cl,e,fun x=>?_⟩
   refine rr (q ..) (rr filter_cons ?_)
   simp only[hk,false_eq_true,if_false]
  |true=>
   have hk':kind=.free:=by simpa using hk
   subst hk'
   obtain⟨c,hc⟩:=h name (.head _)
   obtain⟨cl,e,q⟩:=ih ((name,c)::acc) fun x hx=>h x (.tail _ hx)
   refine⟨cl,?_,fun x=>?_⟩
   ·have:cellOf Y name=pure c:=by delta cellOf;refine rr hc ?_;rfl
    refine rr this ?_;exact e
   ·refine rr (q ..) (rr filter_cons ?_)
    simp only[hk,if_true,map_cons,mem_cons]
    by_cases hx:x=name
    ·subst hx
     simp only[true_or,if_true,lookup_cons,beq_self_eq_true,hc]
     split<;>rfl
    ·have:(x==name)=false:=by simpa using hx
     simp only[hx,false_or,lookup_cons,this]
theorem IX(h:∀x,(x,NameKind.free)∈scope.names→∃c,Y.cells.lookup x=some c):
 ∃cl,closureFor scope Y=pure cl∧∀x,cl.lookup x=if x∈BF scope then Y.cells.lookup x else none:=by
 obtain⟨cl,e,q⟩:=KU (Y:=Y) (fun p r=>if p.2== .free then(do let c←cellOf Y p.1;pure (.yield ((p.1,c)::r)))else pure (.yield r)) (fun V V V=>rfl) scope.names [] h
 refine⟨cl,?_,fun x=>q x⟩
 delta closureFor
 have e2:(forIn scope.names [] (fun p r=>if p.2== .free then(do let c←cellOf Y p.1;pure (.yield ((p.1,c)::r)))else pure (.yield r))>>=fun r=>pure r:Sem (List (Str×Addr)))=pure cl:=by refine rr e ?_;rfl
 exact e2
noncomputable def BL(scope sc:Scope):Scope:=
 {scope with names:=scope.names.map fun(n,k)=>if(k== .free&&sc.kind== .function&&sc.names.lookup n==some .cell)then(n,.cell)else(n,k)}
structure BG(sc scope:Scope):Prop where
 apart:∀x∈BF scope,(x,NameKind.cell)∉scope.names
 kind:scope.kind=.function
 names:∀y∈scope.names,y.2=.local→scope.names.lookup y.1=some .local
 off:∀x∈BF scope,Fh (BL scope sc) x=false
 outer:∀x∈BF scope,sc.names.lookup x=some .cell∨sc.names.lookup x=some .free
 inner:∀x∈BF scope,(BL scope sc).names.lookup x=some .cell∨(BL scope sc).names.lookup x=some .free
 has:∀y∈(BL scope sc).names,y.2=.cell∨y.2=.free→y.1∈BF scope∨(y.1,NameKind.cell)∈scope.names
 pins:∀x∈BF scope,DZ sc x=true→DZ (BL scope sc) x=true
noncomputable def IC(fr:List Str)(st:St):St:=st.filter fun p=>fr.contains p.1
noncomputable def EY(fr:List Str)(st inner:St):St:=st.filterMap fun p=>if fr.contains p.1 then(look p.1 inner).map fun a=>(p.1,a)else some p
theorem Db{a:AF}:(x,a)∈IC fr st↔(x,a)∈st∧x∈fr:=by simp[IC]
set_option tactic.hygienic true in
theorem Dc{inner:St}{a:AF}(h:(x,a)∈EY fr st inner):(x∈fr∧(x,a)∈inner)∨(x∉fr∧(x,a)∈st):=by
 obtain⟨⟨y,b⟩,hm,e⟩:=List.mem_filterMap.mp h
 dsimp only at e
 split at e
 ·rename_i q
  obtain⟨a',ea,e'⟩:=map_eq_some_iff.mp e
  cases e'
  exact .inl ⟨by simpa using q,CT ea⟩
 ·rename_i q
  cases e
  exact .inr ⟨by simpa using q,hm⟩
set_option tactic.hygienic true in
theorem Mh{inner:St}:∀{st:St},((EY fr st inner).map (·.1)).Sublist (st.map (·.1)):=by
 intro st
 induction st with
 |nil=>
  exact .slnil
 |cons hd r ih=>
  obtain⟨y,b⟩:=hd
  have ih:=ih
  unfold EY at ih⊢
  refine rr List.filterMap_cons ?_
  dsimp only
  split
  ·exact .cons _ ih
  ·rename_i p e
   have:p.1=y:=by
    split at e
    ·obtain⟨a',_,e'⟩:=map_eq_some_iff.mp e;refine rl e' ?_;rfl
    ·cases e;rfl
   refine rr map_cons ?_;refine rr map_cons (rr this ?_)
   exact .cons_cons _ ih
inductive Lend(U:Heap)(st:St)(fr:List Str)(X R as:List Addr)(Y:Env)(h:Heap):Prop
 |mk (asF rest:List Addr) (subF:∀b∈asF,b∈as) (subR:∀b∈rest,b∈as)
  (mkI:∀{h1:Heap}{cenv:Env}{new:List Addr},(∀b o,h.get? b=some o→h1.get? b=some o)→(∀b∈new,h.get? b=none∧∃o,h1.get? b=some o)→cenv.locals∈new→(∃m,h1.Ns cenv.locals m)→
   (∀x c,cenv.cells.lookup x=some c→Y.cells.lookup x=some c∨c∈new∧∃v,h1.IsCell c v)→(∀x∈fr,∀v,AB h1 Y x v→AB h1 cenv x v)→
   Rel U (new++((X++R)++rest)) cenv (IC fr st) asF h1∧∀b o,vis (X++R) as h b o→vis (new++((X++R)++rest)) asF h1 b o)
  (back:∀{h2:Heap}{cenv:Env}{Rn asI:List Addr}{stI:St},Rel U (Rn++rest) cenv stI asI h2→(∀b∈R,b∈Rn)→(∀b∈Rn,b∈R∨h.get? b=none)→(∀b o,b∉asF→b∉X→h.get? b=some o→h2.get? b=some o)→(∀b∈asI,b∈asF∨h.get? b=none)→(∀b o,b∉X→h.get? b=some o→∃o',h2.get? b=some o')→
   (∀x∈fr,∀v,AB h2 cenv x v→AB h2 Y x v)→
   Rel U Rn Y (EY fr st stI) (asI++rest) h2∧(∀as0 h0,Ai as0 h0 as h→(∀b∈X,h0.get? b=none)→Ai as0 h0 (asI++rest) h2)∧(∀b o,vis (Rn++rest) asI h2 b o→vis Rn (asI++rest) h2 b o))
theorem Rel.lend{X:List Addr}(r:Rel U (X++R) Y st as h)(hl:Y.locals∈R)(hc:∀x c,Y.cells.lookup x=some c→c∈R)(offX:∀b∈X,b∉R)(hlt:∀b∈as,∃o,h.get? b=some o):
 Lend U st fr X R as Y h:=by
 obtain⟨⟨val,ks,hr,hd⟩,hn,hsep,_,_,⟨m,hm⟩,hcl,hi,hb⟩:=r
 let asF:=(IC fr st).flatMap fun p=>ks p.1
 let rest:=as.filter fun b=>decide (b∉asF)
 have subF:∀b∈asF,b∈as:=fun b hb=>by
  obtain⟨⟨x,a⟩,hx,hb⟩:=mem_flatMap.mp hb
  exact(hr x a (Db.mp hx).1).2.2 b hb
 have subR:∀b∈rest,b∈as:=fun b hb=>(mem_filter.mp hb).1
 have offR:∀b∈rest,b∉asF:=fun b hb=>of_decide_eq_true (mem_filter.mp hb).2
 refine⟨asF,rest,subF,subR,?_,?_⟩
 ·intro h1 cenv new k hnew hL hLn hcells hvar
  have kv:∀b o,vis (X++R) as h b o→vis (new++((X++R)++rest)) asF h1 b o:=(by rintro b o ⟨p,q,e⟩;exact⟨fun z=>(mem_append.mp z).elim (fun z=>by rw[(hnew b z).1]at e;cases e) fun z=>(mem_append.mp z).elim p fun z=>q (subR b z),fun z=>q (subF b z),k b o e⟩)
  refine⟨⟨⟨val,ks,fun x a hx=>?_,fun x a y b hx hy ne=>hd x a y b (Db.mp hx).1 (Db.mp hy).1 ne⟩,?_,fun b hb z=>?_,mem_append_left _ hL,fun x c e=>(hcells x c e).elim (fun e=>mem_append_right _ (mem_append_left _ (mem_append_right _ (hc x c e)))) fun e=>mem_append_left _ e.1,hLn,
   fun x c e=>(hcells x c e).elim (fun e=>by obtain⟨v,o,ho,hd⟩:=hcl x c e;exact⟨v,o,k _ _ ho,hd⟩) fun e=>e.2,fun b hb=>?_,fun b o e=>kv b o (hb b o e)⟩,kv⟩
  ·obtain⟨p,q,t⟩:=hr x a (Db.mp hx).1
   exact⟨hvar x (Db.mp hx).2 _ (p.keep fun b o V e=>k b o e),q.mono kv fun b V o e=>k b o e,fun b hb=>mem_flatMap.mpr ⟨(x,a),hx,hb⟩⟩
  ·exact(List.filter_sublist.map _).nodup hn
  ·rcases mem_append.mp hb with y|y
   ·obtain⟨o,e⟩:=hlt b (subF b z);rw[(hnew b y).1]at e;cases e
   ·rcases mem_append.mp y with y|y
    ·exact hsep b y (subF b z)
    ·exact offR b y z
  ·rcases mem_append.mp hb with y|y
   ·exact(hnew b y).2
   ·rcases mem_append.mp y with y|y
    ·obtain⟨o,e⟩:=hi b y;exact⟨o,k b o e⟩
    ·obtain⟨o,e⟩:=hlt b (subR b y);exact⟨o,k b o e⟩
 ·intro h2 cenv Rn asI stI rI subRn newRn keep fresh live hvar
  obtain⟨⟨valI,ksI,hrI,hdI⟩,hnI,hsepI,hlI,hcI,hloI,hclI,hiI,hbI⟩:=rI
  have nX:∀b∈R,b∉X:=fun b hb z=>offX b z hb
  have aX:∀b∈as,b∉X:=fun b hb z=>hsep b (mem_append_left _ z) hb
  have offI:∀b o,h.get? b=some o→b∉asF→b∉asI:=fun b o e hb q=>(fresh b q).elim hb fun z=>by rw[e]at z;cases z
  have kv:∀b o,vis (X++R) as h b o→vis Rn (asI++rest) h2 b o:=(by rintro b o ⟨p,q,e⟩;exact⟨fun z=>(newRn b z).elim (fun z=>p (mem_append_right _ z)) fun z=>by(rw[z]at e;cases e),fun z=>(mem_append.mp z).elim (offI b o e fun z=>q (subF b z)) fun z=>q (subR b z),keep b o (fun z=>q (subF b z)) (fun z=>p (mem_append_left _ z)) e⟩)
  have kI:∀b o,vis (Rn++rest) asI h2 b o→vis Rn (asI++rest) h2 b o:=(by rintro b o ⟨p,q,e⟩;exact⟨fun z=>p (mem_append_left _ z),fun z=>(mem_append.mp z).elim q fun z=>p (mem_append_right _ z),e⟩)
  have sepR:∀b∈R,b∉asF:=fun b hb q=>hsep b (mem_append_right _ hb) (subF b q)
  have vk:∀x v,AB h Y x v→AB h2 Y x v:=fun x v z=>z.keep fun b o hb e=>have bR:=hb.elim (fun q=>q▸hl) (by rintro⟨y,q⟩;exact hc y b q);keep b o (sepR b bR) (nX b bR) e
  refine⟨⟨⟨fun x=>if x∈fr then valI x else val x,fun x=>if x∈fr then ksI x else ks x,fun x a hx=>?_,fun x a y b hx hy ne c hcx=>?_⟩,(Mh.nodup hn),fun b hb z=>?_,subRn _ hl,fun x c e=>subRn _ (hc x c e),⟨m,hm.at' fun o e=>keep _ o (sepR _ hl) (nX _ hl) e⟩,
   fun x c e=>(by obtain⟨v,o,ho,hd⟩:=hcl x c e;exact⟨v,o,keep _ _ (sepR _ (hc x c e)) (nX _ (hc x c e)) ho,hd⟩),fun b hb=>hiI b (mem_append_left _ hb),fun b o e=>kv b o (hb b o e)⟩,fun as0 h0 e0 frX=>?_,kI⟩
  ·rcases Dc hx with⟨hf,hx⟩|⟨hf,hx⟩
   ·dsimp only
    refine rr (if_pos hf) (rr (if_pos hf) ?_)
    obtain⟨p,q,t⟩:=hrI x a hx
    exact⟨hvar x hf _ p,q.mono kI fun V V V e=>e,fun b hb=>mem_append_left _ (t b hb)⟩
   ·dsimp only
    refine rr (if_neg hf) (rr (if_neg hf) ?_)
    obtain⟨p,q,t⟩:=hr x a hx
    have out:∀b∈ks x,b∉asF:=fun b hb z=>by
     obtain⟨⟨y,b'⟩,hy,hb'⟩:=mem_flatMap.mp z
     have hy':=Db.mp hy
     exact hd x a y b' hx hy'.1 (fun e=>hf (e▸hy'.2)) b hb hb'
    exact⟨vk _ _ p,q.mono kv fun b hb o e=>keep b o (out b hb) (aX b (t b hb)) e,fun b hb=>mem_append_right _ (mem_filter.mpr ⟨t b hb,decide_eq_true (out b hb)⟩)⟩
  ·have inI:∀x a,(x,a)∈EY fr st stI→x∈fr→∀c∈ksI x,c∈asI:=fun x a hx hf=>(Dc hx).elim (fun z=>(hrI x a z.2).2.2) fun z=>absurd hf z.1
   have inO:∀x a,(x,a)∈EY fr st stI→x∉fr→∀c∈ks x,c∈rest:=fun x a hx hf c hc=>by
    rcases Dc hx with z|z
    ·exact absurd z.1 hf
    ·refine mem_filter.mpr ⟨(hr x a z.2).2.2 c hc,decide_eq_true fun q=>?_⟩
     obtain⟨⟨y,b'⟩,hy,hb'⟩:=mem_flatMap.mp q
     have hy':=Db.mp hy
     exact hd x a y b' z.2 hy'.1 (fun e=>hf (e▸hy'.2)) c hc hb'
   have cross:∀c,c∈asI→c∉rest:=fun c h1 h2=>hsepI c (mem_append_right _ h2) h1
   dsimp only at hcx⊢
   by_cases h1:x∈fr<;>by_cases h2:y∈fr
   ·rw[if_pos h1]at hcx;refine rr (if_pos h2) ?_
    rcases Dc hx with z|z
    ·rcases Dc hy with z'|z'
     ·exact hdI x a y b z.2 z'.2 ne c hcx
     ·exact absurd h2 z'.1
    ·exact absurd h1 z.1
   ·rw[if_pos h1]at hcx;refine rr (if_neg h2) ?_
    exact fun q=>cross c (inI x a hx h1 c hcx) (inO y b hy h2 c q)
   ·rw[if_neg h1]at hcx;refine rr (if_pos h2) ?_
    exact fun q=>cross c (inI y b hy h2 c q) (inO x a hx h1 c hcx)
   ·rw[if_neg h1]at hcx;refine rr (if_neg h2) ?_
    rcases Dc hx with z|z
    ·exact absurd z.1 h1
    ·rcases Dc hy with z'|z'
     ·exact absurd z'.1 h2
     ·exact hd x a y b z.2 z'.2 ne c hcx
  ·rcases mem_append.mp z with z|z
   ·exact hsepI b (mem_append_left _ hb) z
   ·rcases newRn b hb with y|y
    ·exact hsep b (mem_append_right _ y) (subR b z)
    ·obtain⟨o,e⟩:=hlt b (subR b z);rw[y]at e;cases e
  ·have oX:∀b o,h0.get? b=some o→b∉X:=fun b o e q=>by rw[frX b q]at e;cases e
   refine⟨fun b o hb e=>keep b o (fun q=>e0.old e hb (subF b q)) (oX b o e) (e0.keep b o hb e),fun b hb=>?_,fun b o e=>(by obtain⟨o',e'⟩:=e0.live b o e;exact live b o' (oX b o e) e')⟩
   rcases mem_append.mp hb with z|z
   ·exact(fresh b z).elim (fun z=>e0.fresh b (subF b z)) fun z=>.inr (e0.live.none z)
   ·exact e0.fresh b (subR b z)
theorem Rel.poke{ws:List Addr}(r:Rel U R Y st as h)(sub:∀b∈ws,b∈R)(hl:Y.locals∉ws)(hc:∀x c,Y.cells.lookup x=some c→c∉ws)(k:∀b o,b∉ws→h.get? b=some o→h'.get? b=some o)(al:∀b∈ws,∃o,h'.get? b=some o):
 Rel U R Y st as h'∧∀b o,vis R as h b o→vis R as h' b o:=by
 have kv:∀b o,vis R as h b o→vis R as h' b o:=(by rintro b o ⟨p,q,e⟩;exact⟨p,q,k b o (fun z=>p (sub b z)) e⟩)
 obtain⟨val,cs',hr,hd⟩:=r.1;have hn:=r.2;have hsep:=r.3;have hl':=r.4;have hc':=r.5;obtain⟨m,hm⟩:=r.6;have hcl:=r.7;have hi:=r.8;have hb:=r.9
 have na:∀b∈as,b∉ws:=fun b hb z=>hsep b (sub b z) hb
 refine⟨⟨⟨val,cs',fun x a hx=>(by obtain⟨p,q,z⟩:=hr x a hx;exact⟨p.keep fun b o hb e=>k b o (hb.elim (fun q=>q▸hl) (by rintro⟨y,q⟩;exact hc y b q)) e,q.mono kv fun b hb o e=>k b o (na b (z b hb)) e,z⟩),hd⟩,hn,hsep,hl',hc',⟨m,hm.at' fun o e=>k _ o hl e⟩,
  fun x c e=>(by obtain⟨v,o,ho,hd⟩:=hcl x c e;exact⟨v,o,k _ _ (hc x c e) ho,hd⟩),fun b hb=>?_,fun b o e=>kv b o (hb b o e)⟩,kv⟩
 by_cases z:b∈ws
 ·exact al b z
 ·obtain⟨o,e⟩:=hi b hb;exact⟨o,k b o z e⟩
theorem SX(k:∀b,b∈R↔b∈R'):∀b o,vis R as h b o→vis R' as h b o:=by rintro b _ ⟨p,q,e⟩;exact⟨fun z=>p ((k b).mpr z),q,e⟩
theorem Mi{A:Around}{s:Shared}{Rr:Result→Shared→Prop}{elt target iter:Expr}{ifs:List Expr}{scope:Scope}{pos:Pos}{it acc:Value}{Y:Env}(I:Nat→Shared→Prop)
 (turn:∀n s,I n s→wpAny (model O w) A (pyNext it) (fun r s₁=>match r with
  |none=>Rr (.ok .next) s₁
  |some v=>wpAny (model O w) A (letOwnedTupleGo target it v) (fun V s₁'=>wpAny (model O w) A (assign target Y v) (fun V s₂=>
   wpAny (model O w) A (forIn ifs true fun c r=>if r=true then do let ok←isTrue c Y (eval c Y);pure (ForInStep.yield ok)else pure (ForInStep.yield r)) (fun ok s₃=>
    if ok=true then wpAny (model O w) A (eval elt Y) (fun x s₄=>
     wpAny (model O w) A (call (.builtin "list.append") [acc,x]) (fun V s₅=>∃m,m<n∧I m s₅) (fun V V=>False) s₄) (fun V V=>False) s₃
    else∃m,m<n∧I m s₃) (fun V V=>False) s₂) (fun V V=>False) s₁') (fun V V=>False) s₁) (fun V V=>False) s)
 (n:Nat) (h:I n s):
 codeAny (model O w) A (.compLoop (.ListComp elt [⟨target,iter,ifs,0⟩] scope pos) 0 it acc Y) Rr s:=by
 refine codeAny_loop rfl I (fun n s hI=>?_) n h
 show wpAny _ A ((compTurn (.ListComp elt [⟨target,iter,ifs,0⟩] scope pos) 0 it acc Y).onRaise (fun x=>do noteFrame x Y;theTreesLotGoes x)) _ _ s
 refine wpAny_noted ?_
 refine rr (compTurn_list ..) ?_
 refine wpAny_bind (wpAny_standAt (wpAny_bind (wpAny_mono (turn n s hI) (fun r s₁ h₁=>?_) fun V V h'=>h'.elim)))
 rcases r with _|⟨v⟩
 ·exact wpAny_pure h₁
 ·
  refine wpAny_bind (wpAny_mono h₁ (fun V s₁' h₁'=>?_) fun V V h'=>h'.elim)
  refine wpAny_bind (wpAny_mono h₁' (fun V s₂ h₂=>wpAny_bind (wpAny_mono h₂ (fun ok s₃ h₃=>?_) fun V V h'=>h'.elim)) fun V V h'=>h'.elim)
  rcases ok with _|_
  ·exact wpAny_pure ⟨rfl,h₃⟩
  ·
   exact wpAny_bind (wpAny_bind (wpAny_mono h₃ (fun x s₄ h₄=>wpAny_bind (wpAny_mono h₄ (fun V s₅ h₅=>wpAny_pure (wpAny_pure ⟨rfl,h₅⟩)) fun V V h'=>h'.elim)) fun V V h'=>h'.elim))
def EtL(O:Program)(w:World)(U:Heap)(sc:Scope)(n:Nat)(ifs:List Expr)(st:St)(Q:Bool→St→Prop):Prop:=match ifs with
 |[]=>Q true st
 |[c]=>Et O w U sc n c st Q
 |_=>False
def Bm(O:Program)(w:World)(U:Heap)(sc:Scope)(n:Nat)(tgt:Expr)(ifs:List Expr)(elt:Expr)(Q:List Dat→St→Prop):List Dat→List Dat→St→Prop
 |[],acc,st=>Q acc st
 |d::ds,acc,st=>As O w U sc n tgt d st fun st1=>EtL O w U sc n ifs st1 fun b st2=>
  (b=true→Ed O w U sc n elt st2 fun y st3=>acc.length+1≤sizeLine∧Bm O w U sc n tgt ifs elt Q ds (acc++[y]) st3)∧(b=false→Bm O w U sc n tgt ifs elt Q ds acc st2)
structure CK(h:Heap)(asF wr asi:List Addr)(hh:Heap):Prop where
 keep:∀b o,b∉asF→b∉wr→h.get? b=some o→hh.get? b=some o
 fresh:∀b∈asi,b∈asF∨h.get? b=none
 live:∀b o,b∉wr→h.get? b=some o→∃o',hh.get? b=some o'
theorem CK.step{asF asi as2:List Addr}(c:CK h asF wr asi hh)(hlive:∀b∈wr,∃o,hh.get? b=some o)(S:Bc Y asi hh as2 h2)(hL:h.get? Y.locals=none)(hown:∀x c,Fh Y.scope x=true→Y.cells.lookup x=some c→h.get? c=none):CK h asF wr as2 h2:=by
 refine⟨fun b o h1 h2 e=>S.keep b o (fun q=>by rw[q,hL]at e;cases e) (fun x hx q=>by rw[hown x b hx q]at e;cases e) (fun z=>(c.fresh b z).elim h1 fun z=>by rw[z]at e;cases e) (c.keep b o h1 h2 e),fun b hb=>(S.fresh b hb).elim (c.fresh b) fun z=>?_,fun b o hb e=>(by obtain⟨o',e'⟩:=c.live b o hb e;exact S.live b o' e')⟩
 by_cases hb2:b∈wr
 ·obtain⟨o,e⟩:=hlive b hb2;rw[z]at e;cases e
 ·cases q:h.get? b with
  |none=>exact .inr rfl
  |some o=>obtain⟨o',e'⟩:=c.live b o hb2 q;rw[z]at e';cases e'
theorem CK.poke{asF asi ws:List Addr}(c:CK h asF wr asi hh)(k:∀b o,b∉ws→hh.get? b=some o→h2.get? b=some o)(hw:∀b∈ws,b∈wr∨h.get? b=none):CK h asF wr asi h2:=by
 have off:∀b o,b∉wr→h.get? b=some o→b∉ws:=fun b o hb e q=>(hw b q).elim hb fun z=>by rw[z]at e;cases e
 exact⟨fun b o h1 h2 e=>k b o (off b o h2 e) (c.keep b o h1 h2 e),c.fresh,fun b o hb e=>(by obtain⟨o',e'⟩:=c.live b o hb e;exact⟨o',k b o' (off b o hb e) e'⟩)⟩
theorem CK.less{asF asi as2:List Addr}(c:CK h asF wr asi hh)(sub:∀b∈as2,b∈asi):CK h asF wr as2 hh:=⟨c.keep,fun b hb=>c.fresh b (sub b hb),c.live⟩
structure Qc(scope:Scope)(Y:Env)(cl ow:List (Str×Addr)):Prop where
 lent:∀x∈BF scope,cl.lookup x=Y.cells.lookup x
 all:∀x c,cl.lookup x=some c→(x,c)∈ow∨(x∈BF scope∧Y.cells.lookup x=some c)
 has:∀x,(x,NameKind.cell)∈scope.names→∃c,cl.lookup x=some c
 own:∀x c,(x,c)∈ow→(x,NameKind.cell)∈scope.names
 apart:ow.Pairwise fun x y=>x.2≠y.2
theorem BG.envOk(ok:BG sc scope)(hE:AN sc Y){cl:List (Str×Addr)}(hcl:Qc scope Y cl ow)(hC:∀x c,Y.cells.lookup x=some c→c≠C)(hO:∀x c,(x,c)∈ow→c≠C∧∀y,Y.cells.lookup y≠some c):AN (BL scope sc) (compEnvC scope cl C Y):=by
 refine⟨?_,ok.kind,hE.glob,hE.blt,fun x c e=>(hcl.all x c e).elim (fun q=>(hO x c q).1) fun q=>hC x c q.2,fun x y c e1 e2=>?_,fun x hx=>?_⟩
 ·show relabel scope Y=_
  delta relabel BL Env.kindOf
  refine rr hE.isSc ?_;rfl
 ·rcases hcl.all x c e1 with q1|q1
  ·rcases hcl.all y c e2 with q2|q2
   ·exact name_of_addr hcl.apart q1 q2
   ·exact absurd q2.2 ((hO x c q1).2 y)
  ·rcases hcl.all y c e2 with q2|q2
   ·exact absurd q1.2 ((hO y c q2).2 x)
   ·exact hE.inj x y c q1.2 q2.2
 ·have hf:x∈BF scope∨(x,NameKind.cell)∈scope.names:=by
   rcases hx with e|e
   ·exact ok.has (x,.cell) (mem_of_lookup e) (.inl rfl)
   ·exact ok.has (x,.free) (mem_of_lookup e) (.inr rfl)
  rcases hf with hf|hf
  ·obtain⟨c,hc⟩:=hE.has x (ok.outer x hf)
   exact⟨c,(hcl.lent x hf).trans hc⟩
  ·exact hcl.has x hf
theorem BG.into(ok:BG sc scope)(hE:AN sc Y){cl:List (Str×Addr)}(hcl:Qc scope Y cl ow):∀x∈BF scope,∀v,AB h Y x v→AB h (compEnvC scope cl C Y) x v:=fun x hx v hv=>by
 have ek:Y.kindOf x=sc.names.lookup x:=by show Y.scope.names.lookup x=_;refine rr hE.isSc ?_;rfl
 have ei:(compEnvC scope cl C Y).kindOf x=(BL scope sc).names.lookup x:=by
  show(relabel scope Y).names.lookup x=_
  delta relabel BL Env.kindOf
  refine rr hE.isSc ?_;rfl
 rcases hv with⟨k,_⟩|⟨_,c,hc,hv⟩
 ·rw[ek]at k
  rcases ok.outer x hx with q|q<;>(rw[q]at k;cases k)
 ·exact .inr ⟨by refine rr ei ?_;exact ok.inner x hx,c,(hcl.lent x hx).trans hc,hv⟩
theorem BG.back(ok:BG sc scope)(hE:AN sc Y){cl:List (Str×Addr)}(hcl:Qc scope Y cl ow):∀x∈BF scope,∀v,AB h (compEnvC scope cl C Y) x v→AB h Y x v:=fun x hx v hv=>by
 have ek:Y.kindOf x=sc.names.lookup x:=by show Y.scope.names.lookup x=_;refine rr hE.isSc ?_;rfl
 have ei:(compEnvC scope cl C Y).kindOf x=(BL scope sc).names.lookup x:=by
  show(relabel scope Y).names.lookup x=_
  delta relabel BL Env.kindOf
  refine rr hE.isSc ?_;rfl
 rcases hv with⟨k,_⟩|⟨_,c,hc,hv⟩
 ·rw[ei]at k
  rcases ok.inner x hx with q|q<;>(rw[q]at k;cases k)
 ·exact .inr ⟨by refine rr ek ?_;exact ok.outer x hx,c,(hcl.lent x hx).symm.trans hc,hv⟩
theorem EtL.run{Q:Bool→St→Prop}(h:EtL O w U sc n ifs st Q)(hR:CG A n)(hE:AN sc Y)(r:Rel U R Y st as s.heap):
 wpAny (model O w) A (forIn ifs true fun c r=>if r=true then do let ok←isTrue c Y (eval c Y);pure (ForInStep.yield ok)else pure (ForInStep.yield r)) (PT U R Y as s Q) (fun V V=>False) s:=by
 match ifs,h with
 |[],h=>exact wpAny_tests_nil (PT.here r h)
 |[c],h=>exact wpAny_tests_one (h A Y R as s hR hE r)
inductive Wg(O:Program)(w:World)(U:Heap)(sc:Scope)(n:Nat)(tgt:Expr)(ifs:List Expr)(elt:Expr)(QQ:List Dat→St→Prop)(ds:List Dat)(D:Addr)(R wr RI asF as:List Addr)(Y:Env)(s:Shared)(S:Nat→Heap→Prop)(k:Nat)(s':Shared):Prop
 |mk (i:Nat) (sti:St) (asi:List Addr) (hh:Heap) (tk:Nat) (vs:List Value) (m:Nat) (acc:List Dat) (hk:k=ds.length+1-i) (hi:i≤ds.length) (hs:s'={s with heap:=hh,toks:=tk}) (r:Rel U RI Y sti asi hh) (hst:S i hh) (gv:∀b o,vis (wr++R) as s.heap b o→vis RI asi hh b o)
  (gD:hh.get? D=some (seqObj "list" vs.toArray m)) (f:FzL (vis RI asi hh) vs acc) (ck:CK s.heap asF wr asi hh) (L:Bm O w U sc n tgt ifs elt QQ (ds.drop i) acc sti)
theorem Ht{p:Addr→Prop}{D:Addr}(hC:p C)(hD:p D)(hR:∀b∈R,p b):∀b∈C::D::R,p b:=fun V hb=>(mem_cons.mp hb).elim (fun e=>e▸hC) fun hb=>(mem_cons.mp hb).elim (fun e=>e▸hD) (hR _)
theorem SY{cenv:Env}{D:Addr}{fp RW asF:List Addr}{V:Cd}{QQ:List Dat→St→Prop}{J:Nat→Shared→Prop}{Rr:Result→Shared→Prop}
 (hR:CG A n) (hE:AN sc cenv) (hown:∀x c,Fh cenv.scope x=true→cenv.cells.lookup x=some c→s.heap.get? c=none) (W:Src O w A tgt I fp wr V ds S Mid) (wrS:∀b∈wr,b∈RW) (Cwr:cenv.locals∉wr) (cellOff:∀x c,cenv.cells.lookup x=some c→c∉wr) (DS:D∈RW) (Dwr:D∉wr) (hCD:cenv.locals≠D) (cellD:∀x c,cenv.cells.lookup x=some c→c∉[D])
 (nC:s.heap.get? cenv.locals=none) (nD:s.heap.get? D=none)
 (mkI:∀i sti asi hh tk (vs:List Value) m acc,i≤ds.length→Rel U RW cenv sti asi hh→S i hh→(∀b o,V b o→vis RW asi hh b o)→hh.get? D=some (seqObj "list" vs.toArray m)→FzL (vis RW asi hh) vs acc→CK s.heap asF wr asi hh→Bm O w U sc n tgt ifs elt QQ (ds.drop i) acc sti→J (ds.length+1-i) {s with heap:=hh,toks:=tk})
 (fin:∀sti asi hh h2 tk (vs:List Value) m acc,Rel U RW cenv sti asi hh→(∀b o,b∉wr→hh.get? b=some o→h2.get? b=some o)→h2.get? D=some (seqObj "list" vs.toArray m)→FzL (vis RW asi hh) vs acc→CK s.heap asF wr asi h2→QQ acc sti→Rr (.ok .next) {s with heap:=h2,toks:=tk})
 {i:Nat}{sti:St}{asi0:List Addr}{tk:Nat}{m:Nat} (hi:i≤ds.length) (r20:Rel U RW cenv sti asi0 hh) (hst:S i hh) (gv20:∀b o,V b o→vis RW asi0 hh b o) (gDh:hh.get? D=some (seqObj "list" vs.toArray m)) (facc0:FzL (vis RW asi0 hh) vs acc) (ck0:CK s.heap asF wr asi0 hh) (L2:Bm O w U sc n tgt ifs elt QQ (ds.drop i) acc sti):
 wpAny (model O w) A (pyNext (.ref I)) (fun r s₁=>match r with
  |none=>Rr (.ok .next) s₁
  |some v=>wpAny (model O w) A (letOwnedTupleGo tgt (.ref I) v) (fun Z s₁'=>wpAny (model O w) A (assign tgt cenv v) (fun Z s₂=>
   wpAny (model O w) A (forIn ifs true fun c r=>if r=true then do let ok←isTrue c cenv (eval c cenv);pure (ForInStep.yield ok)else pure (ForInStep.yield r)) (fun ok s₃=>
    if ok=true then wpAny (model O w) A (eval elt cenv) (fun x s₄=>
     wpAny (model O w) A (call (.builtin "list.append") [.ref D,x]) (fun Z s₅=>∃m,m<ds.length+1-i∧J m s₅) (fun Z Z=>False) s₄) (fun Z Z=>False) s₃
    else∃m,m<ds.length+1-i∧J m s₃) (fun Z Z=>False) s₂) (fun Z Z=>False) s₁') (fun Z Z=>False) s₁) (fun Z Z=>False) {s with heap:=hh,toks:=tk}:=by
 refine r20.trimP fun asi sub2 hlt2 r2=>?_
 have ck:=ck0.less sub2
 have gv2:∀b o,V b o→vis RW asi hh b o:=fun b o e=>(Ai.less sub2).vis b o (gv20 b o e)
 have facc:FzL (vis RW asi hh) vs acc:=FzL.mono (Ai.less sub2).vis facc0
 clear ck0 gv20 facc0 r20
 by_cases hlt3:i<ds.length
 ·have ed:ds[i]?=some ds[i]:=List.getElem?_eq_getElem hlt3
  rw[List.drop_eq_getElem_cons hlt3]at L2
  refine W.item i _ _ _ _ ed hst (fun b o e=>(gv2 b o e).2.2) fun v h2 t2 fz mid k2=>?_
  generalize ds[i]=d at fz L2
  refine W.go i v {s with heap:=h2,toks:=t2} _ _ mid fun h3 hst3 k3=>?_
  have k23:∀b o,b∉wr→hh.get? b=some o→h3.get? b=some o:=fun b o hb e=>k3 b o hb (k2 b o hb e)
  obtain⟨r3,kv3⟩:=r2.poke wrS Cwr cellOff k23 (W.alive _ _ hst3)
  have ck3:=ck.poke k23 fun b hb=>.inl hb
  have gv3:∀b o,V b o→vis RW asi h3 b o:=fun b o z=>kv3 b o (gv2 b o z)
  have fz3:Fz (vis RW asi h3) v d:=fz.mono fun b o q=>q.elim (gv3 b o) fun q=>
   have nwr:b∉RW:=fun z=>Bf q.1 (r2.inb b z)
   ⟨nwr,fun z=>Bf q.1 (hlt2 b z),k3 b o (fun z=>nwr (wrS b z)) q.2⟩
  have facc3:FzL (vis RW asi h3) vs acc:=facc.mono kv3
  have gD3:=k23 _ _ Dwr gDh
  have stepS:∀{asj:List Addr}{h4:Heap},Bc cenv asi h3 asj h4→CK s.heap asF wr asj h4∧S (i+1) h4∧(∀b o,vis RW asi h3 b o→vis RW asj h4 b o)∧h4.get? D=some (seqObj "list" vs.toArray m):=fun{asj h4} S4=>
   have vv:=S4.vis (R:=RW) r3.locR r3.celR
   ⟨ck3.step (W.alive _ _ hst3) S4 nC hown,W.frame _ _ _ hst3 fun b hb o e=>(W.seen b hb).elim (fun z=>S4.keep b o (fun q=>Cwr (q▸z)) (fun x Z q=>cellOff x b q z) (r3.sep b (wrS b z)) e) fun⟨o',z⟩=>Option.some.inj ((gv3 b o' z).2.2.symm.trans e)▸(vv b o' (gv3 b o' z)).2.2,vv,
    S4.keep D _ (fun q=>hCD q.symm) (fun x Z q=>cellD x D q (.head _)) (r3.sep D DS) gD3⟩
  clear ck ck3 gv2 facc fz k23 k3 k2 kv3 hst hst3
  refine wpAny_mono (L2 A cenv _ asi {s with heap:=h3,toks:=t2} v hR hE r3 fz3) ?_ fun Z Z x=>x.elim
  rintro _ s4 ⟨st4,as4,h4,t4,rfl,S4,r4,q4⟩
  refine wpAny_mono (EtL.run (s:={s with heap:=h4,toks:=t4}) q4 hR hE r4) ?_ fun Z Z x=>x.elim
  rintro b s5 ⟨st5,as5,h5,t5,rfl,e5,r5,q5⟩
  have S5:=S4.trans e5.toS
  rcases b with _|_
  ·obtain⟨c5,s5,v5,d5⟩:=stepS S5
   exact⟨_,Mg hlt3,mkI _ _ _ _ _ _ _ _ hlt3 r5 s5 (fun b o z=>v5 b o (gv3 b o z)) d5 (facc3.mono v5) c5 (q5.2 rfl)⟩
  ·refine rr (if_pos rfl) ?_
   refine(q5.1 rfl).go (s:={s with heap:=h5,toks:=t5}) hR hE r5 fun y d6 st6 as6 h6 t6 e6 r6 f6 qq=>?_
   obtain⟨c6,s6,v6,d6'⟩:=stepS (S5.trans e6.toS)
   obtain⟨m',e'⟩:=FM d6' (fun xs=>xs.push y)
   rw[List.push_toArray]at e'
   have sb:Heap.SameBut D h6 (h6.update D (Obj.mapSeq fun xs=>xs.push y)):=Heap.SameBut.update ..
   have k7:∀b o,b∉[D]→h6.get? b=some o→(h6.update D (Obj.mapSeq fun xs=>xs.push y)).get? b=some o:=fun b o hb e=>(sb.2 b fun q=>hb (q▸ .head _)).trans e
   refine call_meets (s:={s with heap:=h6,toks:=t6}) PySem.F.slot_list_append ⟨_,d6',rfl⟩ PySem.F.entry_list_append (PySem.F.args_list_append_2 _ _) (PySem.list_append D vs.toArray m y (by refine rr size_toArray (rr facc3.length ?_);exact Ay qq.1)) ⟨d6',?_⟩
   generalize h6.update D (Obj.mapSeq fun xs=>xs.push y)=h7 at e' k7⊢
   obtain⟨r7,kv7⟩:=r6.poke (ws:=[D]) (fun b hb=>At hb▸DS) (fun q=>hCD (At q)) cellD k7 (fun b hb=>At hb▸⟨_,e'⟩)
   exact⟨_,Mg hlt3,mkI _ _ _ _ _ _ _ _ hlt3 r7 (W.frame _ _ _ s6 fun b hb o e=>(W.seen b hb).elim (fun z=>k7 b o (fun q=>Dwr (At q▸z)) e) fun⟨o',z⟩=>have g6:=v6 b o' (gv3 b o' z);Option.some.inj (g6.2.2.symm.trans e)▸(kv7 b o' g6).2.2)
    (fun b o z=>kv7 b o (v6 b o (gv3 b o z))) e' (((facc3.mono v6).snoc f6).mono kv7) (c6.poke k7 (fun b hb=>.inr (At hb▸nD))) qq.2⟩
 ·obtain rfl:=Nat.le_antisymm hi (Nat.le_of_not_lt hlt3)
  rw[List.drop_length]at L2
  exact W.done _ _ _ hst fun h2 t2 k2=>fin _ _ _ _ _ _ _ _ r2 k2 (k2 _ _ Dwr gDh) facc (ck.poke k2 fun b hb=>.inl hb) L2
theorem Rel.shrink(r:Rel U R Y st as h)(k:∀b∈R',b∈R)(hl:Y.locals∈R')(hc:∀x c,Y.cells.lookup x=some c→c∈R'):Rel U R' Y st as h:=by
 obtain⟨⟨val,cs',hr,hd⟩,hn,hsep,_,_,hm,hcl,hi,hb⟩:=r
 have kv:=FJ (as:=as) (h:=h) k
 exact⟨⟨val,cs',fun x a hx=>(by obtain⟨p,q,z⟩:=hr x a hx;exact⟨p,q.mono kv fun b V o e=>e,z⟩),hd⟩,hn,fun b hb=>hsep b (k b hb),hl,hc,hm,hcl,fun b hb=>hi b (k b hb),fun b o e=>kv b o (hb b o e)⟩
theorem SZ{Q:List Dat→St→Prop}(ok:BG sc scope){fp:List Addr}{cl:List (Str×Addr)}
 (hR:CG A n) (hE:AN sc Y) (r0:Rel U (wr++R) Y st as s.heap) (hl:Y.locals∈R) (hc:∀x c,Y.cells.lookup x=some c→c∈R) (offW:∀b∈wr,b∉R) (W:Src O w A tgt I fp wr (vis (wr++R) as s.heap) ds S Mid) (h0:S 0 s.heap) (hcl:Qc scope Y cl ow)
 (L:Bm O w U (BL scope sc) n tgt ifs elt (fun acc stI=>Q acc (EY (BF scope) st stI)) ds [] (IC (BF scope) st)) 
 (hRR:∀D C h' tk acc st' as' vs m,Rel U (C::D::R) Y st' as' h'→h'.get? D=some (seqObj "list" vs.toArray m)→FzL (vis (C::D::R) as' h') vs acc→s.heap.get? D=none→s.heap.get? C=none→C≠D→
  (∀as0 h0,Ai as0 h0 as s.heap→(∀b∈wr,h0.get? b=none)→Ai as0 h0 as' h')→(∃m,h'.Ns C m)→Q acc st'→RR (.ref D) C (.ok .next) {s with heap:=h',toks:=tk})
 {D:Addr}{m0:Str→Option Value} (hns1:h1.Ns C m0) (hCD':C≠D) (nC:s.heap.get? C=none) (nD:s.heap.get? D=none) (k1:∀b o,s.heap.get? b=some o→h1.get? b=some o) (gD:h1.get? D=some (seqObj "list" ([]:List Value).toArray 0)) (hO:∀x c,(x,c)∈ow→s.heap.get? c=none∧h1.IsCell c none∧c≠C∧c≠D) {tk0:Nat}:
 codeAny (model O w) A (.compStart (.ListComp elt [⟨tgt,iter,ifs,0⟩] scope pos) 0 (.ref I) (.ref D) (compEnvC scope cl C Y)) (RR (.ref D) C) {s with heap:=h1,toks:=tk0}:=by
 refine r0.trimP fun as1 sub1 hlt r1=>?_
 obtain⟨asF,rest,subF,subR,mkI,back⟩:=Rel.lend (fr:=BF scope) r1 hl hc offW hlt
 have oldc:∀{c:Addr},s.heap.get? c=none→∀y,Y.cells.lookup y≠some c:=fun{c} e y q=>Bf e (r1.inb c (mem_append_right _ (hc y c q)))
 have hEI:AN (BL scope sc) (compEnvC scope cl C Y):=ok.envOk hE hcl (fun x c e q=>Bf nC (q▸r1.inb c (mem_append_right _ (hc x c e)))) fun x c q=>⟨(hO x c q).2.2.1,oldc (hO x c q).1⟩
 have hown:∀x c,Fh (compEnvC scope cl C Y).scope x=true→(compEnvC scope cl C Y).cells.lookup x=some c→s.heap.get? c=none:=fun x c e q=>(hcl.all x c q).elim (fun q=>(hO x c q).1) fun q=>by
  rw[hEI.isSc,ok.off x q.1]at e;cases e
 let OW:=ow.map (·.2)
 have mow:∀{c:Addr},c∈OW→∃x,(x,c)∈ow:=fun{c} hb=>by
  obtain⟨⟨x,c'⟩,h1,rfl⟩:=mem_map.mp hb;exact⟨x,h1⟩
 have hcells:∀x c,(compEnvC scope cl C Y).cells.lookup x=some c→Y.cells.lookup x=some c∨c∈C::D::OW∧∃v,h1.IsCell c v:=fun x c e=>(hcl.all x c e).symm.imp (·.2) fun q=>⟨.tail _ (.tail _ (mem_map.mpr ⟨(x,c),q,rfl⟩)),_,(hO x c q).2.1⟩
 have aC:∃o,h1.get? C=some o:=(by obtain⟨o,_,_,e,_⟩:=hns1;exact⟨o,e⟩)
 have newW:∀c∈OW,s.heap.get? c=none∧∃o,h1.get? c=some o:=fun c hb=>by
  obtain⟨x,hx⟩:=mow hb
  obtain⟨p,⟨o,e,_⟩,_⟩:=hO x c hx
  exact⟨p,o,e⟩
 obtain⟨rI0,kvI0⟩:=mkI (h1:=h1) (cenv:=compEnvC scope cl C Y) (new:=C::D::OW) k1 (Ht ⟨nC,aC⟩ ⟨nD,_,gD⟩ newW) (.head _) ⟨_,hns1⟩ hcells (ok.into hE hcl)
 have wrOld:∀b∈wr,∃o,s.heap.get? b=some o:=fun b hb=>r1.inb b (mem_append_left _ hb)
 have Dwr:D∉wr:=fun q=>Bf nD (wrOld D q)
 have Cwr:C∉wr:=fun q=>Bf nC (wrOld C q)
 have OWwr:∀c∈OW,c∉wr:=fun c hb q=>Bf (newW c hb).1 (wrOld c q)
 have cenvR:∀x c,(compEnvC scope cl C Y).cells.lookup x=some c→c∈OW++R:=fun x c e=>(hcl.all x c e).elim (fun q=>mem_append_left _ (mem_map.mpr ⟨(x,c),q,rfl⟩)) fun q=>mem_append_right _ (hc x c q.2)
 have cenvW:∀x c,(compEnvC scope cl C Y).cells.lookup x=some c→c∉wr:=fun x c e q=>(mem_append.mp (cenvR x c e)).elim (fun z=>OWwr c z q) (offW c q)
 have cenvD:∀x c,(compEnvC scope cl C Y).cells.lookup x=some c→c∉[D]:=fun x c e q=>(hcl.all x c e).elim (fun z=>(hO x c z).2.2.2 (At q)) fun z=>Bf nD (At q▸r1.inb c (mem_append_right _ (hc x c z.2)))
 have hback:=fun{h2 sti asi}=>back (h2:=h2) (cenv:=compEnvC scope cl C Y) (Rn:=C::D::(OW++R)) (asI:=asi) (stI:=sti)
 have bk:∀{h2:Heap},∀x∈BF scope,∀v,AB h2 (compEnvC scope cl C Y) x v→AB h2 Y x v:=fun{h2}=>ok.back hE hcl
 have hCl:(compEnvC scope cl C Y).locals=C:=rfl
 generalize compEnvC scope cl C Y=cenv at*
 subst hCl
 clear mkI back
 have DS:D∈wr++(cenv.locals::D::((OW++R)++rest)):=mem_append_right _ (.tail _ (.head _))
 have hst1:S 0 h1:=W.frame _ _ _ h0 fun b hb o e=>k1 b o e
 have pm:∀b,b∈(cenv.locals::D::OW)++((wr++R)++rest)↔b∈wr++(cenv.locals::D::((OW++R)++rest)):=fun b=>by
  simp only[mem_append,mem_cons,or_assoc];constructor<;>(rintro(h|h|h|h|h|h)<;>simp[h])
 have rI1:=rI0.perm pm
 have gv0:∀b o,vis (wr++R) as s.heap b o→vis (wr++(cenv.locals::D::((OW++R)++rest))) asF h1 b o:=fun b o z=>SX pm b o (kvI0 b o ((Ai.less sub1).vis b o z))
 have hoff:∀{sti asi hh h2},Rel U (wr++(cenv.locals::D::((OW++R)++rest))) cenv sti asi hh→(∀b o,b∉wr→hh.get? b=some o→h2.get? b=some o)→Rel U (cenv.locals::D::((OW++R)++rest)) cenv sti asi h2:=fun r2 k2=>r2.off (.head _) (fun x c e=>.tail _ (.tail _ (mem_append_left _ (cenvR x c e)))) (fun b hb q=>Ht (p:=fun b=>b∉wr) Cwr Dwr (fun b q hb=>(mem_append.mp q).elim (fun q=>(mem_append.mp q).elim (fun z=>OWwr b z hb) (offW b hb)) fun q=>r1.sep b (mem_append_left _ hb) (subR b q)) b q hb) k2
 have wrS:∀b∈wr,b∈wr++(cenv.locals::D::((OW++R)++rest)):=fun b hb=>mem_append_left _ hb
 have sk:∀b∈cenv.locals::D::R,b∈cenv.locals::D::(OW++R):=Ht (.head _) (.tail _ (.head _)) fun b hb=>.tail _ (.tail _ (mem_append_right _ hb))
 have loop:codeAny (model O w) A (.compLoop (.ListComp elt [⟨tgt,iter,ifs,0⟩] scope pos) 0 (.ref I) (.ref D) cenv) (RR (.ref D) cenv.locals) {s with heap:=h1,toks:=tk0}:=by
  refine Mi
   (Wg O w U (BL scope sc) n tgt ifs elt (fun acc stI=>Q acc (EY (BF scope) st stI)) ds D R wr (wr++(cenv.locals::D::((OW++R)++rest))) asF as cenv s S) (fun k s' hI=>?_) (ds.length+1)
   ⟨0,_,asF,h1,_,[],0,[],rfl,zero_le _,rfl,rI1,hst1,gv0,gD,.nil,⟨fun b o V V e=>k1 b o e,fun b hb=>.inl hb,fun b o V e=>⟨o,k1 b o e⟩⟩,L⟩
  obtain⟨i,sti,asi0,hh,tk,vs,m,acc,rfl,hi,rfl,r20,hst,gv20,gDh,facc0,ck0,L2⟩:=hI
  refine SY hR hEI hown W wrS Cwr cenvW DS Dwr hCD' cenvD nC nD
   (fun i sti asi hh tk vs m acc hi r hst gv gD f ck L=>⟨i,sti,asi,hh,tk,vs,m,acc,rfl,hi,rfl,r,hst,gv,gD,f,ck,L⟩) (fun sti asi hh h2 tk vs m acc r2 k2 gD facc ck2 L=>?_) hi r20 hst gv20 gDh facc0 ck0 L2
  obtain⟨rB,eB,kB⟩:=hback (hoff r2 k2) (fun b hb=>.tail _ (.tail _ (mem_append_right _ hb))) (Ht (.inr nC) (.inr nD) fun b hb=>(mem_append.mp hb).elim (fun z=>.inr (newW b z).1) .inl) ck2.keep ck2.fresh ck2.live bk
  exact hRR D _ h2 tk acc _ _ vs m (rB.shrink sk (.tail _ (.tail _ hl)) fun x c e=>.tail _ (.tail _ (hc x c e))) gD (facc.mono (by rintro b o ⟨p,q,e⟩;exact FJ sk _ _ (kB b o ⟨fun z=>p (mem_append_right _ z),q,k2 b o (fun z=>p (mem_append_left _ z)) e⟩))) nD nC hCD' (fun as0 h0 e0 fr=>eB as0 h0 (e0.trans (Ai.less sub1)) fr) (hoff r2 k2).locs L
 exact codeAny_compStart_list loop (W.self 0 _ _ _ hst1 loop)
theorem JE:∀(names:List (Str×NameKind)) (k:Nat) (acc:List (Str×Addr)),cellsFrom k names acc=cellsFrom k names []++acc:=by
 intro names
 induction names with
 |nil=>intro k acc;rfl
 |cons hd r ih=>
  obtain⟨name,kind⟩:=hd
  intro k acc
  unfold cellsFrom
  split
  ·refine rr (ih ..) ?_;refine rr (ih (k+1) [(name,k)]) (rr (append_assoc ..) ?_);rfl
  ·exact ih k acc
set_option tactic.hygienic true in
theorem JF:∀(names:List (Str×NameKind)) (k:Nat) (acc:List (Str×Addr)),(∀x c,(x,c)∈cellsFrom k names acc→(x,c)∈acc∨(x,NameKind.cell)∈names)∧∀x,((x,NameKind.cell)∈names∨∃c,acc.lookup x=some c)→∃c,(cellsFrom k names acc).lookup x=some c:=by
 intro names
 induction names with
 |nil=>exact fun k acc=>⟨fun x c h=>.inl h,fun x h=>h.elim (fun q=>nomatch q) id⟩
 |cons hd r ih=>
  obtain⟨name,kind⟩:=hd
  intro k acc
  unfold cellsFrom
  split
  ·rename_i hk
   have hk':kind=.cell:=by simpa using hk
   subst hk'
   obtain⟨i1,i2⟩:=ih (k+1) ((name,k)::acc)
   refine⟨fun x c h=>?_,fun x h=>i2 x ?_⟩
   ·rcases i1 x c h with q|q
    ·rcases mem_cons.mp q with e|q
     ·cases e;exact .inr (.head _)
     ·exact .inl q
    ·exact .inr (.tail _ q)
   ·by_cases e:x=name
    ·subst e;exact .inr ⟨k,by refine rr lookup_cons (rr (beq_self_eq_true ..) ?_);rfl⟩
    ·rcases h with h|⟨c,h⟩
     ·rcases mem_cons.mp h with e'|h
      ·cases e';exact absurd rfl e
      ·exact .inl h
     ·exact .inr ⟨c,by refine rr lookup_cons (rr (beq_eq_false_iff_ne.mpr e) ?_);exact h⟩
  ·rename_i hk
   obtain⟨i1,i2⟩:=ih k acc
   refine⟨fun x c h=>(i1 x c h).imp id fun q=>.tail _ q,fun x h=>i2 x (h.imp (fun h=>?_) id)⟩
   rcases mem_cons.mp h with e'|h
   ·cases e';exact absurd rfl hk
   ·exact h
theorem Qd{Q:List Dat→St→Prop}(ok:BG sc scope){fp:List Addr}{cl:List (Str×Addr)}
 (hR:CG A n) (hE:AN sc Y) (r0:Rel U (wr++R) Y st as s.heap) (hl:Y.locals∈R) (hc:∀x c,Y.cells.lookup x=some c→c∈R) (offW:∀b∈wr,b∉R) (W:Src O w A tgt I fp wr (vis (wr++R) as s.heap) ds S Mid) (h0:S 0 s.heap) (hcl:∀x,cl.lookup x=if x∈BF scope then Y.cells.lookup x else none)
 (L:Bm O w U (BL scope sc) n tgt ifs elt (fun acc stI=>Q acc (EY (BF scope) st stI)) ds [] (IC (BF scope) st)) 
 (hRR:∀D C h' tk acc st' as' vs m,Rel U (C::D::R) Y st' as' h'→h'.get? D=some (seqObj "list" vs.toArray m)→FzL (vis (C::D::R) as' h') vs acc→s.heap.get? D=none→s.heap.get? C=none→C≠D→
  (∀as0 h0,Ai as0 h0 as s.heap→(∀b∈wr,h0.get? b=none)→Ai as0 h0 as' h')→(∃m,h'.Ns C m)→Q acc st'→RR (.ref D) C (.ok .next) {s with heap:=h',toks:=tk}):
 wpAny (model O w) A (newList []) (fun acc s₃=>wpAny (model O w) A (newFunctionEnv scope Y.globals cl [] Y.qual none .none (some Y)) (fun cenv s₄=>
  codeAny (model O w) A (.compStart (.ListComp elt [⟨tgt,iter,ifs,0⟩] scope pos) 0 (.ref I) acc {cenv with scope:=relabel scope Y}) (RR acc cenv.locals) s₄) E s₃) E s:=by
 refine wpAny_newObj_type ?_
 generalize hH2:s.heap.push {cls:=.type "list",dict:=none,data:=.seq ([]:List Value).toArray}=H2
 have k2:∀b o,s.heap.get? b=some o→H2.get? b=some o:=fun b o e=>hH2▸get?_push_of_some _ e
 have gD:H2.get? s.heap.objs.size=some (seqObj "list" ([]:List Value).toArray 0):=hH2▸get?_push_size _ rfl
 have hC:H2.objs.size=s.heap.objs.size+1:=by refine rl hH2 (rr (size_push ..) ?_);rfl
 simp only[newFunctionEnv,Option.isSome_some,if_true]
 refine wpAny_bind (wpAny_alloc ?_)
 refine wpAny_bind (wpAny_layCells _ (fun name kind cells=>by cases hkc:kind==NameKind.cell<;>simp) _ _ _ _ ?_)
 dsimp only
 refine rr forIn_nil ?_
 refine wpAny_bind (wpAny_pure (wpAny_pure ?_))
 have hC3:(H2.push {cls:=.type "dict",data:=.dict #[]}).objs.size=s.heap.objs.size+2:=by refine rr (size_push ..) (rr hC ?_);rfl
 have gC:(H2.push {cls:=.type "dict",data:=.dict #[]}).Ns H2.objs.size fun V=>none:=Heap.Ns.new H2 (.type "dict")
 have k3:∀b o,H2.get? b=some o→(H2.push {cls:=.type "dict",data:=.dict #[]}).get? b=some o:=fun b o e=>get?_push_of_some _ e
 generalize H2.push {cls:=.type "dict",data:=.dict #[]}=H3 at hC3 gC k3⊢
 have nC:s.heap.get? H2.objs.size=none:=AH _ (by refine rr hC ?_;exact le_succ _)
 have kp:=pushCells_keeps scope.names H3
 have ck:=cellsFrom_ok scope.names H3 H3.objs.size [] ⟨fun V V hm=>(nomatch hm),List.Pairwise.nil⟩ (le_refl _)
 have cm:=JF scope.names H3.objs.size
 refine rr (JE ..) ?_
 have cm0:∀x c,(x,c)∈cellsFrom H3.objs.size scope.names []→(x,NameKind.cell)∈scope.names:=fun x c h=>((cm []).1 x c h).resolve_left fun q=>nomatch q
 have lk:∀x,x∈BF scope→(cellsFrom H3.objs.size scope.names []).lookup x=none:=fun x hx=>by
  cases e:(cellsFrom H3.objs.size scope.names []).lookup x with
  |none=>rfl
  |some c=>exact absurd (cm0 x c (mem_of_lookup e)) (ok.apart x hx)
 have CL:Qc scope Y (cellsFrom H3.objs.size scope.names []++cl) (cellsFrom H3.objs.size scope.names []):=by
  refine⟨fun x hx=>?_,fun x c e=>?_,fun x hx=>?_,cm0,ck.apart⟩
  ·refine rr List.lookup_append ?_;refine rr (lk x hx) (rr none_or ?_);refine rr (hcl ..) (rr (if_pos hx) ?_);rfl
  ·rw[List.lookup_append]at e
   cases e':(cellsFrom H3.objs.size scope.names []).lookup x with
   |some c'=>rw[e',some_or]at e;cases e;exact .inl (mem_of_lookup e')
   |none=>
    rw[e',none_or,hcl]at e
    split at e
    ·exact .inr ⟨‹_›,e⟩
    ·cases e
  ·obtain⟨c,e⟩:=(cm []).2 x (.inl hx)
   exact⟨c,by refine rr List.lookup_append ?_;refine rr e (rr some_or ?_);rfl⟩
 refine SZ ok hR hE r0 hl hc offW W h0 CL L hRR (gC.keeps kp) (by refine rr hC ?_;exact Nat.succ_ne_self _) nC (AH _ (le_refl _)) (fun b o e=>kp b o (k3 b o (k2 b o e))) (kp _ _ (k3 _ _ gD)) fun x c h=>?_
 obtain⟨p,q⟩:=ck.empty x c h
 rw[hC3]at q
 exact⟨AH _ (le_trans (le_add_right _ 2) q),p,by refine rr hC ?_;exact Nat.ne_of_gt (lt_of_lt_of_le (lt_succ_self _) q),Nat.ne_of_gt (lt_of_lt_of_le (Nat.lt_add_of_pos_right (by decide)) q)⟩
theorem Ai.over(S:Ai as h as1 h1)(k:∀b o,b∉wr→h1.get? b=some o→h2.get? b=some o)(fr:∀b∈wr,h.get? b=none):Ai as h as1 h2:=by
 have off:∀b o,h.get? b=some o→b∉wr:=fun b o e q=>by rw[fr b q]at e;cases e
 exact⟨fun b o hb e=>k b o (off b o e) (S.keep b o hb e),S.fresh,fun b o e=>(by obtain⟨o',e'⟩:=S.live b o e;exact⟨o',k b o' (off b o e) e'⟩)⟩
theorem Ez(S:Heap.SameBut C h h'):∀b o,b∉[C]→h.get? b=some o→h'.get? b=some o:=fun b V hb e=>(S.2 b fun q=>hb (by refine rr q ?_;exact .head _)).trans e
theorem EA{Q:AF→St→Prop}(ok:BG sc scope)
 (h:Es O w U sc n iter tgt st fun ds st1=>Bm O w U (BL scope sc) n tgt ifs elt (fun acc stI=>Q (.lst acc) (EY (BF scope) st1 stI)) ds [] (IC (BF scope) st1))
 (hs:autoParam (∀Y x,foldedSetIterable iter Y x=pure x) au.a5._auto_1):Ef O w U sc n (.ListComp elt [⟨tgt,iter,ifs,0⟩] scope pos) st Q:=by
 intro A Y R as s hR hE r
 obtain⟨cl,hclos,hcl⟩:=IX (scope:=scope) (Y:=Y) fun x hx=>hE.has x (ok.outer x (mem_map.mpr ⟨(x,.free),mem_filter.mpr ⟨hx,rfl⟩,rfl⟩))
 refine rr (eval_ListComp ..) ?_
 refine wpAny_comprehension_free (use:=none) rfl (hs Y) hclos ok.kind ok.names (h.go hR hE r fun I ds st1 as1 h1 t1 fp wr S Mid e1 r1 W hst fr L=>?_)
 refine Qd ok (s:={s with heap:=h1,toks:=t1}) hR hE r1 r.locR r.celR (BS r fr) W hst hcl L ?_
 intro D C h' tk acc st' as' vs m r2 gD fz nD nC ne eB hn q
 obtain⟨mm,hn⟩:=hn
 refine⟨mm,hn,fun h2 sb=>?_⟩
 have k:=Ez sb
 have frC:∀b∈[C],s.heap.get? b=none:=fun b hb=>by refine rr (At hb) ?_;exact e1.live.none nC
 have r3:Rel U ([D]++R) Y st' as' h2:=Rel.off (wr:=[C]) r2 (.tail _ r.locR) (fun x c e=>.tail _ (r.celR x c e)) (fun b hb q=>by
  rw[At hb]at q
  cases q with
  |head=>exact ne rfl
  |tail _ q=>obtain⟨o,e⟩:=r.inb C q;rw[frC C (.head _)]at e;cases e) k
 refine⟨.lst acc,st',as',h2,tk,[D],rfl,(eB as s.heap e1 fr).over k frC,r3,.lst (k _ _ (fun z=>ne (At z).symm) gD) (fz.mono (by rintro b o ⟨p,q,e⟩;exact⟨fun z=>p (.tail _ z),q,k b o (fun z=>p (by refine rr (At z) ?_;exact .head _)) e⟩)),fun b hb=>by refine rr (At hb) ?_;exact e1.live.none nD,q⟩
theorem Dv{py spos:Pos}(ok:BG sc scope)
 (h:Es O w U sc n iter tgt st fun ds st1=>Bm O w U (BL scope sc) n tgt ifs elt (fun acc stI=>Q .next (put y (.lst acc) (EY (BF scope) st1 stI))) ds [] (IC (BF scope) st1))
 (hy:BD sc y=true) (hsw:∀Y,Y.scope=sc→swapsWith (.ListComp elt [⟨tgt,iter,ifs,0⟩] scope pos) (some (.Name y py)) spos.line Y=pure true)
 (hs:autoParam (∀Y x,foldedSetIterable iter Y x=pure x) au.a5._auto_1):Sx O w U sc n (.Assign [.Name y py] (.ListComp elt [⟨tgt,iter,ifs,0⟩] scope pos) spos) st Q:=by
 intro A Y R as s hR hE r
 obtain⟨cl,hclos,hcl⟩:=IX (scope:=scope) (Y:=Y) fun x hx=>hE.has x (ok.outer x (mem_map.mpr ⟨(x,.free),mem_filter.mpr ⟨hx,rfl⟩,rfl⟩))
 refine rr (exec_Assign_Name_used _ _ _ _ (hsw Y hE.isSc)) ?_
 refine wpAny_bind (wpAny_standAt (wpAny_bind ?_))
 show wpAny _ A (do let _←comprehension (.ListComp elt [⟨tgt,iter,ifs,0⟩] scope pos) scope Y _ (newList []) false (eval iter Y) (some (assign (.Name y py) Y))) _ _ s
 refine wpAny_bind (wpAny_mono (wpAny_comprehension_free (use:=some (assign (.Name y py) Y)) (Q:=fun V s'=>PX U R Y as s Q .next s') rfl (hs Y) hclos ok.kind ok.names
  (h.go hR hE r fun I ds st1 as1 h1 t1 fp wr S Mid e1 r1 W hst fr L=>?_)) (fun V s' hq=>wpAny_pure (wpAny_pure hq)) fun V V e=>e)
 refine Qd (Q:=fun acc st'=>Q .next (put y (.lst acc) st')) ok (s:={s with heap:=h1,toks:=t1}) hR hE r1 r.locR r.celR (BS r fr) W hst hcl L ?_
 intro D C h' tk acc st' as' vs m r2 gD fz nD nC ne eB hn q
 obtain⟨mm,hn⟩:=hn
 show wpAny _ A (assign (.Name y py) Y (.ref D)) _ _ _
 have frC:∀b∈[C],s.heap.get? b=none:=fun b hb=>by refine rr (At hb) ?_;exact e1.live.none nC
 have frD:s.heap.get? D=none:=e1.live.none nD
 have CR:C∉R:=fun q=>Bf (frC C (.head _)) (r.inb C q)
 have DR:D∉R:=fun q=>Bf frD (r.inb D q)
 have r2':Rel U ([D]++(C::R)) Y st' as' h':=r2.perm fun b=>by simp only[List.cons_append,nil_append,mem_cons];constructor<;>(rintro(h|h|h)<;>simp[h])
 have rep:Cp (vis ([D]++(C::R)) as' h') h' (.ref D) (.lst acc) [D]:=.lst gD (fz.mono (by rintro b o ⟨p,q,e⟩;exact⟨fun z=>p ((List.Perm.swap ..).mem_iff.mp z),q,e⟩))
 refine PyProof.Rows.assign_Name (Mb (s:={s with heap:=h',toks:=tk}) hE r2' rep (.tail _ r.locR) (fun x c e=>.tail _ (r.celR x c e)) (fun b hb q=>(mem_cons.mp (At hb▸q)).elim (fun z=>ne z.symm) DR) hy fun h3 t3 S3 r3=>?_)
 obtain⟨o,es,ep,go,gd,gs,gf⟩:=hn
 refine⟨mm,⟨o,es,ep,S3.keep C o (fun q=>CR (q▸r.locR)) (fun x V q=>CR (r.celR x C q)) go,gd,gs,gf⟩,fun h4 sb=>?_⟩
 have k:=Ez sb
 have r4:Rel U R Y (put y (.lst acc) st') ([D]++as') h4:=Rel.off (wr:=[C]) r3 r.locR r.celR (fun b hb q=>CR (At hb▸q)) k
 have e5:=eB as s.heap e1 fr
 refine⟨.next,_,_,h4,t3,rfl,Bc.over (h1:=h3) ⟨fun b o n1 n2 hb eb=>S3.keep b o n1 n2 (e5.keep b o hb eb),fun b hb=>?_,e5.live.trans S3.live,fun F V V hp hv=>S3.pin hp (e5.pin F hv)⟩ k frC,r4,trivial,q⟩
 rcases mem_append.mp hb with hb|hb
 ·exact .inr (by refine rr (At hb) ?_;exact frD)
 ·exact e5.fresh b hb
def Fa(O:Program)(w:World)(U:Heap)(sc:Scope)(n:Nat)(t:Expr)(body:List Stmt)(Q:Fl→St→Prop):Nat→St→Prop
 |0,_=>False
 |k+1,st=>Et O w U sc n t st fun b st1=>(b=true→Ss O w U sc n body st1 (IV Q (Fa O w U sc n t body Q k)))∧(b=false→Q .next st1)
inductive cB(O:Program)(w:World)(U:Heap)(sc:Scope)(n:Nat)(t:Expr)(body:List Stmt)(Q:Fl→St→Prop)(R:List Addr)(Y:Env)(as:List Addr)(s:Shared)(k:Nat)(s':Shared):Prop
 |mk (sti:St) (asi:List Addr) (h:Heap) (tk:Nat) (hs:s'={s with heap:=h,toks:=tk}) (e:Bc Y as s.heap asi h) (r:Rel U R Y sti asi h) (L:Fa O w U sc n t body Q k sti)
theorem FP(N:Nat)(h:Fa O w U sc n t body Q N st):Sx O w U sc n (.While t body [] pos) st Q:=by
 intro A Y R as s hR hE r
 refine wpAny_While ?_
 have mkI:∀k sti asi h tk,Bc Y as s.heap asi h→Rel U R Y sti asi h→Fa O w U sc n t body Q k sti→cB O w U sc n t body Q R Y as s k {s with heap:=h,toks:=tk}:=fun k sti asi h tk a b c=>⟨sti,asi,h,tk,rfl,a,b,c⟩
 refine codeAny_whileLoop (cB O w U sc n t body Q R Y as s) (fun k s' hI=>?_) N (mkI _ _ _ _ _ (Bc.refl ..) r h)
 obtain⟨sti,asi,hh,tk,rfl,S0,r0,L⟩:=hI
 have mkX:=PX.mk' (U:=U) (R:=R) (Y:=Y) (as:=as) (s:=s) (Q:=Q)
 revert mkI mkX
 refine gen (cB O w U sc n t body Q R Y as s) fun J=>?_
 refine gen (PX U R Y as s Q) fun X mkI mkX=>?_
 rcases k with _|⟨k⟩
 ·exact L.elim
 refine L.go (s:={s with heap:=hh,toks:=tk}) hR hE r0 fun b st1 as1 h1 t1 e1 r1 qq=>?_
 rcases b with _|_
 ·refine rr (if_neg Bool.false_ne_true) ?_
  exact wpAny_execs_nil (mkX _ .next _ _ _ _ (S0.trans e1.toS) r1 trivial (qq.2 rfl))
 refine rr (if_pos rfl) ?_
 refine(qq.1 rfl).go (s:={s with heap:=h1,toks:=t1}) hR hE r1 fun f fl st2 as2 h2 t2 S2 r2 fo q=>?_
 have S3:=(S0.trans e1.toS).trans S2
 cases f<;>cases fl<;>first|exact fo.elim|exact⟨k,lt_succ_self k,mkI _ _ _ _ _ S3 r2 q⟩|exact mkX _ .next _ _ _ _ S3 r2 trivial q|exact mkX _ (.ret _) _ _ _ _ S3 r2 fo q
def Bi(O:Program)(w:World)(f:Value)(x y:Dat):Prop:=
 ∀(A:Around) (s:Shared) (g:Cd) (v:Value) (Q:Value→Shared→Prop),A.handled=none→(∀b o,g b o→s.heap.get? b=some o)→Now g s.heap v x→
  (∀h' tk u,(∀b o,s.heap.get? b=some o→h'.get? b=some o)→Fz g u y→Q u {s with heap:=h',toks:=tk})→wpAny (model O w) A (call f [v]) Q (fun V V=>False) s
theorem Bi.pe{f:Value}{x y:Dat}(B:Bi O w f x y){Q:EV→St→Prop}(hR:CG A n)(r:Rel U R Y st as s.heap)(hv:Now (vis R as s.heap) s.heap v x)(q:Q (.dat y) st):
 wpAny (model O w) A (call f [v]) (PE U R Y as s Q) (fun V V=>False) s:=
 B A s _ v _ hR.handled Bu hv fun h' tk V k fu=>PE.grown (t1:=tk) r rfl k (fu.mono (by rintro b o ⟨p,q,e⟩;exact⟨p,q,k b o e⟩)) q
theorem El1{P:EV→St→Prop}{Q:List Value→Shared→Prop}(h:Ev O w U sc n e st P)(hR:CG A n)(hE:AN sc Y)(r:Rel U R Y st as s.heap)
 (k:∀v s',PE U R Y as s P v s'→Q [v] s') (he:∀Y,starEach [e] Y=(false,eval e Y)::starEach [] Y):wpAny (model O w) A (spliced (backTo pos (starEach [e] Y))) Q (fun V V=>False) s:=
 wpAny_items_cons (wpAny_mono (h A Y R as s hR hE r) (fun v s' p=>wpAny_items_nil (k v s' p)) fun V V x=>x) (he Y)
theorem KV(S:Ao O K U){id:String}{p:Pos}{Q:EV→St→Prop}(g:GlB sc K x)(hv:bootBuiltins x=some (.builtin id))(h:Ev O w U sc n e st fun a st1=>∃x y,rd st1 a=some x∧Bi O w (.builtin id) x y∧Q (.dat y) st1)
 (he:autoParam (∀Y,starEach [e] Y=(false,eval e Y)::starEach [] Y) au.a1._auto_1):Ev O w U sc n (.Call (.Name x p) [e] [] pos) st Q:=by
 intro A Y R as s hR hE r
 refine Call_Name rfl (HA S g hv hE r (PyProof.Rows.callWith_builtin1 (El1 h hR hE r ?_ he) (he Y)))
 rintro v s1 ⟨a,st1,as1,h1,t1,rfl,e1,r1,x1,xd,yd,ex,B,q⟩
 exact wpAny_mono (B.pe (s:={s with heap:=h1,toks:=t1}) hR r1 (r1.now x1 ex) q) (fun V V p=>PE.after (t1:=t1) e1 p) fun V V x=>x
theorem ZA(S:Ao O K U){p:Pos}{Q:EV→St→Prop}(g:GlB sc K x)(hv:bootBuiltins x=some (.type T))(h:Ev O w U sc n e st fun a st1=>∃x y,rd st1 a=some x∧Bi O w (.type T) x y∧Q (.dat y) st1)
 (he:autoParam (∀Y,starEach [e] Y=(false,eval e Y)::starEach [] Y) au.a1._auto_1):Ev O w U sc n (.Call (.Name x p) [e] [] pos) st Q:=by
 intro A Y R as s hR hE r
 refine Call_Name rfl (HA S g hv hE r (PyProof.Rows.callWith_type1 (El1 h hR hE r ?_ he) (he Y)))
 rintro v s1 ⟨a,st1,as1,h1,t1,rfl,e1,r1,x1,xd,yd,ex,B,q⟩
 exact wpAny_mono (B.pe (s:={s with heap:=h1,toks:=t1}) hR r1 (r1.now x1 ex) q) (fun V V p=>PE.after (t1:=t1) e1 p) fun V V x=>x
theorem ZB{x:Dat}(e:Eu x=some ds)(hz:ds.length<2^62):Bi O w (.builtin "len") x (.int ds.length):=by
 intro A s g v Q hh hg hv k
 cases x<;>first|(cases e;done)|skip
 ·cases e
  refine Now.tupleP hv fun a vs m ho f=>?_
  have hl:vs.toArray.size=ds.length:=(size_toArray).trans f.length
  exact len_tuple (items:=vs.toArray) ⟨_,hg _ _ ho,rfl,_,rfl⟩ (by refine rr hl ?_;lia) (by refine rr hl ?_;exact k s.heap _ _ (fun V V e=>e) (.int _ _))
 ·cases e
  refine Now.listP hv hg fun a vs m ho f=>?_
  have hl:vs.toArray.size=ds.length:=(size_toArray).trans f.length
  exact PyProof.Rows.len_list (items:=vs.toArray) ⟨_,ho,rfl,_,rfl⟩ (by refine rr hl ?_;lia) (by refine rr hl ?_;exact k s.heap _ _ (fun V V e=>e) (.int _ _))
theorem ZC:Bi O w (.builtin "abs") (.int a) (.int (if a<0 then-a else a)):=by
 intro A s g v Q hh hg hv k
 refine Now.intP hv fun t=>?_
 exact call_abs_int fun u tk=>k s.heap tk _ (fun V V e=>e) (.int _ _)
theorem ZD:Bi O w (.type "int") (.int a) (.int a):=by
 intro A s g v Q hh hg hv k
 refine Now.intP hv fun t=>?_
 exact call_int_int (k s.heap s.toks _ (fun V V e=>e) (.int _ _))
theorem OB(h:FzL g vs (ns.map .int)):∃xs:List (Int×Tok),vs=xs.map (fun p=>.int p.1 p.2)∧xs.map (·.1)=ns:=by
 induction ns generalizing vs with
 |nil=>cases h;exact⟨[],rfl,rfl⟩
 |cons i ns ih=>
  cases h with
  |cons f r=>
   cases f with
   |int _ t=>
    obtain⟨xs,h1,h2⟩:=ih r
    exact⟨(i,t)::xs,by refine rr h1 ?_;rfl,by refine rl h2 ?_;rfl⟩
theorem Qe(ns:List Int)(val:Nat→Int):∀k,k≤ns.length→(∀j,j<ns.length→val j=ns.getD j 0)→preSum val k=(ns.take k).sum:=by
 intro k hk hv
 induction k with
 |zero=>simp[preSum]
 |succ k ih=>
  rewrite[preSum];refine rr (ih (by exact Ay hk)) (rr (hv k (by exact Ay hk)) ?_);refine rr List.take_add_one (rr sum_append ?_)
  have:ns[k]?=some ns[k]:=List.getElem?_eq_getElem (by exact Ay hk)
  simp[this,List.getD]
theorem Nh:Bi O w (.builtin "sum") (.list (ns.map .int)) (.int ns.sum):=by
 intro A s g v Q hh hg hv k
 refine Now.listP hv hg fun a vs m ho f=>?_
 obtain⟨xs,h1,h2⟩:=OB f
 have e:vs.toArray=intItems xs.toArray:=by subst h1;simp[intItems]
 refine sum_intListG (xs:=xs.toArray) hh ⟨_,ho,rfl,_,by refine rl e ?_;rfl⟩ fun h' tk t' hk=>?_
 have:preSum (numAt xs.toArray) xs.toArray.size=ns.sum:=by
  have:=Qe ns (numAt xs.toArray) ns.length (le_refl _) fun j hj=>by
   subst h2
   simp at hj
   delta numAt
   simp[hj]
  rw[List.take_length]at this
  refine rl this (rl h2 ?_);simp
 refine rr this ?_
 exact k h' tk _ hk (.int _ _)
theorem Qf{a:Addr}{Q:Value→Shared→Prop}(hl:s.heap.IsList a items)
 (k:∀I h1,(∀b o,s.heap.get? b=some o→h1.get? b=some o)→s.heap.get? I=none→a≠I→h1.IsListIter I a 0→h1.IsList a items→Q (.ref I) {s with heap:=h1}):wpAny (model O w) A (pyIter (.ref a)) Q E s:=by
 have up:∀b o,s.heap.get? b=some o→(s.heap.push {cls:=.type "list_iterator",data:=.fields #[.ref a,.int 0 0]}).get? b=some o:=fun b o e=>get?_push_of_some _ e
 refine wpAny_pyIter_list hl (k _ _ up (AH _ (le_refl _)) ?_ ⟨_,get?_push_size _ rfl,rfl,rfl⟩ (hl.push _))
 obtain⟨o,e,_⟩:=hl
 exact ne_of_lt (lt_size e)
theorem Wh:Bi O w (.builtin "any") (.list []) (.bool false):=by
 intro A s g v Q hh hg hv k
 refine Now.listP hv hg fun a vs m ho f=>?_
 obtain rfl:=List.eq_nil_of_length_eq_zero f.length
 refine call_any_walk (Qf (items:=#[]) ⟨_,ho,rfl,_,rfl⟩ fun I h1 up hI hne hit hl=>?_)
 exact⟨I,_,_,_,_,_,fun V=>false,rfl,Walks.list (A:=A.in1) hh I a hne _,⟨hit,hl⟩,fun i v s Q E hp V=>(nomatch hp),fun h' tk hk=>k h' tk _ (fun b o e=>hk b o (fun z=>by rw[At z,hI]at e;cases e) (up b o e)) (.bool _)⟩
theorem Hu(S:Ao O K U){p:Pos}{Q:AF→St→Prop}(g:GlB sc K x)(hv:bootBuiltins x=some (.type "list"))(h:Ev O w U sc n e st fun a st1=>∃xd ds,rd st1 a=some xd∧Eu xd=some ds∧ds.length≤sizeLine∧Q (.lst ds) st1)
 (he:autoParam (∀Y,starEach [e] Y=(false,eval e Y)::starEach [] Y) au.a1._auto_1):Ef O w U sc n (.Call (.Name x p) [e] [] pos) st Q:=by
 intro A Y R as s hR hE r
 refine Call_Name rfl (HA S g hv hE r (PyProof.Rows.callWith_type1 (El1 h hR hE r ?_ he) (he Y)))
 rintro v s1 ⟨a,st1,as0,h1,t1,rfl,e0,r0,x0,xd,ds,ex,es,hz,q⟩
 refine r0.trimP fun as1 sub hlt r1=>?_
 have e1:=e0.trans (Ai.less sub)
 have nw:=r0.now x0 ex
 have nv:∃(a:Addr) (vs:List Value) (m:Nat) (T:String),v=.ref a∧(T="list"∨T="tuple")∧h1.get? a=some (seqObj T vs.toArray m)∧FzL (vis R as1 h1) vs ds:=by
  cases xd<;>first|(cases es;done)|skip
  ·cases es
   obtain⟨a,vs,m,ev,ho,f⟩:=nw.tuple
   exact⟨a,vs,m,_,ev,.inr rfl,ho.2.2,FzL.mono (Ai.less sub).vis f⟩
  ·cases es
   obtain⟨a,vs,m,ev,ho,f⟩:=nw.list Bu
   exact⟨a,vs,m,_,ev,.inl rfl,ho,FzL.mono (Ai.less sub).vis f⟩
 obtain⟨a,vs,m,T,rfl,hT,ho,f⟩:=nv
 refine call_list_seq (items:=vs.toArray) a hT ho rfl rfl (fun h' c' hk hD=>?_) (by refine rr size_toArray (rr f.length ?_);exact hz)
 obtain⟨r2,kv⟩:=r1.laid (cs:=[h1.objs.size]) hk (fun b hb=>At hb▸⟨AH _ (le_refl _),_,hD⟩) hlt
 exact⟨.lst ds,st1,as1,h',t1,[h1.objs.size],rfl,e1.trans (Ai.grow _ hk),r2,.lst hD (f.mono kv),fun b hb=>At hb▸e1.live.none (AH _ (le_refl _)),q⟩
theorem Rel.forget(r:Rel U R Y st as h)(k:st'.Sublist st):Rel U R Y st' as h:=by
 obtain⟨⟨val,cs,hr,hd⟩,hn,hsep,hl,hc,hlo,hcl,hi,hb⟩:=r
 exact⟨⟨val,cs,fun x a hx=>hr x a (k.subset hx),fun x a y b hx hy=>hd x a y b (k.subset hx) (k.subset hy)⟩,(k.map _).nodup hn,hsep,hl,hc,hlo,hcl,hi,hb⟩
theorem Ss.forget{xs:List Stmt}(h:Ss O w U sc n xs st' Q)(k:st'.Sublist st):Ss O w U sc n xs st Q:=
 fun A Y R as s hR hE r=>h A Y R as s hR hE (r.forget k)
theorem As.forget{Q:St→Prop}(h:As O w U sc n t d st' Q)(k:st'.Sublist st):As O w U sc n t d st Q:=
 fun A Y R as s v hR hE r hv=>h A Y R as s v hR hE (r.forget k) hv
def AT(Q:Fl→St→Prop):Prop:=∀st st':St,st'.Sublist st→Q .next st'→Q .next st
theorem Av{xs:List Stmt}:AT (FL O w U sc n xs Q):=fun V V k h=>Ss.forget h k
theorem Bv.forget(h:Bv O w U sc n tgt body Q ds st')(k:st'.Sublist st)(hQ:AT Q):Bv O w U sc n tgt body Q ds st:=by
 rcases ds with _|⟨d,ds⟩
 ·exact hQ _ _ k h
 ·exact As.forget h k
theorem Ed.mono{Q Q':Dat→St→Prop}(h:Ed O w U sc n e st Q)(k:∀d st1,Q d st1→Q' d st1):Ed O w U sc n e st Q':=
 Ev.mono h (by rintro _ _ ⟨d,st',e,q⟩;exact⟨d,st',e,k _ _ q⟩)
theorem OC(S:Ao O K U){p:Pos}{Q:EV→St→Prop}(h0:look x st=some (.lst ds0))
 (h:Ed O w U sc n e st fun d st1=>∃ds,look x st1=some (.lst ds)∧ds.length+1≤sizeLine∧Q (.dat .none) (put x (.lst (ds++[d])) st1))
 (hd:autoParam ((x==("__debug__":Str))=false) au.a2._auto_1) (hc:autoParam ((x==("__classdict__":Str))=false) au.a2._auto_1)
 (hfew:autoParam (∀Y,((backTo pos (starEach [e] Y)).all (fun x=>!x.1)&&(backToKw pos (keywordEach [] Y)).all (fun x=>x.1.isSome)
  &&decide ([e].length+([]:List Keyword).length+(if([]:List Keyword).isEmpty then 0 else 1)<30))=true) au.a1._auto_1)
 (hline:autoParam ((ap.endLine==pos.line)=true) au.a3._auto_1) (h1:autoParam (∀Y,starEach [e] Y=(false,eval e Y)::starEach [] Y) au.a1._auto_1):
 Ev O w U sc n (.Call (.Attribute (.Name x p) "append" ap) [e] [] pos) st Q:=by
 refine KN S (pl:=.var x) (ds0:=ds0) (by simp[DD,h0]) ⟨hd,hc⟩ ?_ .var hfew hline h1
 refine Ed.mono h (by rintro d st1 ⟨ds,e1,e2,q⟩;exact⟨rfl,ds,by simp[DD,e1],e2,q⟩)
theorem OD(S:Ao O K U){f:Str}{p ap2:Pos}{Q:EV→St→Prop}(h0:look x st=some (.obj C fs))(h0':fs.lookup f=some (.own i ds0))(ok:CU K C)(fo:BP K C f)
 (h:Ed O w U sc n e st fun d st1=>∃fs1 ds,look x st1=some (.obj C fs1)∧fs1.lookup f=some (.own i ds)∧ds.length+1≤sizeLine∧Q (.dat .none) (put x (.obj C (Ej f (.own i (ds++[d])) fs1)) st1))
 (hd:autoParam ((x==("__debug__":Str))=false) au.a2._auto_1) (hc:autoParam ((x==("__classdict__":Str))=false) au.a2._auto_1)
 (hfew:autoParam (∀Y,((backTo pos (starEach [e] Y)).all (fun x=>!x.1)&&(backToKw pos (keywordEach [] Y)).all (fun x=>x.1.isSome)
  &&decide ([e].length+([]:List Keyword).length+(if([]:List Keyword).isEmpty then 0 else 1)<30))=true) au.a1._auto_1)
 (hline:autoParam ((ap.endLine==pos.line)=true) au.a3._auto_1) (h1:autoParam (∀Y,starEach [e] Y=(false,eval e Y)::starEach [] Y) au.a1._auto_1):
 Ev O w U sc n (.Call (.Attribute (.Attribute (.Name x p) f ap2) "append" ap) [e] [] pos) st Q:=by
 refine KN S (pl:=.fld x f) (ds0:=ds0) (by simp[DD,h0,h0']) ⟨⟨hd,hc⟩,fun C' fs' e=>by rw[h0]at e;cases e;exact⟨ok,fo⟩⟩ ?_ .fld hfew hline h1
 refine Ed.mono h (by rintro d st1 ⟨fs1,ds,e1,e2,e3,q⟩;exact⟨by simp[DE,h0,h0',e1,e2],ds,by simp[DD,e1,e2],e3,by refine rr (JB e1 e2) ?_;exact q⟩)
theorem OE(S:Ao O K U){f:Str}{p ap2:Pos}{Q:EV→St→Prop}(h0:look x st=some (.obj C fs))(h0':fs.lookup f=some (.own i ds0))(ok:CU K C)(fo:BP K C f)
 (h:Ed O w U sc n e st fun d st1=>∃fs1 ds,look x st1=some (.obj C fs1)∧fs1.lookup f=some (.own i ds)∧∃es,d=.list es∧ds.length+es.length≤sizeLine∧Q (.dat .none) (put x (.obj C (Ej f (.own i (ds++es)) fs1)) st1))
 (hd:autoParam ((x==("__debug__":Str))=false) au.a2._auto_1) (hc:autoParam ((x==("__classdict__":Str))=false) au.a2._auto_1)
 (hfew:autoParam (∀Y,((backTo pos (starEach [e] Y)).all (fun x=>!x.1)&&(backToKw pos (keywordEach [] Y)).all (fun x=>x.1.isSome)
  &&decide ([e].length+([]:List Keyword).length+(if([]:List Keyword).isEmpty then 0 else 1)<30))=true) au.a1._auto_1)
 (hline:autoParam ((ap.endLine==pos.line)=true) au.a3._auto_1) (h1:autoParam (∀Y,starEach [e] Y=(false,eval e Y)::starEach [] Y) au.a1._auto_1):
 Ev O w U sc n (.Call (.Attribute (.Attribute (.Name x p) f ap2) "extend" ap) [e] [] pos) st Q:=by
 refine PV S (pl:=.fld x f) (ds0:=ds0) (by simp[DD,h0,h0']) ⟨⟨hd,hc⟩,fun C' fs' e=>by rw[h0]at e;cases e;exact⟨ok,fo⟩⟩ ?_ .fld hfew hline h1
 refine Ed.mono h (by rintro d st1 ⟨fs1,ds,e1,e2,es,e3,e4,q⟩;exact⟨by simp[DE,h0,h0',e1,e2],ds,by simp[DD,e1,e2],es,e3,e4,by refine rr (JB e1 e2) ?_;exact q⟩)
structure okD(k:Nat)(d:Dat):Prop where
 inst:FI d=true
 lay:(GU d).canLay0=true
 depth:(GU d).depth≤k
theorem okD.plain(h:okD k d)(hk:autoParam (k≤64) au.a4._auto_1):Cm d:=⟨h.inst,by delta PySem.SeqAt.shaped;refine rr h.lay (rr (Bool.true_and ..) ?_);exact decide_eq_true (le_trans h.depth hk)⟩
theorem Mj(b:Int):okD 1 (.int b):=⟨rfl,rfl,zero_le _⟩
theorem Qg(h:PyData.strOk x=true):okD 1 (.str x):=⟨rfl,h,zero_le _⟩
theorem Qh:∀{ds:List Dat},(∀d∈ds,okD k d)→Fk ds=true∧PyData.canLayAll0 (GU.pyAll ds)=true∧PyData.depthAll (GU.pyAll ds)≤k:=by
 intro ds
 induction ds with
 |nil=>
  intro _
  exact⟨rfl,rfl,zero_le _⟩
 |cons d ds ih=>
  intro h
  obtain⟨a,b,c⟩:=ih fun e he=>h e (.tail _ he)
  have e:=h d (.head _)
  exact⟨and_eq_true_iff.mpr ⟨e.inst,a⟩,and_eq_true_iff.mpr ⟨e.lay,b⟩,Nat.max_le.mpr ⟨e.depth,c⟩⟩
theorem JG(h:∀d∈ds,okD k d):okD (k+1) (.list ds):=by
 obtain⟨a,b,c⟩:=Qh h
 exact⟨a,b,Nat.succ_le_succ c⟩
theorem Qi(h:∀d∈ds,okD k d):okD (k+1) (.tuple ds):=by
 obtain⟨a,b,c⟩:=Qh h
 exact⟨a,b,Nat.succ_le_succ c⟩
theorem okD.up{l:Nat}(h:okD k d)(kl:k≤l):okD l d:=⟨h.inst,h.lay,le_trans h.depth kl⟩
theorem Ni(a b:Int):deq (.int a) (.int b)=decide (a=b):=by
 rfl
theorem OF(f:α→Dat)(hf:∀a b,deq (f a) (f b)=true↔a=b):∀as bs:List α,PyData.eqvAll (GU.pyAll (as.map f)) (GU.pyAll (bs.map f))=true↔as=bs:=by
 intro as
 induction as with
 |nil=>
  intro zz4
  rcases zz4 with _|⟨b,bs⟩
  ·exact⟨fun V=>rfl,fun V=>rfl⟩
  ·exact⟨fun h=>Bool.noConfusion h,fun h=>nomatch h⟩
 |cons a as ih=>
  intro zz4
  rcases zz4 with _|⟨b,bs⟩
  ·exact⟨fun h=>Bool.noConfusion h,fun h=>nomatch h⟩
  ·exact and_eq_true_iff.trans ((and_congr (hf a b) (ih bs)).trans List.cons_eq_cons.symm)
theorem Qj{f:α→Dat}(hf:∀a b,deq (f a) (f b)=true↔a=b)(as bs:List α):deq (.tuple (as.map f)) (.tuple (bs.map f))=true↔as=bs:=OF f hf as bs
theorem KW(as:List Dat):deq (.list as) (.list [])=as.isEmpty:=by
 rcases as with _|⟨a,as⟩<;>rfl
theorem Mk(a b:Int):deq (.int a) (.int b)=true↔a=b:=by refine rr (Ni ..) ?_;simp
noncomputable abbrev Pt:=Int×Int
noncomputable def pD(p:Pt):Dat:=.tuple [.int p.1,.int p.2]
theorem Qk(p q:Pt):deq (pD p) (pD q)=true↔p=q:=by
 have:=Qj (f:=Dat.int) Mk [p.1,p.2] [q.1,q.2]
 refine this.trans ⟨fun h=>?_,fun h=>by refine rr h ?_;rfl⟩
 simp only[List.cons.injEq,and_true]at h
 exact Prod.ext h.1 h.2
theorem JH(ns:List Int)(hk:autoParam (1≤k) au.a4._auto_1):∀d∈ns.map Dat.int,okD k d:=by
 intro d hd;obtain⟨i,_,rfl⟩:=mem_map.mp hd;exact(Mj i).up hk
theorem Ql(p:Pt):okD 2 (pD p):=Qi (k:=1) (JH [p.1,p.2])
theorem Qm(ps:List Pt):okD 3 (.list (ps.map pD)):=JG fun d hd=>by obtain⟨p,_,rfl⟩:=mem_map.mp hd;exact Ql p
variable{p:Pt}{ps:List Pt}{q:Pt}{qs:List Pt}{other F σ:Pt}
def Bd(k:Nat)(x:Int):Prop:=x.natAbs<2^k
theorem Bd.up{l:Nat}(h:Bd k a)(kl:autoParam (k≤l) au.a4._auto_1):Bd l a:=lt_of_lt_of_le h (Nat.pow_le_pow_right (by decide) kl)
theorem Bd.of{x:Int}{b:Nat}(h1: -(b:Int)≤x)(h2:x≤b)(hk:autoParam (b<2^k) au.a4._auto_1):Bd k x:=by delta Bd;omega
theorem Bd.neg(h:Bd k a):Bd k (-a):=by delta Bd at*;refine rr (natAbs_neg ..) ?_;exact h
theorem Bd.add{l:Nat}(ha:Bd k a)(hb:Bd l b):Bd (max k l+1) (a+b):=by
 have h1:a.natAbs<2^max k l:=lt_of_lt_of_le ha (Nat.pow_le_pow_right (by decide) (Nat.le_max_left _ _))
 have h2:b.natAbs<2^max k l:=lt_of_lt_of_le hb (Nat.pow_le_pow_right (by decide) (Nat.le_max_right _ _))
 have h3:=Int.natAbs_add_le a b
 delta Bd;refine rr (Nat.pow_succ ..) ?_;exact YY h1 h2 h3
theorem Bd.sub{l:Nat}(ha:Bd k a)(hb:Bd l b):Bd (max k l+1) (a-b):=by refine rr Int.sub_eq_add_neg ?_;exact ha.add hb.neg
theorem Bd.mul{l:Nat}(ha:Bd k a)(hb:Bd l b):Bd (k+l) (a*b):=by
 delta Bd at*;refine rr (Int.natAbs_mul ..) (rr (Nat.pow_add ..) ?_)
 exact lt_of_le_of_lt (Nat.mul_le_mul_left _ (Nat.le_of_lt hb)) (Nat.mul_lt_mul_of_pos_right ha (Nat.two_pow_pos l))
theorem Bd.num{x:Int}(h:autoParam (decide (x.natAbs<2^64)=true) au.a4._auto_1):Bd 64 x:=(of_decide_eq_true h:x.natAbs<2^64)
theorem Bd.le(h:Bd k a)(hb:b.natAbs≤a.natAbs):Bd k b:=lt_of_le_of_lt hb h
theorem Bd.twice(h:Bd k a)(hb:b.natAbs≤2*a.natAbs):Bd (k+1) b:=by
 delta Bd at*
 refine rr (Nat.pow_succ ..) ?_;exact YY h h hb
theorem Ah{l:Nat}(ha:Bd k a)(hb:Bd l b)(h:autoParam (((k+l:Nat):Int)≤bitsLine) au.a4._auto_1):Am a b:=by
 have h1:=PyProof.Rows.intBits_le ha
 have h2:=PyProof.Rows.intBits_le hb
 delta Am IntMulOk Builtin.Int.intTooBig
 intro q
 simp only[and_eq_true,decide_eq_true_eq]at q
 lia
noncomputable def IY(K:Frag)(f:Addr):FuncData:=match K.lookup f with
 |some ⟨_,_,.func fd,_⟩=>fd
 |_=>{name:="",qualname:="",params:=default,body:=.stmts [],scope:=default,globals:=0,closure:=[],defaults:=.none,kwdefaults:=.none,doc:=.none,pyModule:=.none,annotations:=none,code:=.none,closureTuple:=.none,builtins:=0}
theorem Wi{Q:Dat→St→Prop}(h:Ev O w U sc n e st fun a st1=>YL st1 a Q):Ed O w U sc n e st Q:=h
theorem JI{Q:Dat→St→Prop}(q:Q d st):YL st (.dat d) Q:=⟨_,_,rfl,q⟩
theorem Wj{a:AF}{Q:Dat→St→Prop}(e:look x st=some a)(q:Q (Hq a) (put x (.dat (Hq a)) st)):YL st (.own x) Q:=⟨_,_,by simp[frz,e],q⟩
theorem cC{a:AF}{Q:EV→St→Prop}(hd:((x==("__debug__":Str))||(x==("__classdict__":Str)))=false)(e:look x st=some a)(h:Q (VN x a) st):Ev O w U sc n (.Name x pos) st Q:=by
 rw[or_eq_false_iff]at hd
 exact VO e h hd.1 hd.2
theorem IZ(a:Bool):Cm (.bool a):=⟨rfl,rfl⟩
theorem Ta(e:names.all (fun p=>(p.2 != .cell&&p.2 != .free)||((cellsFrom 0 names []).lookup p.1).isSome)=true):∀x,names.lookup x=some .cell∨names.lookup x=some .free→((cellsFrom 0 names []).lookup x).isSome=true:=by
 intro x hx
 rw[all_eq_true]at e
 rcases hx with h|h
 ·have:=e _ (mem_of_lookup h);simpa using this
 ·have:=e _ (mem_of_lookup h);simpa using this
theorem Tb{ps:List Str}(e:ps.all (fun x=>names.lookup x==some .local||names.lookup x==some .cell)=true):∀x∈ps,names.lookup x=some .local∨names.lookup x=some .cell:=by
 intro x hx
 rw[all_eq_true]at e
 have:=e x hx
 simpa using this
theorem Wk{ps:List Str}(e:∀vs:List Value,vs.length=ps.length→bindArgs fd ⟨vs,[]⟩=pure (ps.zip vs)):∀vs:List Value,vs.length=ps.length→∀s:Shared,K.In s.heap→BindsTo s fd ⟨vs,[]⟩ (ps.zip vs):=
 fun vs h V V=>BindsTo.of_eq (e vs h)
inductive Or where
 |val (d:Dat)
 |lent (d:Dat) (a:AF)
 |br (b:Bool)
 |ask (a:EV) (st:St)
 |own (a:AF) (st:St)
 |run (fl:Fl) (st:St)
noncomputable abbrev Ms:=List Prop
class inductive AD:Ms→Prop
 |nil:AD []
 |cons {p:Prop}{ms:Ms} (h:p) (k:AD ms):AD (p::ms)
theorem AD.head{p:Prop}{ms:Ms}:AD (p::ms)→p
 | .cons h _=>h
theorem AD.tail{p:Prop}{ms:Ms}:AD (p::ms)→AD ms
 | .cons _ k=>k
structure Res(α:Type) where
 a:α
 st:St
 os:List Or
 ms:Ms
def RM(α:Type):Type:=St→List Or→Ms→Option (Res α)
noncomputable def RM.pure(a:α):RM α:=fun st os ms=>some ⟨a,st,os,ms⟩
noncomputable def RM.bind(m:RM α)(f:α→RM β):RM β:=fun st os ms=>match m st os ms with
 |some ⟨a,st,os,ms⟩=>f a st os ms
 |none=>none
noncomputable def RM.fail:RM α:=fun V V V=>none
noncomputable def RM.opt(o:Option α):RM α:=fun st os ms=>match o with
 |some a=>some ⟨a,st,os,ms⟩
 |none=>none
noncomputable def RM.ob(p:Prop):RM Unit:=fun st os ms=>some ⟨(),st,os,p::ms⟩
noncomputable def RM.chk(b:Bool):RM Unit:=fun st os ms=>match b with
 |true=>some ⟨(),st,os,ms⟩
 |false=>none
noncomputable def RM.get:RM St:=fun st os ms=>some ⟨st,st,os,ms⟩
noncomputable def RM.set(s:St):RM Unit:=fun V os ms=>some ⟨(),s,os,ms⟩
noncomputable def RM.val:RM Dat:=fun st os ms=>match os with
 | .val d::os=>some ⟨d,st,os,ms⟩
 |_=>none
noncomputable def RM.lent:RM (Dat×AF):=fun st os ms=>match os with
 | .lent d a::os=>some ⟨(d,a),st,os,ms⟩
 |_=>none
noncomputable def RM.br(c:Bool):RM Bool:=fun st os ms=>match os with
 | .br b::os=>some ⟨b,st,os,(c=b)::ms⟩
 |_=>none
noncomputable def RM.ask(J:St→(EV→St→Prop)→Prop):RM EV:=fun st os ms=>match os with
 | .ask a s::os=>some ⟨a,s,os,(∀Q:EV→St→Prop,Q a s→J st Q)::ms⟩
 |_=>none
noncomputable def RM.own(J:St→(AF→St→Prop)→Prop):RM AF:=fun st os ms=>match os with
 | .own a s::os=>some ⟨a,s,os,(∀Q:AF→St→Prop,Q a s→J st Q)::ms⟩
 |_=>none
noncomputable def RM.run(J:St→(Fl→St→Prop)→Prop):RM Fl:=fun st os ms=>match os with
 | .run a s::os=>some ⟨a,s,os,(∀Q:Fl→St→Prop,Q a s→J st Q)::ms⟩
 |_=>none
noncomputable def RM.peek:RM Bool:=fun st os ms=>match os with
 | .ask a s::os=>some ⟨true,st,.ask a s::os,ms⟩
 |os=>some ⟨false,st,os,ms⟩
def cD(J:(α→St→Prop)→Prop)(ms:Ms):Option (Res α)→Prop
 |none=>True
 |some r=>AD r.ms→AD ms∧∀Q:α→St→Prop,Q r.a r.st→J Q
structure Ac(m:RM α)(J:St→(α→St→Prop)→Prop):Prop where
 good:∀st os ms,cD (J st) ms (m st os ms)
theorem Ac.ok{m:RM α}(M:Ac m J){os:List Or}{ms:Ms}{a:α}{os':List Or}{ms':Ms}(h:m st os ms=some ⟨a,st',os',ms'⟩):AD ms'→AD ms∧∀Q:α→St→Prop,Q a st'→J st Q:=by
 have k:=M.good st os ms
 rw[h]at k
 exact k
theorem Ac.pure(a:α):Ac (RM.pure a) fun st Q=>Q a st:=⟨fun V V V k=>⟨k,fun V q=>q⟩⟩
theorem Ac.bind{m:RM α}{f:α→RM β}{J':α→St→(β→St→Prop)→Prop}(M:Ac m J)(F:∀a,Ac (f a) (J' a)):Ac (RM.bind m f) fun st Q=>J st fun a st1=>J' a st1 Q:=⟨fun st os ms=>by
 have h:=M.good st os ms
 show cD _ _ (match m st os ms with|some ⟨a,st,os,ms⟩=>f a st os ms|none=>none)
 generalize m st os ms=o at h⊢
 rcases o with _|⟨r⟩
 ·trivial
 have k:=(F r.a).good r.st r.os r.ms
 show cD _ _ (f r.a r.st r.os r.ms)
 generalize f r.a r.st r.os r.ms=o at k⊢
 rcases o with _|⟨o⟩
 ·trivial
 exact fun hm=>⟨(h (k hm).1).1,fun Q q=>(h (k hm).1).2 _ ((k hm).2 Q q)⟩⟩
theorem Ac.imp{m:RM α}{J':St→(α→St→Prop)→Prop}(M:Ac m J)(k:∀st Q,J st Q→J' st Q):Ac m J':=⟨fun st os ms=>by
 have h:=M.good st os ms
 generalize m st os ms=o at h⊢
 rcases o with _|⟨o⟩
 ·trivial
 exact fun hm=>⟨(h hm).1,fun Q q=>k _ _ ((h hm).2 Q q)⟩⟩
theorem Ac.fail:Ac RM.fail J:=⟨fun V V V=>trivial⟩
theorem Ac.opt(o:Option α):Ac (RM.opt o) fun st Q=>∃a,o=some a∧Q a st:=⟨fun V V V=>by
 rcases o with _|⟨a⟩
 ·trivial
 ·exact fun k=>⟨k,fun V q=>⟨_,rfl,q⟩⟩⟩
theorem Ac.ob(p:Prop):Ac (RM.ob p) fun st Q=>p∧Q () st:=⟨fun V V V k=>⟨k.tail,fun V q=>⟨k.head,q⟩⟩⟩
theorem Ac.chk(b:Bool):Ac (RM.chk b) fun st Q=>b=true∧Q () st:=⟨fun V V V=>by
 rcases b with _|_
 ·trivial
 ·exact fun k=>⟨k,fun V q=>⟨rfl,q⟩⟩⟩
theorem Ac.get:Ac RM.get fun st Q=>Q st st:=⟨fun V V V k=>⟨k,fun V q=>q⟩⟩
theorem Ac.set(s:St):Ac (RM.set s) fun V Q=>Q () s:=⟨fun V V V k=>⟨k,fun V q=>q⟩⟩
theorem Ac.peek:Ac RM.peek fun st Q=>∃b,Q b st:=⟨fun V os V=>by
 rcases os with _|⟨o,os⟩<;>try rcases o
 all_goals exact fun k=>⟨k,fun V q=>⟨_,q⟩⟩⟩
theorem Ac.val:Ac RM.val fun st Q=>∃d,Q d st:=⟨fun V os V=>by
 rcases os with _|⟨o,os⟩<;>try rcases o
 all_goals first|trivial|exact fun k=>⟨k,fun V q=>⟨_,q⟩⟩⟩
theorem Ac.lent:Ac RM.lent fun st Q=>∃p,Q p st:=⟨fun V os V=>by
 rcases os with _|⟨o,os⟩<;>try rcases o
 all_goals first|trivial|exact fun k=>⟨k,fun V q=>⟨_,q⟩⟩⟩
theorem Ac.br(c:Bool):Ac (RM.br c) fun st Q=>∃b,c=b∧Q b st:=⟨fun V os V=>by
 rcases os with _|⟨o,os⟩<;>try rcases o
 all_goals first|trivial|exact fun k=>⟨k.tail,fun V q=>⟨_,k.head,q⟩⟩⟩
theorem Ac.ask(J:St→(EV→St→Prop)→Prop):Ac (RM.ask J) J:=⟨fun V os V=>by
 rcases os with _|⟨o,os⟩<;>try rcases o
 all_goals first|trivial|exact fun k=>⟨k.tail,k.head⟩⟩
theorem Ac.own(J:St→(AF→St→Prop)→Prop):Ac (RM.own J) J:=⟨fun V os V=>by
 rcases os with _|⟨o,os⟩<;>try rcases o
 all_goals first|trivial|exact fun k=>⟨k.tail,k.head⟩⟩
theorem Ac.run(J:St→(Fl→St→Prop)→Prop):Ac (RM.run J) J:=⟨fun V os V=>by
 rcases os with _|⟨o,os⟩<;>try rcases o
 all_goals first|trivial|exact fun k=>⟨k.tail,k.head⟩⟩
theorem Ac.chkT{b:Bool}{m:RM α}(F:b=true→Ac m J):Ac (RM.bind (.chk b) fun V=>m) J:=by
 cases b with
 |true=>exact⟨fun st os ms=>(F rfl).good st os ms⟩
 |false=>exact Ac.fail
theorem Ac.optT{o:Option α}{f:α→RM β}{J:St→(β→St→Prop)→Prop}(F:∀a,o=some a→Ac (f a) J):Ac (RM.bind (.opt o) f) J:=by
 cases o with
 |some a=>exact⟨fun st os ms=>(F a rfl).good st os ms⟩
 |none=>exact Ac.fail
theorem Ac.obT{p:Prop}{m:RM α}(F:Ac m fun st Q=>p→J st Q):Ac (RM.bind (.ob p) fun V=>m) J:=(Ac.bind (Ac.ob p) fun V=>F).imp fun V V h=>h.2 h.1
noncomputable def RM.cse(c:Bool)(m1 m2:RM α):RM α:=.bind (.br c) fun b=>match b with
 |true=>m1
 |false=>m2
theorem Ac.cse{m1 m2:RM α}{A B:St→(α→St→Prop)→Prop}(c:Bool)(h1:Ac m1 A)(h2:Ac m2 B):Ac (RM.cse c m1 m2) fun st Q=>(c=true→A st Q)∧(c=false→B st Q):=by
 have k:∀b,Ac (match b with|true=>m1|false=>m2) fun st Q=>(b=true→A st Q)∧(b=false→B st Q):=fun b=>by
  cases b
  ·exact h2.imp fun V V q=>⟨fun e=>Bool.noConfusion e,fun V=>q⟩
  ·exact h1.imp fun V V q=>⟨fun V=>q,fun e=>Bool.noConfusion e⟩
 exact(Ac.bind (Ac.br c) k).imp (by rintro _ _ ⟨_,e,q⟩;exact e▸q)
noncomputable def HB:Dat→Option Int
 | .int i=>some i
 |_=>none
theorem Hv{i:Int}(e:HB d=some i):d=.int i:=by
 cases d<;>cases e
 rfl
noncomputable def Qn:Dat→Option Bool
 | .bool b=>some b
 |_=>none
theorem Qo{b:Bool}(e:Qn d=some b):d=.bool b:=by
 cases d<;>cases e
 rfl
noncomputable def Nj:Dat→Option (List Dat)
 | .list ds=>some ds
 |_=>none
theorem KY{i:List Dat}(e:Nj d=some i):d=.list i:=by
 cases d<;>cases e
 rfl
noncomputable def ZE:AF→Option (List Dat)
 | .lst ds=>some ds
 |_=>none
theorem Tc{d:AF}{i:List Dat}(e:ZE d=some i):d=.lst i:=by
 cases d<;>cases e
 rfl
noncomputable def EB(x:Str):Bool:=!((x==("__debug__":Str))||(x==("__classdict__":Str)))
theorem KZ(e:EB x=true):((x==("__debug__":Str))||(x==("__classdict__":Str)))=false:=by
 delta EB at e;simpa using e
theorem CJ(e:EB x=true):(x==("__debug__":Str))=false∧(x==("__classdict__":Str))=false:=or_eq_false_iff.mp (KZ e)
theorem Wl{a:α}{P:Prop}(h:(none:Option α)=some a):P:=IN h
noncomputable def Nk(e:Expr):Bool:=Nat.beq e.ctorIdx 22
theorem Bw(h:Nk e=false)(es:List Expr)(Y:Env):starEach (e::es) Y=(false,eval e Y)::starEach es Y:=by
 cases e<;>first|rfl|exact Bool.noConfusion h
theorem Nl(h:Nk t=false)(ts:List Expr)(Y:Env):assignEach (t::ts) Y=(false,assign t Y)::assignEach ts Y:=by
 cases t<;>first|rfl|exact Bool.noConfusion h
noncomputable def AX:List Expr→Bool
 |[]=>true
 |e::es=>!Nk e&&AX es
theorem Cf{b:Bool}(h:(!b)=true):b=false:=by cases b<;>first|rfl|exact Bool.noConfusion h
theorem BX{a b:Bool}(h:(a&&b)=true):a=true∧b=true:=and_eq_true_iff.mp h
theorem Aj(h:AX (e::es)=true):Nk e=false∧AX es=true:=⟨Cf (BX h).1,(BX h).2⟩
theorem CW:∀{es:List Expr},AX es=true→∀(pos:Pos) (Y:Env),(backTo pos (starEach es Y)).any (·.1)=false:=by
 intro es
 induction es with
 |nil=>
  intro _ _ _
  exact rfl
 |cons e es ih=>
  intro h pos Y
  rewrite[Bw (Aj h).1]
  exact ih (Aj h).2 pos Y
theorem Qp:∀{es:List Expr},AX es=true→∀(pos:Pos) (Y:Env),(backTo pos (starEach es Y)).all (fun x=>!x.1)=true:=by
 intro es
 induction es with
 |nil=>
  intro _ _ _
  exact rfl
 |cons e es ih=>
  intro h pos Y
  rewrite[Bw (Aj h).1]
  exact ih (Aj h).2 pos Y
theorem Nm(h:AX es=true)(hl:Nat.blt es.length 30=true)(pos:Pos)(Y:Env):((backTo pos (starEach es Y)).all (fun x=>!x.1)&&(backToKw pos (keywordEach [] Y)).all (fun x=>x.1.isSome)
 &&decide (es.length+([]:List Keyword).length+(if([]:List Keyword).isEmpty then 0 else 1)<30))=true:=by
 rewrite[Qp h]
 exact decide_eq_true (Nat.lt_of_succ_le (le_of_ble_eq_true hl))
theorem Qq:∀{ts:List Expr},AX ts=true→∀Y:Env,(assignEach ts Y).findIdx? (·.1)=none:=by
 intro ts
 induction ts with
 |nil=>
  intro _ _
  exact rfl
 |cons t ts ih=>
  intro h Y
  rewrite[Nl (Aj h).1];refine rr (List.findIdx?_cons) ?_;rewrite[ih (Aj h).2]
  rfl
noncomputable def OG(e:Expr):Bool:=Nat.ble 8 e.ctorIdx&&Nat.ble e.ctorIdx 10
theorem Nn(h:OG e=false)(t:Option Expr)(l:Nat)(Y:Env):swapsWith e t l Y=pure false:=by
 cases e<;>first|rfl|exact Bool.noConfusion h
noncomputable def cF(e:Expr):Bool:=Nat.beq e.ctorIdx 25||OG e
theorem Qr{p:Pos}(h:cF e=false)(Y:Env):swappedStores [.Tuple ts k p] e Y=pure none:=by
 cases e<;>first|rfl|exact Bool.noConfusion h
theorem Qs(h:cF e=false):OG e=false:=(or_eq_false_iff.mp h).2
theorem Ac.dif{c:Prop}[Decidable c]{f:c→RM α}{d:RM α}(hf:∀h,Ac (f h) J)(hd:Ac d J):Ac (dite c f fun V=>d) J:=
 if h:c then dif_pos h▸hf h else dif_neg h▸hd
theorem Ac.cond{c:Bool}{x y:RM α}(hx:c=true→Ac x J)(hy:c=false→Ac y J):Ac (bif c then x else y) J:=match c with
 |true=>hx rfl
 |false=>hy rfl
theorem ZF{c:Prop}[Decidable c]{f:c→α}{d:α}{P:α→Prop}(hf:∀h,P (f h))(hd:P d):P (dite c f fun V=>d):=
 if h:c then dif_pos h▸hf h else dif_neg h▸hd
noncomputable def CS(t:Expr)(f:Str→Pos→α)(d:α):α:=if h:t.ctorIdx=23 then Expr.Name.elim t h f else d
theorem Ac.onName{f:Str→Pos→RM α}{d:RM α}(hf:∀a b,Ac (f a b) (G (.Name a b)))(hd:Ac d (G t)):Ac (CS t f d) (G t):=
 .dif (fun h=>Expr.Name.elim (motive_1:=fun t=>∀h,Ac (Expr.Name.elim t h f) (G t)) t h (fun a b V=>hf a b) h) hd
theorem Qt{f:Str→Pos→α}{d:α}{P:Expr→α→Prop}(hf:∀a b,P (.Name a b) (f a b))(hd:P t d):P t (CS t f d):=
 ZF (fun h=>Expr.Name.elim (motive_1:=fun t=>∀h,P t (Expr.Name.elim t h f)) t h (fun a b V=>hf a b) h) hd
noncomputable def HC(t:Expr)(f:List Expr→Nat→Pos→α)(d:α):α:=if h:t.ctorIdx=25 then Expr.Tuple.elim t h f else d
theorem Ac.onTuple{f:List Expr→Nat→Pos→RM α}{d:RM α}(hf:∀a b c,Ac (f a b c) (G (.Tuple a b c)))(hd:Ac d (G t)):Ac (HC t f d) (G t):=
 .dif (fun h=>Expr.Tuple.elim (motive_1:=fun t=>∀h,Ac (Expr.Tuple.elim t h f) (G t)) t h (fun a b c V=>hf a b c) h) hd
noncomputable def Cq(t:Expr)(f:Expr→Str→Pos→α)(d:α):α:=if h:t.ctorIdx=20 then Expr.Attribute.elim t h f else d
theorem Ac.onAttribute{f:Expr→Str→Pos→RM α}{d:RM α}(hf:∀a b c,Ac (f a b c) (G (.Attribute a b c)))(hd:Ac d (G t)):Ac (Cq t f d) (G t):=
 .dif (fun h=>Expr.Attribute.elim (motive_1:=fun t=>∀h,Ac (Expr.Attribute.elim t h f) (G t)) t h (fun a b c V=>hf a b c) h) hd
noncomputable def La(t:Expr)(f:Expr→List Expr→List Keyword→Pos→α)(d:α):α:=if h:t.ctorIdx=16 then Expr.Call.elim t h f else d
theorem Ac.onCall{f:Expr→List Expr→List Keyword→Pos→RM α}{d:RM α}(hf:∀a b c d,Ac (f a b c d) (G (.Call a b c d)))(hd:Ac d (G t)):Ac (La t f d) (G t):=
 .dif (fun h=>Expr.Call.elim (motive_1:=fun t=>∀h,Ac (Expr.Call.elim t h f) (G t)) t h (fun a b c d V=>hf a b c d) h) hd
noncomputable def Qu(t:Expr)(f:Expr→Operator→Expr→Pos→α)(d:α):α:=if h:t.ctorIdx=2 then Expr.BinOp.elim t h f else d
theorem Ac.onBinOp{f:Expr→Operator→Expr→Pos→RM α}{d:RM α}(hf:∀a b c d,Ac (f a b c d) (G (.BinOp a b c d)))(hd:Ac d (G t)):Ac (Qu t f d) (G t):=
 .dif (fun h=>Expr.BinOp.elim (motive_1:=fun t=>∀h,Ac (Expr.BinOp.elim t h f) (G t)) t h (fun a b c d V=>hf a b c d) h) hd
noncomputable def HD(t:Expr)(f:Expr→List CmpOp→List Expr→Pos→α)(d:α):α:=if h:t.ctorIdx=15 then Expr.Compare.elim t h f else d
theorem Ac.onCompare{f:Expr→List CmpOp→List Expr→Pos→RM α}{d:RM α}(hf:∀a b c d,Ac (f a b c d) (G (.Compare a b c d)))(hd:Ac d (G t)):Ac (HD t f d) (G t):=
 .dif (fun h=>Expr.Compare.elim (motive_1:=fun t=>∀h,Ac (Expr.Compare.elim t h f) (G t)) t h (fun a b c d V=>hf a b c d) h) hd
noncomputable def Dd(t:Expr)(f:Expr→Expr→Pos→α)(d:α):α:=if h:t.ctorIdx=21 then Expr.Subscript.elim t h f else d
theorem Ac.onSubscript{f:Expr→Expr→Pos→RM α}{d:RM α}(hf:∀a b c,Ac (f a b c) (G (.Subscript a b c)))(hd:Ac d (G t)):Ac (Dd t f d) (G t):=
 .dif (fun h=>Expr.Subscript.elim (motive_1:=fun t=>∀h,Ac (Expr.Subscript.elim t h f) (G t)) t h (fun a b c V=>hf a b c) h) hd
noncomputable def Qv(t:Expr)(f:List Expr→Pos→α)(d:α):α:=if h:t.ctorIdx=24 then Expr.List.elim t h f else d
theorem Ac.onList{f:List Expr→Pos→RM α}{d:RM α}(hf:∀a b,Ac (f a b) (G (.List a b)))(hd:Ac d (G t)):Ac (Qv t f d) (G t):=
 .dif (fun h=>Expr.List.elim (motive_1:=fun t=>∀h,Ac (Expr.List.elim t h f) (G t)) t h (fun a b V=>hf a b) h) hd
noncomputable def HE(t:Expr)(f:UnaryOp→Expr→Pos→α)(d:α):α:=if h:t.ctorIdx=3 then Expr.UnaryOp.elim t h f else d
theorem Ac.onUnaryOp{f:UnaryOp→Expr→Pos→RM α}{d:RM α}(hf:∀a b c,Ac (f a b c) (G (.UnaryOp a b c)))(hd:Ac d (G t)):Ac (HE t f d) (G t):=
 .dif (fun h=>Expr.UnaryOp.elim (motive_1:=fun t=>∀h,Ac (Expr.UnaryOp.elim t h f) (G t)) t h (fun a b c V=>hf a b c) h) hd
noncomputable def Qw(t:Expr)(f:Expr→Expr→Expr→Pos→α)(d:α):α:=if h:t.ctorIdx=5 then Expr.IfExp.elim t h f else d
theorem Ac.onIfExp{f:Expr→Expr→Expr→Pos→RM α}{d:RM α}(hf:∀a b c d,Ac (f a b c d) (G (.IfExp a b c d)))(hd:Ac d (G t)):Ac (Qw t f d) (G t):=
 .dif (fun h=>Expr.IfExp.elim (motive_1:=fun t=>∀h,Ac (Expr.IfExp.elim t h f) (G t)) t h (fun a b c d V=>hf a b c d) h) hd
noncomputable def JJ(t:Expr)(f:BoolOp→List Expr→Pos→α)(d:α):α:=if h:t.ctorIdx=0 then Expr.BoolOp.elim t h f else d
theorem Ac.onBoolOp{f:BoolOp→List Expr→Pos→RM α}{d:RM α}(hf:∀a b c,Ac (f a b c) (G (.BoolOp a b c)))(hd:Ac d (G t)):Ac (JJ t f d) (G t):=
 .dif (fun h=>Expr.BoolOp.elim (motive_1:=fun t=>∀h,Ac (Expr.BoolOp.elim t h f) (G t)) t h (fun a b c V=>hf a b c) h) hd
noncomputable def Ja(t:Expr)(f:Const→Nat→Pos→α)(d:α):α:=if h:t.ctorIdx=19 then Expr.Constant.elim t h f else d
theorem Ac.onConstant{f:Const→Nat→Pos→RM α}{d:RM α}(hf:∀a b c,Ac (f a b c) (G (.Constant a b c)))(hd:Ac d (G t)):Ac (Ja t f d) (G t):=
 .dif (fun h=>Expr.Constant.elim (motive_1:=fun t=>∀h,Ac (Expr.Constant.elim t h f) (G t)) t h (fun a b c V=>hf a b c) h) hd
noncomputable def Qx(t:Expr)(f:Option Expr→Option Expr→Option Expr→Pos→α)(d:α):α:=if h:t.ctorIdx=26 then Expr.Slice.elim t h f else d
theorem Ac.onSlice{f:Option Expr→Option Expr→Option Expr→Pos→RM α}{d:RM α}(hf:∀a b c d,Ac (f a b c d) (G (.Slice a b c d)))(hd:Ac d (G t)):Ac (Qx t f d) (G t):=
 .dif (fun h=>Expr.Slice.elim (motive_1:=fun t=>∀h,Ac (Expr.Slice.elim t h f) (G t)) t h (fun a b c d V=>hf a b c d) h) hd
noncomputable def No(t:Stmt)(f:List Expr→Expr→Pos→α)(d:α):α:=if h:t.ctorIdx=5 then Stmt.Assign.elim t h f else d
theorem Ac.atAssign{t:Stmt}{f:List Expr→Expr→Pos→RM α}{d:RM α}{G:Stmt→St→(α→St→Prop)→Prop}(hf:∀a b c,Ac (f a b c) (G (.Assign a b c)))(hd:Ac d (G t)):Ac (No t f d) (G t):=
 .dif (fun h=>Stmt.Assign.elim (motive_2:=fun t=>∀h,Ac (Stmt.Assign.elim t h f) (G t)) t h (fun a b c V=>hf a b c) h) hd
noncomputable def HF(t:Stmt)(f:Expr→Operator→Expr→Pos→α)(d:α):α:=if h:t.ctorIdx=7 then Stmt.AugAssign.elim t h f else d
theorem Ac.atAugAssign{t:Stmt}{f:Expr→Operator→Expr→Pos→RM α}{d:RM α}{G:Stmt→St→(α→St→Prop)→Prop}(hf:∀a b c d,Ac (f a b c d) (G (.AugAssign a b c d)))(hd:Ac d (G t)):Ac (HF t f d) (G t):=
 .dif (fun h=>Stmt.AugAssign.elim (motive_2:=fun t=>∀h,Ac (Stmt.AugAssign.elim t h f) (G t)) t h (fun a b c d V=>hf a b c d) h) hd
noncomputable def Vg(t:Stmt)(f:Expr→Pos→α)(d:α):α:=if h:t.ctorIdx=24 then Stmt.Expr.elim t h f else d
theorem Ac.atExpr{t:Stmt}{f:Expr→Pos→RM α}{d:RM α}{G:Stmt→St→(α→St→Prop)→Prop}(hf:∀a b,Ac (f a b) (G (.Expr a b)))(hd:Ac d (G t)):Ac (Vg t f d) (G t):=
 .dif (fun h=>Stmt.Expr.elim (motive_2:=fun t=>∀h,Ac (Stmt.Expr.elim t h f) (G t)) t h (fun a b V=>hf a b) h) hd
noncomputable def Np(t:Stmt)(f:Option Expr→Pos→α)(d:α):α:=if h:t.ctorIdx=3 then Stmt.Return.elim t h f else d
theorem Ac.atReturn{t:Stmt}{f:Option Expr→Pos→RM α}{d:RM α}{G:Stmt→St→(α→St→Prop)→Prop}(hf:∀a b,Ac (f a b) (G (.Return a b)))(hd:Ac d (G t)):Ac (Np t f d) (G t):=
 .dif (fun h=>Stmt.Return.elim (motive_2:=fun t=>∀h,Ac (Stmt.Return.elim t h f) (G t)) t h (fun a b V=>hf a b) h) hd
noncomputable def eP(t:Stmt)(f:Expr→List Stmt→List Stmt→Pos→α)(d:α):α:=if h:t.ctorIdx=12 then Stmt.If.elim t h f else d
theorem Ac.atIf{t:Stmt}{f:Expr→List Stmt→List Stmt→Pos→RM α}{d:RM α}{G:Stmt→St→(α→St→Prop)→Prop}(hf:∀a b c d,Ac (f a b c d) (G (.If a b c d)))(hd:Ac d (G t)):Ac (eP t f d) (G t):=
 .dif (fun h=>Stmt.If.elim (motive_2:=fun t=>∀h,Ac (Stmt.If.elim t h f) (G t)) t h (fun a b c d V=>hf a b c d) h) hd
noncomputable def ZG(C:Addr)(f:Str):Bool:=(Nat.beq C 141&&List.elem f ["points","is_closed"])||((Nat.beq C 194&&List.elem f ["lengths","number","left"])||(Nat.beq C 301&&List.elem f ["half","cap","join","limit","matrix","is_turned","rows"]))
inductive GV where
 |fn (f:Addr)
 |lend (f:Addr)
 |cls (C fI:Addr)
 |dat (d:Int)
 |bi
noncomputable def gp(x:Str)(v:GV):Str×GV:=(x,v)
noncomputable def Ml:List (Str×GV):=
 gp "divided" (.fn 54)::gp "GRAIN" (.dat 1000000)::gp "matrix_quotient" (.fn 61)::gp "determinant" (.fn 68)::gp "need_regular" (.fn 75)::gp "transform" (.fn 82)::gp "inverse_delta" (.fn 89)::gp "inverse_transform" (.fn 96)::gp "matrix_length" (.fn 103)::gp "matrix_root" (.fn 110)::gp "stroke_length" (.fn 117)::gp "stroke_line_of" (.fn 152)::gp "stroke_lines" (.fn 157)::gp "stroke_between" (.fn 205)::gp "stroke_cut" (.fn 213)::gp "stroke_dashed" (.fn 218)::gp "stroke_products" (.fn 225)::gp "miter_is_over" (.fn 232)::gp "stroke_led_back" (.fn 310)::gp "stroked" (.fn 315)::gp "_law_draw" (.lend 329)::gp "_law_reaches" (.fn 336)::gp "_law_cross" (.fn 343)::gp "_law_dot" (.fn 350)::gp "_law_less" (.fn 357)::gp "_law_all" (.fn 364)::gp "_law_any" (.fn 371)::gp "_law_beyond" (.fn 378)::gp "_law_in_line" (.fn 385)::gp "_law_in_circle" (.fn 392)::gp "_law_in_triangle" (.fn 399)::gp "_law_root" (.fn 406)::gp "_law_outer" (.fn 413)::gp "_law_in_join" (.fn 420)::gp "_law_covers" (.fn 427)::gp "_law_led" (.fn 434)::gp "_law_edges" (.fn 439)::gp "_law_wound" (.fn 446)::gp "_law_path" (.lend 453)::gp "StrokeLine" (.cls 141 131)::gp "Dashes" (.cls 194 170)::gp "Pen" (.cls 301 246)::gp "len" .bi::gp "abs" .bi::gp "int" .bi::gp "BUTT" (.dat 0)::gp "ROUND" (.dat 1)::gp "SQUARE" (.dat 2)::gp "MITER" (.dat 0)::gp "BEVEL" (.dat 2)::gp "QUARTER" (.dat 552285)::gp "MOST_DASHES" (.dat 5000)::gp "_law_tenth" (.dat 100000)::gp "_law_fine" (.dat 1000)::[]
noncomputable def mp(x:Str)(C f:Addr):Str×Addr×Addr:=(x,C,f)
noncomputable def Td:List (Str×Addr×Addr):=
 mp "is_spot" 141 138::mp "is_on" 194 177::mp "turn" 194 184::mp "go" 194 191::mp "device" 301 253::mp "put_figure" 301 258::mp "put_circle" 301 263::mp "aside" 301 270::mp "put_line" 301 277::mp "put_join" 301 284::mp "put_cap" 301 291::mp "draw" 301 298::[]
def ce(K:Frag)(x:Str):GV→Prop
 | .fn f=>nsIn K mainGlobals x=some (some (.ref f))∧keepIn K (.ref f)=true
 | .lend f=>nsIn K mainGlobals x=some (some (.ref f))∧keepIn K (.ref f)=true
 | .cls C fI=>nsIn K mainGlobals x=some (some (.ref C))∧keepIn K (.ref C)=true∧makesIn K C=true∧findIn K (.ref C) "__init__"=some (some (.ref fI))∧typeIn K (.ref fI)=some (.type "function")
 | .dat d=>∃t,nsIn K mainGlobals x=some (some (.int d t))
 | .bi=>nsIn K mainGlobals x=some none∧x≠"__name__"
structure Cy(K:Frag):Prop where
 glo:∀p∈Ml,ce K p.1 p.2
 fld:∀C f,ZG C f=true→CU K C∧BP K C f
 meth:∀p∈Td,CU K p.2.1∧KT K p.2.1 p.1 p.2.2
theorem ET[BEq α][LawfulBEq α]{x:α}{b:β}{l:List (α×β)}(h:l.lookup x=some b):(x,b)∈l:=by
 obtain⟨_,_,rfl,_⟩:=List.lookup_eq_some_iff.mp h
 exact mem_append_right _ (.head _)
noncomputable def Qy(sc:Scope)(x:Str):Bool:=sc.names.lookup x==some .globalImplicit
theorem HG(h:Qy sc x=true):sc.names.lookup x=some .globalImplicit:=eq_of_beq h
noncomputable def eQ:AF→Bool
 | .dat _=>false
 |_=>true
theorem Wm{a:AF}(h:eQ a=true)(x:Str):VN x a=.own x:=by cases a<;>first|rfl|cases h
noncomputable def Qz(m:Str)(C:Addr):Option Addr:=(Td.lookup m).bind fun p=>bif Nat.beq p.1 C then some p.2 else none
theorem HH(T:Cy K){m:Str}(h:Qz m C=some f):CU K C∧KT K C m f:=
 match Option.bind_eq_some_iff.mp h with
 |⟨p,e,q⟩=>match hb:Nat.beq p.1 C,q with
  |true,q=>Option.some.inj q▸eq_of_beq_eq_true hb▸T.meth _ (ET e)
  |false,q=>IN q
noncomputable def JK(e:Expr):Bool:=Nat.beq e.ctorIdx 26
noncomputable def fP(a:AF)(f:Addr→List (Str×CP)→RM α):RM α:=match a with
 | .obj C fs=>f C fs
 |_=>.fail
noncomputable def Nq(x:Str)(a:AF):RM Unit:=.bind .get fun st=>.set (put x a st)
noncomputable def Mm(x:Str):RM AF:=.bind .get fun st=>.opt (look x st)
noncomputable def Wn(x:Str)(k:Addr→List (Str×CP)→RM α):RM α:=.bind (Mm x) fun a=>fP a k
noncomputable def cG(f:Expr→Dat→RM Unit):List Expr→List Dat→RM Unit
 |[],[]=>.pure ()
 |t::ts,d::ds=>.bind (f t d) fun V=>cG f ts ds
 |_,_=>.fail
noncomputable def Te(sc:Scope):Nat→Expr→Dat→RM Unit
 |0,_,_=>.fail
 |k+1,t,d=>CS t (fun x V=>.bind (.chk (BD sc x)) fun V=>Nq x (.dat d))<|
  HC t (fun ts V V=>.bind (.opt (Eu d)) fun ds=>.bind (.chk (AX ts&&Nat.beq ts.length ds.length)) fun V=>cG (Te sc k) ts ds) .fail
noncomputable def eR:AF→Option Int
 | .dat d=>HB d
 |_=>none
noncomputable def fQ(a:CP)(f:Addr→List Dat→RM α):RM α:=match a with
 | .own i ds=>f i ds
 |_=>.fail
noncomputable def Tf(x f:Str)(k:Addr→List (Str×CP)→Addr→List Dat→RM α):RM α:=Wn x fun C fs=>.bind (.opt (fs.lookup f)) fun u=>fQ u (k C fs)
noncomputable def eT(a:EV):RM Dat:=match a with
 | .dat d=>.pure d
 | .own x=>.bind .get fun st=>.bind (.opt (look x st)) fun a=>.bind (.set (put x (.dat (Hq a)) st)) fun V=>.pure (Hq a)
noncomputable def rdR(a:EV):RM Dat:=.bind .get fun st=>.opt (rd st a)
noncomputable def YO(a:EV):RM Int:=.bind (rdR a) fun d=>.opt (HB d)
noncomputable def QA(a:EV):RM Bool:=.bind (rdR a) fun d=>.opt (Qn d)
noncomputable def ZH(a:EV):RM (List Dat):=.bind (rdR a) fun d=>.opt (Nj d)
noncomputable def Wo(op:Operator)(x y:Dat):Bool:=match op with
 | .Add | .Sub=>(HB x).isSome&&(HB y).isSome
 |_=>false
noncomputable def cH(op:Operator)(x y:Dat):RM Dat:=match Wo op x y with
 |true=>.pure (KJ op x y)
 |false=>.bind (.ob (Er op x y)) fun V=>.pure (KJ op x y)
noncomputable def Wp(op:CmpOp)(x y:Dat):Bool:=match op with
 | .Lt | .LtE | .Gt | .GtE | .Eq | .NotEq=>(HB x).isSome&&(HB y).isSome
 |_=>false
noncomputable def ZI(op:CmpOp)(x y:Dat):RM Bool:=match Wp op x y with
 |true=>.pure (Ce op x y)
 |false=>.bind (.ob (DP op x y)) fun V=>.pure (Ce op x y)
noncomputable def Wq(x:Dat)(k:Int):RM Dat:=.bind (.opt (Eu x)) fun ds=>match x with
 | .tuple _=>.bind (.chk (Nat.ble ds.length 1000)) fun V=>.opt (AK ds k)
 |_=>.bind .val fun d=>.bind (.ob (ds.length<2^62)) fun V=>.bind (.ob (AK ds k=some d)) fun V=>.pure d
noncomputable def Wr(f:Expr→RM Dat):List Expr→RM (List Dat)
 |[]=>.pure []
 |e::es=>.bind (f e) fun d=>.bind (Wr f es) fun ds=>.pure (d::ds)
structure VR where
 e:Scope→Expr→RM EV
 f:Scope→Expr→RM AF
 t:Scope→Expr→RM Bool
noncomputable def VR.dt(v:VR)(sc:Scope)(e:Expr):RM Dat:=.bind (v.e sc e) eT
noncomputable def VR.ar(v:VR)(sc:Scope)(es:List Expr):RM (List Dat):=.bind (.chk (AX es)) fun V=>Wr (v.dt sc) es
noncomputable def cI(f:Expr→RM Bool):List Expr→RM Bool
 |[]=>.pure true
 |e::es=>.bind (f e) fun c=>.cse c (cI f es) (.pure false)
noncomputable def orR(f:Expr→RM Bool):List Expr→RM Bool
 |[]=>.pure false
 |e::es=>.bind (f e) fun c=>.cse c (.pure true) (orR f es)
section
variable(O:Program)(w:World)(U:Heap)(n:Nat)
noncomputable def KB(sc:Scope)(e:Expr):RM EV:=.ask fun st Q=>Ev O w U sc n e st Q
noncomputable def YP(sc:Scope)(e:Expr):RM AF:=.own fun st Q=>Ef O w U sc n e st Q
noncomputable def fnR(f:Addr)(ds:List Dat):RM EV:=.bind .val fun d=>.bind (.ob (FnP O w U n f ds (· =d))) fun V=>.pure (.dat d)
noncomputable def Ws(f:Addr)(x:Str)(ds:List Dat):RM EV:=.bind (Mm x) fun a=>.bind .lent fun p=>.bind (.ob (FnL O w U n f a ds fun d a'=>d=p.1∧a'=p.2)) fun V=>.bind (Nq x p.2) fun V=>.pure (.dat p.1)
noncomputable def biR(v:VR)(sc:Scope)(g:Str)(e1 e:Expr):RM EV:=
 if g="len" then .bind (v.e sc e1) fun a=>.bind (rdR a) fun x=>.bind (.opt (Eu x)) fun ds=>.bind (.ob (ds.length<2^62)) fun V=>.pure (.dat (.int ds.length))
 else if g="abs" then .bind (v.e sc e1) fun a=>.bind (YO a) fun i=>.pure (.dat (.int (if i<0 then-i else i)))
 else KB O w U n sc e
noncomputable def ZJ(v:VR)(sc:Scope)(g:Str)(gv:GV)(es:List Expr)(e:Expr):RM EV:=match gv with
 | .fn f=>match es with
  |[]=>.fail
  |e1::es=>.bind (v.ar sc (e1::es)) (fnR O w U n f)
 | .lend f=>match es with
  |[]=>.fail
  |a::es=>CS a (fun x V=>.bind (.chk (EB x)) fun V=>.bind (Mm x) fun a0=>.bind (.chk (eQ a0)) fun V=>.bind (v.ar sc es) (Ws O w U n f x)) .fail
 | .cls _ _=>.bind (v.f sc e) fun av=>.pure (.dat (Hq av))
 | .dat _=>.fail
 | .bi=>match es with
  |[e1]=>.bind (.chk (AX [e1])) fun V=>biR O w U n v sc g e1 e
  |_=>.fail
noncomputable def Wt(v:VR)(sc:Scope)(g:Str)(es:List Expr)(e:Expr):RM EV:=match Qy sc g with
 |true=>match Ml.lookup g with
  |some gv=>ZJ O w U n v sc g gv es e
  |none=>KB O w U n sc e
 |false=>KB O w U n sc e
noncomputable def eU(x:Str)(d:Dat):RM EV:=.bind (Mm x) fun a=>.bind (.opt (ZE a)) fun ds=>.bind (.ob (ds.length+1≤sizeLine)) fun V=>.bind (Nq x (.lst (ds++[d]))) fun V=>.pure (.dat .none)
noncomputable def Wu(v:VR)(sc:Scope)(x m:Str)(es:List Expr)(e:Expr)(a0:AF):RM EV:=match a0 with
 | .obj C fs=>.bind (.opt (Qz m C)) fun f=>.bind (.chk (!(fs.map (·.1)).contains m&&AX es&&Nat.blt es.length 30)) fun V=>match es with
  |[]=>.fail
  |e1::es=>.bind (v.ar sc (e1::es)) (Ws O w U n f x)
 | .dat d=>match d with
  | .inst C fs=>match es with
   |[]=>.bind (.opt (Qz m C)) fun f=>.bind (.chk (!(fs.map (·.1)).contains m)) fun V=>fnR O w U n f [.inst C fs]
   |_=>.fail
  |_=>.fail
 | .lst _=>match es with
  |[e1]=>if m="append" then .bind (.chk (AX [e1])) fun V=>.bind (v.dt sc e1) (eU x)
   else KB O w U n sc e
  |_=>KB O w U n sc e
noncomputable def eV(x f:Str)(C i:Addr)(d:Dat):RM EV:=Tf x f fun C1 fs i1 ds=>.bind (.ob (C1=C∧i1=i)) fun V=>.bind (.ob (ds.length+1≤sizeLine)) fun V=>.bind (Nq x (.obj C (Ej f (.own i (ds++[d])) fs))) fun V=>.pure (.dat .none)
noncomputable def eW(x f:Str)(C i:Addr)(d:Dat):RM EV:=Tf x f fun C1 fs i1 ds=>.bind (.ob (C1=C∧i1=i)) fun V=>.bind (.opt (Nj d)) fun es=>.bind (.ob (ds.length+es.length≤sizeLine)) fun V=>.bind (Nq x (.obj C (Ej f (.own i (ds++es)) fs))) fun V=>.pure (.dat .none)
noncomputable def eY(v:VR)(sc:Scope)(x f:Str)(e1:Expr)(line:Bool)(g:Addr→Addr→Dat→RM EV):RM EV:=.bind (.chk (EB x&&line&&AX [e1])) fun V=>Tf x f fun C V i V=>.bind (.chk (ZG C f)) fun V=>.bind (v.dt sc e1) (g C i)
noncomputable def cJ(v:VR)(sc:Scope)(x f m:Str)(es:List Expr)(e:Expr)(line:Bool):RM EV:=match es with
 |[e1]=>if m="append" then eY v sc x f e1 line (eV x f)else if m="extend" then eY v sc x f e1 line (eW x f)else KB O w U n sc e
 |_=>KB O w U n sc e
noncomputable def fR(o:Option GV)(m:RM EV):RM EV:=match o with
 |some g=>match g with
  | .dat d=>.pure (.dat (.int d))
  |_=>m
 |none=>m
noncomputable def fS(o:Option GV)(k:Addr→Addr→RM AF)(m:RM AF):RM AF:=match o with
 |some g=>match g with
  | .cls C f=>k C f
  |_=>m
 |none=>m
noncomputable def ZK(sc:Scope)(x:Str)(e:Expr):RM EV:=.bind (.chk (EB x)) fun V=>.bind .get fun st=>match look x st with
 |some a=>.pure (VN x a)
 |none=>match Qy sc x with
  |true=>fR (Ml.lookup x) (KB O w U n sc e)
  |false=>KB O w U n sc e
noncomputable def ZL(sc:Scope)(x f:Str)(e:Expr):RM EV:=.bind (.chk (EB x)) fun V=>.bind .get fun st=>match PW x f st with
 |some (C,d)=>.bind (.chk (ZG C f)) fun V=>.pure (.dat d)
 |none=>KB O w U n sc e
noncomputable def Vh(c:Const):RM EV:=match c with
 | .int i=>.pure (.dat (.int i))
 | .str s=>.pure (.dat (.str s))
 | .bool b=>.pure (.dat (.bool b))
 | .none=>.pure (.dat .none)
 |_=>.fail
noncomputable def eZ(v:VR)(sc:Scope)(l:Expr)(ops:List CmpOp)(rs:List Expr):RM EV:=match ops,rs with
 |[op],[r]=>.bind (.chk (!behindInMarks op r)) fun V=>.bind (v.e sc l) fun a=>.bind (v.e sc r) fun b=>.bind (rdR a) fun x=>.bind (rdR b) fun y=>.bind (ZI op x y) fun c=>.pure (.dat (.bool c))
 |_,_=>.fail
noncomputable def ZM:Dat→Option (World×List (Str×Int))
 | .dict w fs=>some (w,fs)
 |_=>none
noncomputable def ZN:Dat→Option Str
 | .str x=>some x
 |_=>none
noncomputable def cK(x:Dat)(b:EV):RM EV:=match ZM x with
 |some p=>.bind (rdR b) fun k=>.bind (.opt (ZN k)) fun y=>.bind (.ob (p.1=w)) fun V=>.bind (.opt (p.2.lookup y)) fun i=>.pure (.dat (.int i))
 |none=>.bind (YO b) fun k=>.bind (Wq x k) fun d=>.pure (.dat d)
noncomputable def cL(v:VR)(sc:Scope)(l i:Expr)(p:Pos):RM EV:=match JK i with
 |true=>.bind .peek fun b=>match b with
  |true=>KB O w U n sc (.Subscript l i p)
  |false=>.bind (v.f sc (.Subscript l i p)) fun av=>.pure (.dat (Hq av))
 |false=>.bind (v.e sc l) fun a=>.bind (v.e sc i) fun b=>.bind (rdR a) fun x=>cK w x b
noncomputable def fT(v:VR)(sc:Scope)(op:UnaryOp)(x:Expr)(p:Pos):RM EV:=match op with
 | .USub=>.bind (v.e sc x) fun a=>.bind (YO a) fun i=>.pure (.dat (.int (-i)))
 |op=>KB O w U n sc (.UnaryOp op x p)
noncomputable def ZO(v:VR)(sc:Scope)(op:BoolOp)(es:List Expr):RM EV:=match es with
 |[x,y]=>.bind (v.e sc x) fun a=>.bind (QA a) fun c=>match op with
  | .And=>.cse c (v.e sc y) (.pure (.dat (.bool false)))
  | .Or=>.cse c (.pure (.dat (.bool true))) (v.e sc y)
 |_=>.fail
noncomputable def Wv(v:VR)(sc:Scope)(o:Expr)(m:Str)(ap:Pos)(es:List Expr)(pos:Pos):RM EV:=
 CS o (fun x q=>.bind (.chk (EB x&&(ap.endLine==pos.line))) fun V=>.bind (Mm x) (Wu O w U n v sc x m es (.Call (.Attribute (.Name x q) m ap) es [] pos)))<|
 Cq o (fun o f q=>CS o (fun x r=>cJ O w U n v sc x f m es (.Call (.Attribute (.Attribute (.Name x r) f q) m ap) es [] pos) (ap.endLine==pos.line)) (KB O w U n sc (.Call (.Attribute (.Attribute o f q) m ap) es [] pos)))<|
 KB O w U n sc (.Call (.Attribute o m ap) es [] pos)
noncomputable def ZP(v:VR)(sc:Scope)(f:Expr)(es:List Expr)(kws:List Keyword)(pos:Pos):RM EV:=match kws with
 |[]=>CS f (fun g p=>Wt O w U n v sc g es (.Call (.Name g p) es [] pos))<|Cq f (fun o m ap=>Wv O w U n v sc o m ap es pos) .fail
 |_=>.fail
noncomputable def Ww(v:VR)(sc:Scope)(e:Expr):RM EV:=
 CS e (fun x p=>ZK O w U n sc x (.Name x p))<|
 Ja e (fun c V V=>Vh c)<|
 La e (fun f es kws pos=>ZP O w U n v sc f es kws pos)<|
 Dd e (fun l i p=>cL O w U n v sc l i p)<|
 Cq e (fun o f p=>CS o (fun x q=>ZL O w U n sc x f (.Attribute (.Name x q) f p)) (KB O w U n sc (.Attribute o f p)))<|
 Qu e (fun l op r V=>.bind (v.e sc l) fun a=>.bind (v.e sc r) fun b=>.bind (rdR a) fun x=>.bind (rdR b) fun y=>.bind (cH op x y) fun d=>.pure (.dat d))<|
 HD e (fun l ops rs V=>eZ v sc l ops rs)<|
 HC e (fun es V V=>.bind (v.ar sc es) fun ds=>.bind (.chk (Nat.ble ds.length 1000)) fun V=>.pure (.dat (.tuple ds)))<|
 Qv e (fun es p=>.bind (v.f sc (.List es p)) fun av=>.pure (.dat (Hq av)))<|
 HE e (fun op x p=>fT O w U n v sc op x p)<|
 Qw e (fun t b o V=>.bind (v.t sc t) fun c=>.cse c (v.e sc b) (v.e sc o))<|
 JJ e (fun op es V=>ZO v sc op es)<|
 KB O w U n sc e
noncomputable def cst(e:Expr):Bool:=Nat.beq e.ctorIdx 19||Nat.beq e.ctorIdx 3
noncomputable def Vi(v:VR)(sc:Scope)(l s:Expr)(G:Int→Option (List Dat→List Dat)):RM AF:=.bind (v.e sc l) fun a=>.bind (v.e sc s) fun b=>.bind (YO b) fun k=>.bind (.opt (G k)) fun g=>.bind (ZH a) fun ds=>.bind (.ob (ds.length≤sizeLine)) fun V=>.pure (.lst (g ds))
noncomputable def cf(k:Int):Option (List Dat→List Dat):=if k=1 then some (List.drop 1)else if k=2 then some (List.drop 2)else none
noncomputable def Tg(k:Int):Option (List Dat→List Dat):=if k=1 then some (List.take 1)else if k= -1 then some List.dropLast else if k=63 then some (List.take 63)else none
noncomputable def cg(k:Int):Option (List Dat→List Dat):=if k= -1 then some List.reverse else none
noncomputable def Vj(v:VR)(sc:Scope)(l s e:Expr)(G:Int→Option (List Dat→List Dat)):RM AF:=match cst s with
 |true=>Vi v sc l s G
 |false=>YP O w U n sc e
noncomputable def ZQ(v:VR)(sc:Scope)(C fI:Addr)(es:List Expr):RM AF:=match n with
 |0=>.fail
 |n'+1=>match es with
  |[]=>.fail
  |e1::es=>.bind (v.ar sc (e1::es)) fun ds=>.bind .lent fun p=>.bind (.ob (FnL O w U n' fI (.obj C []) ds fun d a'=>d=.none∧a'=p.2)) fun V=>.pure p.2
noncomputable def Wx(v:VR)(sc:Scope)(g:Str)(es:List Expr)(e:Expr):RM AF:=match Qy sc g with
 |true=>fS (Ml.lookup g) (fun C fI=>ZQ O w U n v sc C fI es) (YP O w U n sc e)
 |false=>YP O w U n sc e
noncomputable def ZR(v:VR)(sc:Scope)(l:Expr)(lo hi stp:Option Expr)(e:Expr):RM AF:=match lo with
 |some lo=>match hi with
  |none=>match stp with
   |none=>Vj O w U n v sc l lo e cf
   |some _=>.fail
  |some _=>.fail
 |none=>match hi with
  |some hi=>match stp with
   |none=>Vj O w U n v sc l hi e Tg
   |some _=>.fail
  |none=>match stp with
   |none=>.fail
   |some s=>Vj O w U n v sc l s e cg
noncomputable def Wy(v:VR)(sc:Scope)(e:Expr):RM AF:=
 Qv e (fun es V=>.bind (v.ar sc es) fun ds=>.bind (.chk (Nat.ble ds.length 1000)) fun V=>.pure (.lst ds))<|
 Dd e (fun l i p=>Qx i (fun lo hi stp q=>ZR O w U n v sc l lo hi stp (.Subscript l (.Slice lo hi stp q) p)) .fail)<|
 La e (fun f es kws p=>match kws with
  |[]=>CS f (fun g q=>Wx O w U n v sc g es (.Call (.Name g q) es [] p)) .fail
  |_=>.fail)<|
 YP O w U n sc e
noncomputable def fU(v:VR)(sc:Scope)(l:Expr)(ops:List CmpOp)(rs:List Expr):RM Bool:=match ops,rs with
 |[op],[r]=>.bind (.chk (!behindInMarks op r)) fun V=>.bind (v.e sc l) fun a=>.bind (v.e sc r) fun b=>.bind (rdR a) fun x=>.bind (rdR b) fun y=>ZI op x y
 |_,_=>.fail
noncomputable def Wz(v:VR)(sc:Scope)(e:Expr):RM Bool:=
 HD e (fun l ops rs V=>fU v sc l ops rs)<|
 HE e (fun op x V=>match op with
  | .Not=>.bind (v.t sc x) fun b=>.pure (!b)
  |_=>.fail)<|
 JJ e (fun op es V=>match op with
  | .And=>cI (v.t sc) es
  | .Or=>orR (v.t sc) es)<|
 CS e (fun x p=>.bind (v.e sc (.Name x p)) QA)<|
 Cq e (fun o f p=>.bind (v.e sc (.Attribute o f p)) QA)<|
 La e (fun f es kws p=>.bind (v.e sc (.Call f es kws p)) QA) .fail
noncomputable def VV(k:Nat):VR:=Nat.rec (motive:=fun V=>VR) ⟨KB O w U n,YP O w U n,fun V V=>.fail⟩ (fun V v=>⟨Ww O w U n v,Wy O w U n v,Wz v⟩) k
end
variable{ms:Ms}{os:List Or}
theorem Lb(k:Nat)(l:List α):FH (some (k:Int)) none l=l.drop k:=by
 delta FH kms_lo kms_hi
 dsimp only
 refine rr (if_neg (by exact(not_lt.mpr (natCast_nonneg (k))))) ?_
 apply List.take_of_length_le _ |>.trans
 ·rcases le_total k l.length with h|h
  ·refine rr (toNat_natCast ..) (rr (min_eq_left h) ?_);rfl
  ·refine rr (toNat_natCast ..) (rr (min_eq_right h) ?_);refine rr (List.drop_of_length_le h) (rr (List.drop_of_length_le (le_refl _)) ?_);rfl
 ·refine rr length_drop ?_;exact le_refl _
theorem Mn(k:Nat)(l:List α):FH none (some (k:Int)) l=l.take k:=by
 delta FH kms_lo kms_hi
 dsimp only
 refine rr (if_neg (by lia)) ?_
 refine rr List.drop_zero ?_;refine rr (toNat_natCast ..) (rr (Nat.sub_zero ..) ?_)
 rcases le_total k l.length with h|h
 ·refine rr (min_eq_left h) ?_;rfl
 ·refine rr (min_eq_right h) ?_;refine rr (List.take_of_length_le h) (rr (List.take_of_length_le (le_refl _)) ?_);rfl
theorem QB(l:List α):FH none (some (-1)) l=l.dropLast:=by
 delta FH kms_lo kms_hi
 dsimp only
 refine rr (if_pos UZ) ?_;refine rr List.drop_zero (rr List.dropLast_eq_take ?_)
 rfl
theorem ZS{x y:Expr}{Q:EV→St→Prop}(h:Ev O w U sc n x st fun a st1=>TrP st1 a fun b st2=>(b=false→Ev O w U sc n y st2 Q)∧(b=true→Q (.dat (.bool true)) st2)):
 Ev O w U sc n (.BoolOp .Or [x,y] pos) st Q:=by
 intro A Y R as s hR hE r
 refine wpAny_Or2 (h.go hR hE r fun v a st1 as1 h1 t1 e1 r1 x1 qq=>?_)
 obtain⟨b,eb,q1,q2⟩:=qq
 refine Now.boolP (r1.now x1 eb) ?_
 refine wpAny_truthy_bool ?_
 rcases b with _|_
 ·exact wpAny_mono (q1 rfl A Y R as1 _ hR hE r1) (fun V V p=>PE.after e1 p) fun V V x=>x
 ·exact PE.after (t1:=t1) e1 (PE.grown (t1:=t1) r1 rfl (fun V V e=>e) (.bool _) (q2 rfl))
theorem szl:16777216≤sizeLine:=by decide
theorem FQ{k:Int}(e:(if k<0 then k+ds.length else k)=(j:Int))(h:ds[j]?=some d):AK ds k=some d:=by
 have h1:seqIndex? k ds.length=some j:=by
  delta seqIndex?
  refine rr e ?_
  exact if_pos (and_eq_true_iff.mpr ⟨decide_eq_true (natCast_nonneg j),decide_eq_true (ofNat_lt.mpr (List.getElem?_eq_some_iff.mp h).1)⟩)
 delta AK
 refine rr h1 ?_;exact h
theorem DT:AK (ds++[d]) (-1)=some d:=
 FQ (j:=ds.length) (by refine rr (if_pos (by decide)) (rr length_append ?_);exact(congrArg ((-1)+ ·) (Int.natCast_succ _)).trans UZ) (List.getElem?_concat_length ..)
theorem OH(l:List α):FH (some 1) none l=l.drop 1:=Lb 1 l
theorem OI(l:List α):FH (some 2) none l=l.drop 2:=Lb 2 l
theorem Th(l:List α):FH none (some 1) l=l.take 1:=Mn 1 l
theorem JL:AK (d::ds) 0=some d:=FQ (j:=0) (if_neg (by decide)) rfl
theorem GD(e:ds[k]?=some d):AK ds (k:Int)=some d:=FQ (if_neg (not_lt.mpr (natCast_nonneg k))) e
section
variable{v:VR}
theorem El.mono{Q Q':List Dat→St→Prop}(h:El O w U sc n es st Q)(k:∀a st,Q a st→Q' a st):El O w U sc n es st Q':=
 fun A Y R as s pos hR hE r=>wpAny_mono (h A Y R as s pos hR hE r) (by rintro _ _ ⟨ev,st',as',h',tk',e,a,b,c,q⟩;exact⟨ev,st',as',h',tk',e,a,b,c,k _ _ q⟩) fun V V x=>x
abbrev SE(O:Program)(w:World)(U:Heap)(n:Nat)(sc:Scope)(e:Expr)(m:RM EV):Prop:=Ac m fun st Q=>Ev O w U sc n e st Q
structure VR.Ok(O:Program)(w:World)(U:Heap)(n:Nat)(v:VR):Prop where
 e:∀sc e,Ac (v.e sc e) fun st Q=>Ev O w U sc n e st Q
 f:∀sc e,Ac (v.f sc e) fun st Q=>Ef O w U sc n e st Q
 t:∀sc e,Ac (v.t sc e) fun st Q=>Et O w U sc n e st Q
theorem Ac.lookT{f:AF→RM α}(F:∀a,Ac (f a) fun st Q=>look x st=some a→J st Q):Ac (RM.bind (Mm x) f) J:=
 (Ac.bind (Ac.bind Ac.get fun st=>Ac.opt (look x st)) F).imp (by rintro _ _ ⟨_,e,h⟩;exact h e)
theorem Ac.put(x:Str)(a:AF):Ac (Nq x a) fun st Q=>Q () (Mine.Internal.put x a st):=Ac.bind Ac.get fun st=>Ac.set (Mine.Internal.put x a st)
theorem Ac.objT{k:Addr→List (Str×CP)→RM α}(F:∀C fs,Ac (k C fs) fun st Q=>look x st=some (.obj C fs)→J st Q):Ac (Wn x k) J:=Ac.lookT fun a=>by
 cases a with
 |obj C fs=>exact F C fs
 |_=>exact Ac.fail
theorem Ac.ownT{f:Str}{k:Addr→List (Str×CP)→Addr→List Dat→RM α}(F:∀C fs i ds,Ac (k C fs i ds) fun st Q=>fs.lookup f=some (.own i ds)→look x st=some (.obj C fs)→J st Q):Ac (Tf x f k) J:=Ac.objT fun C fs=>Ac.optT fun u eu=>by
 cases u with
 |own i ds=>exact(F C fs i ds).imp fun V V h=>h eu
 |_=>exact Ac.fail
theorem WA(a:EV):Ac (eT a) fun st Q=>YL st a Q:=by
 cases a with
 |dat d=>exact(Ac.pure d).imp fun V V q=>JI q
 |own x=>exact(Ac.bind Ac.get fun st=>Ac.bind (Ac.opt (look x st)) fun a=>Ac.bind (Ac.set (put x (.dat (Hq a)) st)) fun V=>Ac.pure (Hq a)).imp (by rintro _ _ ⟨_,e,q⟩;exact Wj e q)
theorem Eb(a:EV):Ac (rdR a) fun st Q=>∃x,rd st a=some x∧Q x st:=Ac.bind Ac.get fun st=>Ac.opt (rd st a)
theorem JM(a:EV):Ac (YO a) fun st Q=>∃i,rd st a=some (.int i)∧Q i st:=(Ac.bind (Eb a) fun d=>Ac.opt (HB d)).imp (by rintro _ _ ⟨_,e,_,e',q⟩;exact⟨_,Hv e'▸e,q⟩)
theorem FR(a:EV):Ac (QA a) fun st Q=>TrP st a Q:=(Ac.bind (Eb a) fun d=>Ac.opt (Qn d)).imp (by rintro _ _ ⟨_,e,_,e',q⟩;exact⟨_,Qo e'▸e,q⟩)
theorem Ti(a:EV):Ac (ZH a) fun st Q=>∃i,rd st a=some (.list i)∧Q i st:=(Ac.bind (Eb a) fun d=>Ac.opt (Nj d)).imp (by rintro _ _ ⟨_,e,_,e',q⟩;exact⟨_,KY e'▸e,q⟩)
theorem Tj{x:Dat}(h:(HB x).isSome=true):∃i,x=.int i:=(by obtain⟨i,e⟩:=isSome_iff_exists.mp h;exact⟨i,Hv e⟩)
theorem Tk{x y:Dat}(h:Wo op x y=true):Er op x y:=by
 cases op<;>first
  |cases h
  |(obtain⟨⟨_,rfl⟩,⟨_,rfl⟩⟩:=(⟨Tj (BX h).1,Tj (BX h).2⟩:(∃i,x=.int i)∧∃i,y=.int i);trivial)
theorem Tl{op:CmpOp}{x y:Dat}(h:Wp op x y=true):DP op x y:=by
 cases op<;>first
  |cases h
  |(obtain⟨⟨_,rfl⟩,⟨_,rfl⟩⟩:=(⟨Tj (BX h).1,Tj (BX h).2⟩:(∃i,x=.int i)∧∃i,y=.int i);first|trivial|exact⟨plain_int _,plain_int _⟩)
theorem WB(op:Operator)(x y:Dat):Ac (cH op x y) fun st Q=>Er op x y∧Q (KJ op x y) st:=by
 delta cH
 cases c:Wo op x y
 ·exact Ac.bind (Ac.ob _) fun V=>Ac.pure _
 ·exact(Ac.pure _).imp fun V V q=>⟨Tk c,q⟩
theorem QC(op:CmpOp)(x y:Dat):Ac (ZI op x y) fun st Q=>DP op x y∧Q (Ce op x y) st:=by
 delta ZI
 cases c:Wp op x y
 ·exact Ac.bind (Ac.ob _) fun V=>Ac.pure _
 ·exact(Ac.pure _).imp fun V V q=>⟨Tl c,q⟩
theorem Tm(x:Dat)(k:Int):Ac (Wq x k) fun st Q=>∃ds d,Eu x=some ds∧ds.length<2^62∧AK ds k=some d∧Q d st:=by
 have gen:∀ds,Eu x=some ds→Ac (RM.bind .val fun d=>.bind (.ob (ds.length<2^62)) fun V=>.bind (.ob (AK ds k=some d)) fun V=>.pure d) fun st Q=>∃d,ds.length<2^62∧AK ds k=some d∧Q d st:=
  fun ds V=>Ac.bind Ac.val fun d=>Ac.bind (Ac.ob _) fun V=>Ac.bind (Ac.ob _) fun V=>Ac.pure d
 refine(Ac.bind (Ac.opt (Eu x)) fun ds=>(?_:Ac _ fun st Q=>∃d,ds.length<2^62∧AK ds k=some d∧Q d st)).imp (by rintro _ _ ⟨ds,e,d,h⟩;exact⟨ds,d,e,h⟩)
 cases x with
 |tuple _=>exact Ac.chkT fun h=>(Ac.opt (AK ds k)).imp (by rintro _ _ ⟨d,e,q⟩;exact⟨d,lt_of_le_of_lt (le_of_ble_eq_true h) (by decide),e,q⟩)
 |_=>exact Ac.bind Ac.val fun d=>Ac.bind (Ac.ob _) fun V=>Ac.bind (Ac.ob _) fun V=>Ac.pure d
theorem VR.Ok.dt(o:v.Ok O w U n)(sc:Scope)(e:Expr):Ac (v.dt sc e) fun st Q=>Ed O w U sc n e st Q:=Ac.bind (o.e sc e) WA
theorem Tn(o:v.Ok O w U n)(sc:Scope):∀{es:List Expr},AX es=true→Ac (Wr (v.dt sc) es) fun st Q=>El O w U sc n es st Q:=by
 intro es
 induction es with
 |nil=>
  intro _
  exact(Ac.pure []).imp fun V V q=>Ze q
 |cons e es ih=>
  intro h
  exact(Ac.bind (o.dt sc e) fun d=>Ac.bind (ih (Aj h).2) fun ds=>Ac.pure (d::ds)).imp fun V V q=>Pv q (Bw (Aj h).1 es)
theorem VR.Ok.ar(o:v.Ok O w U n)(sc:Scope)(es:List Expr):Ac (v.ar sc es) fun st Q=>AX es=true∧El O w U sc n es st Q:=Ac.chkT fun e=>(Tn o sc e).imp fun V V q=>⟨e,q⟩
theorem WC(o:v.Ok O w U n):∀{es:List Expr},Ac (cI (v.t sc) es) fun st Q=>Ea O w U sc n .And es st Q:=by
 intro es
 induction es with
 |nil=>
  exact(Ac.pure true).imp fun V V q=>Ov q
 |cons e _ ih=>
  exact(Ac.bind (o.t sc e) fun c=>Ac.cse c (ih) (Ac.pure false)).imp fun V V h=>Zl h
theorem ZT(o:v.Ok O w U n):∀{es:List Expr},Ac (orR (v.t sc) es) fun st Q=>Ea O w U sc n .Or es st Q:=by
 intro es
 induction es with
 |nil=>
  exact(Ac.pure false).imp fun V V q=>PQ q
 |cons e _ ih=>
  exact(Ac.bind (o.t sc e) fun c=>Ac.cse c (Ac.pure true) (ih)).imp fun V V h=>cz (Et.mono h fun V V h=>⟨h.2,h.1⟩)
theorem WD(o:v.Ok O w U n)(sc:Scope)(op:CmpOp)(l r:Expr):Ac (RM.bind (v.e sc l) fun a=>.bind (v.e sc r) fun b=>.bind (rdR a) fun x=>.bind (rdR b) fun y=>ZI op x y) fun st Q=>Ev O w U sc n l st fun a st1=>Ev O w U sc n r st1 fun b st2=>cx op st2 a b Q:=
 (Ac.bind (o.e sc l) fun a=>Ac.bind (o.e sc r) fun b=>Ac.bind (Eb a) fun x=>Ac.bind (Eb b) fun y=>QC op x y).imp fun V V h=>h.mono fun V V h=>h.mono (by rintro _ _ ⟨x,e,y,e',s,q⟩;exact⟨x,y,e,e',s,q⟩)
theorem To(o:v.Ok O w U n)(sc:Scope)(e:Expr):Ac (Wz v sc e) fun st Q=>Et O w U sc n e st Q:=by
 delta Wz
 refine Ac.onCompare (G:=fun e st Q=>Et O w U sc n e st Q) (fun l ops rs p=>?_) ?_
 ·rcases ops with _|⟨op,_|⟨_,_⟩⟩<;>rcases rs with _|⟨r,_|⟨_,_⟩⟩<;>first|exact Ac.fail|skip
  exact Ac.chkT fun hb=>(WD o sc op l r).imp fun V V h=>Zj h (Cf hb)
 refine Ac.onUnaryOp (G:=fun e st Q=>Et O w U sc n e st Q) (fun op x p=>?_) ?_
 ·cases op<;>first|exact Ac.fail|exact(Ac.bind (o.t sc x) fun b=>Ac.pure (!b)).imp fun V V h=>Zk h
 refine Ac.onBoolOp (G:=fun e st Q=>Et O w U sc n e st Q) (fun op es p=>?_) ?_
 ·cases op
  ·exact(WC o).imp fun V V h=>PP h
  ·exact(ZT o).imp fun V V h=>PP h
 refine Ac.onName (G:=fun e st Q=>Et O w U sc n e st Q) (fun x p=>(Ac.bind (o.e sc _) FR).imp fun V V h=>PN h) ?_
 refine Ac.onAttribute (G:=fun e st Q=>Et O w U sc n e st Q) (fun a f p=>(Ac.bind (o.e sc _) FR).imp fun V V h=>PN h) ?_
 exact Ac.onCall (G:=fun e st Q=>Et O w U sc n e st Q) (fun f es k p=>(Ac.bind (o.e sc _) FR).imp fun V V h=>PN h) Ac.fail
end
section
variable{v:VR}
theorem Nr{g:GV}(h:Ml.lookup x=some g):(x==("__debug__":Str))=false:=by
 have k:∀p∈Ml,(p.1==("__debug__":Str))=false:=by decide+kernel
 exact k _ (ET h)
theorem Cy.gl(T:Cy K){g:GV}(h:Ml.lookup x=some g):ce K x g:=T.glo _ (ET h)
theorem Bx(sc:Scope)(e:Expr):Ac (KB O w U n sc e) fun st Q=>Ev O w U sc n e st Q:=Ac.ask _
theorem GE(sc:Scope)(e:Expr):Ac (YP O w U n sc e) fun st Q=>Ef O w U sc n e st Q:=Ac.own _
theorem FnP.at{Q:Dat→Prop}(h:FnP O w U n f ds (· =d))(q:Q d):FnP O w U n f ds Q:=h.mono fun V e=>e▸q
theorem FnL.at{a:AF}{Q:Dat→AF→Prop}(h:FnL O w U n f a ds fun x y=>x=d∧y=a')(q:Q d a'):FnL O w U n f a ds Q:=h.mono fun V V e=>e.1▸e.2▸q
theorem Vk(f:Addr)(ds:List Dat):Ac (fnR O w U n f ds) fun st Q=>FnP O w U n f ds fun d=>Q (.dat d) st:=
 Ac.imp (Ac.bind Ac.val fun d=>Ac.bind (Ac.ob _) fun V=>Ac.pure (EV.dat d)) (by rintro _ _ ⟨_,h,q⟩;exact h.at q)
theorem Nt(f:Addr)(x:Str)(ds:List Dat):Ac (Ws O w U n f x ds) fun st Q=>∃a,look x st=some a∧FnL O w U n f a ds fun d a'=>Q (.dat d) (put x a' st):=
 Ac.lookT fun a=>Ac.imp (Ac.bind Ac.lent fun p=>Ac.bind (Ac.ob _) fun V=>Ac.bind (Ac.put x p.2) fun V=>Ac.pure (EV.dat p.1)) (by rintro _ _ ⟨_,h,q⟩ e;exact⟨a,e,h.at q⟩)
theorem WE(x:Str)(d:Dat):Ac (eU x d) fun st Q=>∃ds,look x st=some (.lst ds)∧ds.length+1≤sizeLine∧Q (.dat .none) (put x (.lst (ds++[d])) st):=
 Ac.lookT fun a=>Ac.optT fun ds ed=>Ac.obT ((Ac.bind (Ac.put x (.lst (ds++[d]))) fun V=>Ac.pure (EV.dat .none)).imp fun V V q hz e=>⟨ds,Tc ed▸e,hz,q⟩)
theorem ZU(S:Ao O K U)(T:Cy K)(o:v.Ok O w U n){g:Str}(hg:Qy sc g=true)(e2:Ml.lookup g=some .bi)(hs:AX [e1]=true):SE O w U n sc (.Call (.Name g px) [e1] [] pos) (biR O w U n v sc g e1 (.Call (.Name g px) [e1] [] pos)):=by
 have G:=T.gl e2
 have gb:GlB sc K g:=⟨HG hg,G.1,Nr e2,G.2⟩
 have s:=Bw (Aj hs).1 []
 delta biR
 split
 ·subst g
  exact Ac.imp (Ac.bind (o.e sc e1) fun a=>Ac.bind (Eb a) fun x=>Ac.bind (Ac.opt (Eu x)) fun ds=>Ac.bind (Ac.ob _) fun V=>Ac.pure (EV.dat (.int ds.length)))
   fun V V h=>KV S gb rfl (h.mono (by rintro _ _ ⟨x,e,ds,e',hz,q⟩;exact⟨x,_,e,ZB e' hz,q⟩)) s
 ·split
  ·subst g
   exact Ac.imp (Ac.bind (o.e sc e1) fun a=>Ac.bind (JM a) fun i=>Ac.pure (EV.dat (.int (if i<0 then-i else i)))) fun V V h=>KV S gb rfl (h.mono (by rintro _ _ ⟨_,e,q⟩;exact⟨_,_,e,ZC,q⟩)) s
  ·exact Bx _ _
theorem Tp(S:Ao O K U)(T:Cy K)(o:v.Ok O w U n){g:Str}{gv:GV}(hg:Qy sc g=true)(e2:Ml.lookup g=some gv):SE O w U n sc (.Call (.Name g px) es [] pos) (ZJ O w U n v sc g gv es (.Call (.Name g px) es [] pos)):=by
 have G:=T.gl e2
 have e3:=Nr e2
 have e4:=HG hg
 cases gv with
 |fn f=>
  rcases es with _|⟨a,es⟩
  ·exact Ac.fail
  ·exact Ac.imp (Ac.bind (o.ar sc (a::es)) fun ds=>Vk f ds) (by rintro _ _ ⟨hb,h⟩;exact SR S ⟨e4,G.1,e3⟩ G.2 h (Bw (Aj hb).1 es) (CW (Aj hb).2 pos))
 |lend f=>
  rcases es with _|⟨a,es⟩
  ·exact Ac.fail
  ·refine Ac.onName (G:=fun a st Q=>Ev O w U sc n (.Call (.Name g px) (a::es) [] pos) st Q) (fun x xp=>?_) Ac.fail
   exact Ac.chkT fun hx=>Ac.lookT fun a0=>Ac.chkT fun hc=>Ac.imp (Ac.bind (o.ar sc es) fun ds=>Nt f x ds)
    (by rintro _ _ ⟨hb,h⟩ ea;exact ST S ⟨e4,G.1,e3⟩ G.2 ea h (Wm hc x) (Bw rfl es) (CW hb pos) (CJ hx).1 (CJ hx).2)
 |cls C fI=>exact Ac.imp (Ac.bind (o.f sc _) fun av=>Ac.pure (EV.dat (Hq av))) fun V V h=>AV h
 |dat d=>exact Ac.fail
 |bi=>
  rcases es with _|⟨a,_|⟨b,es⟩⟩<;>first|exact Ac.fail|skip
  have B:=ZU (px:=px) (pos:=pos) (e1:=a) S T o hg e2
  exact Ac.chkT B
theorem Tq(S:Ao O K U)(T:Cy K)(o:v.Ok O w U n){g:Str}:SE O w U n sc (.Call (.Name g px) es [] pos) (Wt O w U n v sc g es (.Call (.Name g px) es [] pos)):=by
 delta Wt
 cases hg:Qy sc g with
 |false=>exact Bx _ _
 |true=>
  cases e2:Ml.lookup g with
  |some gv=>exact Tp S T o hg e2
  |none=>exact Bx _ _
set_option tactic.hygienic true in
theorem Tr(S:Ao O K U)(T:Cy K)(o:v.Ok O w U n){m:Str}(hx:EB x=true)(hl:(ap.endLine==pos.line)=true)(a0:AF):
 Ac (Wu O w U n v sc x m es (.Call (.Attribute (.Name x px) m ap) es [] pos) a0) fun st Q=>look x st=some a0→Ev O w U sc n (.Call (.Attribute (.Name x px) m ap) es [] pos) st Q:=by
 have hn:=CJ hx
 cases a0 with
 |obj C fs=>
  rcases es with _|⟨e1,es⟩
  ·
   exact Ac.optT fun f ef=>Ac.chkT fun hb=>Ac.fail
  ·
   refine Ac.optT fun f ef=>Ac.chkT fun hb=>Ac.imp (Ac.bind (o.ar sc (e1::es)) fun ds=>Nt f x ds) fun st Q ⟨hs,h⟩ ea=>?_
   have k:=HH T ef
   have b1:=Cf (BX (BX hb).1).1
   exact SU S ea k.1 k.2 b1 h (Nm hs (BX hb).2 pos) hl (Bw (Aj hs).1 es) (CW (Aj hs).2 pos) hn.1 hn.2
 |dat d=>
  cases d<;>first|exact Ac.fail|skip
  rename_i C fs
  rcases es with _|⟨e1,es⟩
  ·exact Ac.optT fun f ef=>Ac.chkT fun hb=>Ac.imp (Vk f _) fun st Q h ea=>PZ S ea (HH T ef).1 (HH T ef).2 (Cf hb) h (fun _=>rfl) hl hn.1 hn.2
  ·exact Ac.fail
 |lst ds=>
  rcases es with _|⟨e1,_|⟨e2,es⟩⟩<;>first|exact Ac.imp (Bx _ _) fun _ _ h _=>h|skip
  delta Wu
  dsimp only
  split
  ·subst m
   exact Ac.chkT fun hs=>Ac.imp (Ac.bind (o.dt sc e1) fun d=>WE x d) fun _ _ h ea=>OC S ea h hn.1 hn.2 (Nm hs rfl pos) hl (Bw (Aj hs).1 [])
  ·exact Ac.imp (Bx _ _) fun _ _ h _=>h
end
section
variable{v:VR}
theorem Ts(S:Ao O K U)(T:Cy K)(x:Str)(p:Pos):SE O w U n sc (.Name x p) (ZK O w U n sc x (.Name x p)):=by
 refine Ac.chkT fun hx=>Ac.imp (Ac.bind Ac.get fun st=>(?_:Ac _ fun s Q=>s=st→Ev O w U sc n (.Name x p) s Q)) fun V V h=>h rfl
 cases e:look x st with
 |some a=>exact Ac.imp (Ac.pure (VN x a)) fun s Q q e'=>cC (KZ hx) (e'▸e) q
 |none=>
  dsimp only
  cases e1:Qy sc x with
  |false=>exact Ac.imp (Bx _ _) fun V V h V=>h
  |true=>
   cases e2:Ml.lookup x with
   |none=>exact Ac.imp (Bx _ _) fun V V h V=>h
   |some g=>
    cases g with
    |dat d=>
     obtain⟨t,G⟩:=T.gl e2
     exact Ac.imp (Ac.pure (EV.dat (.int d))) fun s Q q V=>KS S ⟨HG e1,G,Nr e2⟩ (.int d t) q
    |_=>exact Ac.imp (Bx _ _) fun V V h V=>h
theorem Tu(S:Ao O K U)(T:Cy K)(x f:Str)(p ap:Pos):SE O w U n sc (.Attribute (.Name x p) f ap) (ZL O w U n sc x f (.Attribute (.Name x p) f ap)):=by
 refine Ac.chkT fun hx=>Ac.imp (Ac.bind Ac.get fun st=>(?_:Ac _ fun s Q=>s=st→Ev O w U sc n (.Attribute (.Name x p) f ap) s Q)) fun V V h=>h rfl
 cases e:PW x f st with
 |some r=>exact Ac.chkT fun h=>Ac.imp (Ac.pure (EV.dat r.2)) fun s Q q e'=>VZ S (e'▸e) (T.fld _ _ h).1 (T.fld _ _ h).2 q (CJ hx).1 (CJ hx).2
 |none=>exact Ac.imp (Bx _ _) fun V V h V=>h
theorem QD(c:Const)(k:Nat)(p:Pos):SE O w U n sc (.Constant c k p) (Vh c):=by
 cases c<;>first
  |exact Ac.fail
  |exact Ac.imp (Ac.pure _) fun V V q=>Zc q
  |exact Ac.imp (Ac.pure _) fun V V q=>Zd q
  |exact Ac.imp (Ac.pure _) fun V V q=>VM q
  |exact Ac.imp (Ac.pure _) fun V V q=>VL q
set_option tactic.hygienic true in
theorem WF(x:Dat)(b:EV):Ac (cK w x b) fun st Q=>(∃k,rd st b=some (.int k)∧∃ds d,Eu x=some ds∧ds.length<2^62∧AK ds k=some d∧Q (.dat d) st)∨∃fs y i,x=.dict w fs∧rd st b=some (.str y)∧fs.lookup y=some i∧Q (.dat (.int i)) st:=by
 delta cK
 have rest:Ac (RM.bind (YO b) fun k=>.bind (Wq x k) fun d=>.pure (EV.dat d)) fun st Q=>(∃k,rd st b=some (.int k)∧∃ds d,Eu x=some ds∧ds.length<2^62∧AK ds k=some d∧Q (.dat d) st)∨∃fs y i,x=.dict w fs∧rd st b=some (.str y)∧fs.lookup y=some i∧Q (.dat (.int i)) st:=
  Ac.imp (Ac.bind (JM b) fun k=>Ac.bind (Tm x k) fun d=>Ac.pure (EV.dat d)) fun _ _ h=>.inl h
 cases x<;>first|exact rest|skip
 rename_i w' fs
 exact Ac.imp (Ac.bind (Eb b) fun k=>Ac.bind (Ac.opt (ZN k)) fun y=>Ac.bind (Ac.ob (w'=w)) fun _=>Ac.bind (Ac.opt (fs.lookup y)) fun i=>Ac.pure (EV.dat (.int i)))
  (by rintro _ _ ⟨k,ek,y,ey,rfl,i,ei,q⟩;exact .inr ⟨fs,y,i,rfl,(by cases k<;>first|(cases ey;done)|(cases ey;exact ek)),ei,q⟩)
theorem WG(S:Ao O K U)(T:Cy K)(o:v.Ok O w U n)(l i:Expr)(p:Pos):SE O w U n sc (.Subscript l i p) (cL O w U n v sc l i p):=by
 delta cL
 cases JK i with
 |true=>
  refine Ac.imp (Ac.bind Ac.peek fun b=>(?_:Ac _ fun st Q=>Ev O w U sc n (.Subscript l i p) st Q)) (by rintro _ _ ⟨_,h⟩;exact h)
  rcases b with _|_
  ·exact Ac.imp (Ac.bind (o.f sc _) fun av=>Ac.pure (EV.dat (Hq av))) fun V V h=>AV h
  ·exact Bx _ _
 |false=>
  refine Ac.imp (Ac.bind (o.e sc l) fun a=>Ac.bind (o.e sc i) fun b=>Ac.bind (Eb a) fun x=>WF x b) fun V V h=>Zn (h.mono fun V V h=>h.mono (by
   rintro _ _ ⟨x,e1,h⟩
   exact h.imp (by rintro⟨k,e2,ds,d,e3,hz,e4,q⟩;exact⟨x,ds,k,d,e1,e3,e2,hz,e4,q⟩) (by rintro⟨fs,y,i,rfl,ek,ei,q⟩;exact⟨fs,y,i,e1,ek,ei,q⟩)))
theorem WH(x f:Str)(C i:Addr)(d:Dat):Ac (eV x f C i d) fun st Q=>∃fs ds,look x st=some (.obj C fs)∧fs.lookup f=some (.own i ds)∧ds.length+1≤sizeLine∧Q (.dat .none) (put x (.obj C (Ej f (.own i (ds++[d])) fs)) st):=
 Ac.ownT fun V fs V ds=>Ac.obT (Ac.obT (Ac.imp (Ac.bind (Ac.put x (.obj C (Ej f (.own i (ds++[d])) fs))) fun V=>Ac.pure (EV.dat .none)) fun V V q hz k e2 e1=>⟨fs,ds,k.1▸e1,k.2▸e2,hz,q⟩))
theorem WI(x f:Str)(C i:Addr)(d:Dat):Ac (eW x f C i d) fun st Q=>∃fs ds,look x st=some (.obj C fs)∧fs.lookup f=some (.own i ds)∧∃es,d=.list es∧ds.length+es.length≤sizeLine∧Q (.dat .none) (put x (.obj C (Ej f (.own i (ds++es)) fs)) st):=
 Ac.ownT fun V fs V ds=>Ac.obT (Ac.optT fun es ee=>Ac.obT (Ac.imp (Ac.bind (Ac.put x (.obj C (Ej f (.own i (ds++es)) fs))) fun V=>Ac.pure (EV.dat .none)) fun V V q hz k e2 e1=>⟨fs,ds,k.1▸e1,k.2▸e2,es,KY ee,hz,q⟩))
theorem WJ(S:Ao O K U)(T:Cy K)(o:v.Ok O w U n)(x f m:Str)(es:List Expr)(px ap2 ap pos:Pos):SE O w U n sc (.Call (.Attribute (.Attribute (.Name x px) f ap2) m ap) es [] pos) (cJ O w U n v sc x f m es (.Call (.Attribute (.Attribute (.Name x px) f ap2) m ap) es [] pos) (ap.endLine==pos.line)):=by
 rcases es with _|⟨e1,_|⟨_,_⟩⟩<;>first|exact Bx _ _|skip
 dsimp only[cJ]
 split
 ·subst m
  exact Ac.chkT fun hb=>Ac.ownT fun C fs i ds0=>Ac.chkT fun ht=>Ac.imp (Ac.bind (o.dt sc e1) fun d=>WH x f C i d) fun V V h e2 ea=>OD S ea e2 (T.fld C f ht).1 (T.fld C f ht).2 h (CJ (BX (BX hb).1).1).1 (CJ (BX (BX hb).1).1).2 (Nm (BX hb).2 rfl pos) (BX (BX hb).1).2 (Bw (Aj (BX hb).2).1 [])
 ·split
  ·subst m
   exact Ac.chkT fun hb=>Ac.ownT fun C fs i ds0=>Ac.chkT fun ht=>Ac.imp (Ac.bind (o.dt sc e1) fun d=>WI x f C i d) fun V V h e2 ea=>OE S ea e2 (T.fld C f ht).1 (T.fld C f ht).2 h (CJ (BX (BX hb).1).1).1 (CJ (BX (BX hb).1).1).2 (Nm (BX hb).2 rfl pos) (BX (BX hb).1).2 (Bw (Aj (BX hb).2).1 [])
  ·exact Bx _ _
theorem Tv(S:Ao O K U)(T:Cy K)(o:v.Ok O w U n)(a:Expr)(m:Str)(ap:Pos)(es:List Expr)(p:Pos):SE O w U n sc (.Call (.Attribute a m ap) es [] p) (Wv O w U n v sc a m ap es p):=by
 delta Wv SE
 refine Ac.onName (G:=fun a st Q=>Ev O w U sc n (.Call (.Attribute a m ap) es [] p) st Q) (fun x px=>?_) ?_
 ·exact Ac.chkT fun hb=>Ac.lookT fun a0=>Tr S T o (BX hb).1 (BX hb).2 a0
 refine Ac.onAttribute (G:=fun a st Q=>Ev O w U sc n (.Call (.Attribute a m ap) es [] p) st Q) (fun a f2 ap2=>?_) (Bx _ _)
 refine Ac.onName (G:=fun a st Q=>Ev O w U sc n (.Call (.Attribute (.Attribute a f2 ap2) m ap) es [] p) st Q) (fun x px=>?_) (Bx _ _)
 exact WJ S T o _ _ _ _ _ _ _ _
theorem Tw(S:Ao O K U)(T:Cy K)(o:v.Ok O w U n)(f:Expr)(es:List Expr)(kws:List Keyword)(p:Pos):SE O w U n sc (.Call f es kws p) (ZP O w U n v sc f es kws p):=by
 cases kws<;>first|exact Ac.fail|skip
 refine Ac.onName (G:=fun f st Q=>Ev O w U sc n (.Call f es [] p) st Q) (fun g q=>Tq S T o) ?_
 exact Ac.onAttribute (G:=fun f st Q=>Ev O w U sc n (.Call f es [] p) st Q) (fun a m ap=>Tv S T o a m ap es p) Ac.fail
theorem Tx(o:v.Ok O w U n)(op:BoolOp)(es:List Expr)(p:Pos):SE O w U n sc (.BoolOp op es p) (ZO v sc op es):=by
 rcases es with _|⟨x,_|⟨y,_|⟨_,_⟩⟩⟩<;>first|exact Ac.fail|skip
 cases op with
 |And=>exact Ac.imp (Ac.bind (o.e sc x) fun a=>Ac.bind (FR a) fun c=>Ac.cse c (o.e sc y) (Ac.pure (EV.dat (.bool false)))) fun V V h=>VS h
 |Or=>exact Ac.imp (Ac.bind (o.e sc x) fun a=>Ac.bind (FR a) fun c=>Ac.cse c (Ac.pure (EV.dat (.bool true))) (o.e sc y)) fun V V h=>ZS (h.mono (by rintro _ _ ⟨b,e,q⟩;exact⟨b,e,q.2,q.1⟩))
theorem WK(o:v.Ok O w U n)(l:Expr)(ops:List CmpOp)(rs:List Expr)(p:Pos):SE O w U n sc (.Compare l ops rs p) (eZ v sc l ops rs):=by
 rcases ops with _|⟨op,_|⟨_,_⟩⟩<;>rcases rs with _|⟨r,_|⟨_,_⟩⟩<;>first|exact Ac.fail|skip
 exact Ac.chkT fun hb=>Ac.imp (Ac.bind (o.e sc l) fun a=>Ac.bind (o.e sc r) fun b=>Ac.bind (Eb a) fun x=>Ac.bind (Eb b) fun y=>Ac.bind (QC op x y) fun c=>Ac.pure (EV.dat (.bool c))) fun V V h=>
  Zi (h.mono fun V V h=>h.mono (by rintro _ _ ⟨x,e,y,e',s,q⟩;exact⟨x,y,e,e',s,q⟩)) (Cf hb)
theorem Ty(S:Ao O K U)(T:Cy K)(o:v.Ok O w U n)(e:Expr):SE O w U n sc e (Ww O w U n v sc e):=by
 delta Ww SE
 refine Ac.onName (G:=fun e st Q=>Ev O w U sc n e st Q) (fun x p=>Ts S T _ _) ?_
 refine Ac.onConstant (G:=fun e st Q=>Ev O w U sc n e st Q) (fun c k p=>QD _ _ _) ?_
 refine Ac.onCall (G:=fun e st Q=>Ev O w U sc n e st Q) (fun f es k p=>Tw S T o _ _ _ _) ?_
 refine Ac.onSubscript (G:=fun e st Q=>Ev O w U sc n e st Q) (fun l i p=>WG S T o _ _ _) ?_
 refine Ac.onAttribute (G:=fun e st Q=>Ev O w U sc n e st Q) (fun a f p=>Ac.onName (G:=fun a st Q=>Ev O w U sc n (.Attribute a f p) st Q) (fun x q=>Tu S T _ _ _ _) (Bx _ _)) ?_
 refine Ac.onBinOp (G:=fun e st Q=>Ev O w U sc n e st Q) (fun l op r p=>?_) ?_
 ·exact Ac.imp (Ac.bind (o.e sc l) fun a=>Ac.bind (o.e sc r) fun b=>Ac.bind (Eb a) fun x=>Ac.bind (Eb b) fun y=>Ac.bind (WB op x y) fun d=>Ac.pure (EV.dat d)) fun V V h=>
   PG S (h.mono fun V V h=>h.mono (by rintro _ _ ⟨x,e,y,e',s,q⟩;exact⟨x,y,e,e',s,q⟩))
 refine Ac.onCompare (G:=fun e st Q=>Ev O w U sc n e st Q) (fun l ops rs p=>WK o _ _ _ _) ?_
 refine Ac.onTuple (G:=fun e st Q=>Ev O w U sc n e st Q) (fun es k p=>?_) ?_
 ·exact Ac.imp (Ac.bind (o.ar sc _) fun ds=>Ac.bind (Ac.chk (Nat.ble ds.length 1000)) fun V=>Ac.pure (EV.dat (.tuple ds))) fun V V h=>SJ (El.mono h.2 fun V V q=>⟨le_trans (le_of_ble_eq_true q.1) (by decide),q.2⟩)
 refine Ac.onList (G:=fun e st Q=>Ev O w U sc n e st Q) (fun es p=>Ac.imp (Ac.bind (o.f sc _) fun av=>Ac.pure (EV.dat (Hq av))) fun V V h=>AV h) ?_
 refine Ac.onUnaryOp (G:=fun e st Q=>Ev O w U sc n e st Q) (fun op x p=>?_) ?_
 ·cases op<;>first|exact Bx _ _|skip
  exact Ac.imp (Ac.bind (o.e sc x) fun a=>Ac.bind (JM a) fun i=>Ac.pure (EV.dat (.int (-i)))) fun V V h=>Zm h
 refine Ac.onIfExp (G:=fun e st Q=>Ev O w U sc n e st Q) (fun t b e p=>Ac.imp (Ac.bind (o.t sc t) fun c=>Ac.cse c (o.e sc b) (o.e sc e)) fun V V h=>SK h) ?_
 exact Ac.onBoolOp (G:=fun e st Q=>Ev O w U sc n e st Q) (fun op es p=>Tx o _ _ _) (Bx _ _)
theorem QE(o:v.Ok O w U n)(l s:Expr)(G:Int→Option (List Dat→List Dat)):Ac (Vi v sc l s G) fun st Q=>Ev O w U sc n l st fun a st1=>Ev O w U sc n s st1 fun b st2=>∃k,rd st2 b=some (.int k)∧∃g,G k=some g∧∃ds,rd st2 a=some (.list ds)∧ds.length≤sizeLine∧Q (.lst (g ds)) st2:=
 Ac.bind (o.e sc l) fun a=>Ac.bind (o.e sc s) fun b=>Ac.bind (JM b) fun k=>Ac.bind (Ac.opt (G k)) fun g=>Ac.bind (Ti a) fun ds=>Ac.bind (Ac.ob _) fun V=>Ac.pure (AF.lst (g ds))
theorem WL{k:Int}{g:List Dat→List Dat}(h:cf k=some g)(l:List Dat):FH (some k) none l=g l:=by
 delta cf at h
 split at h
 ·subst k;exact Option.some.inj h▸OH l
 ·split at h
  ·subst k;exact Option.some.inj h▸OI l
  ·exact Wl h
theorem Tz{k:Int}{g:List Dat→List Dat}(h:Tg k=some g)(l:List Dat):FH none (some k) l=g l:=by
 delta Tg at h
 split at h
 ·subst k;exact Option.some.inj h▸Th l
 ·split at h
  ·subst k;exact Option.some.inj h▸QB l
  ·split at h
   ·subst k;exact Option.some.inj h▸Mn 63 l
   ·exact Wl h
theorem QF{k:Int}{g:List Dat→List Dat}(h:cg k=some g):k= -1∧g=List.reverse:=by
 delta cg at h
 split at h
 ·exact⟨‹_›,(Option.some.inj h).symm⟩
 ·exact Wl h
theorem Mo(o:v.Ok O w U n){l s:Expr}{G:Int→Option (List Dat→List Dat)}(F:∀st Q,(Ev O w U sc n l st fun a st1=>Ev O w U sc n s st1 fun b st2=>∃k,rd st2 b=some (.int k)∧∃g,G k=some g∧∃ds,rd st2 a=some (.list ds)∧ds.length≤sizeLine∧Q (.lst (g ds)) st2)→Ef O w U sc n e st Q):Ac (Vj O w U n v sc l s e G) fun st Q=>Ef O w U sc n e st Q:=by
 delta Vj
 cases cst s with
 |true=>exact Ac.imp (QE o l s G) F
 |false=>exact GE _ _
theorem TC(S:Ao O K U)(T:Cy K)(o:v.Ok O w U n){g:Str}{gp p:Pos}{fI:Addr}(h1:Qy sc g=true)(h2:Ml.lookup g=some (.cls C fI)):Ac (ZQ O w U n v sc C fI es) fun st Q=>Ef O w U sc n (.Call (.Name g gp) es [] p) st Q:=by
 have G:=T.gl h2
 cases n with
 |zero=>exact Ac.fail
 |succ n=>
  cases es with
  |nil=>exact Ac.fail
  |cons e1 es=>exact Ac.imp (Ac.bind (o.ar sc (e1::es)) fun ds=>Ac.bind Ac.lent fun p=>Ac.bind (Ac.ob _) fun V=>Ac.pure p.2) (by rintro _ _ ⟨hb,h⟩;exact Qa S ⟨HG h1,G.1,Nr h2⟩ G.2.1 G.2.2.1 G.2.2.2.1 G.2.2.2.2 (El.mono h fun _ _ ⟨_,h,q⟩=>h.mono fun V V e=>⟨e.1,e.2▸q⟩) (Bw (Aj hb).1 _) (CW (Aj hb).2 p))
theorem TD(S:Ao O K U)(T:Cy K)(o:v.Ok O w U n){g:Str}{gp p:Pos}:Ac (Wx O w U n v sc g es (.Call (.Name g gp) es [] p)) fun st Q=>Ef O w U sc n (.Call (.Name g gp) es [] p) st Q:=by
 delta Wx
 cases h1:Qy sc g with
 |false=>exact GE _ _
 |true=>
  cases h2:Ml.lookup g with
  |none=>exact GE _ _
  |some gv=>
   cases gv with
   |cls C fI=>exact TC S T o h1 h2
   |_=>exact GE _ _
theorem WM(o:v.Ok O w U n)(l s:Expr)(p pos:Pos):Ac (Vj O w U n v sc l s (.Subscript l (.Slice (some s) none none p) pos) cf) fun st Q=>Ef O w U sc n (.Subscript l (.Slice (some s) none none p) pos) st Q:=
 Mo o fun V V h=>Jw (Ev.mono h fun V V h=>Ev.mono h (by rintro _ _ ⟨k,ek,_,eg,ds,ed,hz,q⟩;exact⟨k,ek,ds,ed,hz,(WL eg ds).symm▸q⟩))
theorem TF(o:v.Ok O w U n)(l s:Expr)(p pos:Pos):Ac (Vj O w U n v sc l s (.Subscript l (.Slice none (some s) none p) pos) Tg) fun st Q=>Ef O w U sc n (.Subscript l (.Slice none (some s) none p) pos) st Q:=
 Mo o fun V V h=>Jw (Ev.mono h fun V V h=>Ev.mono h (by rintro _ _ ⟨k,ek,_,eg,ds,ed,hz,q⟩;exact⟨k,ek,ds,ed,hz,(Tz eg ds).symm▸q⟩))
theorem WN(o:v.Ok O w U n)(l s:Expr)(p pos:Pos):Ac (Vj O w U n v sc l s (.Subscript l (.Slice none none (some s) p) pos) cg) fun st Q=>Ef O w U sc n (.Subscript l (.Slice none none (some s) p) pos) st Q:=
 Mo o fun V V h=>Zo (Ev.mono h fun V V h=>Ev.mono h (by rintro _ _ ⟨_,ek,_,eg,ds,ed,hz,q⟩;exact⟨(QF eg).1▸ek,ds,ed,hz,(QF eg).2▸q⟩))
theorem TH(S:Ao O K U)(T:Cy K)(o:v.Ok O w U n)(e:Expr):Ac (Wy O w U n v sc e) fun st Q=>Ef O w U sc n e st Q:=by
 delta Wy
 refine Ac.onList (G:=fun e st Q=>Ef O w U sc n e st Q) (fun es p=>?_) ?_
 ·exact Ac.imp (Ac.bind (o.ar sc _) fun ds=>Ac.bind (Ac.chk (Nat.ble ds.length 1000)) fun V=>Ac.pure (AF.lst ds)) fun V V h=>VU (El.mono h.2 fun V V q=>⟨le_trans (le_of_ble_eq_true q.1) (by decide),q.2⟩)
 refine Ac.onSubscript (G:=fun e st Q=>Ef O w U sc n e st Q) (fun l i p=>?_) ?_
 ·refine Ac.onSlice (G:=fun i st Q=>Ef O w U sc n (.Subscript l i p) st Q) (fun lo hi stp q=>?_) Ac.fail
  cases lo<;>cases hi<;>cases stp<;>first|exact Ac.fail|exact WM o _ _ _ _|exact TF o _ _ _ _|exact WN o _ _ _ _
 refine Ac.onCall (G:=fun e st Q=>Ef O w U sc n e st Q) (fun f es kws p=>?_) (GE _ _)
 cases kws<;>first|exact Ac.fail|skip
 exact Ac.onName (G:=fun f st Q=>Ef O w U sc n (.Call f es [] p) st Q) (fun g q=>TD S T o) Ac.fail
theorem Lc(S:Ao O K U)(T:Cy K):∀k,(VV O w U n k).Ok O w U n:=by
 intro k
 induction k with
 |zero=>
  exact⟨fun V V=>Bx _ _,fun V V=>GE _ _,fun V V=>Ac.fail⟩
 |succ k ih=>
  exact⟨fun V e=>Ty S T (ih) e,fun V e=>TH S T (ih) e,fun sc e=>To (ih) sc e⟩
end
noncomputable def fc(e:Expr):Bool:=Dd e (fun V i V=>JK i) (La e (fun f V V V=>CS f (fun g V=>(g=="Dashes")||(g=="Pen")) false) (Nat.beq e.ctorIdx 24))
noncomputable def cM(e:Expr):Bool:=Nat.beq e.ctorIdx 24
noncomputable def fV(e:Expr):Bool:=Dd e (fun V i V=>JK i) false
noncomputable def VR.pq(v:VR)(sc:Scope)(e:Expr):RM AF:=match fc e with
 |true=>v.f sc e
 |false=>.bind (v.dt sc e) fun d=>.pure (.dat d)
noncomputable def VR.oq(v:VR)(sc:Scope)(e:Expr):RM AF:=match fV e with
 |true=>.bind .peek fun b=>match b with
  |true=>.bind (v.dt sc e) fun d=>.pure (.dat d)
  |false=>v.pq sc e
 |false=>v.pq sc e
noncomputable def Vl(e:Expr):Option Str:=CS e (fun x V=>some x) none
noncomputable def Fm:List Expr→Option (List Str)
 |[]=>some []
 |t::ts=>match Vl t,Fm ts with
  |some x,some xs=>some (x::xs)
  |_,_=>none
def WO(sc:Scope)(ts:List Expr)(k:Nat)(p:Pos)(e:Expr)(line:Nat):Prop:=∀Y:Env,Y.scope=sc→swapsWithSole [.Tuple ts k p] e line Y=pure false∧swappedStores [.Tuple ts k p] e Y=pure none
def Vm(sc:Scope)(ts:List Expr)(k:Nat)(p:Pos)(e:Expr)(line:Nat)(xs:List Str):Prop:=∀Y:Env,Y.scope=sc→swapsWithSole [.Tuple ts k p] e line Y=pure false∧swappedStores [.Tuple ts k p] e Y=pure (some xs)
section
variable(O:Program)(w:World)(U:Heap)(n:Nat)
noncomputable def SC(sc:Scope)(x:Stmt):RM Fl:=.run fun st Q=>Sx O w U sc n x st Q
noncomputable def ZV(v:VR)(sc:Scope)(ts:List Expr)(k:Nat)(p:Pos)(e:Expr)(y1 y2:Str)(e1 e2:Expr)(line:Nat):RM Fl:=.bind (.chk (BD sc y1&&BD sc y2&&AX [e1,e2])) fun V=>.bind (.ob (Vm sc ts k p e line [y1,y2])) fun V=>.bind (v.oq sc e1) fun a=>.bind (v.oq sc e2) fun b=>.bind (Nq y2 b) fun V=>.bind (Nq y1 a) fun V=>.pure .next
noncomputable def ZW(v:VR)(sc:Scope)(ts:List Expr)(k:Nat)(p:Pos)(e:Expr)(y1 y2 y3:Str)(e1 e2 e3:Expr)(line:Nat):RM Fl:=.bind (.chk (BD sc y1&&BD sc y2&&BD sc y3&&AX [e1,e2,e3])) fun V=>.bind (.ob (Vm sc ts k p e line [y1,y2,y3])) fun V=>.bind (v.oq sc e1) fun a=>.bind (v.oq sc e2) fun b=>.bind (v.oq sc e3) fun c=>.bind (Nq y3 c) fun V=>.bind (Nq y2 b) fun V=>.bind (Nq y1 a) fun V=>.pure .next
noncomputable def ZX(v:VR)(sc:Scope)(ts:List Expr)(k:Nat)(p:Pos)(e:Expr)(es:List Expr)(line:Nat):RM Fl:=.bind (.opt (Fm ts)) fun ys=>match ys with
 |y1::y2::ys=>match es with
  |e1::e2::es=>match ys with
   |[]=>match es with
    |[]=>ZV v sc ts k p e y1 y2 e1 e2 line
    |_=>.fail
   |y3::ys=>match ys with
    |[]=>match es with
     |[e3]=>ZW v sc ts k p e y1 y2 y3 e1 e2 e3 line
     |_=>.fail
    |_=>.fail
  |_=>.fail
 |_=>.fail
noncomputable def ZY(y g:Str)(d:Dat):RM Fl:=Wn y fun C fs=>.bind (.chk (ZG C g&&Nat.ble fs.length 1000)) fun V=>.bind (Nq y (.obj C (Ej g (.dat d) fs))) fun V=>.pure .next
noncomputable def fe(v:VR)(sc:Scope)(y g:Str)(e:Expr):RM Fl:=.bind (.chk (EB y&&!OG e)) fun V=>.bind (v.dt sc e) (ZY y g)
noncomputable def cN(v:VR)(sc:Scope)(t e:Expr)(pos:Pos):RM Fl:=
 CS t (fun y p=>bif OG e then SC O w U n sc (.Assign [.Name y p] e pos)else .bind (.chk (BD sc y)) fun V=>.bind (v.oq sc e) fun av=>.bind (Nq y av) fun V=>.pure .next)<|
 HC t (fun ts k p=>bif cF e
  then HC e (fun es k' p'=>bif es.all (foldedForSure 8)
   then .bind (.ob (WO sc ts k p (.Tuple es k' p') pos.line)) fun V=>.bind (v.dt sc (.Tuple es k' p')) fun d=>.bind (Te sc 3 (.Tuple ts k p) d) fun V=>.pure .next
   else ZX v sc ts k p (.Tuple es k' p') es pos.line) (SC O w U n sc (.Assign [.Tuple ts k p] e pos))
  else .bind (v.dt sc e) fun d=>.bind (Te sc 3 (.Tuple ts k p) d) fun V=>.pure .next)<|
 Cq t (fun o g p=>bif cM e then SC O w U n sc (.Assign [.Attribute o g p] e pos)
  else CS o (fun y V=>fe v sc y g e) (SC O w U n sc (.Assign [.Attribute o g p] e pos)))<|
 SC O w U n sc (.Assign [t] e pos)
noncomputable def fh(v:VR)(sc:Scope)(e:Expr):RM Int:=.bind (v.dt sc e) fun d=>.opt (HB d)
noncomputable def fi(v:VR)(sc:Scope)(y:Str)(op:Operator)(e:Expr):RM Fl:=.bind (Mm y) fun a=>.bind (.opt (eR a)) fun i=>.bind (.chk (Wb op&&BD sc y&&EB y)) fun V=>.bind (fh v sc e) fun b=>.bind (Nq y (.dat (.int (Na op i b)))) fun V=>.pure .next
noncomputable def cO(v:VR)(sc:Scope)(t:Expr)(op:Operator)(e:Expr)(pos:Pos):RM Fl:=
 CS t (fun y V=>fi v sc y op e) (SC O w U n sc (.AugAssign t op e pos))
noncomputable def WP(m:RM Fl)(fl:Fl):RM Fl:=match fl with
 | .next=>m
 |fl=>.pure fl
noncomputable def Jb(f:Stmt→RM Fl):List Stmt→RM Fl
 |[]=>.pure .next
 |x::xs=>.bind (f x) (WP (Jb f xs))
noncomputable def WQ(v:VR)(sc:Scope)(f:Stmt→RM Fl)(x:Stmt):RM Fl:=
 No x (fun ts e pos=>match ts with
  |[t]=>cN O w U n v sc t e pos
  |ts=>SC O w U n sc (.Assign ts e pos))<|
 HF x (fun t op e pos=>cO O w U n v sc t op e pos)<|
 eP x (fun t b o V=>.bind (v.t sc t) fun c=>.cse c (Jb f b) (Jb f o))<|
 Np x (fun e V=>match e with
  |some e=>.bind (v.dt sc e) fun d=>.pure (.ret d)
  |none=>.pure (.ret .none))<|
 Vg x (fun e V=>.bind (.chk (!OG e)) fun V=>.bind (v.e sc e) fun V=>.pure .next)<|
 SC O w U n sc x
noncomputable def XX(sc:Scope)(k:Nat):Stmt→RM Fl:=Nat.rec (motive:=fun V=>Stmt→RM Fl) (SC O w U n sc) (fun k f=>WQ O w U n (VV O w U n k) sc f) k
end
section
variable{v:VR}
theorem DU(sc:Scope)(x:Stmt):Ac (SC O w U n sc x) fun st Q=>Sx O w U sc n x st Q:=Ac.run _
theorem VR.Ok.oq(o:v.Ok O w U n)(sc:Scope)(e:Expr):Ac (v.oq sc e) fun st Q=>Ef O w U sc n e st Q:=by
 have D:Ac (RM.bind (v.dt sc e) fun d=>.pure (AF.dat d)) fun st Q=>Ef O w U sc n e st Q:=Ac.imp (Ac.bind (o.dt sc e) fun d=>Ac.pure (AF.dat d)) fun V V h=>Vd h
 have p:Ac (v.pq sc e) fun st Q=>Ef O w U sc n e st Q:=by
  delta VR.pq
  cases fc e
  ·exact D
  ·exact o.f sc e
 delta VR.oq
 split
 ·refine Ac.imp (Ac.bind Ac.peek fun b=>(?_:Ac _ fun st Q=>Ef O w U sc n e st Q)) (by rintro _ _ ⟨_,h⟩;exact h)
  cases b
  ·exact p
  ·exact D
 ·exact p
theorem As.mono{Q Q':St→Prop}(h:As O w U sc n t d st Q)(k:∀st,Q st→Q' st):As O w U sc n t d st Q':=
 fun A Y R as s v hR hE r f=>wpAny_mono (h A Y R as s v hR hE r f) (by rintro _ _ ⟨st',as',h',tk',e,a,b,q⟩;exact⟨st',as',h',tk',e,a,b,k _ q⟩) fun V V x=>x
theorem WR{f:Expr→Dat→RM Unit}(F:∀t d,Ac (f t d) fun st Q=>As O w U sc n t d st (Q ())):∀(ts:List Expr) (ds:List Dat),AX ts=true→Ac (cG f ts ds) fun st Q=>AsL O w U sc n ts ds st (Q ()):=by
 intro ts
 induction ts with
 |nil=>
  intro zz4
  rcases zz4 with _|⟨_,_⟩
  ·intro _
   exact Ac.imp (Ac.pure ()) fun V V q=>Ma q
  ·intro _
   exact Ac.fail
 |cons t ts ih=>
  intro zz4
  rcases zz4 with _|⟨d,ds⟩
  ·intro _
   exact Ac.fail
  ·intro h
   exact Ac.imp (Ac.bind (F t d) fun V=>ih ds (Aj h).2) fun V V q=>ER q (Nl (Aj h).1 ts)
theorem EC:∀(k:Nat) (t:Expr) (d:Dat),Ac (Te sc k t d) fun st Q=>As O w U sc n t d st (Q ()):=by
 intro k
 induction k with
 |zero=>
  intro _ _
  exact Ac.fail
 |succ k ih=>
  intro t d
  unfold Te
  refine Ac.onName (G:=fun t st Q=>As O w U sc n t d st (Q ())) (fun x p=>Ac.chkT fun h=>Ac.imp (Ac.put x (.dat d)) fun V V q=>Jy h q) ?_
  refine Ac.onTuple (G:=fun t st Q=>As O w U sc n t d st (Q ())) (fun ts k' p=>?_) Ac.fail
  exact Ac.optT fun ds e=>Ac.chkT fun hb=>Ac.imp (WR (ih) ts ds (BX hb).1) fun V V h=>MW e (eq_of_beq_eq_true (BX hb).2) (Qq (BX hb).1) h
theorem QG:Vl e=some x→∃p,e=.Name x p:=
 Qt (P:=fun e o=>o=some x→∃p,e=Expr.Name x p) (fun V p h=>⟨p,congrArg (Expr.Name · p) (Option.some.inj h)⟩) fun h=>IN h
set_option tactic.hygienic true in
theorem Cz{ys:List Str}(h:Fm ts=some (y::ys)):∃p ts',ts=.Name y p::ts'∧Fm ts'=some ys:=by
 rcases ts with _|⟨t,ts⟩
 ·cases h
 ·
  unfold Fm at h
  split at h
  ·rename_i e1 e2
   cases h
   obtain⟨p,rfl⟩:=QG e1
   exact⟨p,ts,rfl,e2⟩
  ·cases h
theorem HI(h:Fm ts=some []):ts=[]:=by
 rcases ts with _|⟨t,ts⟩
 ·rfl
 ·
  unfold Fm at h
  split at h<;>cases h
theorem TJ(o:v.Ok O w U n)(ts:List Expr)(k k':Nat)(p p':Pos)(es:List Expr)(pos:Pos):Ac (ZX v sc ts k p (.Tuple es k' p') es pos.line) fun st Q=>Sx O w U sc n (.Assign [.Tuple ts k p] (.Tuple es k' p') pos) st Q:=by
 refine Ac.optT fun ys e=>?_
 rcases ys with _|⟨y1,_|⟨y2,ys⟩⟩<;>first|exact Ac.fail|skip
 rcases es with _|⟨e1,_|⟨e2,es⟩⟩<;>first|exact Ac.fail|skip
 rcases ys with _|⟨y3,ys⟩
 ·
  rcases es with _|⟨_,_⟩
  ·
   refine Ac.chkT fun hb=>Ac.obT ((Ac.bind (o.oq sc e1) fun a=>Ac.bind (o.oq sc e2) fun b=>Ac.bind (Ac.put y2 b) fun V=>Ac.bind (Ac.put y1 a) fun V=>Ac.pure Fl.next).imp fun V V h hs=>?_)
   obtain⟨p1,ts1,rfl,e1⟩:=Cz e
   obtain⟨p2,ts2,rfl,e2⟩:=Cz e1
   obtain rfl:=HI e2
   have s:=Aj (BX hb).2
   exact SM h (BX (BX hb).1).1 (BX (BX hb).1).2 (fun Y e=>(hs Y e).1) (fun Y e=>(hs Y e).2) (Bw s.1 _) (Bw (Aj s.2).1 _)
  ·exact Ac.fail
 ·
  rcases ys with _|⟨_,_⟩
  ·
   rcases es with _|⟨e3,_|⟨_,_⟩⟩<;>first|exact Ac.fail|skip
   refine Ac.chkT fun hb=>Ac.obT ((Ac.bind (o.oq sc e1) fun a=>Ac.bind (o.oq sc e2) fun b=>Ac.bind (o.oq sc e3) fun c=>Ac.bind (Ac.put y3 c) fun V=>Ac.bind (Ac.put y2 b) fun V=>Ac.bind (Ac.put y1 a) fun V=>Ac.pure Fl.next).imp fun V V h hs=>?_)
   obtain⟨p1,ts1,rfl,e1⟩:=Cz e
   obtain⟨p2,ts2,rfl,e2⟩:=Cz e1
   obtain⟨p3,ts3,rfl,e3⟩:=Cz e2
   obtain rfl:=HI e3
   have s:=Aj (BX hb).2
   have s2:=Aj s.2
   have b:=BX (BX hb).1
   exact SN h (BX b.1).1 (BX b.1).2 b.2 (fun Y e=>(hs Y e).1) (fun Y e=>(hs Y e).2) (Bw s.1 _) (Bw s2.1 _) (Bw (Aj s2.2).1 _)
  ·exact Ac.fail
theorem WS{a:AF}{i:Int}(e:eR a=some i):a=.dat (.int i):=by
 cases a<;>first|exact congrArg AF.dat (Hv e)|cases e
theorem TK(T:Cy K)(y g:Str)(d:Dat):Ac (ZY y g d) fun st Q=>∃C fs,look y st=some (.obj C fs)∧CU K C∧BP K C g∧fs.length≤1000∧Q .next (put y (.obj C (Ej g (.dat d) fs)) st):=
 Ac.objT fun C fs=>Ac.chkT fun b=>Ac.imp (Ac.bind (Ac.put y (.obj C (Ej g (.dat d) fs))) fun V=>Ac.pure Fl.next) fun V V q e=>⟨C,fs,e,(T.fld _ _ (BX b).1).1,(T.fld _ _ (BX b).1).2,le_of_ble_eq_true (BX b).2,q⟩
theorem WT(S:Ao O K U)(T:Cy K)(o:v.Ok O w U n)(y g:Str)(e:Expr)(yp p pos:Pos):Ac (fe v sc y g e) fun st Q=>Sx O w U sc n (.Assign [.Attribute (.Name y yp) g p] e pos) st Q:=
 Ac.chkT fun hb=>Ac.imp (Ac.bind (o.dt sc e) fun d=>TK T y g d) fun V V h=>Wa S h (CJ (BX hb).1).1 (CJ (BX hb).1).2 (Nn (Cf (BX hb).2) _ _)
theorem WU(o:v.Ok O w U n)(sc:Scope)(e:Expr):Ac (fh v sc e) fun st Q=>Ed O w U sc n e st fun d st1=>∃b,d=.int b∧Q b st1:=
 Ac.imp (Ac.bind (o.dt sc e) fun d=>Ac.opt (HB d)) fun V V h=>Ed.mono h (by rintro _ _ ⟨b,e,q⟩;exact⟨b,Hv e,q⟩)
theorem WV(o:v.Ok O w U n)(y:Str)(op:Operator)(e:Expr)(p pos:Pos):Ac (fi v sc y op e) fun st Q=>Sx O w U sc n (.AugAssign (.Name y p) op e pos) st Q:=
 Ac.lookT fun V=>Ac.optT fun i ei=>Ac.chkT fun hb=>Ac.imp (Ac.bind (WU o sc e) fun b=>Ac.bind (Ac.put y (.dat (.int (Na op i b)))) fun V=>Ac.pure Fl.next)
  fun V V h ea=>Zv (WS ei▸ea) h (BX (BX hb).1).2 (BX (BX hb).1).1 (CJ (BX hb).2).2
theorem WW(S:Ao O K U)(T:Cy K)(o:v.Ok O w U n)(t e:Expr)(pos:Pos):Ac (cN O w U n v sc t e pos) fun st Q=>Sx O w U sc n (.Assign [t] e pos) st Q:=by
 delta cN
 refine Ac.onName (G:=fun t st Q=>Sx O w U sc n (.Assign [t] e pos) st Q) (fun y p=>?_) ?_
 ·exact .cond (fun V=>DU _ _) fun hc=>Ac.chkT fun hb=>Ac.imp (Ac.bind (o.oq sc e) fun av=>Ac.bind (Ac.put _ av) fun V=>Ac.pure Fl.next) fun V V h=>DQ h hb (Nn hc _ _)
 refine Ac.onTuple (G:=fun t st Q=>Sx O w U sc n (.Assign [t] e pos) st Q) (fun ts k p=>?_) ?_
 ·refine .cond (fun V=>?_) fun ht=>Ac.imp (Ac.bind (o.dt sc e) fun d=>Ac.bind (EC 3 (.Tuple ts k p) d) fun V=>Ac.pure Fl.next) fun V V h=>Hr h (fun Y V=>Nn (Qs ht) (some (.Tuple ts k p)) pos.line Y) (fun Y V=>Qr ht Y)
  refine Ac.onTuple (G:=fun e st Q=>Sx O w U sc n (.Assign [.Tuple ts k p] e pos) st Q) (fun es k' p'=>?_) ?_
  ·refine .cond (fun V=>?_) fun V=>TJ o _ _ _ _ _ _ _
   exact Ac.imp (Ac.bind (Ac.ob _) fun V=>Ac.bind (o.dt sc _) fun d=>Ac.bind (EC 3 (.Tuple ts k p) d) fun V=>Ac.pure Fl.next) (by rintro _ _ ⟨hs,h⟩;exact Hr h (fun Y e=>(hs Y e).1) (fun Y e=>(hs Y e).2))
  exact DU _ _
 refine Ac.onAttribute (G:=fun t st Q=>Sx O w U sc n (.Assign [t] e pos) st Q) (fun a g p=>?_) ?_
 ·refine .cond (fun V=>DU _ _) fun V=>?_
  refine Ac.onName (G:=fun a st Q=>Sx O w U sc n (.Assign [.Attribute a g p] e pos) st Q) (fun y q=>?_) ?_
  ·exact WT S T o _ _ _ _ _ _
  exact DU _ _
 exact DU _ _
theorem WX(S:Ao O K U)(T:Cy K)(o:v.Ok O w U n)(t e:Expr)(op:Operator)(pos:Pos):Ac (cO O w U n v sc t op e pos) fun st Q=>Sx O w U sc n (.AugAssign t op e pos) st Q:=by
 delta cO
 refine Ac.onName (G:=fun t st Q=>Sx O w U sc n (.AugAssign t op e pos) st Q) (fun y p=>?_) ?_
 ·exact WV o _ _ _ _ _
 exact DU _ _
theorem TL{m:RM Fl}{xs:List Stmt}(M:Ac m fun st Q=>Ss O w U sc n xs st Q)(fl:Fl):Ac (WP m fl) fun st Q=>FL O w U sc n xs Q fl st:=by
 cases fl<;>first|exact M|exact Ac.pure _
theorem CA{f:Stmt→RM Fl}(F:∀x,Ac (f x) fun st Q=>Sx O w U sc n x st Q):∀xs:List Stmt,Ac (Jb f xs) fun st Q=>Ss O w U sc n xs st Q:=by
 intro xs
 induction xs with
 |nil=>
  exact Ac.imp (Ac.pure Fl.next) fun V V q=>Vc q
 |cons x xs ih=>
  exact Ac.imp (Ac.bind (F x) fun fl=>TL (ih) fl) fun V V h=>Bl h
theorem TM(S:Ao O K U)(T:Cy K)(o:v.Ok O w U n){f:Stmt→RM Fl}(F:∀x,Ac (f x) fun st Q=>Sx O w U sc n x st Q)(x:Stmt):Ac (WQ O w U n v sc f x) fun st Q=>Sx O w U sc n x st Q:=by
 delta WQ
 refine Ac.atAssign (G:=fun x st Q=>Sx O w U sc n x st Q) (fun ts e p=>?_) ?_
 ·rcases ts with _|⟨t,_|⟨_,_⟩⟩<;>first|exact DU _ _|exact WW S T o _ _ _
 refine Ac.atAugAssign (G:=fun x st Q=>Sx O w U sc n x st Q) (fun t op e p=>?_) ?_
 ·exact WX S T o _ _ _ _
 refine Ac.atIf (G:=fun x st Q=>Sx O w U sc n x st Q) (fun t b c p=>?_) ?_
 ·exact Ac.imp (Ac.bind (o.t sc _) fun c=>Ac.cse c (CA F _) (CA F _)) fun V V h=>cA h
 refine Ac.atReturn (G:=fun x st Q=>Sx O w U sc n x st Q) (fun e V=>?_) ?_
 ·rcases e with _|⟨e⟩
  ·exact Ac.imp (Ac.pure (Fl.ret .none)) fun V V h=>VW h
  ·exact Ac.imp (Ac.bind (o.dt sc e) fun d=>Ac.pure (Fl.ret d)) fun V V h=>Zp h
 refine Ac.atExpr (G:=fun x st Q=>Sx O w U sc n x st Q) (fun e V=>?_) ?_
 ·exact Ac.chkT fun hb=>Ac.imp (Ac.bind (o.e sc e) fun V=>Ac.pure Fl.next) fun V V h=>VX h (Nn (Cf hb) _ _)
 exact DU _ _
theorem Mp(S:Ao O K U)(T:Cy K):∀(k:Nat) (x:Stmt),Ac (XX O w U n sc k x) fun st Q=>Sx O w U sc n x st Q:=by
 intro k
 induction k with
 |zero=>
  intro x
  exact DU sc x
 |succ k ih=>
  intro x
  exact TM S T (Lc S T k) (ih) x
end
theorem Bn{p:α→Prop}{a:α}{l:List α}(h:p a)(k:∀x∈l,p x):∀x∈a::l,p x:=forall_mem_cons.mpr ⟨h,k⟩
theorem JN{p:α→Prop}:∀x∈([]:List α),p x:=Cc
noncomputable def fp(a:Addr)(ps:List Str)(i j:Nat):Addr×List Str×Nat×Nat:=(a,ps,i,j)
noncomputable def fnL:List (Addr×List Str×Nat×Nat):=
 fp 54 ["number","by"] 5 0::fp 61 ["number","by"] 7 0::fp 68 ["m"] 8 0::fp 75 ["m"] 9 0::fp 82 ["m","x","y"] 10 0::fp 89 ["m","x","y"] 11 0::fp 96 ["m","x","y"] 12 0::fp 103 ["x","y"] 13 0::fp 110 ["number"] 14 0::fp 117 ["one","other"] 23 0::fp 131 ["self","points","is_closed"] 24 1::fp 138 ["self"] 24 2::fp 152 ["points","is_closed"] 25 0::fp 157 ["rows"] 26 0::fp 170 ["self","lengths","offset"] 27 1::fp 177 ["self"] 27 2::fp 184 ["self"] 27 3::fp 191 ["self","way"] 27 4::fp 205 ["one","other","way","length"] 28 0::fp 213 ["line","lengths","offset","most"] 29 0::fp 218 ["lines","lengths","offset"] 30 0::fp 225 ["one","other"] 31 0::fp 232 ["one","other","limit"] 32 0::fp 246 ["self","half","cap","join","limit","matrix"] 33 1::fp 253 ["self","point"] 33 2::fp 258 ["self","points"] 33 3::fp 263 ["self","centre"] 33 4::fp 270 ["self","way"] 33 5::fp 277 ["self","one","other"] 33 6::fp 284 ["self","ahead","here","behind"] 33 7::fp 291 ["self","ahead","here"] 33 8::fp 298 ["self","line"] 33 9::fp 310 ["line","matrix"] 34 0::fp 315 ["rows","width","cap","join","limit","lengths","offset","matrix"] 35 0::fp 329 ["deck","many"] 40 0::fp 336 ["number","many","square"] 41 0::fp 343 ["one","other"] 42 0::fp 350 ["one","other"] 43 0::fp 357 ["one","other"] 44 0::fp 364 ["parts"] 45 0::fp 371 ["parts"] 46 0::fp 378 ["number","many","square"] 47 0::fp 385 ["line","before","behind","half","place"] 48 0::fp 392 ["middle","half","place"] 49 0::fp 399 ["one","two","three","place"] 50 0::fp 406 ["number"] 51 0::fp 413 ["way","half","is_left_turn"] 52 0::fp 420 ["ahead","behind","pen","place"] 53 0::fp 427 ["lines","is_closed","pen","place"] 54 0::fp 434 ["space","point"] 55 0::fp 439 ["rows"] 56 0::fp 446 ["edges","x","y"] 57 0::fp 453 ["deck"] 58 0::fp 458 ["script"] 59 0::[]
noncomputable def Mq:Stmt→List Stmt×Expr×Scope
 | .FunctionDef (body:=b) (scope:=s) .. =>(b,.Name "" default,s)
 | .ClassDef (body:=b) .. =>(b,.Name "" default,default)
 | .For t _ b _ _=>(b,t,default)
 | .While t b _ _=>(b,t,default)
 | .If t b o _=>(b++o,t,default)
 | .Assign _ e _=>([],e,default)
 | .Return e _=>([],e.getD (.Name "" default),default)
 | .Expr e _=>([],e,default)
 |_=>([],.Name "" default,default)
noncomputable def Cr(x:Stmt):List Stmt:=(Mq x).1
noncomputable def AG(x:Stmt):Expr:=(Mq x).2.1
noncomputable def ZZ(b:List Stmt)(i:Nat):Stmt:=b[i]?.getD (.Pass default)
noncomputable def WY(i j:Nat):Stmt:=match j with
 |0=>ZZ PySem.Challenge.pw_rh0180_01.main.body i
 |j+1=>ZZ (Cr (ZZ PySem.Challenge.pw_rh0180_01.main.body i)) j
noncomputable def atC(f:Addr):Stmt:=match fnL.lookup f with
 |some (_,i,j)=>WY i j
 |none=>.Pass default
noncomputable def AY(f:Addr):List Stmt:=Cr (atC f)
noncomputable def scC(f:Addr):Scope:=(Mq (atC f)).2.2
noncomputable def biL:List Str:=["len","int","list","range","zip","enumerate","sum","any","str","tuple"]
def YQ(K:Frag)(f:Addr)(ps:List Str):Prop:=YN K f (IY K f) (AY f) ps∧(IY K f).scope=scC f
structure KF where
 K:Frag
 tab:Cy K
 fn:∀f ps i j,fnL.lookup f=some (ps,i,j)→YQ K f ps
 bi:∀x,biL.contains x=true→nsIn K mainGlobals x=some none
 spa:nsIn K mainGlobals "_law_spaces"=some (some (.ref 322))
 fsp:Fz (fun b o=>K.lookup b=some o) (.ref 322) (.tuple [.list [.int 1,.int 0,.int 0,.int 1,.int 0,.int 0],.list [.int 0,.int 1,.int (-1),.int 0,.int 5,.int 0],.list [.int 2,.int 1,.int 0,.int 1,.int (-3),.int 4],.list [.int 1,.int 1,.int (-1),.int 1,.int 0,.int 0],.list [.int 3,.int (-1),.int 1,.int (-2),.int 0,.int 7],.list [.int (-1),.int 0,.int 2,.int 1,.int 1,.int 1]])
abbrev OkF(P:KF)(f:Addr)(ps:List Str):Prop:=YQ P.K f ps
theorem Jc(P:KF):OkF P 54 ["number","by"]:=P.fn _ _ _ _ rfl
theorem Do(P:KF):OkF P 61 ["number","by"]:=P.fn _ _ _ _ rfl
theorem ID(P:KF):OkF P 68 ["m"]:=P.fn _ _ _ _ rfl
theorem HJ(P:KF):OkF P 75 ["m"]:=P.fn _ _ _ _ rfl
theorem Ld(P:KF):OkF P 82 ["m","x","y"]:=P.fn _ _ _ _ rfl
theorem Hg(P:KF):OkF P 89 ["m","x","y"]:=P.fn _ _ _ _ rfl
theorem EZ(P:KF):OkF P 96 ["m","x","y"]:=P.fn _ _ _ _ rfl
theorem Hh(P:KF):OkF P 103 ["x","y"]:=P.fn _ _ _ _ rfl
theorem Dw(P:KF):OkF P 110 ["number"]:=P.fn _ _ _ _ rfl
theorem FS(P:KF):OkF P 131 ["self","points","is_closed"]:=P.fn _ _ _ _ rfl
theorem ED(P:KF):OkF P 138 ["self"]:=P.fn _ _ _ _ rfl
theorem DF(P:KF):OkF P 152 ["points","is_closed"]:=P.fn _ _ _ _ rfl
theorem HL(P:KF):OkF P 157 ["rows"]:=P.fn _ _ _ _ rfl
theorem IE(P:KF):OkF P 170 ["self","lengths","offset"]:=P.fn _ _ _ _ rfl
theorem Hi(P:KF):OkF P 218 ["lines","lengths","offset"]:=P.fn _ _ _ _ rfl
theorem FT(P:KF):OkF P 225 ["one","other"]:=P.fn _ _ _ _ rfl
theorem Ec(P:KF):OkF P 232 ["one","other","limit"]:=P.fn _ _ _ _ rfl
theorem Mr(P:KF):OkF P 246 ["self","half","cap","join","limit","matrix"]:=P.fn _ _ _ _ rfl
theorem JO(P:KF):OkF P 253 ["self","point"]:=P.fn _ _ _ _ rfl
theorem GF(P:KF):OkF P 258 ["self","points"]:=P.fn _ _ _ _ rfl
theorem Cs(P:KF):OkF P 263 ["self","centre"]:=P.fn _ _ _ _ rfl
theorem Le(P:KF):OkF P 270 ["self","way"]:=P.fn _ _ _ _ rfl
theorem HM(P:KF):OkF P 277 ["self","one","other"]:=P.fn _ _ _ _ rfl
theorem De(P:KF):OkF P 284 ["self","ahead","here","behind"]:=P.fn _ _ _ _ rfl
theorem Dx(P:KF):OkF P 291 ["self","ahead","here"]:=P.fn _ _ _ _ rfl
theorem Fn(P:KF):OkF P 298 ["self","line"]:=P.fn _ _ _ _ rfl
theorem FU(P:KF):OkF P 310 ["line","matrix"]:=P.fn _ _ _ _ rfl
theorem OJ(P:KF):OkF P 315 ["rows","width","cap","join","limit","lengths","offset","matrix"]:=P.fn _ _ _ _ rfl
theorem Lf(P:KF):OkF P 329 ["deck","many"]:=P.fn _ _ _ _ rfl
theorem Cg(P:KF):OkF P 336 ["number","many","square"]:=P.fn _ _ _ _ rfl
theorem JP(P:KF):OkF P 343 ["one","other"]:=P.fn _ _ _ _ rfl
theorem Mt(P:KF):OkF P 350 ["one","other"]:=P.fn _ _ _ _ rfl
theorem Lg(P:KF):OkF P 357 ["one","other"]:=P.fn _ _ _ _ rfl
theorem Fo(P:KF):OkF P 364 ["parts"]:=P.fn _ _ _ _ rfl
theorem Fp(P:KF):OkF P 371 ["parts"]:=P.fn _ _ _ _ rfl
theorem Dy(P:KF):OkF P 378 ["number","many","square"]:=P.fn _ _ _ _ rfl
theorem HN(P:KF):OkF P 385 ["line","before","behind","half","place"]:=P.fn _ _ _ _ rfl
theorem Ct(P:KF):OkF P 392 ["middle","half","place"]:=P.fn _ _ _ _ rfl
theorem Df(P:KF):OkF P 399 ["one","two","three","place"]:=P.fn _ _ _ _ rfl
theorem GY(P:KF):OkF P 406 ["number"]:=P.fn _ _ _ _ rfl
theorem FV(P:KF):OkF P 413 ["way","half","is_left_turn"]:=P.fn _ _ _ _ rfl
theorem Dg(P:KF):OkF P 420 ["ahead","behind","pen","place"]:=P.fn _ _ _ _ rfl
theorem IF(P:KF):OkF P 427 ["lines","is_closed","pen","place"]:=P.fn _ _ _ _ rfl
theorem Mu(P:KF):OkF P 434 ["space","point"]:=P.fn _ _ _ _ rfl
theorem JQ(P:KF):OkF P 439 ["rows"]:=P.fn _ _ _ _ rfl
theorem JR(P:KF):OkF P 446 ["edges","x","y"]:=P.fn _ _ _ _ rfl
theorem Lh(P:KF):OkF P 453 ["deck"]:=P.fn _ _ _ _ rfl
theorem Aa2(P:KF):OkF P 458 ["script"]:=P.fn _ _ _ _ rfl
theorem QH(P:KF):CU P.K 301:=(P.tab.fld 301 "rows" (by kernel_rfl)).1
theorem GZ(P:KF):BP P.K 301 "rows":=(P.tab.fld 301 "rows" (by kernel_rfl)).2
theorem cP(h:biL.contains x=true):(x==("__debug__":Str))=false∧x≠"__name__":=by
 have k:∀y∈biL,(y==("__debug__":Str))=false∧y≠"__name__":=by decide+kernel
 exact k x (contains_iff_mem.mp h)
theorem glb(P:KF)(h:Qy sc x=true)(e:biL.contains x=true):GlB sc P.K x:=⟨HG h,P.bi x e,cP e⟩
noncomputable def fin(r:Option (Res Fl)):Option (Dat×Ms):=match r with
 |some ⟨fl,_,[],ms⟩=>some (flD fl,ms)
 |_=>none
noncomputable def fj(x:Str)(r:Option (Res Fl)):Option (Dat×AF×Ms):=match r with
 |some ⟨fl,st,[],ms⟩=>match look x st with
  |some a=>some (flD fl,a,ms)
  |none=>none
 |_=>none
section
variable{P:KF}
theorem FnP.ofC(S:Ao O P.K U){ps:List Str}{Q:Dat→Prop}(ok:OkF P f ps)(hlen:ds.length=ps.length)(h:Ss O w U (scC f) n (AY f) (BE ps ds) (fun fl V=>Q (flD fl))):FnP O w U (n+1) f ds Q:=
 FnP.of S ok.1 hlen (ok.2▸h)
theorem FnL.ofC(S:Ao O P.K U){p:Str}{ps:List Str}{a:AF}{Q:Dat→AF→Prop}(ok:OkF P f (p::ps))(hp:DZ (scC f) p=true)(hlen:ds.length=ps.length)
 (h:Ss O w U (scC f) n (AY f) ((p,a)::BE ps ds) (fun fl st'=>∃a',look p st'=some a'∧Q (flD fl) a')):FnL O w U (n+1) f a ds Q:=
 FnL.of S ok.1 (ok.2▸hp) hlen (ok.2▸h)
variable(O w U n)in
noncomputable def goR(f:Addr)(st:St)(os:List Or):Option (Res Fl):=Jb (XX O w U n (scC f) 20) (AY f) st os []
set_option tactic.hygienic true in
theorem FnP.go(S:Ao O P.K U){ps:List Str}(ok:OkF P f ps)(hlen:ds.length=ps.length)(os:List Or)(h:fin (goR O w U n f (BE ps ds) os)=some (d,ms))(hm:AD ms):FnP O w U (n+1) f ds (· =d):=by
 delta fin at h
 split at h
 ·rename_i e
  cases h
  exact FnP.ofC S ok hlen (((CA (Mp S P.tab 20) _).ok e hm).2 _ rfl)
 ·cases h
set_option tactic.hygienic true in
theorem FnL.go(S:Ao O P.K U){p:Str}{ps:List Str}{a:AF}(ok:OkF P f (p::ps))(hp:DZ (scC f) p=true)(hlen:ds.length=ps.length)(os:List Or)
 (h:fj p (goR O w U n f ((p,a)::BE ps ds) os)=some (d,a',ms)) (hm:AD ms):FnL O w U (n+1) f a ds fun x y=>x=d∧y=a':=by
 delta fj at h
 split at h
 ·rename_i e
  split at h
  ·rename_i a' ea
   cases h
   exact FnL.ofC S ok hp hlen (((CA (Mp S P.tab 20) _).ok e hm).2 _ ⟨_,ea,rfl,rfl⟩)
  ·cases h
 ·cases h
end
variable{P:KF}
theorem Cw{p:α→Prop}:∀x∈([]:List α),p x:=Cc
@[reducible] def GG(h:Heap)(tup:Bool)(it l:Addr)(k:Nat):Prop:=match tup with
 |false=>h.IsListIter it l k
 |true=>h.IsTupleIter it l k
@[reducible] def OK(h:Heap)(tup:Bool)(l:Addr)(vs:List Value):Prop:=match tup with
 |false=>h.IsList l vs.toArray
 |true=>h.IsTuple l vs.toArray
theorem GG.at{l:Addr}(x:GG h tup it l k)(f:∀o,h.get? it=some o→h'.get? it=some o):GG h' tup it l k:=by
 cases tup<;>(obtain⟨o,e,r⟩:=x;exact⟨o,f o e,r⟩)
theorem OK.at{l:Addr}(x:OK h tup l vs)(f:∀o,h.get? l=some o→h'.get? l=some o):OK h' tup l vs:=by
 cases tup<;>(obtain⟨o,e,r⟩:=x;exact⟨o,f o e,r⟩)
theorem GG.live{l:Addr}(x:GG h tup it l k):∃o,h.get? it=some o:=by
 cases tup<;>(obtain⟨o,e,_⟩:=x;exact⟨o,e⟩)
structure CH where
 it:Addr
 ls:Addr
 vs:List Value
 ds:List Dat
 tup:Bool
variable{L:List CH}
abbrev FW(h:Heap)(T:Addr)(vs:List Value):Prop:=h.get? T=some {cls:=.type "tuple",data:=.seq vs.toArray}
noncomputable def CH.at(k:Nat)(l:CH):Value:=(l.vs[k]?).getD .none
structure HO(h:Heap)(k:Nat)(l:CH):Prop where
 it:GG h l.tup l.it l.ls k
 ls:OK h l.tup l.ls l.vs
theorem HO.keep{l:CH}(x:HO h k l)(h1:∀o,h.get? l.it=some o→h'.get? l.it=some o)(h2:∀o,h.get? l.ls=some o→h'.get? l.ls=some o):HO h' k l:=⟨x.it.at h1,x.ls.at h2⟩
structure WZ(z TI TO:Addr)(l:CH):Prop where
 iz:l.it≠z
 iTI:l.it≠TI
 iTO:l.it≠TO
 lz:l.ls≠z
 lTO:l.ls≠TO
structure ZAp(z TI TO:Addr)(L:List CH):Prop where
 TIz:TI≠z
 TOz:TO≠z
 TITO:TI≠TO
 off:∀l∈L,WZ z TI TO l
 ls:∀l∈L,∀m∈L,l.ls≠m.it
 its:L.Pairwise fun l m=>l.it≠m.it
theorem Nu{l:Addr}{i:Nat}{Q:Value→Shared→Prop}(hh:vs[i]?=none→A.handled=none)(hit:s.heap.IsTupleIter it l i)(hl:s.heap.IsTuple l vs.toArray)
 (hQ:∀x,vs[i]?=some x→∀h',h'.IsTupleIter it l (i+1)→Heap.SameBut it s.heap h'→Q x {s with heap:=h'})
 (hE:vs[i]?=none→∀h' e,Heap.ExtBut it s.heap h'→(∃o,h'.get? e=some o∧o.cls=.type "StopIteration")→E (.ref e) {s with heap:=h'}):wpAny (model O w) A (Builtin.SmallTypes.nextOf (.ref it)) Q E s:=by
 have ty:=hit.typeIs
 obtain⟨o,ho,hc,hd⟩:=hit
 obtain⟨ol,hol,_,nl,hdl⟩:=hl
 refine wpAny_bind (wpAny_callSpecial?_slot ty F.slot_tuple_iterator_next (wpAny_call_entry F.slot_tuple_iterator_next ty F.entry_tuple_iterator_next (?_:wpAny _ _ (field (.ref it) 0>>=_) _ _ s) (F.args_tuple_iterator_next_1 _)))
 refine wpAny_bind (wpAny_field ho hd (x:=.ref l) rfl (?_:wpAny _ _ (field (.ref it) 1>>=_) _ _ s))
 refine wpAny_bind (wpAny_field ho hd (x:=.int i 0) rfl (wpAny_bind (wpAny_seqItems hol hdl ?_)))
 have ei:vs.toArray[(i:Int).toNat]?=vs[i]?:=by refine rr (toNat_natCast ..) (rr (getElem?_toArray) ?_);rfl
 dsimp only
 refine rr ei ?_
 cases hx:vs[i]? with
 |some x=>
  refine wpAny_bind (wpAny_setField ho hd (by simp) (wpAny_pure ⟨x,rfl,wpAny_pure (hQ x hx _ ⟨_,get?_update_self _ ho (Obj.isFreed_of_fields (Obj.data_mapFields hd _)),(Obj.cls_mapFields ..).trans hc,?_⟩ (Heap.SameBut.update ..))⟩))
  rewrite[Obj.data_mapFields hd];simp[rawInt]
 |none=>
  refine wpAny_bind (wpAny_rule (wpAny_bind (wpAny_setField ho hd (by simp) (wpAny_bind (m:=newExc (.type "StopIteration") []) ?_))))
  refine wpAny_bind (wpAny_newObj_type ?_ (by size_fits))
  refine wpAny_bind (m:=firstArgMember _ _) (wpAny_of_eq (a:=Value.none) rfl (wpAny_newObj_type (wpAny_raiseNew_none (hh hx) (hE hx _ _ (((Heap.SameBut.update ..).extBut.push _).push _) ⟨_,get?_push_size _ rfl,rfl⟩)) (by size_fits)))
theorem QI{l:Addr}{i:Nat}{x:Value}{Q:Value→Shared→Prop}(hit:GG s.heap tup it l i)(hl:OK s.heap tup l vs)(hx:vs[i]?=some x)
 (hQ:∀h',GG h' tup it l (i+1)→Heap.SameBut it s.heap h'→Q x {s with heap:=h'}):wpAny (model O w) A (Builtin.SmallTypes.nextOf (.ref it)) Q E s:=by
 cases tup with
 |false=>exact wpAny_nextOf_list_item hit hl ((getElem?_toArray ..).trans hx) hQ
 |true=>exact Nu (fun e=>by rw[hx]at e;cases e) hit hl (fun y e=>by rw[hx]at e;cases e;exact hQ) fun e=>by rw[hx]at e;cases e
theorem TN{l:Addr}{i:Nat}{Q:Value→Shared→Prop}(hh:A.handled=none)(hit:GG s.heap tup it l i)(hl:OK s.heap tup l vs)(hx:vs[i]?=none)
 (hE:∀h' e,Heap.ExtBut it s.heap h'→(∃o,h'.get? e=some o∧o.cls=.type "StopIteration")→E (.ref e) {s with heap:=h'}):wpAny (model O w) A (Builtin.SmallTypes.nextOf (.ref it)) Q E s:=by
 cases tup with
 |false=>exact wpAny_nextOf_list_end hh hit hl ((getElem?_toArray ..).trans hx) hE
 |true=>exact Nu (fun V=>hh) hit hl (fun y e=>by rw[hx]at e;cases e) fun V=>hE
def Dz(z TO:Addr)(L:List CH)(h h':Heap):Prop:=∀c o,c≠z→c≠TO→(∀l∈L,c≠l.it)→h.get? c=some o→h'.get? c=some o
theorem JS{T:Addr}{pre post:List Value}{o x:Value}{Q:Unit→Shared→Prop}(hT:FW s.heap T (pre++o::post))(hz:(pre++o::post).length≤100)
 (h:∀h',FW h' T (pre++x::post)→Heap.SameBut T s.heap h'→Q () {s with heap:=h'}):wpAny (model O w) A (updateSeq T (·.setIfInBounds pre.length x)) Q E s:=by
 have hs:(pre++o::post).toArray.size≤sizeLine:=le_trans hz (by decide)
 refine wpAny_updateSeq hT rfl (h _ ?_ (Heap.SameBut.update ..)) hs (by refine rr Array.size_setIfInBounds ?_;exact Nat.le_succ_of_le hs)
 have e:(pre++o::post).toArray.setIfInBounds pre.length x=(pre++x::post).toArray:=by
  refine rr (List.setIfInBounds_toArray ..) (rr (List.set_append_right _ _ (le_refl _)) ?_);refine rr (Nat.sub_self ..) (rr List.set_cons_zero ?_);rfl
 refine(get?_update_self _ hT rfl).trans ?_
 delta Obj.mapSeq
 dsimp only
 refine rr Array.size_setIfInBounds (rr e ?_);refine rr (beq_self_eq_true ..) (rr (if_pos rfl) ?_);rfl
theorem cQ{f:Value×Nat→β→Sem (ForInStep β)}{b:β}
 (hf:∀(l:CH) (x o:Value) (pre post:List Value) (s:Shared) (Q:ForInStep β→Shared→Prop),HO s.heap k l→l.vs[k]?=some x→FW s.heap TO (pre++o::post)→l.it≠TO→(pre++o::post).length≤100→
  (∀h',GG h' l.tup l.it l.ls (k+1)→FW h' TO (pre++x::post)→(∀c o,c≠TO→c≠l.it→s.heap.get? c=some o→h'.get? c=some o)→h'.objs.size=s.heap.objs.size→Q (.yield b) {s with heap:=h'})→
  wpAny (model O w) A (f (.ref l.it,pre.length) b) Q E s)
 (hg:∀(l:CH) (j:Nat) (s:Shared) (Q:ForInStep β→Shared→Prop),HO s.heap k l→l.vs[k]?=none→IsZip s.heap z TI TO .ellipsis→l.it≠z→
  (∀h' e,(∀c o,c≠z→c≠l.it→s.heap.get? c=some o→h'.get? c=some o)→(∃o,h'.get? e=some o∧o.cls=.type "StopIteration")→E (.ref e) {s with heap:=h'})→
  wpAny (model O w) A (f (.ref l.it,j) b) Q E s) (hzT:z≠TO):
 ∀(L:List CH) (pre old:List Value) (s:Shared) (Q:β→Shared→Prop),(∀l∈L,HO s.heap k l∧l.it≠z∧l.it≠TO∧l.ls≠TO)→(∀l∈L,∀m∈L,l.ls≠m.it)→L.Pairwise (fun l m=>l.it≠m.it)→
  old.length=L.length→FW s.heap TO (pre++old)→(pre++old).length≤100→IsZip s.heap z TI TO .ellipsis→
  ((∀l∈L,l.vs[k]?=some (l.at k))→∀h',FW h' TO (pre++L.map (CH.at k))→(∀l∈L,GG h' l.tup l.it l.ls (k+1))→Dz TO TO L s.heap h'→h'.objs.size=s.heap.objs.size→Q b {s with heap:=h'})→
  ((∃l∈L,l.vs[k]?=none)→∀h' e,Dz z TO L s.heap h'→(∃o,h'.get? e=some o∧o.cls=.type "StopIteration")→E (.ref e) {s with heap:=h'})→
  wpAny (model O w) A (forIn ((L.map fun l=>Value.ref l.it).zipIdx pre.length) b f) Q E s:=by
 intro L
 induction L with
 |nil=>
  intro pre old s Q _ _ _ ho hT _ _ hQ _
  rw[List.length_eq_zero_iff.mp ho,append_nil]at hT
  refine rr map_nil ?_;refine rr List.zipIdx_nil (rr forIn_nil ?_)
  exact wpAny_pure (hQ Cw s.heap (by refine rr map_nil (rr (append_nil ..) ?_);exact hT) Cw (fun V V V V V e=>e) rfl)
 |cons l L ih=>
  intro pre old s Q hL hls hit ho hT hz hZ hQ hE
  rcases old with _|⟨o,old⟩
  ·cases ho
  have h1:=hL l (.head _)
  have hp:=List.pairwise_cons.mp hit
  refine rr map_cons ?_;refine rr List.zipIdx_cons (rr (forIn_cons ..) ?_)
  cases hx:l.vs[k]? with
  |none=>exact wpAny_bind (hg l pre.length s _ h1.1 hx hZ h1.2.1 fun h' e k1 q=>hE ⟨l,.head _,hx⟩ h' e (fun c o c1 V c3 x=>k1 c o c1 (c3 l (.head _)) x) q)
  |some x=>
   refine wpAny_bind (hf l x o pre old s _ h1.1 hx hT h1.2.2.1 hz fun h' i1 t1 k1 z1=>?_)
   have ex:l.at k=x:=by delta CH.at;refine rr hx ?_;rfl
   have e:pre++x::old=(pre++[x])++old:=by refine rr (append_assoc ..) ?_;rfl
   have el:(pre++[x]).length=pre.length+1:=length_append
   have ez:(pre++o::old).length=(pre++[x]++old).length:=by refine rl e ?_;refine rr length_append (rr length_append ?_);rfl
   show wpAny _ _ (forIn (List.zipIdx _ (pre.length+1)) b f) _ _ _
   refine rl el ?_
   refine ih (pre++[x]) old _ Q (fun m hm=>?_) (fun a ha c hc=>hls a (.tail _ ha) c (.tail _ hc)) hp.2 (Nat.succ.inj ho) (e▸t1) (ez▸hz) (k1 _ _ hzT h1.2.1.symm hZ)
    (fun ha h2 t2 i2 k2 z2=>hQ (forall_mem_cons.mpr ⟨ex▸hx,ha⟩) h2 ?_ (forall_mem_cons.mpr ⟨i1.at fun o=>k2 _ o h1.2.2.1 h1.2.2.1 hp.1,i2⟩) (fun c o c1 c2 c3 x=>k2 c o c1 c2 (fun m hm=>c3 m (.tail _ hm)) (k1 c o c1 (c3 l (.head _)) x)) (z2.trans z1))
    fun hn h2 e2 k2 q=>hE (hn.elim fun m hm=>⟨m,.tail _ hm.1,hm.2⟩) h2 e2 (fun c o c1 c2 c3 x=>k2 c o c1 c2 (fun m hm=>c3 m (.tail _ hm)) (k1 c o c2 (c3 l (.head _)) x)) q
   ·have hm':=hL m (.tail _ hm)
    exact⟨hm'.1.keep (fun o=>k1 _ o hm'.2.2.1 (hp.1 m hm).symm) (fun o=>k1 _ o hm'.2.2.2 (hls m (.tail _ hm) l (.head _))),hm'.2⟩
   ·rw[append_assoc]at t2;refine rr map_cons (rr ex ?_);exact t2
structure ZIn(h:Heap)(z TI TO:Addr)(L:List CH)(k:Nat)(f0:Value):Prop where
 z:IsZip h z TI TO f0
 ti:FW h TI (L.map fun l=>.ref l.it)
 to:∃old,old.length=L.length∧FW h TO old
 ls:∀l∈L,HO h k l
theorem fW{l:CH}{Q:Value→Shared→Prop}(hh:A.handled=none)(D:ZAp z TI TO (l::L))(hs:(l::L).length≤100)(hZ:ZIn s.heap z TI TO (l::L) k .none)
 (hQ:(∀m∈l::L,m.vs[k]?=some (m.at k))→∀h',ZIn h' z TI TO (l::L) (k+1) (rawInt s.heap.objs.size)→FW h' s.heap.objs.size ((l::L).map (CH.at k))→Dz z TO (l::L) s.heap h'→Q (.ref s.heap.objs.size) {s with heap:=h'})
 (hE:(∃m∈l::L,m.vs[k]?=none)→∀h' e,Dz z TO (l::L) s.heap h'→(∃o,h'.get? e=some o∧o.cls=.type "StopIteration")→E (.ref e) {s with heap:=h'}):
 wpAny (model O w) A (Builtin.«zip.__next__» ⟨[.ref z],[]⟩) (fun fin s'=>∃v,fin=.done (.ret v)∧Q v s') E s:=by
 have hz:=hZ.1;have hTI:=hZ.2;obtain⟨old,ho,hTO⟩:=hZ.3;have hL:=hZ.4
 show wpAny _ _ (field (.ref z) 2>>=_) _ _ _
 refine wpAny_bind (wpAny_field hz rfl (x:=.bool false) rfl ?_)
 show wpAny _ _ (field (.ref z) 3>>=_) _ _ _
 refine wpAny_bind (wpAny_field hz rfl (x:=.ref TI) rfl ?_)
 refine wpAny_bind (wpAny_seqItems hTI rfl ?_)
 show wpAny _ _ (Builtin.SmallTypes.ownedTupleIsFree (.ref z)>>=_) _ _ _
 refine wpAny_bind ?_
 delta Builtin.SmallTypes.ownedTupleIsFree
 refine wpAny_bind (wpAny_field hz rfl (x:=.none) rfl (wpAny_pure ?_))
 refine rr (if_pos rfl) ?_
 refine wpAny_bind (wpAny_rule ?_)
 refine wpAny_bind (wpAny_field hz rfl (x:=.ref TO) rfl ?_)
 refine wpAny_bind (wpAny_setField_rec hz (show 0<5 by decide) fun ha hza sa=>?_)
 replace hza:IsZip ha z TI TO .ellipsis:=hza
 refine wpAny_bind ?_
 refine cQ (k:=k) (TO:=TO) (z:=z) (TI:=TI) ?_ ?_ D.TOz.symm (l::L) [] old _ _ (fun m hm=>?_) D.ls D.its ho (sa.extBut _ _ D.TOz hTO) (ho▸hs) hza (fun hall h1 t1 i1 k1 z1=>?_) fun hn h1 e k1 q=>hE hn h1 e (fun c o c1 c2 c3 x=>k1 c o c1 c2 c3 (sa.extBut _ _ c1 x)) q
 ·intro l x o pre post s Q h hx hT hne hlen hQ
  refine wpAny_bind (wpAny_onRaise ?_)
  show wpAny _ _ (Builtin.SmallTypes.nextOf (.ref l.it)>>=_) _ _ _
  refine wpAny_bind (QI h.it h.ls hx fun h' i' s'=>wpAny_pure ?_)
  have tb:FW h' TO (pre++o::post):=s'.extBut _ _ hne.symm hT
  refine wpAny_bind (wpAny_seqItems tb rfl ?_)
  refine wpAny_bind (JS tb hlen fun hc tc sc=>?_)
  exact wpAny_bind (wpAny_letGo (wpAny_pure (hQ hc (GG.at i' fun o=>sc.extBut _ o hne) tc (fun c o c1 c2 e=>sc.extBut _ _ c1 (s'.extBut _ _ c2 e)) (sc.1.trans s'.1))))
 ·intro l j s Q h hx hz' hne hE
  refine wpAny_bind (wpAny_onRaise ?_)
  show wpAny _ _ (Builtin.SmallTypes.nextOf (.ref l.it)>>=_) _ _ _
  refine wpAny_bind (TN hh h.it h.ls hx fun hb e sb he=>?_)
  have zb:IsZip hb z TI TO .ellipsis:=sb _ _ hne.symm hz'
  obtain⟨oe,hoe,hce⟩:=he
  have hez:e≠z:=fun x=>absurd (show Value.type "zip"=Value.type "StopIteration" from(congrArg Obj.cls (Option.some.inj (zb.symm.trans (x▸hoe)))).trans hce) (by decide)
  exact wpAny_setField_rec zb (show 0<5 by decide) fun hc V sc=>hE hc e (fun q o q1 q2 x=>sc.extBut _ _ q1 (sb _ _ q2 x)) ⟨oe,sc.extBut _ _ hez hoe,hce⟩
 ·have d:=D.off m hm
  exact⟨(hL m hm).keep (fun o=>sa.extBut _ _ d.iz) (fun o=>sa.extBut _ _ d.lz),d.iz,d.iTO,d.lTO⟩
 rw[nil_append]at t1
 refine wpAny_bind (wpAny_seqItems t1 rfl ?_)
 refine wpAny_bind (wpAny_newTuple ?_)
 have hsz:h1.objs.size=s.heap.objs.size:=z1.trans sa.1
 have k1':Dz z TO (l::L) s.heap h1:=fun c o c1 c2 c3 e=>k1 c o c2 c2 c3 (sa.extBut _ _ c1 e)
 have zg:IsZip h1 z TI TO .ellipsis:=k1 _ _ D.TOz.symm D.TOz.symm (fun m hm=>(D.off m hm).iz.symm) hza
 show wpAny _ _ (Builtin.SmallTypes.ownedTupleHandOut (.ref z) (.ref h1.objs.size)>>=_) _ _ _
 refine wpAny_bind ?_
 delta Builtin.SmallTypes.ownedTupleHandOut
 refine wpAny_bind (wpAny_setField_rec (get?_push_of_some _ zg) (show 0<5 by decide) fun hm zm sm=>?_)
 refine wpAny_setField_rec zm (show 1<5 by decide) fun hn zn sn=>?_
 have zlt:h1.objs.size≠z:=Nat.ne_of_gt (lt_size zg)
 have up:∀q o,q≠z→h1.get? q=some o→hn.get? q=some o:=fun q o q1 e=>sn.extBut _ _ q1 (sm.extBut _ _ q1 (get?_push_of_some _ e))
 have tn:FW hn h1.objs.size ((l::L).map (CH.at k)):=sn.extBut _ _ zlt (sm.extBut _ _ zlt (get?_push_size _ rfl))
 replace zn:IsZip hn z TI TO (rawInt h1.objs.size):=zn
 refine wpAny_pure ⟨_,rfl,?_⟩
 show Q (.ref h1.objs.size) _
 rw[hsz]at zn tn⊢
 have kn:Dz z TO (l::L) s.heap hn:=fun q o q1 q2 q3 e=>up q o q1 (k1' q o q1 q2 q3 e)
 exact hQ hall hn ⟨zn,kn _ _ D.TIz D.TITO (fun m hm=>(D.off m hm).iTI.symm) hTI,⟨_,length_map ..,up _ _ D.TOz t1⟩,fun m hm=>⟨(i1 m hm).at fun o=>up _ o (D.off m hm).iz,(hL m hm).ls.at fun o=>kn _ o (D.off m hm).lz (D.off m hm).lTO (D.ls m hm)⟩⟩ tn kn
theorem HP{l:CH}{Q:Option Value→Shared→Prop}(hh:A.handled=none)(D:ZAp z TI TO (l::L))(hs:(l::L).length≤100)(hZ:ZIn s.heap z TI TO (l::L) k .none)
 (hQ:(∀m∈l::L,m.vs[k]?=some (m.at k))→∀h',ZIn h' z TI TO (l::L) (k+1) (rawInt s.heap.objs.size)→FW h' s.heap.objs.size ((l::L).map (CH.at k))→Dz z TO (l::L) s.heap h'→Q (some (.ref s.heap.objs.size)) {s with heap:=h'})
 (hN:(∃m∈l::L,m.vs[k]?=none)→∀h',Dz z TO (l::L) s.heap h'→Q none {s with heap:=h'}):wpAny (model O w) A (pyNext (.ref z)) Q E s:=by
 have hT:s.TypeIs (.ref z) "zip":=⟨_,hZ.z,rfl⟩
 delta pyNext
 exact wpAny_bind (wpAny_attempt (wpAny_callSpecial?_slot (name:=Str.ofString "__next__") hT F.slot_zip_next
  (wpAny_call_entry F.slot_zip_next hT F.entry_zip_next (fW hh D hs hZ (fun ha h' a1 a2 a3=>wpAny_pure (hQ ha h' a1 a2 a3)) fun hn h' e hk he=>
   wpAny_bind (wpAny_isInstance (T:="StopIteration") (b:=true) he isSubtype_stop (wpAny_pure (hN hn _ hk)))) (F.args_zip_next_1 _))))
abbrev Vn(h:Heap)(T:Addr)(a b c:Value):Prop:=h.get? T=some {cls:=.type "tuple",data:=.seq #[a,b,c]}
theorem IG(a b c:Value):checkTypeCall "zip" ⟨[a,b,c],[]⟩=pure ():=by kernel_rfl
theorem JT(a b c:Value):checkBuiltinCall "zip.__new__" ⟨[.type "zip",a,b,c],[]⟩=pure ():=by kernel_rfl
theorem FX(a b c d:Value):argsOk "object.__init__" ⟨[a,b,c,d],[]⟩:=by
 delta argsOk;kernel_rfl
noncomputable abbrev zq1(h:Heap)(l1:Addr):Heap:=h.push {cls:=.type "list_iterator",data:=.fields #[.ref l1,.int 0 0]}
noncomputable abbrev zq2(h:Heap)(l1 l2:Addr):Heap:=(zq1 h l1).push {cls:=.type "list_iterator",data:=.fields #[.ref l2,.int 0 0]}
noncomputable abbrev zq3(h:Heap)(l1 l2 l3:Addr):Heap:=(zq2 h l1 l2).push {cls:=.type "list_iterator",data:=.fields #[.ref l3,.int 0 0]}
noncomputable abbrev zq4(h:Heap)(l1 l2 l3:Addr):Heap:=(zq3 h l1 l2 l3).push {cls:=.type "tuple",data:=.seq #[.ref h.objs.size,.ref (zq1 h l1).objs.size,.ref (zq2 h l1 l2).objs.size]}
noncomputable abbrev zq5(h:Heap)(l1 l2 l3:Addr):Heap:=(zq4 h l1 l2 l3).push {cls:=.type "tuple",data:=.seq #[.none,.none,.none]}
noncomputable abbrev zq6(h:Heap)(l1 l2 l3:Addr):Heap:=(zq5 h l1 l2 l3).push {cls:=.type "zip",data:=.fields #[.none,.bool false,.bool false,.ref (zq3 h l1 l2 l3).objs.size,.ref (zq4 h l1 l2 l3).objs.size]}
set_option maxHeartbeats 4000000 in
theorem OL(l1 l2 l3:Addr)(xs ys zs:Array Value):
 Meets (Builtin.«zip.__new__» ⟨[.type "zip",.ref l1,.ref l2,.ref l3],[]⟩) (fun V R s=>s.heap.IsList l1 xs∧s.heap.IsList l2 ys∧s.heap.IsList l3 zs∧
  R (.ok (.ret (.ref (zq5 s.heap l1 l2 l3).objs.size))) {s with heap:=zq6 s.heap l1 l2 l3}):=
 .of_wp fun O w A R s h=>by
  obtain⟨hp,g,d,tk,os⟩:=s;obtain⟨hl1,hl2,hl3,h⟩:=h
  have hsub:=sub_zip
  have hL1:Heap.IsList (Shared.heap ⟨hp,g,d,tk,os⟩) l1 xs:=hl1
  have hL2:Heap.IsList (Shared.heap ⟨hp.push {cls:=.type "list_iterator",data:=.fields #[.ref l1,.int 0 0]},g,d,tk,os⟩) l2 ys:=Heap.IsList.push hl2 _
  have hL3:Heap.IsList (Shared.heap ⟨(hp.push {cls:=.type "list_iterator",data:=.fields #[.ref l1,.int 0 0]}).push {cls:=.type "list_iterator",data:=.fields #[.ref l2,.int 0 0]},g,d,tk,os⟩) l3 zs:=Heap.IsList.push (Heap.IsList.push hl3 _) _
  wp_walk using wpAny_pyIter_list hL1,wpAny_pyIter_list hL2,wpAny_pyIter_list hL3
  exact⟨_,rfl,h⟩
theorem QJ{l3:Addr}{zs:Array Value}{Q:Value→Shared→Prop}(hl1:s.heap.IsList l1 xs)(hl2:s.heap.IsList l2 ys)(hl3:s.heap.IsList l3 zs)
 (h:∀h',IsZip h' (s.heap.objs.size+5) (s.heap.objs.size+3) (s.heap.objs.size+4) .none→Vn h' (s.heap.objs.size+3) (.ref s.heap.objs.size) (.ref (s.heap.objs.size+1)) (.ref (s.heap.objs.size+2))→
  Vn h' (s.heap.objs.size+4) .none .none .none→h'.IsListIter s.heap.objs.size l1 0→h'.IsListIter (s.heap.objs.size+1) l2 0→h'.IsListIter (s.heap.objs.size+2) l3 0→
  (∀c o,s.heap.get? c=some o→h'.get? c=some o)→Q (.ref (s.heap.objs.size+5)) {s with heap:=h'}):
 wpAny (model O w) A (call (.type "zip") [.ref l1,.ref l2,.ref l3]) Q E s:=by
 refine callType_new F.called_zip (by decide) (IG _ _ _) (JT _ _ _) (fun obj=>FX obj _ _ _) F.entry_zip_new
  (OL l1 l2 l3 xs ys zs) ⟨hl1,hl2,hl3,?_⟩
 have z1:(zq1 s.heap l1).objs.size=s.heap.objs.size+1:=size_push ..
 have z2:(zq2 s.heap l1 l2).objs.size=s.heap.objs.size+2:=by refine rr (size_push ..) (rr z1 ?_);rfl
 have z3:(zq3 s.heap l1 l2 l3).objs.size=s.heap.objs.size+3:=by refine rr (size_push ..) (rr z2 ?_);rfl
 have z4:(zq4 s.heap l1 l2 l3).objs.size=s.heap.objs.size+4:=by refine rr (size_push ..) (rr z3 ?_);rfl
 have z5:(zq5 s.heap l1 l2 l3).objs.size=s.heap.objs.size+5:=by refine rr (size_push ..) (rr z4 ?_);rfl
 have g6:(zq6 s.heap l1 l2 l3).get? (zq5 s.heap l1 l2 l3).objs.size=some _:=get?_push_size _ rfl
 have g5:(zq6 s.heap l1 l2 l3).get? (zq4 s.heap l1 l2 l3).objs.size=some _:=get?_push_of_some _ (get?_push_size _ rfl)
 have g4:(zq6 s.heap l1 l2 l3).get? (zq3 s.heap l1 l2 l3).objs.size=some _:=get?_push_of_some _ (get?_push_of_some _ (get?_push_size _ rfl))
 have g3:(zq6 s.heap l1 l2 l3).get? (zq2 s.heap l1 l2).objs.size=some _:=get?_push_of_some _ (get?_push_of_some _ (get?_push_of_some _ (get?_push_size _ rfl)))
 have g2:(zq6 s.heap l1 l2 l3).get? (zq1 s.heap l1).objs.size=some _:=get?_push_of_some _ (get?_push_of_some _ (get?_push_of_some _ (get?_push_of_some _ (get?_push_size _ rfl))))
 have g1:(zq6 s.heap l1 l2 l3).get? s.heap.objs.size=some _:=get?_push_of_some _ (get?_push_of_some _ (get?_push_of_some _ (get?_push_of_some _ (get?_push_of_some _ (get?_push_size _ rfl)))))
 show _∧_
 rw[z3,z4,z5]at g6
 rw[z1,z2,z3]at g4
 rw[z4]at g5
 rw[z2]at g3
 rw[z1]at g2
 refine rr z5 ?_
 exact⟨⟨_,g6,rfl⟩,h _ g6 g4 g5 ⟨_,g1,rfl,rfl⟩ ⟨_,g2,rfl,rfl⟩ ⟨_,g3,rfl,rfl⟩ fun c o x=>
  get?_push_of_some _ (get?_push_of_some _ (get?_push_of_some _ (get?_push_of_some _ (get?_push_of_some _ (get?_push_of_some _ x)))))⟩
noncomputable def JU(xs ys zs:List Dat):List Dat:=List.zipWith (fun x q=>.tuple [x,q.1,q.2]) xs (ys.zip zs)
theorem QK{xs ys zs:List Dat}{i:Nat}(e:(JU xs ys zs)[i]?=some d):∃x y z,xs[i]?=some x∧ys[i]?=some y∧zs[i]?=some z∧d=.tuple [x,y,z]:=by
 obtain⟨x,q,hx,hq,rfl⟩:=List.getElem?_zipWith_eq_some.mp e
 have h:=List.getElem?_zip_eq_some.mp hq
 exact⟨x,q.1,q.2,hx,h.1,h.2,rfl⟩
theorem QL(xs ys zs:List Dat):xs.length≤(JU xs ys zs).length∨ys.length≤(JU xs ys zs).length∨zs.length≤(JU xs ys zs).length:=by
 delta JU
 refine rr List.length_zipWith (rr length_zip ?_)
 exact(le_total xs.length (min ys.length zs.length)).elim (fun h=>.inl (Nat.le_of_eq (min_eq_left h).symm)) fun h=>.inr ((le_total ys.length zs.length).elim
  (fun g=>.inl (Nat.le_of_eq ((min_eq_right h).trans (min_eq_left g)).symm)) fun g=>.inr (Nat.le_of_eq ((min_eq_right h).trans (min_eq_right g)).symm))
noncomputable abbrev zwr(z TI TO:Addr)(L:List CH):List Addr:=z::TI::TO::L.map CH.it
theorem Dz.off(k:Dz z TO L h h'):∀b o,b∉zwr z TI TO L→h.get? b=some o→h'.get? b=some o:=
 fun b o hb e=>k b o (fun x=>hb (x▸ .head _)) (fun x=>hb (x▸ .tail _ (.tail _ (.head _)))) (fun m hm x=>hb (x▸ .tail _ (.tail _ (.tail _ (mem_map_of_mem hm))))) e
theorem ZIn.frame(x:ZIn h z TI TO L k f0)(hk:∀b∈zwr z TI TO L++L.map CH.ls,∀o,h.get? b=some o→h'.get? b=some o):ZIn h' z TI TO L k f0:=
 ⟨hk _ (.head _) _ x.z,hk _ (.tail _ (.head _)) _ x.ti,x.to.elim fun old q=>⟨old,q.1,hk _ (.tail _ (.tail _ (.head _))) _ q.2⟩,
  fun m hm=>(x.ls m hm).keep (hk _ (mem_append_left _ (.tail _ (.tail _ (.tail _ (mem_map_of_mem hm)))))) (hk _ (mem_append_right _ (mem_map_of_mem hm)))⟩
theorem ZIn.alive(x:ZIn h z TI TO L k f0):∀b∈zwr z TI TO L,∃o,h.get? b=some o:=
 forall_mem_cons.mpr ⟨⟨_,x.z⟩,forall_mem_cons.mpr ⟨⟨_,x.ti⟩,forall_mem_cons.mpr ⟨x.to.elim fun V q=>⟨_,q.2⟩,List.forall_mem_map.mpr fun m hm=>GG.live (x.ls m hm).it⟩⟩⟩
theorem Xa{f:CH→Value}{d:CH→Dat}:∀{L:List CH},(∀m∈L,Fz g (f m) (d m))→FzL g (L.map f) (L.map d):=by
 intro L
 induction L with
 |nil=>
  intro _
  exact .nil
 |cons _ _ ih=>
  intro h
  exact .cons (h _ (.head _)) (ih fun m hm=>h m (.tail _ hm))
structure ZDs(L:List CH)(ds:List Dat):Prop where
 item:∀(i:Nat) (d:Dat),ds[i]?=some d→∃f:CH→Dat,d=Dat.tuple (L.map f)∧∀m∈L,m.ds[i]?=some (f m)
 stop:∃m∈L,m.ds.length≤ds.length
theorem Src.zipN(hh:A.handled=none){l:CH}(D:ZAp z TI TO (l::L))(hs:(l::L).length≤100){G:Cd}(hG:∀m∈l::L,(∃o,G m.ls o)∧FzL G m.vs m.ds)(hd:ZDs (l::L) ds):
 Src O w A (.Tuple elts k pos) z (zwr z TI TO (l::L)++(l::L).map CH.ls) (zwr z TI TO (l::L)) G ds (fun i h=>ZIn h z TI TO (l::L) i .none) (fun i v h=>∃T,v=.ref T∧ZIn h z TI TO (l::L) (i+1) (rawInt T)) where
 sub:=fun V hb=>mem_append_left _ hb
 seen:=fun b hb=>(mem_append.mp hb).imp id fun q=>(List.forall_mem_map (P:=fun b=>∃o,G b o)).mpr (fun m hm=>(hG m hm).1) b q
 frame:=fun V V V x hk=>x.frame hk
 alive:=fun V V x=>x.alive
 item:=fun i s Q E d ed hst hg hQ=>by
  obtain⟨f,rfl,hf⟩:=hd.item i d ed
  refine HP hh D hs hst (fun hall h' hz' ht hk=>hQ (.ref _) h' s.toks (.tuple (n:=0) (.inr ⟨AH _ (le_refl _),ht⟩) (Xa fun m hm=>?_)) ⟨_,rfl,hz'⟩ hk.off) fun⟨m,hm,e⟩=>?_
  ·obtain⟨v,ev,fv⟩:=(hG m hm).2.get (hf m hm)
   refine rr (Option.some.inj ((hall m hm).symm.trans ev)) ?_
   exact fv.mono fun V V g=>.inl g
  ·obtain⟨v,ev,_⟩:=(hG m hm).2.get (hf m hm)
   rw[e]at ev
   cases ev
 go:=by
  rintro i v s Q E ⟨T,hv,x⟩ hQ
  refine rr hv ?_
  refine wpAny_letOwnedTupleGo_zip x.z fun h' hz' hs'=>hQ h' ⟨hz',hs'.extBut _ _ D.TIz x.ti,x.to.elim fun old q=>⟨old,q.1,hs'.extBut _ _ D.TOz q.2⟩,fun m hm=>(x.ls m hm).keep (fun o=>hs'.extBut _ o (D.off m hm).iz) (fun o=>hs'.extBut _ o (D.off m hm).lz)⟩ fun c o hc e=>hs'.extBut _ _ (fun q=>hc (q▸ .head _)) e
 done:=fun s Q E hst hQ=>by
  refine HP hh D hs hst (fun hall=>?_) fun V h' hk=>hQ h' s.toks hk.off
  obtain⟨m,hm,q⟩:=hd.stop
  have e:=hall m hm
  rw[List.getElem?_eq_none ((hG m hm).2.length▸q)]at e
  cases e
 self:=fun i s Q E hst hQ=>wpAny_pyIter_zip hst.z hQ
theorem ZAp.new{s:Nat}(hi:L.map CH.it=List.range' s L.length)(hl:∀m∈L,m.ls<s):ZAp (s+L.length+2) (s+L.length) (s+L.length+1) L where
 TIz:=ne_of_lt (Nat.lt_add_of_pos_right (by decide))
 TOz:=ne_of_lt (lt_succ_self _)
 TITO:=ne_of_lt (lt_succ_self _)
 off:=fun m hm=>by
  have h1:m.it<s+L.length:=(List.mem_range'_1.mp (hi▸mem_map_of_mem hm)).2
  have h2:=lt_of_lt_of_le (hl m hm) (le_add_right s L.length)
  exact⟨ne_of_lt (Nat.lt_add_right 2 h1),ne_of_lt h1,ne_of_lt (Nat.lt_add_right 1 h1),ne_of_lt (Nat.lt_add_right 2 h2),ne_of_lt (Nat.lt_add_right 1 h2)⟩
 ls:=fun m hm c hc=>ne_of_lt (lt_of_lt_of_le (hl m hm) (List.mem_range'_1.mp (hi▸mem_map_of_mem hc)).1)
 its:=(List.pairwise_map (f:=CH.it) (R:=fun a b:Addr=>a≠b)).mp (hi▸List.Pairwise.imp ne_of_lt List.pairwise_lt_range')
theorem JV{Q:List Dat→St→Prop}{l:CH}(hR:CG A n)(r:Rel U R Y st as s.heap)(hlt:∀b∈as,∃o,s.heap.get? b=some o)
 (hi:(l::L).map CH.it=List.range' s.heap.objs.size (l::L).length) (hs:(l::L).length≤100) (keep:∀b o,s.heap.get? b=some o→h'.get? b=some o) (hG:∀m∈l::L,(∃o,vis R as s.heap m.ls o)∧FzL (vis R as s.heap) m.vs m.ds)
 (hZ:ZIn h' (s.heap.objs.size+(l::L).length+2) (s.heap.objs.size+(l::L).length) (s.heap.objs.size+(l::L).length+1) (l::L) 0 .none) (hd:ZDs (l::L) ds) (q:Q ds st):
 PS O w U A R Y as s (.Tuple elts k pos) Q (.ref (s.heap.objs.size+(l::L).length+2)) {s with heap:=h'}:=by
 have hl:∀m∈l::L,m.ls<s.heap.objs.size:=fun m hm=>(hG m hm).1.elim fun V g=>lt_size g.2.2
 have new:∀b∈zwr (s.heap.objs.size+(l::L).length+2) (s.heap.objs.size+(l::L).length) (s.heap.objs.size+(l::L).length+1) (l::L),s.heap.get? b=none∧∃o,h'.get? b=some o:=fun b hb=>by
  refine⟨AH _ ?_,hZ.alive b hb⟩
  exact forall_mem_cons.mpr ⟨Nat.le_add_right_of_le (le_add_right _ _),forall_mem_cons.mpr ⟨le_add_right _ _,forall_mem_cons.mpr ⟨Nat.le_add_right_of_le (le_add_right _ _),fun b hb=>(List.mem_range'_1.mp (hi▸hb)).1⟩⟩⟩ b hb
 obtain⟨_,kv⟩:=r.laid keep new hlt
 exact PS.mk' (t2:=s.toks) (Ai.refl _ _) r hlt keep new (Src.zipN hR.handled (ZAp.new hi hl) hs (fun m hm=>⟨(hG m hm).1.imp fun V=>kv _ _,(hG m hm).2.mono kv⟩) hd) hZ q
theorem GH{xs:List Dat}{P:List Value→Prop}(f:FzL g vs (.list xs::ds))(k:∀(l:Addr) (v:List Value) (m:Nat) (ws:List Value),g l (seqObj "list" v.toArray m)→FzL g v xs→FzL g ws ds→P (.ref l::ws)):P vs:=by
 cases f with
 |cons f r=>cases f with|list h x=>exact k _ _ _ _ h x r
theorem Mv{P:List Value→Prop}(f:FzL g vs [])(k:P []):P vs:=by cases f;exact k
noncomputable def CH.dat(i:Nat)(m:CH):Dat:=(m.ds[i]?).getD .none
theorem CH.dat_eq{m:CH}{i:Nat}(e:m.ds[i]?=some d):m.dat i=d:=by delta CH.dat;refine rr e ?_;rfl
theorem fk{xs ys:List Dat}{t1 t2:Bool}:ZDs [⟨i1,l1,v1,xs,t1⟩,⟨i2,l2,v2,ys,t2⟩] (FO xs ys) where
 item:=fun i d e=>by
  obtain⟨x,y,ex,ey,rfl⟩:=Ng e
  have e1:=CH.dat_eq (m:=⟨i1,l1,v1,xs,t1⟩) ex
  have e2:=CH.dat_eq (m:=⟨i2,l2,v2,ys,t2⟩) ey
  exact⟨CH.dat i,by refine rl e1 (rl e2 ?_);rfl,forall_mem_cons.mpr ⟨e1▸ex,forall_mem_cons.mpr ⟨e2▸ey,Cw⟩⟩⟩
 stop:=by
  delta FO
  refine rr List.length_zipWith ?_
  exact(le_total xs.length ys.length).elim (fun h=>⟨_,.head _,Nat.le_min.mpr ⟨le_refl _,h⟩⟩) fun h=>⟨_,.tail _ (.head _),Nat.le_min.mpr ⟨h,le_refl _⟩⟩
theorem fX{i3 l3:Addr}{v3:List Value}{xs ys us:List Dat}:ZDs [⟨i1,l1,v1,xs,false⟩,⟨i2,l2,v2,ys,false⟩,⟨i3,l3,v3,us,false⟩] (JU xs ys us) where
 item:=fun i d e=>by
  obtain⟨x,y,u,ex,ey,eu,rfl⟩:=QK e
  have e1:=CH.dat_eq (m:=⟨i1,l1,v1,xs,false⟩) ex
  have e2:=CH.dat_eq (m:=⟨i2,l2,v2,ys,false⟩) ey
  have e3:=CH.dat_eq (m:=⟨i3,l3,v3,us,false⟩) eu
  exact⟨CH.dat i,by refine rl e1 ?_;refine rl e2 (rl e3 ?_);rfl,forall_mem_cons.mpr ⟨e1▸ex,forall_mem_cons.mpr ⟨e2▸ey,forall_mem_cons.mpr ⟨e3▸eu,Cw⟩⟩⟩⟩
 stop:=(QL xs ys us).elim (fun h=>⟨_,.head _,h⟩) fun h=>h.elim (fun h=>⟨_,.tail _ (.head _),h⟩) fun h=>⟨_,.tail _ (.tail _ (.head _)),h⟩
theorem QM(S:Ao O K U){p:Pos}{Q:List Dat→St→Prop}(g:GlB sc K x)(hv:bootBuiltins x=some (.type "zip"))
 (h:El O w U sc n (e::es) st fun ds st1=>∃xs ys,ds=[.list xs,.list ys]∧Q (FO xs ys) st1)
 (he:autoParam (∀Y,starEach (e::es) Y=(false,eval e Y)::starEach es Y) au.a1._auto_1) (hp:autoParam (∀Y,(backTo pos (starEach es Y)).any (·.1)=false) au.a1._auto_1):
 Es O w U sc n (.Call (.Name x p) (e::es) [] pos) (.Tuple elts k tp) st Q:=by
 refine JD S g hv h ?_ he hp
 rintro A Y R as s vs ds st1 hR r hlt fz ⟨xs,ys,rfl,q⟩
 refine GH (P:=fun vs=>wpAny _ A (call _ (vs)) _ _ s) fz fun l1 v1 k1 ws g1 x1 fz=>?_
 refine GH (P:=fun vs=>wpAny _ A (call _ (.ref l1::vs)) _ _ s) fz fun l2 v2 k2 ws g2 x2 fz=>?_
 refine Mv (P:=fun vs=>wpAny _ A (call _ (.ref l1:: .ref l2::vs)) _ _ s) fz ?_
 refine call_zip_2 (xs:=v1.toArray) (ys:=v2.toArray) ⟨_,g1.2.2,rfl,_,rfl⟩ ⟨_,g2.2.2,rfl,_,rfl⟩ fun h' a1 a2 a3 a4 a5 V keep=>wpAny_pyIter_zip a1 ?_
 exact JV (l:=⟨_,l1,v1,xs,false⟩) (L:=[⟨_,l2,v2,ys,false⟩]) hR r hlt rfl (show 2≤100 by decide) keep (forall_mem_cons.mpr ⟨⟨⟨_,g1⟩,x1⟩,forall_mem_cons.mpr ⟨⟨⟨_,g2⟩,x2⟩,Cw⟩⟩)
  ⟨a1,a2,⟨[.none,.none],rfl,a3⟩,forall_mem_cons.mpr ⟨⟨a4,_,keep _ _ g1.2.2,rfl,_,rfl⟩,forall_mem_cons.mpr ⟨⟨a5,_,keep _ _ g2.2.2,rfl,_,rfl⟩,Cw⟩⟩⟩ fk q
noncomputable abbrev zt1(h:Heap)(l1:Addr):Heap:=h.push {cls:=.type "tuple_iterator",data:=.fields #[.ref l1,.int 0 0]}
noncomputable abbrev zt2(h:Heap)(l1 l2:Addr):Heap:=(zt1 h l1).push {cls:=.type "list_iterator",data:=.fields #[.ref l2,.int 0 0]}
noncomputable abbrev zt3(h:Heap)(l1 l2:Addr):Heap:=(zt2 h l1 l2).push {cls:=.type "tuple",data:=.seq #[.ref h.objs.size,.ref (zt1 h l1).objs.size]}
noncomputable abbrev zt4(h:Heap)(l1 l2:Addr):Heap:=(zt3 h l1 l2).push {cls:=.type "tuple",data:=.seq #[.none,.none]}
noncomputable abbrev zt5(h:Heap)(l1 l2:Addr):Heap:=(zt4 h l1 l2).push {cls:=.type "zip",data:=.fields #[.none,.bool false,.bool false,.ref (zt2 h l1 l2).objs.size,.ref (zt3 h l1 l2).objs.size]}
set_option maxHeartbeats 4000000 in
theorem OM(l1 l2:Addr)(xs ys:Array Value):Meets (Builtin.«zip.__new__» ⟨[.type "zip",.ref l1,.ref l2],[]⟩) (fun V R s=>s.heap.IsTuple l1 xs∧s.heap.IsList l2 ys∧R (.ok (.ret (.ref (zt4 s.heap l1 l2).objs.size))) {s with heap:=zt5 s.heap l1 l2}):=
 .of_wp fun O w A R s h=>by
  obtain⟨hp,g,d,tk,os⟩:=s;obtain⟨hl1,hl2,h⟩:=h
  have hsub:=sub_zip
  have T1:Heap.IsTuple (Shared.heap ⟨hp,g,d,tk,os⟩) l1 xs:=hl1
  have T2:Heap.IsList (Shared.heap ⟨hp.push {cls:=.type "tuple_iterator",data:=.fields #[.ref l1,.int 0 0]},g,d,tk,os⟩) l2 ys:=Heap.IsList.push hl2 _
  wp_walk using wpAny_pyIter_tuple T1,wpAny_pyIter_list T2
  exact⟨_,rfl,h⟩
theorem QN{Q:Value→Shared→Prop}(hl1:s.heap.IsTuple l1 xs)(hl2:s.heap.IsList l2 ys)
 (h:∀h',IsZip h' (s.heap.objs.size+4) (s.heap.objs.size+2) (s.heap.objs.size+3) .none→FW h' (s.heap.objs.size+2) [.ref s.heap.objs.size,.ref (s.heap.objs.size+1)]→FW h' (s.heap.objs.size+3) [.none,.none]→
  h'.IsTupleIter s.heap.objs.size l1 0→h'.IsListIter (s.heap.objs.size+1) l2 0→(∀c o,s.heap.get? c=some o→h'.get? c=some o)→Q (.ref (s.heap.objs.size+4)) {s with heap:=h'}):wpAny (model O w) A (call (.type "zip") [.ref l1,.ref l2]) Q E s:=by
 refine callType_new F.called_zip (by decide) (F.typeCall_zip_2 _ _) (F.newCall_zip_2 _ _) (fun obj=>F.args_object_init_3 obj _ _) F.entry_zip_new (OM l1 l2 xs ys) ⟨hl1,hl2,(?_:_∧_)⟩
 have up:∀(g:Heap) (o:Obj) c x,g.get? c=some x→(g.push o).get? c=some x:=fun V V V V e=>get?_push_of_some _ e
 have z:(zt1 s.heap l1).objs.size=s.heap.objs.size+1∧(zt2 s.heap l1 l2).objs.size=s.heap.objs.size+2∧(zt3 s.heap l1 l2).objs.size=s.heap.objs.size+3∧(zt4 s.heap l1 l2).objs.size=s.heap.objs.size+4:=by simp[size_push]
 have g5:(zt5 s.heap l1 l2).get? (zt4 s.heap l1 l2).objs.size=some _:=get?_push_size _ rfl
 have g4:(zt5 s.heap l1 l2).get? (zt3 s.heap l1 l2).objs.size=some _:=up _ _ _ _ (get?_push_size _ rfl)
 have g3:(zt5 s.heap l1 l2).get? (zt2 s.heap l1 l2).objs.size=some _:=up _ _ _ _ (up _ _ _ _ (get?_push_size _ rfl))
 have g2:(zt5 s.heap l1 l2).get? (zt1 s.heap l1).objs.size=some _:=up _ _ _ _ (up _ _ _ _ (up _ _ _ _ (get?_push_size _ rfl)))
 have g1:(zt5 s.heap l1 l2).get? s.heap.objs.size=some _:=up _ _ _ _ (up _ _ _ _ (up _ _ _ _ (up _ _ _ _ (get?_push_size _ rfl))))
 have ku:∀c o,s.heap.get? c=some o→(zt5 s.heap l1 l2).get? c=some o:=fun c o x=>up _ _ _ _ (up _ _ _ _ (up _ _ _ _ (up _ _ _ _ (up _ _ _ _ x))))
 rw[z.2.1,z.2.2.1,z.2.2.2]at g5
 rw[z.1,z.2.1]at g3
 rw[z.2.2.1]at g4
 rw[z.1]at g2
 refine rr z.2.2.2 ?_
 exact⟨⟨_,g5,rfl⟩,h _ g5 g3 g4 ⟨_,g1,rfl,rfl⟩ ⟨_,g2,rfl,rfl⟩ ku⟩
theorem Xb{xs:List Dat}{P:List Value→Prop}(f:FzL g vs (.tuple xs::ds))(k:∀(l:Addr) (v:List Value) (m:Nat) (ws:List Value),g l (seqObj "tuple" v.toArray m)→FzL g v xs→FzL g ws ds→P (.ref l::ws)):P vs:=by
 cases f with
 |cons f r=>cases f with|tuple h x=>exact k _ _ _ _ h x r
theorem Mw(S:Ao O K U){p:Pos}{Q:List Dat→St→Prop}(g:GlB sc K x)(hv:bootBuiltins x=some (.type "zip"))
 (h:El O w U sc n (e::es) st fun ds st1=>∃xs ys,ds=[.tuple xs,.list ys]∧Q (FO xs ys) st1)
 (he:autoParam (∀Y,starEach (e::es) Y=(false,eval e Y)::starEach es Y) au.a1._auto_1) (hp:autoParam (∀Y,(backTo pos (starEach es Y)).any (·.1)=false) au.a1._auto_1):
 Es O w U sc n (.Call (.Name x p) (e::es) [] pos) (.Tuple elts k tp) st Q:=by
 refine JD S g hv h ?_ he hp
 rintro A Y R as s vs ds st1 hR r hlt fz ⟨xs,ys,rfl,q⟩
 refine Xb (P:=fun vs=>wpAny _ A (call _ (vs)) _ _ s) fz fun l1 v1 k1 ws g1 x1 fz=>?_
 refine GH (P:=fun vs=>wpAny _ A (call _ (.ref l1::vs)) _ _ s) fz fun l2 v2 k2 ws g2 x2 fz=>?_
 refine Mv (P:=fun vs=>wpAny _ A (call _ (.ref l1:: .ref l2::vs)) _ _ s) fz ?_
 refine QN (xs:=v1.toArray) (ys:=v2.toArray) ⟨_,g1.2.2,rfl,_,rfl⟩ ⟨_,g2.2.2,rfl,_,rfl⟩ fun h' a1 a2 a3 a4 a5 keep=>wpAny_pyIter_zip a1 ?_
 exact JV (l:=⟨_,l1,v1,xs,true⟩) (L:=[⟨_,l2,v2,ys,false⟩]) hR r hlt rfl (show 2≤100 by decide) keep (forall_mem_cons.mpr ⟨⟨⟨_,g1⟩,x1⟩,forall_mem_cons.mpr ⟨⟨⟨_,g2⟩,x2⟩,Cw⟩⟩)
  ⟨a1,a2,⟨[.none,.none],rfl,a3⟩,forall_mem_cons.mpr ⟨⟨a4,_,keep _ _ g1.2.2,rfl,_,rfl⟩,forall_mem_cons.mpr ⟨⟨a5,_,keep _ _ g2.2.2,rfl,_,rfl⟩,Cw⟩⟩⟩ fk q
theorem Xc(S:Ao O K U){p:Pos}{Q:List Dat→St→Prop}(g:GlB sc K x)(hv:bootBuiltins x=some (.type "zip"))
 (h:El O w U sc n (e::es) st fun ds st1=>∃xs ys zs,ds=[.list xs,.list ys,.list zs]∧Q (JU xs ys zs) st1)
 (he:autoParam (∀Y,starEach (e::es) Y=(false,eval e Y)::starEach es Y) au.a1._auto_1) (hp:autoParam (∀Y,(backTo pos (starEach es Y)).any (·.1)=false) au.a1._auto_1):
 Es O w U sc n (.Call (.Name x p) (e::es) [] pos) (.Tuple elts k tp) st Q:=by
 refine JD S g hv h ?_ he hp
 rintro A Y R as s vs ds st1 hR r hlt fz ⟨xs,ys,zs,rfl,q⟩
 refine GH (P:=fun vs=>wpAny _ A (call _ (vs)) _ _ s) fz fun l1 v1 k1 ws g1 x1 fz=>?_
 refine GH (P:=fun vs=>wpAny _ A (call _ (.ref l1::vs)) _ _ s) fz fun l2 v2 k2 ws g2 x2 fz=>?_
 refine GH (P:=fun vs=>wpAny _ A (call _ (.ref l1:: .ref l2::vs)) _ _ s) fz fun l3 v3 k3 ws g3 x3 fz=>?_
 refine Mv (P:=fun vs=>wpAny _ A (call _ (.ref l1:: .ref l2:: .ref l3::vs)) _ _ s) fz ?_
 refine QJ (xs:=v1.toArray) (ys:=v2.toArray) (zs:=v3.toArray) ⟨_,g1.2.2,rfl,_,rfl⟩ ⟨_,g2.2.2,rfl,_,rfl⟩ ⟨_,g3.2.2,rfl,_,rfl⟩ fun h' a1 a2 a3 a4 a5 a6 keep=>wpAny_pyIter_zip a1 ?_
 exact JV (l:=⟨_,l1,v1,xs,false⟩) (L:=[⟨_,l2,v2,ys,false⟩,⟨_,l3,v3,zs,false⟩]) hR r hlt rfl (show 3≤100 by decide) keep (forall_mem_cons.mpr ⟨⟨⟨_,g1⟩,x1⟩,forall_mem_cons.mpr ⟨⟨⟨_,g2⟩,x2⟩,forall_mem_cons.mpr ⟨⟨⟨_,g3⟩,x3⟩,Cw⟩⟩⟩)
  ⟨a1,a2,⟨[.none,.none,.none],rfl,a3⟩,forall_mem_cons.mpr ⟨⟨a4,_,keep _ _ g1.2.2,rfl,_,rfl⟩,forall_mem_cons.mpr ⟨⟨a5,_,keep _ _ g2.2.2,rfl,_,rfl⟩,forall_mem_cons.mpr ⟨⟨a6,_,keep _ _ g3.2.2,rfl,_,rfl⟩,Cw⟩⟩⟩⟩ fX q
abbrev FY(h:Heap)(z TI TO T:Addr)(b:Bool):Prop:=
 h.get? z=some {cls:=.type "zip",dict:=none,data:=.fields #[rawInt T,.bool b,.bool false,.ref TI,.ref TO],slots:=#[]}
theorem Ek{a:Addr}{Q:Option Obj→Shared→Prop}(ho:s.heap.get? a=some o)(h:Q (some o) s):wpAny (model O w) A (loadIfAlive a) Q E s:=by
 intro Γ p hΓ
 delta loadIfAlive
 refine rr (Sem.wp_loadIfAlive ..) (rr ho ?_)
 exact h
theorem FZ{T:Addr}{b:Bool}{Q:Bool→Shared→Prop}(hz:FY s.heap z TI TO T b)(hT:s.heap.get? T=some o)
 (hQ:∀h',FY h' z TI TO T true→Heap.SameBut z s.heap h'→Q false {s with heap:=h'}):wpAny (model O w) A (Builtin.SmallTypes.ownedTupleIsFree (.ref z)) Q E s:=by
 delta Builtin.SmallTypes.ownedTupleIsFree
 refine wpAny_bind (wpAny_field hz rfl (x:=rawInt T) rfl ?_)
 show wpAny _ _ (loadIfAlive (Int.toNat (T:Int))>>=_) _ _ _
 refine wpAny_bind (Ek (a:=T) hT ?_)
 refine rr (if_neg (show¬(some o).isNone=true from Bool.false_ne_true)) ?_
 refine wpAny_bind (wpAny_field hz rfl (x:=.bool b) rfl ?_)
 rcases b with _|_
 ·
  refine rr (if_pos (by decide)) ?_
  refine wpAny_bind (wpAny_setField_rec hz (by simp) fun h1 hz1 hs1=>?_)
  exact wpAny_pure (hQ h1 hz1 hs1)
 ·
  refine rr (if_neg (by decide)) ?_
  exact wpAny_pure (hQ s.heap hz ⟨rfl,fun V V=>rfl⟩)
theorem JW{T:Addr}{b:Bool}{k1 k2:Nat}{x y:Value}{Q:Value→Shared→Prop}(D:ZipApart z TI TO i1 i2 l1 l2)
 (hz:FY s.heap z TI TO T b) (hT:s.heap.get? T=some o) (hTI:IsPair s.heap TI (.ref i1) (.ref i2))
 (h1:s.heap.IsListIter i1 l1 k1) (h2:s.heap.IsListIter i2 l2 k2) (hl1:s.heap.IsList l1 xs) (hl2:s.heap.IsList l2 ys) (hx:xs[k1]?=some x) (hy:ys[k2]?=some y)
 (hQ:∀h',FY h' z TI TO T true→h'.IsListIter i1 l1 (k1+1)→h'.IsListIter i2 l2 (k2+1)→IsPair h' s.heap.objs.size x y→h'.objs.size=s.heap.objs.size+1→
  (∀c o,c≠z→c≠i1→c≠i2→s.heap.get? c=some o→h'.get? c=some o)→Q (.ref s.heap.objs.size) {s with heap:=h'}):
 wpAny (model O w) A (Builtin.«zip.__next__» ⟨[.ref z],[]⟩) (fun fin s'=>∃v,fin=.done (.ret v)∧Q v s') E s:=by
 show wpAny _ _ (field (.ref z) 2>>=_) _ _ _
 refine wpAny_bind (wpAny_field hz rfl (x:=.bool false) rfl ?_)
 show wpAny _ _ (field (.ref z) 3>>=_) _ _ _
 refine wpAny_bind (wpAny_field hz rfl (x:=.ref TI) rfl ?_)
 refine wpAny_bind (wpAny_seqItems hTI rfl ?_)
 show wpAny _ _ (Builtin.SmallTypes.ownedTupleIsFree (.ref z)>>=_) _ _ _
 refine wpAny_bind (FZ hz hT fun h₁ hz₁ hs₁=>?_)
 refine rr (if_neg Bool.false_ne_true) ?_
 refine wpAny_bind ?_
 refine rr (List.forIn_toArray ..) (rr (forIn_cons ..) ?_)
 refine wpAny_bind (wpAny_bind (wpAny_holding ?_))
 show wpAny _ _ (Builtin.SmallTypes.nextOf (.ref i1)>>=_) _ _ _
 refine wpAny_bind (wpAny_nextOf_list_item (h1.extBut hs₁.extBut D.i1z) (hl1.extBut hs₁.extBut D.l1z) hx fun h₂ h1₂ hs₂=>wpAny_pure (wpAny_pure ?_))
 dsimp only
 refine rr (forIn_cons ..) ?_
 refine wpAny_bind (wpAny_bind (wpAny_holding ?_))
 show wpAny _ _ (Builtin.SmallTypes.nextOf (.ref i2)>>=_) _ _ _
 refine wpAny_bind (wpAny_nextOf_list_item ((h2.extBut hs₁.extBut D.i2z).extBut hs₂.extBut D.i12.symm) ((hl2.extBut hs₁.extBut D.l2z).extBut hs₂.extBut D.l2i1) hy fun h₃ h2₃ hs₃=>wpAny_pure (wpAny_pure (wpAny_pure ?_)))
 show wpAny _ _ (newTuple [x,y]>>=_) _ _ _
 refine wpAny_bind (wpAny_newTuple ?_)
 have hsz:h₃.objs.size=s.heap.objs.size:=by refine rr hs₃.1 ?_;refine rr hs₂.1 (rr hs₁.1 ?_);rfl
 refine wpAny_pure ⟨_,rfl,?_⟩
 show Q (.ref h₃.objs.size) {s with heap:=h₃.push {cls:=.type "tuple",data:=.seq #[x,y]}}
 have up:∀c o,c≠z→c≠i1→c≠i2→s.heap.get? c=some o→(h₃.push {cls:=.type "tuple",data:=.seq #[x,y]}).get? c=some o:=fun c o c1 c2 c3 e=>
  get?_push_of_some _ (hs₃.extBut _ _ c3 (hs₂.extBut _ _ c2 (hs₁.extBut _ _ c1 e)))
 have hp:IsPair (h₃.push {cls:=.type "tuple",data:=.seq #[x,y]}) h₃.objs.size x y:=get?_push_size _ rfl
 rw[hsz]at hp⊢
 refine hQ _ (get?_push_of_some _ (hs₃.extBut _ _ D.i2z.symm (hs₂.extBut _ _ D.i1z.symm hz₁))) ?_ ?_ hp (by refine rr (size_push ..) (rr hsz ?_);rfl) up
 ·exact(h1₂.extBut hs₃.extBut D.i12).at fun o e=>get?_push_of_some _ e
 ·exact h2₃.at fun o e=>get?_push_of_some _ e
theorem Li{T:Addr}{b:Bool}{k1 k2:Nat}{Q:Fin→Shared→Prop}(hh:A.handled=none)(D:ZipApart z TI TO i1 i2 l1 l2)
 (hz:FY s.heap z TI TO T b) (hT:s.heap.get? T=some o) (hTI:IsPair s.heap TI (.ref i1) (.ref i2))
 (h1:s.heap.IsListIter i1 l1 k1) (h2:s.heap.IsListIter i2 l2 k2) (hl1:s.heap.IsList l1 xs) (hl2:s.heap.IsList l2 ys) (hend:xs[k1]?=none∨ys[k2]?=none)
 (hE:∀h' e,(∀c o,c≠z→c≠i1→c≠i2→s.heap.get? c=some o→h'.get? c=some o)→(∃o,h'.get? e=some o∧o.cls=.type "StopIteration")→E (.ref e) {s with heap:=h'}):
 wpAny (model O w) A (Builtin.«zip.__next__» ⟨[.ref z],[]⟩) Q E s:=by
 show wpAny _ _ (field (.ref z) 2>>=_) _ _ _
 refine wpAny_bind (wpAny_field hz rfl (x:=.bool false) rfl ?_)
 show wpAny _ _ (field (.ref z) 3>>=_) _ _ _
 refine wpAny_bind (wpAny_field hz rfl (x:=.ref TI) rfl ?_)
 refine wpAny_bind (wpAny_seqItems hTI rfl ?_)
 show wpAny _ _ (Builtin.SmallTypes.ownedTupleIsFree (.ref z)>>=_) _ _ _
 refine wpAny_bind (FZ hz hT fun h₁ hz₁ hs₁=>?_)
 refine rr (if_neg Bool.false_ne_true) ?_
 refine wpAny_bind ?_
 refine rr (List.forIn_toArray ..) (rr (forIn_cons ..) ?_)
 refine wpAny_bind (wpAny_bind (wpAny_holding ?_))
 show wpAny _ _ (Builtin.SmallTypes.nextOf (.ref i1)>>=_) _ _ _
 cases hx:xs[k1]? with
 |none=>
  refine wpAny_bind (wpAny_nextOf_list_end hh (h1.extBut hs₁.extBut D.i1z) (hl1.extBut hs₁.extBut D.l1z) hx fun h₂ e hs₂ he=>?_)
  exact hE h₂ e (fun c o c1 c2 c3 x=>hs₂ _ _ c2 (hs₁.extBut _ _ c1 x)) he
 |some x=>
  have hy:ys[k2]?=none:=by rcases hend with h|h;rw[hx]at h;cases h;exact h
  refine wpAny_bind (wpAny_nextOf_list_item (h1.extBut hs₁.extBut D.i1z) (hl1.extBut hs₁.extBut D.l1z) hx fun h₂ h1₂ hs₂=>wpAny_pure (wpAny_pure ?_))
  dsimp only
  refine rr (forIn_cons ..) ?_
  refine wpAny_bind (wpAny_bind (wpAny_holding ?_))
  show wpAny _ _ (Builtin.SmallTypes.nextOf (.ref i2)>>=_) _ _ _
  refine wpAny_bind (wpAny_nextOf_list_end hh ((h2.extBut hs₁.extBut D.i2z).extBut hs₂.extBut D.i12.symm) ((hl2.extBut hs₁.extBut D.l2z).extBut hs₂.extBut D.l2i1) hy fun h₃ e hs₃ he=>?_)
  exact hE h₃ e (fun c o c1 c2 c3 x=>hs₃ _ _ c3 (hs₂.extBut _ _ c2 (hs₁.extBut _ _ c1 x))) he
theorem ON:typeLookup (.type "zip") "__len__"=pure none:=by refine rr (typeLookup_type ..) (rr builtinLookup_eq_fast ?_);kernel_rfl
theorem My:typeLookup (.type "zip") "__length_hint__"=pure none:=by refine rr (typeLookup_type ..) (rr builtinLookup_eq_fast ?_);kernel_rfl
theorem Hj{T:Addr}{b:Bool}{k1 k2:Nat}{x y:Value}{Q:Option Value→Shared→Prop}(D:ZipApart z TI TO i1 i2 l1 l2)
 (hz:FY s.heap z TI TO T b) (hT:s.heap.get? T=some o) (hTI:IsPair s.heap TI (.ref i1) (.ref i2))
 (h1:s.heap.IsListIter i1 l1 k1) (h2:s.heap.IsListIter i2 l2 k2) (hl1:s.heap.IsList l1 xs) (hl2:s.heap.IsList l2 ys) (hx:xs[k1]?=some x) (hy:ys[k2]?=some y)
 (hQ:∀h',FY h' z TI TO T true→h'.IsListIter i1 l1 (k1+1)→h'.IsListIter i2 l2 (k2+1)→IsPair h' s.heap.objs.size x y→h'.objs.size=s.heap.objs.size+1→
  (∀c o,c≠z→c≠i1→c≠i2→s.heap.get? c=some o→h'.get? c=some o)→Q (some (.ref s.heap.objs.size)) {s with heap:=h'}):
 wpAny (model O w) A (pyNext (.ref z)) Q E s:=by
 have hZ:s.TypeIs (.ref z) "zip":=⟨_,hz,rfl⟩
 delta pyNext
 exact wpAny_bind (wpAny_attempt (wpAny_callSpecial?_slot (name:=Str.ofString "__next__") hZ F.slot_zip_next
  (wpAny_call_entry F.slot_zip_next hZ F.entry_zip_next
   (JW D hz hT hTI h1 h2 hl1 hl2 hx hy fun h' a1 a2 a3 a4 a5 a6=>wpAny_pure (hQ h' a1 a2 a3 a4 a5 a6)) (F.args_zip_next_1 _))))
theorem HQ{T:Addr}{b:Bool}{k1 k2:Nat}{Q:Option Value→Shared→Prop}(hh:A.handled=none)(D:ZipApart z TI TO i1 i2 l1 l2)
 (hz:FY s.heap z TI TO T b) (hT:s.heap.get? T=some o) (hTI:IsPair s.heap TI (.ref i1) (.ref i2))
 (h1:s.heap.IsListIter i1 l1 k1) (h2:s.heap.IsListIter i2 l2 k2) (hl1:s.heap.IsList l1 xs) (hl2:s.heap.IsList l2 ys) (hend:xs[k1]?=none∨ys[k2]?=none)
 (hQ:∀h',(∀c o,c≠z→c≠i1→c≠i2→s.heap.get? c=some o→h'.get? c=some o)→Q none {s with heap:=h'}):wpAny (model O w) A (pyNext (.ref z)) Q E s:=by
 have hZ:s.TypeIs (.ref z) "zip":=⟨_,hz,rfl⟩
 delta pyNext
 refine wpAny_bind (wpAny_attempt (wpAny_callSpecial?_slot (name:=Str.ofString "__next__") hZ F.slot_zip_next
  (wpAny_call_entry F.slot_zip_next hZ F.entry_zip_next (Li hh D hz hT hTI h1 h2 hl1 hl2 hend fun h' e hk he=>?_) (F.args_zip_next_1 _))))
 obtain⟨o,ho,hc⟩:=he
 refine wpAny_bind (wpAny_isInstance (T:="StopIteration") (b:=true) ⟨o,ho,hc⟩ isSubtype_stop ?_)
 exact wpAny_pure (hQ _ hk)
theorem ne5{c x:α}{l:List α}(hc:c∉l)(m:x∈l):c≠x:=fun e=>hc (e▸m)
structure ZSt(h:Heap)(z TI TO i1 i2 l1 l2:Addr)(xs ys:Array Value)(k:Nat):Prop where
 zip:IsZip h z TI TO .none∨∃T b o,FY h z TI TO T b∧h.get? T=some o
 ti:IsPair h TI (.ref i1) (.ref i2)
 to:∃a b,IsPair h TO a b
 it1:h.IsListIter i1 l1 k
 it2:h.IsListIter i2 l2 k
 ls1:h.IsList l1 xs
 ls2:h.IsList l2 ys
theorem ZSt.keep{S:Addr}(Z:ZSt h z TI TO i1 i2 l1 l2 xs ys k)(hS:∃o,h'.get? S=some o)(nS:S∉[z,TI,TO,i1,i2,l1,l2])
 (k':∀b o,b≠S→h.get? b=some o→h'.get? b=some o):ZSt h' z TI TO i1 i2 l1 l2 xs ys k:=by
 obtain⟨h1,h2,⟨a,b,h3⟩,h4,h5,h6,h7⟩:=Z
 have k2:∀{b:Addr},b∈[z,TI,TO,i1,i2,l1,l2]→∀o,h.get? b=some o→h'.get? b=some o:=fun hb o e=>k' _ o (fun q=>nS (q▸hb)) e
 refine⟨?_,k2 (.tail _ (.head _)) _ h2,⟨a,b,k2 (.tail _ (.tail _ (.head _))) _ h3⟩,h4.at (k2 (.tail _ (.tail _ (.tail _ (.head _))))),h5.at (k2 (.tail _ (.tail _ (.tail _ (.tail _ (.head _)))))),h6.at (k2 (.tail _ (.tail _ (.tail _ (.tail _ (.tail _ (.head _))))))),h7.at (k2 (.tail _ (.tail _ (.tail _ (.tail _ (.tail _ (.tail _ (.head _))))))))⟩
 rcases h1 with h1|⟨T,b,o,h1,hT⟩
 ·exact .inl (k2 (.head _) _ h1)
 ·by_cases e:T=S
  ·obtain⟨o',ho'⟩:=hS
   exact .inr ⟨T,b,o',k2 (.head _) _ h1,e▸ho'⟩
  ·exact .inr ⟨T,b,o,k2 (.head _) _ h1,k' _ _ e hT⟩
theorem itl{l:Addr}(x:h.IsListIter i l k):i<h.objs.size:=by obtain⟨_,e,_⟩:=x;exact lt_size e
theorem lsl{l:Addr}(x:h.IsList l xs):l<h.objs.size:=by obtain⟨_,e,_⟩:=x;exact lt_size e
theorem ZSt.low(Z:ZSt h z TI TO i1 i2 l1 l2 xs ys k):∀c∈[z,TI,TO,i1,i2,l1,l2],c<h.objs.size:=
 alc (Z.zip.elim (fun q=>lt_size q) (by rintro⟨_,_,_,q,_⟩;exact lt_size q)) (alc (lt_size Z.ti) (alc (by obtain⟨_,_,q⟩:=Z.to;exact lt_size q) (alc (itl Z.it1) (alc (itl Z.it2) (alc (lsl Z.ls1) (alc (lsl Z.ls2) Cc))))))
theorem ZSt.item{x y:Value}{Q:Option Value→Shared→Prop}(D:ZipApart z TI TO i1 i2 l1 l2)(Z:ZSt s.heap z TI TO i1 i2 l1 l2 xs ys k)
 (hx:xs[k]?=some x) (hy:ys[k]?=some y)
 (hQ:∀h',ZSt h' z TI TO i1 i2 l1 l2 xs ys (k+1)→IsPair h' s.heap.objs.size x y→h'.objs.size=s.heap.objs.size+1→(∀c o,c∉[z,TI,TO,i1,i2]→s.heap.get? c=some o→h'.get? c=some o)→Q (some (.ref s.heap.objs.size)) {s with heap:=h'}):
 wpAny (model O w) A (pyNext (.ref z)) Q E s:=by
 obtain⟨h1,h2,⟨a,b,h3⟩,h4,h5,h6,h7⟩:=Z
 rcases h1 with h1|⟨T,b,o,h1,hT⟩
 ·refine wpAny_pyNext_zip_item D h1 h2 h3 h4 h5 h6 h7 hx hy fun h' a1 a2 a3 a4 a5 a6 hk=>?_
  refine hQ h' ⟨.inr ⟨_,false,_,a1,a5⟩,hk _ _ D.TIz D.TITO D.TIi1 D.TIi2 h2,⟨_,_,a2⟩,a3,a4,h6.at fun o e=>hk _ o D.l1z D.l1TO D.l1i1 D.l1i2 e,h7.at fun o e=>hk _ o D.l2z D.l2TO D.l2i1 D.l2i2 e⟩ a5 a6 fun c o hc e=>?_
  exact hk c o (ne5 hc (.head _)) (ne5 hc (.tail _ (.tail _ (.head _)))) (ne5 hc (.tail _ (.tail _ (.tail _ (.head _))))) (ne5 hc (.tail _ (.tail _ (.tail _ (.tail _ (.head _)))))) e
 ·refine Hj D h1 hT h2 h4 h5 h6 h7 hx hy fun h' a1 a3 a4 a5 a6 hk=>?_
  have hTz:∃o',h'.get? T=some o':=by
   by_cases e1:T=z
   ·exact⟨_,by refine rr e1 ?_;exact a1⟩
   by_cases e2:T=i1
   ·obtain⟨o',e,_⟩:=a3;exact⟨o',e2▸e⟩
   by_cases e3:T=i2
   ·obtain⟨o',e,_⟩:=a4;exact⟨o',e3▸e⟩
   exact⟨o,hk T o e1 e2 e3 hT⟩
  obtain⟨o',hT'⟩:=hTz
  refine hQ h' ⟨.inr ⟨T,true,o',a1,hT'⟩,hk _ _ D.TIz D.TIi1 D.TIi2 h2,⟨_,_,hk _ _ D.TOz D.TOi1 D.TOi2 h3⟩,a3,a4,h6.at fun o e=>hk _ o D.l1z D.l1i1 D.l1i2 e,h7.at fun o e=>hk _ o D.l2z D.l2i1 D.l2i2 e⟩ a5 a6 fun c o hc e=>?_
  exact hk c o (ne5 hc (.head _)) (ne5 hc (.tail _ (.tail _ (.tail _ (.head _))))) (ne5 hc (.tail _ (.tail _ (.tail _ (.tail _ (.head _)))))) e
theorem ZSt.done{Q:Option Value→Shared→Prop}(hh:A.handled=none)(D:ZipApart z TI TO i1 i2 l1 l2)(Z:ZSt s.heap z TI TO i1 i2 l1 l2 xs ys k)
 (hend:xs[k]?=none∨ys[k]?=none) (hQ:∀h',(∀c o,c∉[z,TI,TO,i1,i2]→s.heap.get? c=some o→h'.get? c=some o)→Q none {s with heap:=h'}):wpAny (model O w) A (pyNext (.ref z)) Q E s:=by
 obtain⟨h1,h2,⟨a,b,h3⟩,h4,h5,h6,h7⟩:=Z
 rcases h1 with h1|⟨T,b,o,h1,hT⟩
 ·refine wpAny_pyNext_zip_end hh D h1 h2 h3 h4 h5 h6 h7 hend fun h' hk=>hQ h' fun c o hc e=>?_
  exact hk c o (ne5 hc (.head _)) (ne5 hc (.tail _ (.tail _ (.head _)))) (ne5 hc (.tail _ (.tail _ (.tail _ (.head _))))) (ne5 hc (.tail _ (.tail _ (.tail _ (.tail _ (.head _)))))) e
 ·refine HQ hh D h1 hT h2 h4 h5 h6 h7 hend fun h' hk=>hQ h' fun c o hc e=>?_
  exact hk c o (ne5 hc (.head _)) (ne5 hc (.tail _ (.tail _ (.tail _ (.head _))))) (ne5 hc (.tail _ (.tail _ (.tail _ (.tail _ (.head _)))))) e
def cj(h₁ h:Heap)(S:Addr)(xs ys:Array Value)(as:List Addr):Prop:=∀(j:Nat) (a:Addr),as[j]?=some a→∃x y,xs[j]?=some x∧ys[j]?=some y∧IsPair h a x y∧h₁.objs.size≤a
theorem Xd{R:Result→Shared→Prop}{S:Addr}(hh:A.handled=none)(D:ZipApart z TI TO i1 i2 l1 l2)(nS:S∉[z,TI,TO,i1,i2,l1,l2])(hn:min xs.size ys.size≤sizeLine)(res:Value){h₁:Heap}
 (old:∀c∈[S,z,TI,TO,i1,i2],c<h₁.objs.size)
 (hR:∀h' tk acc c (as:List Addr),(∀b o,b∉[S,z,TI,TO,i1,i2]→h₁.get? b=some o→h'.get? b=some o)→h'.get? S=some {cls:=.type "list",dict:=none,data:=.seq acc c,slots:=#[]}→as.length=min xs.size ys.size→cj h₁ h' S xs ys as→
  acc.toList=as.map Value.ref→R (.ok (.ret res)) {s with heap:=h',toks:=tk}):
 ∀(k i:Nat) (h:Heap) (tk c:Nat) (acc:Array Value) (as:List Addr),min xs.size ys.size-i=k→i≤min xs.size ys.size→ZSt h z TI TO i1 i2 l1 l2 xs ys i→(∀b o,b∉[S,z,TI,TO,i1,i2]→h₁.get? b=some o→h.get? b=some o)→h₁.objs.size≤h.objs.size→
  h.get? S=some {cls:=.type "list",dict:=none,data:=.seq acc c,slots:=#[]}→acc.toList=as.map Value.ref→as.length=i→cj h₁ h S xs ys as→
  codeAny (model O w) A (.builtin "list.extend.loop" ⟨[.ref S,.ref z,res],[]⟩) R {s with heap:=h,toks:=tk}:=by
 have nS5:S∉[z,TI,TO,i1,i2]:=fun q=>nS (mem_append_left [l1,l2] q)
 intro k
 induction k with
 |zero=>
  intro i h tk c acc as hk hi hst hkeep hsz hS hacc hal hG
  refine codeAny_builtin PySem.F.entry_extend_loop ?_
  refine rr (Around.under_plainId PySem.F.plain_extend_loop _) ?_
  show wpAny _ A.in1 (pyNext (.ref z)>>=_) _ _ _
  have hend:xs[i]?=none∨ys[i]?=none:=by
   rcases le_total xs.size ys.size with q|q
   ·exact .inl (Array.getElem?_eq_none (by rw[min_eq_left q]at hk;exact Nat.le_of_sub_eq_zero hk))
   ·exact .inr (Array.getElem?_eq_none (by rw[min_eq_right q]at hk;exact Nat.le_of_sub_eq_zero hk))
  refine wpAny_bind (ZSt.done (s:={s with heap:=h,toks:=tk}) (A:=A.in1) hh D hst hend fun h' he=>?_)
  refine wpAny_pure (hR h' tk acc c as (fun b o h1 e=>he b o (fun q=>h1 (.tail _ q)) (hkeep b o h1 e)) (he S _ nS5 hS) (hal.trans (Nat.le_antisymm hi (Nat.le_of_sub_eq_zero hk))) (fun j a hj=>?_) hacc)
  obtain⟨x,y,e1,e2,e3,e4⟩:=hG j a hj
  exact⟨x,y,e1,e2,he a _ (fun q=>absurd (old a (.tail _ q)) (Nat.not_lt_of_le e4)) e3,e4⟩
 |succ k ih=>
  intro i h tk c acc as hk hi hst hkeep hsz hS hacc hal hG
  have hlt:i<min xs.size ys.size:=Nat.lt_of_sub_eq_succ hk
  have hix:i<xs.size:=lt_of_lt_of_le hlt (min_le_left ..)
  have hiy:i<ys.size:=lt_of_lt_of_le hlt (Nat.min_le_right ..)
  have hasz:acc.size=i:=by refine rl Array.length_toList (rr hacc ?_);refine rr (length_map ..) (rr hal ?_);rfl
  refine codeAny_builtin PySem.F.entry_extend_loop ?_
  refine rr (Around.under_plainId PySem.F.plain_extend_loop _) ?_
  show wpAny _ A.in1 (pyNext (.ref z)>>=_) _ _ _
  refine wpAny_bind (ZSt.item (s:={s with heap:=h,toks:=tk}) (A:=A.in1) D hst (getElem?_eq_getElem hix) (getElem?_eq_getElem hiy) fun h' hst' ht hz hkp=>?_)
  dsimp only at ht hz hkp⊢
  have hS':=hkp S _ nS5 hS
  have up:∀b o,b≠S→h'.get? b=some o→(h'.update S (Obj.mapSeq (·.push (Value.ref h.objs.size)))).get? b=some o:=fun b o hb e=>(Heap.get?_update_other _ _ (Ne.symm hb)).trans e
  have hSl:S<h.objs.size:=lt_size hS
  show wpAny _ A.in1 (updateSeq S (·.push (Value.ref h.objs.size))>>=_) _ _ _
  refine wpAny_bind ?_
  have hS2:=get?_update_self (Obj.mapSeq (·.push (Value.ref h.objs.size))) hS' rfl
  refine wpAny_updateSeq hS' rfl (wpAny_pure ⟨plainId_quiet PySem.F.plain_extend_loop _,ih (i+1) _ tk _ (acc.push (Value.ref h.objs.size)) (as++[h.objs.size]) (congrArg Nat.pred hk) hlt (hst'.keep ⟨_,hS2⟩ nS up)
   (fun b o h1 e=>up b o (fun q=>h1 (q▸ .head _)) (hkp b o (fun q=>h1 (.tail _ q)) (hkeep b o h1 e))) (by refine rr (size_update ..) ?_;show _≤h'.objs.size;exact Gu hsz (Nat.le_of_eq hz.symm)) hS2 (by refine rr Array.toList_push ?_;refine rr hacc (rr map_append ?_);rfl) (by refine rr length_append (rr hal ?_);rfl) ?_⟩) (by refine rr hasz ?_;exact Gu hn hi) (by show(acc.push (Value.ref h.objs.size)).size≤sizeLine+1;refine rr (Array.size_push ..) (rr hasz ?_);exact Gu hn hi)
  intro j b hj
  rcases Nat.lt_trichotomy j as.length with h1|h1|h1
  ·rw[List.getElem?_append_left h1]at hj
   obtain⟨x,y,e1,e2,e3,e4⟩:=hG j b hj
   have nb:b∉[S,z,TI,TO,i1,i2]:=fun q=>absurd (old b q) (Nat.not_lt_of_le e4)
   exact⟨x,y,e1,e2,up b _ (fun q=>nb (q▸ .head _)) (hkp b _ (fun q=>nb (.tail _ q)) e3),e4⟩
  ·subst h1
   have hb:h.objs.size=b:=Option.some.inj ((List.getElem?_concat_length ..).symm.trans hj)
   subst hb
   exact⟨_,_,by refine rr hal ?_;exact getElem?_eq_getElem hix,by refine rr hal ?_;exact getElem?_eq_getElem hiy,up _ _ (Nat.ne_of_gt hSl) ht,hsz⟩
  ·have hnone:(as++[h.objs.size])[j]?=none:=List.getElem?_eq_none (by refine rr length_append (rr length_singleton ?_);exact Ay h1)
   rw[hnone]at hj;cases hj
theorem QO{R:Result→Shared→Prop}{S:Addr}(hh:A.handled=none)(D:ZipApart z TI TO i1 i2 l1 l2)(nS:S∉[z,TI,TO,i1,i2,l1,l2])(hn:min xs.size ys.size≤sizeLine)(res:Value)(c₀:Nat)
 (Z:ZSt s.heap z TI TO i1 i2 l1 l2 xs ys 0) (hz:IsZip s.heap z TI TO .none) (hS:s.heap.get? S=some {cls:=.type "list",data:=.seq #[] c₀})
 (hR:∀h' tk acc c (as:List Addr),(∀b o,b∉[S,z,TI,TO,i1,i2]→s.heap.get? b=some o→h'.get? b=some o)→h'.get? S=some {cls:=.type "list",dict:=none,data:=.seq acc c,slots:=#[]}→as.length=min xs.size ys.size→cj s.heap h' S xs ys as→
  acc.toList=as.map Value.ref→R (.ok (.ret res)) {s with heap:=h',toks:=tk}):
 wpAny (model O w) A.in1 (Builtin.List.listExtendWith (.ref S) (.ref z) res)
  (fun fin s'=>match fin with| .done f=>R (.ok f) s' | .again c'=>c'.quiet=true∧codeAny (model O w) A c' R s') (fun e s'=>R (.error e) s') s:=by
 have hSz:S≠z:=fun q=>nS (q▸ .head _)
 delta Builtin.List.listExtendWith
 refine wpAny_bind (wpAny_typeOf (T:="zip") ⟨_,hz,rfl⟩ ?_)
 have h1:Builtin.List.listSameRef (.ref S) (.ref z)=false:=by simp[Builtin.List.listSameRef,hSz]
 refine rr (if_neg (by refine rr h1 ?_;decide)) ?_
 refine wpAny_bind (wpAny_pyIter_zip hz ?_)
 refine wpAny_bind (wpAny_holding ?_)
 delta Builtin.List.listLengthHint
 refine wpAny_bind (wpAny_specialOf (T:="zip") ⟨_,hz,rfl⟩ ON ?_)
 show wpAny _ A.in1 (specialOf (Value.ref z) (Str.ofString "__length_hint__")>>=_) _ _ _
 refine wpAny_bind (wpAny_specialOf (T:="zip") ⟨_,hz,rfl⟩ My ?_)
 refine wpAny_pure ?_
 show wpAny _ A.in1 (rule "list.extend.makes-room">>=fun V=>Builtin.List.listTouch (.ref S)>>=fun V=>
  again (.builtin "list.extend.loop" ⟨[.ref S,.ref z,res],[]⟩)) _ _ _
 refine wpAny_bind (wpAny_rule ?_)
 refine wpAny_bind ?_
 show wpAny _ A.in1 (updateSeq S (·.push .none)>>=fun V=>updateSeq S (·.pop)) _ _ _
 refine wpAny_bind (wpAny_updateSeq hS rfl ?_)
 have hS₂:=get?_update_self (Obj.mapSeq (·.push Value.none)) hS rfl
 refine wpAny_updateSeq (hz:=by seq_fits) hS₂ rfl ?_
 have hS₃:=get?_update_self (Obj.mapSeq (·.pop)) hS₂ rfl
 have oth:∀b o,b≠S→s.heap.get? b=some o→((s.heap.update S (Obj.mapSeq (·.push Value.none))).update S (Obj.mapSeq (·.pop))).get? b=some o:=
  fun b o hb e=>(Heap.get?_update_other _ _ (Ne.symm hb)).trans ((Heap.get?_update_other _ _ (Ne.symm hb)).trans e)
 refine wpAny_pure ⟨plainId_quiet PySem.F.plain_extend_loop _,Xd (h₁:=s.heap) hh D nS hn res ?_ hR _ 0 _ _ _ #[] [] rfl (zero_le _) (Z.keep ⟨_,hS₃⟩ nS oth) (fun b o hb e=>oth b o (fun q=>hb (q▸ .head _)) e) (by refine rr (size_update ..) (rr (size_update ..) ?_);exact le_refl _) hS₃ rfl rfl (fun j a hj=>by simp at hj)⟩
 exact alc (lt_size hS) fun c hc=>Z.low c (mem_append_left [l1,l2] hc)
theorem Xe{R:Result→Shared→Prop}{S:Addr}(hh:A.handled=none)(D:ZipApart z TI TO i1 i2 l1 l2)(nS:S∉[z,TI,TO,i1,i2,l1,l2])(hn:min xs.size ys.size≤sizeLine)
 (Z:ZSt s.heap z TI TO i1 i2 l1 l2 xs ys 0) (hz:IsZip s.heap z TI TO .none) (hS:s.heap.get? S=some {cls:=.type "list",data:=.seq #[]})
 (hR:∀h' tk acc c (as:List Addr),(∀b o,b∉[S,z,TI,TO,i1,i2]→s.heap.get? b=some o→h'.get? b=some o)→h'.get? S=some {cls:=.type "list",dict:=none,data:=.seq acc c,slots:=#[]}→as.length=min xs.size ys.size→cj s.heap h' S xs ys as→
  acc.toList=as.map Value.ref→R (.ok (.ret .none)) {s with heap:=h',toks:=tk}):
 wpAny (model O w) A.in1 (Builtin.«list.__init__» ⟨[.ref S,.ref z],[]⟩)
  (fun fin s'=>match fin with| .done f=>R (.ok f) s' | .again c'=>c'.quiet=true∧codeAny (model O w) A c' R s') (fun e s'=>R (.error e) s') s:=by
 show wpAny _ _ (do let old←Builtin.List.listItems (.ref S);Builtin.List.listUpdate (.ref S) (fun V=>#[]);letGo old.toList.reverse;Builtin.List.listExtendWith (.ref S) (.ref z) .none) _ _ s
 refine wpAny_bind ?_
 delta Builtin.List.listItems
 refine wpAny_bind (wpAny_seqItems hS rfl (wpAny_pure ?_))
 show wpAny _ _ (updateSeq S (fun V=>#[])>>=fun V=>letGo (#[]:Array Value).toList.reverse>>=fun V=>Builtin.List.listExtendWith (.ref S) (.ref z) .none) _ _ s
 refine wpAny_bind (wpAny_updateSeq hS rfl ?_)
 have hS₂:=get?_update_self (Obj.mapSeq (fun V=>(#[]:Array Value))) hS rfl
 have oth:∀b o,b≠S→s.heap.get? b=some o→(s.heap.update S (Obj.mapSeq (fun V=>(#[]:Array Value)))).get? b=some o:=
  fun b o hb e=>(Heap.get?_update_other _ _ (Ne.symm hb)).trans e
 refine wpAny_bind (wpAny_letGo ?_)
 refine QO (s:={s with heap:=s.heap.update S (Obj.mapSeq (fun V=>(#[]:Array Value)))}) hh D nS hn .none _ (Z.keep ⟨_,hS₂⟩ nS oth) (oth _ _ (fun q=>nS (q▸ .head _)) hz) hS₂ fun h' tk acc c as hk hS' hl hG hacc=>?_
 refine hR h' tk acc c as (fun b o hb e=>hk b o hb (oth b o (fun q=>hb (q▸ .head _)) e)) hS' hl (fun j a hj=>?_) hacc
 obtain⟨x,y,e1,e2,e3,e4⟩:=hG j a hj
 exact⟨x,y,e1,e2,e3,by have e4:=e4;dsimp only at e4;rw[size_update]at e4;exact e4⟩
theorem JX{Q:Value→Shared→Prop}(hh:A.handled=none)(D:ZipApart z TI TO i1 i2 l1 l2)(hn:min xs.size ys.size≤sizeLine)
 (Z:ZSt s.heap z TI TO i1 i2 l1 l2 xs ys 0) (hz:IsZip s.heap z TI TO .none)
 (hQ:∀h' tk acc c (as:List Addr),(∀b o,b∉[z,TI,TO,i1,i2]→s.heap.get? b=some o→h'.get? b=some o)→h'.get? s.heap.objs.size=some {cls:=.type "list",dict:=none,data:=.seq acc c,slots:=#[]}→as.length=min xs.size ys.size→
  (∀(j:Nat) (a:Addr),as[j]?=some a→∃x y,xs[j]?=some x∧ys[j]?=some y∧IsPair h' a x y∧s.heap.objs.size<a)→acc.toList=as.map Value.ref→Q (.ref s.heap.objs.size) {s with heap:=h',toks:=tk}):
 wpAny (model O w) A (call (.type "list") [.ref z]) Q E s:=by
 refine callType_codes (Q₁:=fun obj s₁=>obj=.ref s.heap.objs.size∧s₁={s with heap:=s.heap.push {cls:=.type "list",data:=.seq #[]}}) PySem.F.called_list (PySem.F.typeCall_list_1 _) PySem.F.entry_list_init
  (code_list_new _ ⟨rfl,rfl⟩) fun obj s₁ h₁=>?_
 obtain⟨rfl,rfl⟩:=h₁
 have hS:(s.heap.push {cls:=.type "list",data:=.seq #[]}).get? s.heap.objs.size=some {cls:=.type "list",data:=.seq #[]}:=get?_push_size _ rfl
 have low:∀c∈[z,TI,TO,i1,i2,l1,l2],c<s.heap.objs.size:=Z.low
 have nS:s.heap.objs.size∉[z,TI,TO,i1,i2,l1,l2]:=fun q=>lt_irrefl _ (low _ q)
 have up:∀b o,b≠s.heap.objs.size→s.heap.get? b=some o→(s.heap.push {cls:=.type "list",data:=.seq #[]}).get? b=some o:=fun b o V e=>get?_push_of_some _ e
 refine⟨⟨_,hS,rfl⟩,PySem.F.args_list_init_2 _ _,Xe (A:=A.in1) hh D nS hn (Z.keep ⟨_,hS⟩ nS up) (get?_push_of_some _ hz) hS fun h' tk acc c as hk hS' hl hG hacc=>?_⟩
 refine⟨rfl,hQ h' tk acc c as (fun b o hb e=>hk b o (fun q=>?_) (get?_push_of_some _ e)) hS' hl (fun j a hj=>?_) hacc⟩
 ·rcases mem_cons.mp q with q|q
  ·exact absurd (lt_size e) (by refine rr q ?_;exact lt_irrefl _)
  ·exact hb q
 ·obtain⟨x,y,e1,e2,e3,e4⟩:=hG j a hj
  exact⟨x,y,e1,e2,e3,by dsimp only at e4;rw[size_push]at e4;exact Ay e4⟩
theorem FzL.of_get:∀{vs:List Value}{ds:List Dat},vs.length=ds.length→(∀(j:Nat) v d,vs[j]?=some v→ds[j]?=some d→Fz g v d)→FzL g vs ds:=by
 intro vs
 induction vs with
 |nil=>
  intro zz4
  rcases zz4 with _|⟨_,_⟩
  ·intro _ _
   exact .nil
  ·intro h _
   simp at h
 |cons v vs ih=>
  intro zz4
  rcases zz4 with _|⟨d,ds⟩
  ·intro h _
   simp at h
  ·intro h k
   exact .cons (k 0 v d rfl rfl) (ih (by simpa using h) fun j v' d' e1 e2=>k (j+1) v' d' (by simpa using e1) (by simpa using e2))
@[elab_as_elim] theorem ac{motive:List Value→Prop}{xs ys:List Dat}(f:FzL g vs [.list xs,.list ys])(k:∀l1 v1 k1 l2 v2 k2,g l1 (seqObj "list" v1.toArray k1)→FzL g v1 xs→g l2 (seqObj "list" v2.toArray k2)→FzL g v2 ys→motive [.ref l1,.ref l2]):motive vs:=
 f.consP fun V V fa f=>f.consP fun V V fb f=>f.nilP (fa.listP fun V V V h1 f1=>fb.listP fun V V V h2 f2=>k _ _ _ _ _ _ h1 f1 h2 f2)
theorem Xf{xs ys:List Dat}(fx:FzL g v1 xs)(fy:FzL g v2 ys)(kv:∀b o,g b o→g' b o)(hl:as.length=(FO xs ys).length)
 (G:∀(j:Nat) a,as[j]?=some a→∃x y,v1.toArray[j]?=some x∧v2.toArray[j]?=some y∧g' a (seqObj "tuple" #[x,y] 0)):FzL g' (as.map Value.ref) (FO xs ys):=
 FzL.of_get (by refine rr (length_map ..) (rr hl ?_);rfl) fun j v d ev ed=>by
  rw[getElem?_map]at ev
  obtain⟨a,ea,rfl⟩:=map_eq_some_iff.mp ev
  obtain⟨dx,dy,ex,ey,rfl⟩:=Ng ed
  obtain⟨u,ev1,fu⟩:=fx.get ex
  obtain⟨u2,ev2,fu2⟩:=fy.get ey
  obtain⟨x,y,e1,e2,hp⟩:=G j a ea
  obtain rfl:=Option.some.inj (ev1.symm.trans (getElem?_toArray.symm.trans e1))
  obtain rfl:=Option.some.inj (ev2.symm.trans (getElem?_toArray.symm.trans e2))
  exact .tuple (vs:=[u,u2]) (n:=0) hp (.cons (fu.mono kv) (.cons (fu2.mono kv) .nil))
theorem Mz{k1 k2:Nat}{xs ys:List Dat}{P:Value→Shared→Prop}(hh:A.handled=none)(r:Rel U R Y st as s.heap)(hlt:∀b∈as,∃o,s.heap.get? b=some o)
 (o1:vis R as s.heap l1 (seqObj "list" v1.toArray k1)) (fx:FzL (vis R as s.heap) v1 xs) (o2:vis R as s.heap l2 (seqObj "list" v2.toArray k2)) (fy:FzL (vis R as s.heap) v2 ys) (hz:xs.length≤sizeLine)
 (fin:∀D h' tk,(∀b o,s.heap.get? b=some o→h'.get? b=some o)→s.heap.get? D=none→Rel U ([D]++R) Y st as h'→Cp (vis ([D]++R) as h') h' (.ref D) (.lst (FO xs ys)) [D]→P (.ref D) {s with heap:=h',toks:=tk}):
 wpAny (model O w) A (call (.type "zip") [.ref l1,.ref l2]) (fun v s₁=>wpAny (model O w) A (spliced (backTo pos (starEach [] Y))) (fun vs s₂=>wpAny (model O w) A (call (.type "list") (v::vs)) P (fun V V=>False) s₂) (fun V V=>False) s₁) (fun V V=>False) s:=by
 refine call_zip_2 (xs:=v1.toArray) (ys:=v2.toArray) ⟨_,o1.2.2,rfl,_,rfl⟩ ⟨_,o2.2.2,rfl,_,rfl⟩ fun h2 a1 a2 a3 a4 a5 a6 keep=>?_
 refine wpAny_items_nil ?_
 have lt1:=lt_size o1.2.2
 have lt2:=lt_size o2.2.2
 have hl:(FO xs ys).length=min xs.length ys.length:=by delta FO;refine rr List.length_zipWith ?_;rfl
 have hmin:min v1.toArray.size v2.toArray.size=(FO xs ys).length:=by refine rr hl ?_;refine rr size_toArray (rr size_toArray ?_);refine rr fx.length (rr fy.length ?_);rfl
 have low:∀k,s.heap.get? (s.heap.objs.size+k)=none:=fun k=>AH _ (le_add_right _ _)
 refine JX (s:={s with heap:=h2}) hh (Zz _ _ _ lt1 lt2) (by refine rr hmin (rr hl ?_);exact le_trans (min_le_left ..) hz) ⟨.inl a1,a2,⟨_,_,a3⟩,a4,a5,⟨_,keep _ _ o1.2.2,rfl,_,rfl⟩,⟨_,keep _ _ o2.2.2,rfl,_,rfl⟩⟩ a1 fun h3 tk acc c as3 hk hD hl3 hG hacc=>?_
 dsimp only at hk hD hG⊢
 have hk3:∀b o,s.heap.get? b=some o→h3.get? b=some o:=fun b o e=>hk b o (fun q=>Hz (alc (p:=fun b=>s.heap.get? b=none) (low 4) (alc (low 2) (alc (low 3) (alc (low 0) (alc (low 1) Cc)))) b q) e) (keep b o e)
 have hnD:s.heap.get? h2.objs.size=none:=AH _ (by refine rr a6 ?_;exact le_add_right _ _)
 obtain⟨r2,kv⟩:=r.laid (cs:=[h2.objs.size]) hk3 (fun b hb=>At hb▸⟨hnD,_,hD⟩) hlt
 obtain rfl:acc=(as3.map Value.ref).toArray:=Array.toList_inj.mp hacc
 refine fin _ _ _ hk3 hnD r2 (.lst hD (Xf fx fy kv (hl3.trans hmin) fun j a ea=>?_))
 obtain⟨x,y,e1,e2,hp,hle⟩:=hG j a ea
 have na:s.heap.get? a=none:=AH _ (le_trans (by refine rr a6 ?_;exact le_add_right _ _) (Nat.le_of_lt hle))
 exact⟨x,y,e1,e2,fun q=>(mem_append.mp q).elim (fun q=>lt_irrefl _ (At q▸hle)) fun q=>Bf na (r.inb a q),fun q=>Bf na (hlt a q),hp⟩
theorem Lj(S:Ao O K U){z:Str}{p NU:Pos}{Q:AF→St→Prop}(g:GlB sc K x)(hv:bootBuiltins x=some (.type "list"))(gz:GlB sc K z)(hvz:bootBuiltins z=some (.type "zip"))
 (h:El O w U sc n (e::es) st fun ds st1=>∃xs ys,ds=[.list xs,.list ys]∧xs.length≤sizeLine∧Q (.lst (FO xs ys)) st1)
 (he:autoParam (∀Y,starEach (e::es) Y=(false,eval e Y)::starEach es Y) au.a1._auto_1) (hp:autoParam (∀Y,(backTo NU (starEach es Y)).any (·.1)=false) au.a1._auto_1)
 (ho:autoParam (∀Y,starEach [Expr.Call (.Name z p2) (e::es) [] NU] Y=(false,eval (Expr.Call (.Name z p2) (e::es) [] NU) Y)::starEach [] Y) au.a1._auto_1):
 Ef O w U sc n (.Call (.Name x p) [.Call (.Name z p2) (e::es) [] NU] [] pos) st Q:=by
 intro A Y R as s hR hE r
 refine Call_Name rfl (HA S g hv hE r (PyProof.Rows.callWith_type1 (wpAny_items_cons ?_ (ho Y)) (ho Y)))
 refine Call_Name rfl (HA S gz hvz hE r (PyProof.Rows.callWith_type1 ?_ (he Y) (hp Y)))
 refine h.go hR hE r fun vs ds st1 as0 h1 t1 e0 r0 f0 qq=>?_
 obtain⟨xs,ys,rfl,hz,q⟩:=qq
 refine r0.trimP fun as1 sub hlt r1=>?_
 have e1:=e0.trans (Ai.less sub)
 refine ac (FzL.mono (Ai.less sub).vis f0) fun l1 v1 k1 l2 v2 k2 o1 fx o2 fy=>?_
 exact Mz (s:={s with heap:=h1,toks:=t1}) hR.handled r1 hlt o1 fx o2 fy hz fun D h3 tk hk hn r2 rep=>⟨_,st1,as1,h3,tk,[D],rfl,e1.trans (Ai.grow _ hk),r2,rep,fun b hb=>At hb▸e1.live.none hn,q⟩
noncomputable def KC(xs:List Stmt):List Nat→Stmt
 |[]=>.Pass default
 |i::is=>match is with
  |[]=>ZZ xs i
  |_=>KC (Cr (ZZ xs i)) is
noncomputable def QP:Expr→List Expr×Scope
 | .Call _ es _ _=>(es,default)
 | .List es _=>(es,default)
 | .BoolOp _ es _=>(es,default)
 | .Compare l _ _ _=>([l],default)
 | .ListComp e gs s _=>(e::gs.flatMap fun g=>g.target::g.iter::g.ifs,s)
 |e=>([e],default)
noncomputable def fm(e:Expr):List Expr:=(QP e).1
noncomputable def kid(e:Expr)(i:Nat):Expr:=(fm e).getD i e
noncomputable def LV(L:List Str)(st:St):St:=st.filter fun p=>!(L.contains p.1)
noncomputable def MA(L:List Str)(r:Option (Res α)):Option (α×St×Ms):=match r with
 |some ⟨a,st,[],ms⟩=>some (a,LV L st,ms)
 |_=>none
noncomputable def YR:Fl→Bool
 | .next=>true
 | .cont=>true
 |_=>false
section
variable(O:Program)(w:World)(U:Heap)(n:Nat)(sc:Scope)
noncomputable def goD(e:Expr):RM Dat:=(VV O w U n 20).dt sc e
noncomputable def goA(es:List Expr):RM (List Dat):=(VV O w U n 20).ar sc es
noncomputable def goE(e:Expr):RM EV:=(VV O w U n 20).e sc e
noncomputable def goS(xs:List Stmt):RM Fl:=Jb (XX O w U n sc 20) xs
noncomputable def Xg(t:Expr)(body:List Stmt):RM Bool:=.bind ((VV O w U n 20).t sc t) fun c=>.cse c (.bind (goS O w U n sc body) fun fl=>.bind (.chk (YR fl)) fun V=>.pure true) (.pure false)
noncomputable def ae(tgt:Expr)(body:List Stmt)(d:Dat):RM Fl:=.bind (Te sc 3 tgt d) fun V=>goS O w U n sc body
noncomputable def OO(tgt:Expr)(ifs:List Expr)(elt:Expr)(d:Dat):RM (Option Dat):=.bind (Te sc 3 tgt d) fun V=>match ifs with
 |[]=>.bind (goD O w U n sc elt) fun y=>.pure (some y)
 |[c]=>.bind ((VV O w U n 20).t sc c) fun b=>.cse b (.bind (goD O w U n sc elt) fun y=>.pure (some y)) (.pure none)
 |_=>.fail
end
theorem Fb(S:Ao O P.K U)(h:goD O w U n sc e st os []=some ⟨d,st',[],ms⟩)(hm:AD ms){Q:Dat→St→Prop}(q:Q d st'):Ed O w U sc n e st Q:=(((Lc S P.tab 20).dt sc e).ok h hm).2 Q q
theorem Fc(S:Ao O P.K U)(h:goA O w U n sc es st os []=some ⟨ds,st',[],ms⟩)(hm:AD ms){Q:List Dat→St→Prop}(q:Q ds st'):El O w U sc n es st Q:=((((Lc S P.tab 20).ar sc es).ok h hm).2 Q q).2
theorem AM(S:Ao O P.K U){d:EV}(h:goE O w U n sc e st os []=some ⟨d,st',[],ms⟩)(hm:AD ms){Q:EV→St→Prop}(q:Q d st'):Ev O w U sc n e st Q:=(((Lc S P.tab 20).e sc e).ok h hm).2 Q q
theorem AO(S:Ao O P.K U){xs:List Stmt}(h:goS O w U n sc xs st os []=some ⟨fl,st',[],ms⟩)(hm:AD ms)(q:Q fl st'):Ss O w U sc n xs st Q:=((CA (Mp S P.tab 20) xs).ok h hm).2 Q q
theorem HR(h:YR fl=true){next:St→Prop}(q:next st):IV Q next fl st:=by
 cases fl<;>first|exact q|cases h
theorem Nv(S:Ao O P.K U)(t:Expr)(body:List Stmt):Ac (Xg O w U n sc t body) fun st Q=>Et O w U sc n t st fun b st1=>(b=true→Ss O w U sc n body st1 fun fl st2=>YR fl=true∧Q true st2)∧(b=false→Q false st1):=
 Ac.bind ((Lc S P.tab 20).t sc t) fun c=>Ac.cse c (Ac.bind (CA (Mp S P.tab 20) body) fun fl=>Ac.bind (Ac.chk (YR fl)) fun V=>Ac.pure true) (Ac.pure false)
theorem CX(S:Ao O P.K U){N:Nat}(os:List Or)(q:Fa O w U sc n t body Q N st')(h:Xg O w U n sc t body st os []=some ⟨true,st',[],ms⟩)(hm:AD ms):Fa O w U sc n t body Q (N+1) st:=
 Et.mono (((Nv S t body).ok h hm).2 (fun b s=>b=true∧s=st') ⟨rfl,rfl⟩) fun V V h=>⟨fun e=>(h.1 e).mono fun V V k=>HR k.1 (k.2.2▸q),fun e=>nomatch (h.2 e).1⟩
theorem HS(S:Ao O P.K U){N:Nat}(os:List Or)(q:Q .next st')(h:Xg O w U n sc t body st os []=some ⟨false,st',[],ms⟩)(hm:AD ms):Fa O w U sc n t body Q (N+1) st:=
 Et.mono (((Nv S t body).ok h hm).2 (fun b s=>b=false∧s=st') ⟨rfl,rfl⟩) fun V V h=>⟨fun e=>(h.1 e).mono fun V V k=>(nomatch k.2.1),fun e=>(h.2 e).2▸q⟩
theorem TP(S:Ao O P.K U)(tgt:Expr)(body:List Stmt)(d:Dat):Ac (ae O w U n sc tgt body d) fun st Q=>As O w U sc n tgt d st fun st1=>Ss O w U sc n body st1 Q:=
 Ac.bind (EC 3 tgt d) fun V=>CA (Mp S P.tab 20) body
theorem Gc(L:List Str)(st:St):(LV L st).Sublist st:=List.filter_sublist
theorem Gd{L:List Str}{r:Option (Res α)}{a:α}{s:St}(h:MA L r=some (a,s,ms)):∃st',r=some ⟨a,st',[],ms⟩∧s=LV L st':=by
 delta MA at h
 split at h
 ·cases h;exact⟨_,rfl,rfl⟩
 ·cases h
theorem Aw(S:Ao O P.K U)(L:List Str)(os:List Or)(q:Bv O w U sc n tgt body Q ds st')(h:MA L (ae O w U n sc tgt body d st os [])=some (fl,st',ms))(hm:AD ms)(F:AT Q)(hf:autoParam (YR fl=true) au.a3._auto_1):Bv O w U sc n tgt body Q (d::ds) st:=by
 obtain⟨s,e,rfl⟩:=Gd h
 exact((TP S tgt body d).ok e hm).2 _ (HR hf (q.forget (Gc L s) F))
theorem TQ(S:Ao O P.K U):∀(pre:List Stmt) {st:St}{os os':List Or}{ms0 ms:Ms},goS O w U n sc pre st os ms0=some ⟨Fl.next,st',os',ms⟩→AD ms→Ss O w U sc n rest st' Q→Ss O w U sc n (pre++rest) st Q:=by
 intro pre
 induction pre with
 |nil=>intro st os os' ms0 ms h _ q;cases h;exact q
 |cons x pre ih=>
  intro st os os' ms0 ms h hm q
  have h:RM.bind (XX O w U n sc 20 x) (WP (goS O w U n sc pre)) st os ms0=_:=h
  delta RM.bind at h
  generalize e:XX O w U n sc 20 x st os ms0=r at h
  rcases r with _|⟨fl,s,os1,ms1⟩
  ·cases h
  ·cases fl<;>first|cases h|skip
   have k:=((CA (Mp (w:=w) (n:=n) (sc:=sc) S P.tab 20) pre).ok h hm).1
   exact Bl (((Mp S P.tab 20 x).ok e k).2 _ (ih h hm q))
theorem Ax(S:Ao O P.K U){xs:List Stmt}(k:Nat)(L:List Str)(os:List Or)(h:MA L (goS O w U n sc (xs.take k) st os [])=some (Fl.next,st',ms))(hm:AD ms)(q:Ss O w U sc n (xs.drop k) st' Q):Ss O w U sc n xs st Q:=by
 obtain⟨s,e,rfl⟩:=Gd h
 have:=TQ (w:=w) (n:=n) S (rest:=xs.drop k) (Q:=Q) (xs.take k) e hm (q.forget (Gc L s))
 rwa [List.take_append_drop]at this
theorem Jd(S:Ao O P.K U)(os:List Or)(h:goD O w U n sc iter st os []=some ⟨d,st',[],ms⟩)(hd:Eu d=some ds)(hm:AD ms)(q:Bv O w U sc n tgt body (FL O w U sc n rest Q) ds st')(hs:autoParam (∀Y x,foldedSetIterable iter Y x=pure x) au.a5._auto_1):Ss O w U sc n (.For tgt iter body [] pos::rest) st Q:=
 Bl (GX (FN (Fb S h hm ⟨ds,hd,q⟩)) hs)
theorem Nw(S:Ao O P.K U){p ip:Pos}{xs ys:List Dat}(os:List Or)(h:goA O w U n sc (e::es) st os []=some ⟨[.list xs,.list ys],st',[],ms⟩)(hm:AD ms)(q:Bv O w U sc n (.Tuple elts k tp) body (FL O w U sc n rest Q) (FO xs ys) st')(g:GlB sc P.K x)(hv:bootBuiltins x=some (.type "zip"))(hs:AX (e::es)=true):Ss O w U sc n (.For (.Tuple elts k tp) (.Call (.Name x p) (e::es) [] ip) body [] pos::rest) st Q:=
 Bl (GX (QM S g hv (Fc S h hm ⟨xs,ys,rfl,q⟩) (Bw (Aj hs).1 es) (CW (Aj hs).2 ip)))
theorem JY(S:Ao O P.K U)(tgt:Expr)(ifs:List Expr)(elt:Expr)(d:Dat):Ac (OO O w U n sc tgt ifs elt d) fun st Q=>As O w U sc n tgt d st fun st1=>EtL O w U sc n ifs st1 fun b st2=>(b=true→Ed O w U sc n elt st2 fun y st3=>Q (some y) st3)∧(b=false→Q none st2):=by
 have E:Ac _ fun st Q=>Ed O w U sc n elt st fun y st3=>Q (some y) st3:=Ac.bind ((Lc S P.tab 20).dt sc elt) fun y=>Ac.pure (some y)
 rcases ifs with _|⟨c,_|⟨_,_⟩⟩
 ·exact Ac.imp (Ac.bind (EC 3 tgt d) fun V=>E) fun V V h=>As.mono h fun V h=>⟨fun V=>h,fun e=>Bool.noConfusion e⟩
 ·exact Ac.imp (Ac.bind (EC 3 tgt d) fun V=>Ac.bind ((Lc S P.tab 20).t sc c) fun b=>Ac.cse b E (Ac.pure none)) fun V V h=>h
 ·exact Ac.imp (Ac.bind (EC 3 tgt d) fun V=>(Ac.fail:Ac RM.fail fun V V=>False)) fun V V h=>As.mono h fun V h=>h.elim
theorem QR(S:Ao O P.K U){Q:List Dat→St→Prop}{y:Dat}(os:List Or)(q:Bm O w U sc n tgt ifs elt Q ds (acc++[y]) st')(h:OO O w U n sc tgt ifs elt d st os []=some ⟨some y,st',[],ms⟩)(hm:AD ms)(hz:acc.length+1≤sizeLine):Bm O w U sc n tgt ifs elt Q (d::ds) acc st:=
 ((JY S tgt ifs elt d).ok h hm).2 (fun o s=>match o with
  |some y=>acc.length+1≤sizeLine∧Bm O w U sc n tgt ifs elt Q ds (acc++[y]) s
  |none=>Bm O w U sc n tgt ifs elt Q ds acc s) ⟨hz,q⟩
theorem QS(S:Ao O P.K U){Q:List Dat→St→Prop}(os:List Or)(q:Bm O w U sc n tgt ifs elt Q ds acc st')(h:OO O w U n sc tgt ifs elt d st os []=some ⟨none,st',[],ms⟩)(hm:AD ms)(hz:acc.length+1≤sizeLine):Bm O w U sc n tgt ifs elt Q (d::ds) acc st:=
 ((JY S tgt ifs elt d).ok h hm).2 (fun o s=>match o with
  |some y=>acc.length+1≤sizeLine∧Bm O w U sc n tgt ifs elt Q ds (acc++[y]) s
  |none=>Bm O w U sc n tgt ifs elt Q ds acc s) q
noncomputable def Xh(sc scope:Scope):Bool:=
 scope.names.all (fun y=>y.2 != .cell||!((BF scope).contains y.1))&&(scope.kind== .function)&&scope.names.all (fun y=>y.2 != .local||scope.names.lookup y.1==some .local)&&(BF scope).all (fun x=>!Fh (BL scope sc) x)
 &&(BF scope).all (fun x=>sc.names.lookup x==some .cell||sc.names.lookup x==some .free)&&(BF scope).all (fun x=>(BL scope sc).names.lookup x==some .cell||(BL scope sc).names.lookup x==some .free)
 &&(BL scope sc).names.all (fun y=>(y.2 != .cell&&y.2 != .free)||((BF scope).contains y.1||scope.names.contains (y.1,NameKind.cell)))&&(BF scope).all (fun x=>!DZ sc x||DZ (BL scope sc) x)
theorem BG.of(h:Xh sc scope=true):BG sc scope:=by
 delta Xh at h
 simp only[and_eq_true,all_eq_true,or_eq_true,bne_iff_ne,ne_eq,beq_iff_eq,contains_iff_mem,Bool.not_eq_true']at h
 obtain⟨⟨⟨⟨⟨⟨⟨h1,h2⟩,h3⟩,h4⟩,h5⟩,h6⟩,h7⟩,h8⟩:=h
 refine⟨fun x hx q=>(h1 (x,.cell) q).elim (fun e=>e rfl) fun e=>(by rw[contains_iff_mem.mpr hx]at e;cases e),h2,fun y hy e=>(h3 y hy).resolve_left fun q=>q e,h4,h5,h6,fun y hy e=>(h7 y hy).resolve_left fun q=>?_,fun x hx e=>(h8 x hx).resolve_left fun q=>?_⟩
 ·rcases e with e|e
  ·exact q.1 e
  ·exact q.2 e
 ·rw[e]at q;cases q
theorem TR{Q Q':Bool→St→Prop}(h:EtL O w U sc n ifs st Q)(k:∀b st,Q b st→Q' b st):EtL O w U sc n ifs st Q':=by
 rcases ifs with _|⟨c,_|⟨_,_⟩⟩
 ·exact k _ _ h
 ·exact Et.mono h k
 ·exact h.elim
noncomputable def IH(e:Expr):Expr:=kid e 0
noncomputable def JZ(e:Expr):Expr:=kid e 1
noncomputable def Ka(e:Expr):List Expr:=(fm e).drop 3
noncomputable def OP(e:Expr):Scope:=(QP e).2
theorem QT{L:List Str}(h:L.contains x=false):∀s:St,look x (LV L s)=look x s:=by
 intro s
 induction s with
 |nil=>
  exact rfl
 |cons hd r ih=>
  obtain⟨y,a⟩:=hd
  delta LV
  refine rr filter_cons ?_
  have ih:=ih
  by_cases e:x=y
  ·subst e
   refine rr h ?_
   simp[look]
  ·split
   ·simp only[look,if_neg e];exact ih
   ·simp only[look,if_neg e];exact ih
set_option tactic.hygienic true in
theorem BM{L:List Str}(h:fr.all (fun x=>!L.contains x)=true)(st s:St):EY fr st (LV L s)=EY fr st s:=by
 delta EY
 refine congrArg (fun f=>List.filterMap f st) (funext fun p=>?_)
 split
 ·rename_i c
  rewrite[QT (Cf (all_eq_true.mp h p.1 (contains_iff_mem.mp c)))];(with_reducible rfl)
 ·rfl
theorem Bm.drop{Q:List Dat→St→Prop}(h:Bm O w U sc n tgt ifs elt Q ds acc st')(k:st'.Sublist st)(hQ:Q acc st'→Q acc st):Bm O w U sc n tgt ifs elt Q ds acc st:=by
 rcases ds with _|⟨d,ds⟩
 ·exact hQ h
 ·exact As.forget h k
section
variable(O:Program)(w:World)(U:Heap)(n:Nat)(sc:Scope)
noncomputable def Kb(tgt:Expr)(ifs:List Expr)(elt:Expr):List Dat→List Dat→RM (List Dat)
 |[],acc=>.pure acc
 |d::ds,acc=>.bind (OO O w U n sc tgt ifs elt d) fun o=>match o with
  |some y=>Kb tgt ifs elt ds (acc++[y])
  |none=>Kb tgt ifs elt ds acc
end
theorem OQ(S:Ao O P.K U)(tgt:Expr)(ifs:List Expr)(elt:Expr):∀(ds acc:List Dat),Ac (Kb O w U n sc tgt ifs elt ds acc) fun st Q=>acc.length+ds.length≤sizeLine→Bm O w U sc n tgt ifs elt Q ds acc st:=by
 intro ds
 induction ds with
 |nil=>
  intro acc
  exact Ac.imp (Ac.pure acc) fun V V q V=>q
 |cons d ds ih=>
  intro acc
  refine Ac.imp (Ac.bind (JY S tgt ifs elt d) fun o=>(?_:Ac _ fun st Q=>acc.length+(ds.length+1)≤sizeLine→match o with
   |some y=>acc.length+1≤sizeLine∧Bm O w U sc n tgt ifs elt Q ds (acc++[y]) st
   |none=>Bm O w U sc n tgt ifs elt Q ds acc st)) fun st Q h hz=>?_
  ·rcases o with _|⟨y⟩
   ·exact Ac.imp (ih acc) fun V V h hz=>h (by exact Ay hz)
   ·exact Ac.imp (ih (acc++[y])) fun V V h hz=>⟨by exact Ay hz,h (by refine rr length_append (rr length_singleton ?_);exact Ay hz)⟩
  ·exact As.mono h fun V h=>TR h fun b st2 k=>⟨fun e=>Ed.mono (k.1 e) fun y st3 q=>q hz,fun e=>k.2 e hz⟩
theorem DV(S:Ao O P.K U){Q:List Dat→St→Prop}(os:List Or)(h:Kb O w U n sc tgt ifs elt ds [] st os []=some ⟨acc,st',[],ms⟩)(hm:AD ms)(hz:Nat.ble ds.length 1000=true)(q:Q acc st'):Bm O w U sc n tgt ifs elt Q ds [] st:=
 ((OQ S tgt ifs elt ds []).ok h hm).2 Q q (le_trans (Nat.le_of_eq (Nat.zero_add _)) (le_trans (le_of_ble_eq_true hz) (by decide)))
theorem Ss.at{xs:List Stmt}(s:St)(q:Ss O w U sc n xs s Q)(e:st=s):Ss O w U sc n xs st Q:=e▸q
theorem GI(S:Ao O P.K U){py spos:Pos}(s0:St)(os:List Or)(h:goD O w U n sc iter st os []=some ⟨d,st',[],ms⟩)(hd:Eu d=some ds)(hm:AD ms)
 (q:Bm O w U (BL scope sc) n tgt ifs elt (fun acc stI=>Ss O w U sc n rest (put y (.lst acc) (EY (BF scope) st' stI)) Q) ds [] s0) (hk:IC (BF scope) st'=s0)
 (ok:Xh sc scope=true) (hy:BD sc y=true) (hsw:∀Y,Y.scope=sc→swapsWith (.ListComp elt [⟨tgt,iter,ifs,0⟩] scope pos) (some (.Name y py)) spos.line Y=pure true)
 (hs:autoParam (∀Y x,foldedSetIterable iter Y x=pure x) au.a5._auto_1):Ss O w U sc n (.Assign [.Name y py] (.ListComp elt [⟨tgt,iter,ifs,0⟩] scope pos) spos::rest) st Q:=
 Bl (Dv (BG.of ok) (FN (Fb S h hm ⟨ds,hd,hk▸q⟩)) hy hsw hs)
theorem BY(S:Ao O P.K U){Q:List Dat→St→Prop}{y:Dat}(L:List Str)(os:List Or)(q:Bm O w U sc n tgt ifs elt Q ds (acc++[y]) st')(h:MA L (OO O w U n sc tgt ifs elt d st os [])=some (some y,st',ms))(hm:AD ms)(hz:acc.length+1≤sizeLine)(F:∀acc s,Q acc (LV L s)→Q acc s):Bm O w U sc n tgt ifs elt Q (d::ds) acc st:=by
 obtain⟨s,e,rfl⟩:=Gd h
 exact QR S os (q.drop (Gc L s) (F _ s)) e hm hz
theorem Ge(h:Te sc 3 tgt d st [] []=some ⟨(),st',[],[]⟩)(q:Ss O w U sc n body st' (IV Q (Bv O w U sc n tgt body Q ds))):Bv O w U sc n tgt body Q (d::ds) st:=((EC 3 tgt d).ok h .nil).2 (fun V s=>Ss O w U sc n body s _) q
theorem Gf(S:Ao O P.K U){xs:List Stmt}(L:List Str)(os:List Or)(q:Bv O w U sc n tgt body Q ds st')(h:MA L (goS O w U n sc xs st os [])=some (fl,st',ms))(hm:AD ms)(F:AT Q)(hf:autoParam (YR fl=true) au.a3._auto_1):Ss O w U sc n xs st (IV Q (Bv O w U sc n tgt body Q ds)):=by
 obtain⟨s,e,rfl⟩:=Gd h
 exact AO S e hm (HR hf (q.forget (Gc L s) F))
theorem Je(n:Nat):Builtin.Range.rangeSize 0 (n:Int) 1=n:=by
 unfold Builtin.Range.rangeSize
 simp
 lia
theorem OR(n:Nat):Da 0 1 (Builtin.Range.rangeSize 0 (n:Int) 1).toNat=(List.range n).map fun i:Nat=>.int (i:Int):=by
 refine rr (Je ..) ?_
 unfold Da
 refine map_congr_left fun i V=>?_
 simp
theorem MB(h:n≤1000000):Builtin.Range.small 0 (n:Int) 1=true:=by
 unfold Builtin.Range.small Builtin.Range.rangeFitsLong
 refine rr (Je ..) ?_
 simp
 omega
theorem QU{a b:Bool}:Cm (.bool a)∧Cm (.bool b):=⟨IZ a,IZ b⟩
theorem cS{a b:Pt}:Cm (pD a)∧Cm (pD b):=⟨(Ql a).plain,(Ql b).plain⟩
theorem af{a b:Str}(ha:PyData.strOk a=true)(hb:PyData.strOk b=true):Cm (.str a)∧Cm (.str b):=⟨(Qg ha).plain,(Qg hb).plain⟩
theorem au.bd(h:True:=by
 repeat' with_reducible first
 |assumption|exact Bd.num|apply Bd.add|apply Bd.sub|apply Bd.mul|apply Bd.neg|apply Bd.divI|apply Bd.rootI):True:=trivial
theorem ag{l:Nat}(ha:autoParam (Bd k a) au.bd._auto_1)(hb:autoParam (Bd l b) au.bd._auto_1)(h:autoParam (((k+l:Nat):Int)≤bitsLine) au.a4._auto_1):Am a b:=Ah ha hb h
theorem obA{p:Prop}{ms:Ms}(k:AD ms)(h:p:=by
 first
 |with_reducible first|assumption|exact DT
 |assumption|exact JL
 |exact le_of_ble_eq_true rfl
 |exact .of_left (by decide)|exact .of_right (by decide)
 |exact QU|exact cS|exact af (by kernel_rfl) (by kernel_rfl)
 |exact rfl|exact⟨rfl,rfl⟩|(intro Y h;cases Y;dsimp only at h;subst h;exact⟨by rfl,by kernel_rfl⟩)|(show Er _ _ _;exact ag)):AD (p::ms):=.cons h k
theorem obN:AD []:=.nil
theorem obC{p:Prop}(h:p)(k:AD ms):AD (p::ms):=.cons h k
theorem obs(h:AD ms:=by repeat' first|exact obN|refine obA ?_|apply obC):AD ms:=h
theorem HT(S:Ao O P.K U){p:Pos}{Q:List Dat→St→Prop}(os:List Or)(h:goA O w U n sc (e::es) st os []=some ⟨[.int k],st',[],ms⟩)(hm:AD ms)(hk:k≤1000000)(q:Q ((List.range k).map fun i:Nat=>.int (i:Int)) st')
 (g:GlB sc P.K x) (hv:bootBuiltins x=some (.type "range")) (hs:AX (e::es)=true):Es O w U sc n (.Call (.Name x p) (e::es) [] pos) tgt st Q:=
 Nf S g hv (Fc S h hm ⟨0,k,1,.one _,by decide,MB hk,(OR k).symm▸q⟩) (Bw (Aj hs).1 es) (CW (Aj hs).2 pos)
noncomputable def CM(a b:Int):Int:=
 let q:=(2*(if a<0 then-a else a)+(if b<0 then-b else b)).fdiv (2*(if b<0 then-b else b))
 if decide (a<0)==decide (b<0)then q else-q
noncomputable def Pq(a b:Int):Int:=if decide (b<0)then CM (-a) (-b)else CM a b
noncomputable def YS(a b c d e f:Int):Dat:=.list [.int a,.int b,.int c,.int d,.int e,.int f]
theorem CB(S:Ao O P.K U)(hb:b≠0):FnP O w U (n+1) 54 [.int a,.int b] (· =.int (CM a b)):=by
 have h:(2:Int)*(if b<0 then-b else b)≠0:=by
  split
  ·lia
  ·lia
 delta CM
 cases hc:decide (a<0)==decide (b<0)
 ·refine FnP.go S (Jc P) rfl [.br false] rfl ?_
  exact obs
 ·refine FnP.go S (Jc P) rfl [.br true] rfl ?_
  exact obs
theorem DG(S:Ao O P.K U)(hb:b≠0):FnP O w U (n+2) 61 [.int a,.int b] (· =.int (Pq a b)):=by
 have h1:=CB (w:=w) (n:=n) S hb (a:=a)
 have h2:=CB (w:=w) (n:=n) S (b:= -b) (fun e=>hb (Int.neg_eq_zero.mp e)) (a:= -a)
 delta Pq
 cases hc:decide (b<0)
 ·refine FnP.go S (Do P) rfl [.br false,.val _] rfl ?_
  exact obs
 ·refine FnP.go S (Do P) rfl [.br true,.val _] rfl ?_
  exact obs
theorem Kc(S:Ao O P.K U){d e f:Int}(h1:Am a d)(h2:Am b c):FnP O w U (n+1) 68 [YS a b c d e f] (· =.int (a*d-b*c)):=by
 refine FnP.go S (ID P) rfl [.val (.int a),.val (.int d),.val (.int b),.val (.int c)] rfl ?_
 exact obs
theorem Fd(S:Ao O P.K U){d e f:Int}(h1:Am a d)(h2:Am b c)(hd:a*d-b*c≠0):FnP O w U (n+2) 75 [YS a b c d e f] (· =.int (a*d-b*c)):=by
 have h:=Kc (w:=w) (n:=n) (e:=e) (f:=f) S h1 h2
 have hd':=decide_eq_false hd
 refine FnP.go S (HJ P) rfl [.val (.int (a*d-b*c)),.br false] rfl ?_
 exact obs
theorem MC(S:Ao O P.K U){d e f x y:Int}(h1:Am a x)(h2:Am c y)(h3:Am b x)(h4:Am d y):
 FnP O w U (n+2) 82 [YS a b c d e f,.int x,.int y] (· =.tuple [.int (CM (a*x+c*y) 1000000+e),.int (CM (b*x+d*y) 1000000+f)]):=by
 have k:=fun z=>CB (w:=w) (n:=n) S (a:=z) (b:=1000000) (by decide)
 refine FnP.go S (Ld P) rfl [.val (.int a),.val (.int c),.val (.int (CM (a*x+c*y) 1000000)),.val (.int e),.val (.int b),.val (.int d),.val (.int (CM (b*x+d*y) 1000000)),.val (.int f)] rfl ?_
 repeat' first|exact obN|refine obA ?_|apply obC
 ·exact k _
 ·exact k _
structure ah(a b c d x y:Int):Prop where
 ad:Am a d
 bc:Am b c
 dx:Am d x
 cy:Am c y
 ay:Am a y
 bx:Am b x
theorem HU(S:Ao O P.K U){d e f x y:Int}(M:ah a b c d x y)(hd:a*d-b*c≠0):
 FnP O w U (n+3) 89 [YS a b c d e f,.int x,.int y] (· =.tuple [.int (Pq ((d*x-c*y)*1000000) (a*d-b*c)),.int (Pq ((a*y-b*x)*1000000) (a*d-b*c))]):=by
 have m1:=M.dx
 have m2:=M.cy
 have m3:=M.ay
 have m4:=M.bx
 have m5:=Fd (w:=w) (n:=n) (e:=e) (f:=f) S M.ad M.bc hd
 refine FnP.go S (Hg P) rfl [.val (.int (a*d-b*c)),.val (.int d),.val (.int c),.val (.int (Pq ((d*x-c*y)*1000000) (a*d-b*c))),.val (.int a),.val (.int b),.val (.int (Pq ((a*y-b*x)*1000000) (a*d-b*c)))] rfl ?_
 repeat' first|exact obN|refine obA ?_|apply obC
 ·exact DG S hd
 ·exact DG S hd
theorem Fq(S:Ao O P.K U){d e f x y:Int}(M:ah a b c d (x-e) (y-f))(hd:a*d-b*c≠0):
 FnP O w U (n+4) 96 [YS a b c d e f,.int x,.int y] (· =.tuple [.int (Pq ((d*(x-e)-c*(y-f))*1000000) (a*d-b*c)),.int (Pq ((a*(y-f)-b*(x-e))*1000000) (a*d-b*c))]):=by
 refine FnP.go S (EZ P) rfl [.val (.int e),.val (.int f),.val _] rfl ?_
 repeat' first|exact obN|refine obA ?_|apply obC
 exact HU S M hd
def HV(x k:Int):Prop:=(x<2→k=x)∧(2≤x→0<k∧k*k≤x∧x<(k+1)*(k+1))
theorem HW(x:Int):∃k,HV x k:=by
 have nat:∀n:Nat,∃k:Nat,k*k≤n∧n<(k+1)*(k+1):=by
  intro n
  induction n with
  |zero=>exact⟨0,by decide,by decide⟩
  |succ n ih=>
   obtain⟨k,h1,h2⟩:=ih
   by_cases h:n+1<(k+1)*(k+1)
   ·exact⟨k,by exact Ay h1,h⟩
   ·refine⟨k+1,by exact Ay (Nat.le_of_not_lt h),?_⟩
    have:(k+1+1)*(k+1+1)=(k+1)*(k+1)+2*(k+1)+1:=by
     refine rr (Nat.add_mul ..) (rr (Nat.mul_add ..) ?_);exact UZ
    exact Gu h2 (Nat.le_of_eq this.symm)
 by_cases hx:x<2
 ·exact⟨x,fun V=>rfl,fun h=>by grind⟩
 ·obtain⟨k,h1,h2⟩:=nat x.toNat
  have hk:0<k:=by
   rcases Nat.eq_zero_or_pos k with h|h
   ·subst h;grind
   ·exact h
  refine⟨k,fun h=>by lia,fun V=>⟨by lia,?_,?_⟩⟩
  ·have:((k*k:Nat):Int)≤x:=by grind
   simpa using this
  ·have:x<(((k+1)*(k+1):Nat):Int):=by omega
   simpa using this
noncomputable def BN(x:Int):Int:=(HW x).choose
theorem AU(x:Int):HV x (BN x):=(HW x).choose_spec
theorem HV.unique{x k l:Int}(h:HV x k)(h':HV x l):k=l:=by
 by_cases hx:x<2
 ·refine rr (h.1 hx) (rr (h'.1 hx) ?_);rfl
 ·obtain⟨a1,a2,a3⟩:=h.2 (by exact Af (not_lt.mp hx))
  obtain⟨b1,b2,b3⟩:=h'.2 (by exact Af (not_lt.mp hx))
  have m:∀p q:Int,0<p→0<q→p*p<(q+1)*(q+1)→p≤q:=by
   intro p q hp hq h
   rcases Int.lt_or_le q p with hlt|hge
   ·exfalso
    have h1:(q+1)*(q+1)≤p*p:=mul_le_mul (by exact Af hlt) (by exact Af hlt) (by exact Af hq) (by exact Af hp)
    exact(absurd (Aq h h1:(1:Int)≤0) (by decide))
   ·exact hge
  exact le_antisymm (m k l a1 b1 (by exact Aq a2 b3)) (m l k b1 a1 (by exact Aq a3 b2))
theorem TS{x:Int}(hx:0≤x):0≤BN x∧BN x≤x:=by
 by_cases h:x<2
 ·refine rr ((AU x).1 h) ?_;exact⟨(Af hx),UZ⟩
 ·obtain⟨a1,a2,a3⟩:=(AU x).2 (by exact Af (not_lt.mp h))
  refine⟨by exact Af a1,Int.le_trans ?_ a2⟩
  have:=mul_le_mul_of_nonneg_left (show 1≤BN x by exact Af a1) (show 0≤BN x by exact Af a1)
  exact Af this
theorem HX{x:Int}(hx:0<x):0<BN x:=by
 by_cases h:x<2
 ·refine rr ((AU x).1 h) ?_;omega
 ·exact((AU x).2 (by exact Af (not_lt.mp h))).1
noncomputable def Vo(x lo hi:Int)(tl:St):St:=("number",.dat (.int x))::("low",.dat (.int lo))::("high",.dat (.int hi))::tl
noncomputable def rtX(k:Nat):Stmt:=KC (AY 110) [k]
theorem cT{x:Int}(h1:1≤a)(h2:a≤x):(a*2).natAbs≤2*x.natAbs:=by lia
theorem ai(h:a+1<b):a<(a+b).fdiv 2∧(a+b).fdiv 2<b:=by
 refine rr (fdiv_eq_ediv_of_nonneg _ (by decide)) ?_;lia
theorem Xi(S:Ao O P.K U){x:Int}(hx:Bd 1000 x):∀(N:Nat) (lo hi:Int),(x+1-lo).toNat<N→1≤lo→lo*lo≤x→hi=lo*2→∃lo',1≤lo'∧lo'≤x∧lo'*lo'≤x∧x<(lo'*2)*(lo'*2)∧
 ∀Q,Q .next (Vo x lo' (lo'*2) [])→Fa O w U (scC 110) n (AG (rtX 2)) (Cr (rtX 2)) Q N (Vo x lo hi []):=by
 intro N
 induction N with
 |zero=>intro lo hi hN;exact absurd hN (Nat.not_lt_zero _)
 |succ N ih=>
  intro lo hi hN h1 h2 e
  subst e
  have lox:lo≤x:=Int.le_trans (by have:=mul_le_mul_of_nonneg_left h1 (show 0≤lo by exact Af h1);exact Af this) h2
  have hm:Am (lo*2) (lo*2):=Ah (hx.twice (cT h1 lox)) (hx.twice (cT h1 lox))
  by_cases hc:(lo*2)*(lo*2)≤x
  ·obtain⟨lo',k1,k2,k3,k4,k5⟩:=ih (lo*2) _ (SH hN (by exact Af lox) (by exact Af h1)) (by exact Aq h1 h1) hc rfl
   refine⟨lo',k1,k2,k3,k4,fun Q q=>CX S [.br true] (k5 Q q) rfl ?_⟩
   have hc:=decide_eq_true hc
   exact obs
  ·refine⟨lo,h1,lox,h2,by exact Af (not_le.mp hc),fun Q q=>HS S [.br false] q rfl ?_⟩
   have hc:=decide_eq_false hc
   exact obs
theorem Xj(S:Ao O P.K U){x:Int}:∀(N:Nat) (lo hi:Int) (tl:St),(tl=[]∨∃d:AF,tl=[(("middle":Str),d)])→(hi-lo).toNat<N→1≤lo→Bd 1001 hi→lo*lo≤x→x<hi*hi→lo<hi→∃lo' tl',(tl'=[]∨∃d:AF,tl'=[(("middle":Str),d)])∧1≤lo'∧lo'*lo'≤x∧x<(lo'+1)*(lo'+1)∧
 ∀Q,Q .next (Vo x lo' (lo'+1) tl')→Fa O w U (scC 110) n (AG (rtX 3)) (Cr (rtX 3)) Q N (Vo x lo hi tl):=by
 intro N
 induction N with
 |zero=>intro lo hi tl ht hN;exact absurd hN (Nat.not_lt_zero _)
 |succ N ih=>
  intro lo hi tl ht hN h1 hbd h2 hh hl
  have hm:(lo+hi).fdiv 2=(lo+hi)/2:=fdiv_eq_ediv_of_nonneg _ (by decide)
  by_cases hc:lo+1<hi
  ·obtain⟨b1,b2⟩:=ai hc
   have hbm:Bd 1001 ((lo+hi).fdiv 2):=hbd.le (Hp (by exact Aq h1 b1) (le_of_lt b2))
   have hmm:Am ((lo+hi).fdiv 2) ((lo+hi).fdiv 2):=Ah hbm hbm
   have hc:=decide_eq_true hc
   have two:(2:Int)≠0:=by decide
   by_cases hq:(lo+hi).fdiv 2*(lo+hi).fdiv 2≤x
   ·obtain⟨lo',tl',k1,k2,k3,k4,k5⟩:=ih ((lo+hi).fdiv 2) hi [("middle",.dat (.int ((lo+hi).fdiv 2)))] (.inr ⟨_,rfl⟩) (SH hN (Int.sub_pos_of_lt hl) (by exact Af b1)) (by exact Aq h1 b1) hbd hq hh b2
    have hq:=decide_eq_true hq
    refine⟨lo',tl',k1,k2,k3,k4,fun Q q=>?_⟩
    rcases ht with rfl|⟨d,rfl⟩
    ·refine CX S [.br true,.br true] (k5 Q q) rfl ?_
     exact obs
    ·refine CX S [.br true,.br true] (k5 Q q) rfl ?_
     exact obs
   ·obtain⟨lo',tl',k1,k2,k3,k4,k5⟩:=ih lo ((lo+hi).fdiv 2) [("middle",.dat (.int ((lo+hi).fdiv 2)))] (.inr ⟨_,rfl⟩) (SH hN (Int.sub_pos_of_lt hl) (by exact Af b2)) h1 hbm h2 (by exact Af (not_le.mp hq)) b1
    have hq:=decide_eq_false hq
    refine⟨lo',tl',k1,k2,k3,k4,fun Q q=>?_⟩
    rcases ht with rfl|⟨d,rfl⟩
    ·refine CX S [.br true,.br false] (k5 Q q) rfl ?_
     exact obs
    ·refine CX S [.br true,.br false] (k5 Q q) rfl ?_
     exact obs
  ·have e:hi=lo+1:=by exact(le_antisymm (Af (not_lt.mp hc)) (Af hl))
   subst e
   have hc:=decide_eq_false hc
   refine⟨lo,tl,ht,h1,h2,hh,fun Q q=>HS S [.br false] q rfl ?_⟩
   exact obs
theorem Gg(S:Ao O P.K U){x:Int}(hx:Bd 1000 x):FnP O w U (n+1) 110 [.int x] (· =.int (BN x)):=by
 by_cases h:x<2
 ·refine rr ((AU x).1 h) ?_
  have hc:=decide_eq_true h
  refine FnP.go S (Dw P) rfl [.br true] rfl ?_
  exact obs
 ·have hc:=decide_eq_false h
  obtain⟨a,a1,a2,a3,a4,a5⟩:=Xi (w:=w) (n:=n) S hx _ 1 2 (lt_succ_self _) (by decide) (by exact Af (not_lt.mp h)) rfl
  obtain⟨b,tl,b1,b2,b3,b4,b5⟩:=Xj (w:=w) (n:=n) S _ a (a*2) [] (.inl rfl) (lt_succ_self _) a1 (hx.twice (cT a1 a2)) a3 a4 (by exact Af a1)
  obtain rfl:b=BN x:=HV.unique ⟨fun h'=>absurd h' h,fun V=>⟨by exact Af b2,b3,b4⟩⟩ (AU x)
  rcases b1 with rfl|⟨d,rfl⟩
  ·refine FnP.go S (Dw P) rfl [.br false,.run .next (Vo x a (a*2) []),.run .next (Vo x (BN x) (BN x+1) [])] rfl ?_
   repeat' first|exact obN|refine obA ?_|apply obC
   ·exact fun Q q=>FP _ (b5 Q q)
   ·exact fun Q q=>FP _ (a5 Q q)
  ·refine FnP.go S (Dw P) rfl [.br false,.run .next (Vo x a (a*2) []),.run .next (Vo x (BN x) (BN x+1) [("middle",d)])] rfl ?_
   repeat' first|exact obN|refine obA ?_|apply obC
   ·exact fun Q q=>FP _ (b5 Q q)
   ·exact fun Q q=>FP _ (a5 Q q)
theorem HY(S:Ao O P.K U){x y:Int}(hx:Bd 400 x)(hy:Bd 400 y):FnP O w U (n+2) 103 [.int x,.int y] (· =.int (BN (x*x+y*y))):=by
 have h1:Am x x:=Ah hx hx
 have h2:Am y y:=Ah hy hy
 have h:=Gg (w:=w) (n:=n) S ((Bd.add (Bd.mul hx hx) (Bd.mul hy hy)).up (by decide))
 refine FnP.go S (Hh P) rfl [.val _] rfl ?_
 exact obs
theorem Vp(a:Int):0≤if a<0 then-a else a:=by
 split
 ·exact Int.neg_nonneg_of_nonpos (le_of_lt ‹_›)
 ·exact not_lt.mp ‹_›
theorem Bd.divI(ha:Bd k a):Bd k (Mine.Internal.CM a b):=by
 have key:∀A B:Int,0≤A→0≤B→((2*A+B).fdiv (2*B)).natAbs≤A.natAbs:=by
  intro A B hA hB
  refine rr (fdiv_eq_ediv_of_nonneg _ (by exact Aq hB hB)) ?_
  rcases Int.lt_or_eq_of_le hB with h|h
  ·have h2:(2*A+B)/(2*B)≤A:=by
    have h3:2*A+B<(A+1)*(2*B):=by
     have:A*1≤A*B:=mul_le_mul_of_nonneg_left (by exact Af h) hA
     have e:(A+1)*(2*B)=2*(A*B)+2*B:=by refine rr (add_mul ..) ?_;refine rr (one_mul ..) (rr (mul_left_comm ..) ?_);rfl
     rw[mul_one]at this
     refine rr e ?_;exact He this this h
    have:=Int.ediv_lt_of_lt_mul (by exact Aq hB h:0<2*B) h3
    exact Af this
   have h0:0≤(2*A+B)/(2*B):=Int.ediv_nonneg (by exact He hA hA hB) (by exact Aq hB hB)
   exact Hp h0 h2
  ·subst h;simp
 have h1:(if a<0 then-a else a).natAbs=a.natAbs:=by split<;>first|rfl|exact natAbs_neg a
 have h2:=key (if a<0 then-a else a) (if b<0 then-b else b) (Vp a) (Vp b)
 delta Mine.Internal.CM
 dsimp only
 split
 ·exact ha.le (by exact Gu (Nat.le_of_eq h1) h2)
 ·exact ha.le (by refine rr (natAbs_neg ..) (rl h1 ?_);exact h2)
theorem Bd.rootI{x:Int}(h:Bd k x):Bd k (Mine.Internal.BN x):=by
 by_cases hx:x<2
 ·refine rr ((AU x).1 hx) ?_;exact h
 ·have:=TS (x:=x) (by exact Af (not_lt.mp hx))
  exact h.le (Hp this.1 this.2)
noncomputable def Xk(points:List Dat)(closed:Bool):Dat:=.inst 141 [("points",.list points),("is_closed",.bool closed)]
theorem DH(S:Ao O P.K U){p c:Dat}:FnL O w U (n+1) 131 (.obj 141 []) [p,c] (fun r a=>r=.none∧a=.obj 141 [("points",.dat p),("is_closed",.dat c)]):=
 FnL.go S (FS P) (by kernel_rfl) rfl [] rfl obs
theorem QV(S:Ao O P.K U){ps:List Dat}{c:Bool}(hz:ps.length<2^62):FnP O w U (n+1) 138 [Xk ps c] (· =.bool (decide ((ps.length:Int)=1))):=
 FnP.go S (ED P) rfl [] rfl obs
noncomputable abbrev Ln:=List Pt×Bool
inductive Row where
 |m (p:Pt)|l (p:Pt)|c (p q r:Pt)|z
variable{rs rows:List Row}
noncomputable def Be:Row→Dat
 | .m p=>.tuple [.str "m",.int p.1,.int p.2]
 | .l p=>.tuple [.str "l",.int p.1,.int p.2]
 | .c p q r=>.tuple [.str "c",.int p.1,.int p.2,.int q.1,.int q.2,.int r.1,.int r.2]
 | .z=>.tuple [.str "z"]
structure Mx where
 (a b c d e f:Int)
noncomputable def Mx.D(m:Mx):Dat:=YS m.a m.b m.c m.d m.e m.f
noncomputable def trans(m:Mx)(p:Pt):Pt:=(CM (m.a*p.1+m.c*p.2) 1000000+m.e,CM (m.b*p.1+m.d*p.2) 1000000+m.f)
noncomputable def MD(m:Mx)(p:Pt):Pt:=(Pq ((m.d*(p.1-m.e)-m.c*(p.2-m.f))*1000000) (m.a*m.d-m.b*m.c),Pq ((m.a*(p.2-m.f)-m.b*(p.1-m.e))*1000000) (m.a*m.d-m.b*m.c))
noncomputable def BH(last:Pt):List Pt→List Pt
 |[]=>[]
 |q::qs=>if q=last then BH last qs else q::BH q qs
noncomputable def II:List Pt→List Pt
 |[]=>[]
 |p::ps=>p::BH p ps
noncomputable def Lk(ps:List Pt):List Pt:=if 1<ps.length∧ps.getLast? =ps.head? then ps.dropLast else ps
noncomputable def Bk(ps:List Pt)(cl:Bool):Option Ln:=
 if ps.length<2∧cl=false then none else some (if cl then Lk (II ps)else II ps,cl)
noncomputable def lnD(l:Ln):Dat:=Xk (l.1.map pD) l.2
noncomputable def lnO:Option Ln→Dat
 |none=>.none
 |some l=>lnD l
noncomputable def DA:List Row→List (Option Ln)→List Pt→List (Option Ln)
 |[],f,ps=>f++[Bk ps false]
 | .m p::r,f,ps=>DA r (f++[Bk ps false]) [p]
 | .l p::r,f,ps=>DA r f (ps++[p])
 | .z::r,f,ps=>DA r (f++[Bk ps true]) (ps.take 1)
 | .c _ _ _::r,f,ps=>DA r f ps
noncomputable def Hk(fs:List (Option Ln)):List Ln:=(fs.filterMap id).filter fun l=>!l.1.isEmpty
noncomputable def Bg(rows:List Row):List Ln:=Hk (DA rows [] [])
noncomputable def BQ(m:Mx)(l:Ln):Ln:=(Bk (l.1.map (MD m)) l.2).getD (l.1.map (MD m),l.2)
noncomputable def Ag(p q:Pt):Pt:=(p.1+q.1,p.2+q.2)
noncomputable def Ae(p q:Pt):Pt:=(p.1-q.1,p.2-q.2)
noncomputable def AJ(p q:Pt):Int:=p.1*q.2-p.2*q.1
noncomputable def Ll(ps:List Pt):List (Pt×Pt):=ps.zip (ps.drop 1++ps.take 1)
noncomputable def BB(ps:List Pt):Int:=(Ll ps).foldl (fun s q=>s+AJ q.1 q.2) 0
noncomputable def BO:List Pt→List Row
 |[]=>[]
 |p::ps=>.m p::(ps.map .l++[.z])
noncomputable def AW(ps:List Pt):List Pt:=if BB ps<0 then ps.reverse else ps
noncomputable def Ch(m:Mx)(pts:List Pt):List Row:=if BB (pts.map (trans m))=0 then[]else BO (AW (pts.map (trans m)))
noncomputable def Cn(half reach:Int)(one other:Pt):Pt:=(one.1+CM (other.1*reach) half,one.2+CM (other.2*reach) half)
noncomputable def KD(m:Mx)(half reach:Int)(c one other:Pt):Row:=.c (trans m (Ag c (Cn half reach one other))) (trans m (Ag c (Cn half reach other one))) (trans m (Ag c other))
noncomputable def EE(turned:Bool)(half:Int):Pt×Pt×Pt×Pt:=if turned then((half,0),(0,-half),(-half,0),(0,half))else((half,0),(0,half),(-half,0),(0,-half))
noncomputable def Au(half:Int):Int:=CM (half*552285) 1000000
noncomputable def AP(m:Mx)(turned:Bool)(half:Int)(c:Pt):List Row:=
 if half=0 then[]else
 let k:=EE turned half
 let r:=Au half
 [.m (trans m (Ag c k.1)),KD m half r c k.1 k.2.1,KD m half r c k.2.1 k.2.2.1,KD m half r c k.2.2.1 k.2.2.2,KD m half r c k.2.2.2 k.1,.z]
noncomputable def An(half:Int)(w:Pt):Pt:=
 (CM (-w.2*half*1000000) (BN ((w.1*1000000)*(w.1*1000000)+(w.2*1000000)*(w.2*1000000))),CM (w.1*half*1000000) (BN ((w.1*1000000)*(w.1*1000000)+(w.2*1000000)*(w.2*1000000))))
structure CI where
 (half cap join limit:Int)
 m:Mx
noncomputable def CI.turned(p:CI):Bool:=decide (p.m.a*p.m.d-p.m.b*p.m.c<0)
inductive Fig where
 |poly (ps:List Pt)
 |circ (c:Pt)
noncomputable def Ak(p:CI):Fig→List Row
 | .poly ps=>Ch p.m ps
 | .circ c=>AP p.m p.turned p.half c
noncomputable def Ci(half:Int)(one other:Pt):Fig:=
 let s:=An half (Ae other one)
 .poly [Ag one s,Ae one s,Ae other s,Ag other s]
noncomputable def AQ(one other:Pt):Int:=BN ((one.1*one.1+one.2*one.2)*(other.1*other.1+other.2*other.2)*1000000*1000000)
noncomputable def BI(one other:Pt):Int:=AQ one other+1000000*(one.1*other.1+one.2*other.2)
noncomputable def Dh(whole both limit:Int):Bool:=decide (both≤0)||decide (limit*limit*both<2*whole*1000000*1000000)
noncomputable def Az(p:CI)(a h b:Pt):List Fig:=
 let one:=Ae h a
 let other:=Ae b h
 let turn:=AJ one other
 if p.join=1 then[.circ h]else
 if turn=0 then[]else
 let sign:Int:=if 0<turn then-1 else 1
 let n0:=An p.half one
 let f0:=An p.half other
 let near:Pt:=(sign*n0.1,sign*n0.2)
 let far:Pt:=(sign*f0.1,sign*f0.2)
 let whole:=AQ one other
 let both:=BI one other
 if p.join=0∧Dh whole both p.limit=false then
  [.poly [h,Ag h near,(h.1+CM ((near.1+far.1)*whole) both,h.2+CM ((near.2+far.2)*whole) both),Ag h far]]
 else[.poly [h,Ag h near,Ag h far]]
noncomputable def AI(p:CI)(a h:Pt):List Fig:=
 if p.cap=1 then[.circ h]else
 if p.cap=2 then
  let s:=An p.half (Ae h a)
  let on:Pt:=(s.2,-s.1)
  [.poly [Ag h s,Ae h s,Ag (Ae h s) on,Ag (Ag h s) on]]
 else[]
noncomputable def at'(ps:List Pt)(k:Nat):Pt:=ps.getD k (0,0)
noncomputable def TU(as bs cs:List Pt):List (Pt×Pt×Pt):=as.zip (bs.zip cs)
noncomputable def Fr(p:CI)(l:Ln):List Fig:=
 let ps:=l.1
 if l.2 then(if 2<ps.length then Az p (at' ps (ps.length-2)) (at' ps (ps.length-1)) (at' ps 0)else Az p (at' ps 0) (at' ps 1) (at' ps 0))++Az p (at' ps (ps.length-1)) (at' ps 0) (at' ps 1)
 else AI p (at' ps 1) (at' ps 0)++AI p (at' ps (ps.length-2)) (at' ps (ps.length-1))
noncomputable def Bo(p:CI)(l:Ln):List Fig:=
 if l.1.length=1 then(if p.cap=1 then[.circ (at' l.1 0)]else[])else
 let ring:=if l.2 then l.1++l.1.take 1 else l.1
 (ring.zip (ring.drop 1)).map (fun q=>Ci p.half q.1 q.2)++(TU l.1 (l.1.drop 1) (l.1.drop 2)).flatMap (fun q=>Az p q.1 q.2.1 q.2.2)++Fr p l
noncomputable def Bj(p:CI)(i:Addr)(rs:List Row):AF:=
 .obj 301 [("half",.dat (.int p.half)),("cap",.dat (.int p.cap)),("join",.dat (.int p.join)),("limit",.dat (.int p.limit)),("matrix",.dat p.m.D),("is_turned",.dat (.bool p.turned)),("rows",.own i (rs.map Be))]
theorem aj(S:Ao O P.K U){x:Int}(hx:Bd 1000 x):FnP O w U (n+1) 110 [.int x] (fun r=>r=.int (BN x)):=Gg S hx
theorem TV(S:Ao O P.K U){x y:Int}(hx:Bd 400 x)(hy:Bd 400 y):FnP O w U (n+2) 103 [.int x,.int y] (fun r=>r=.int (BN (x*x+y*y))):=HY S hx hy
theorem ME(S:Ao O P.K U){m:Mx}(ha:Bd 64 m.a)(hb:Bd 64 m.b)(hc:Bd 64 m.c)(hd:Bd 64 m.d)(hx:Bd 1000 p.1)(hy:Bd 1000 p.2):
 FnP O w U (n+2) 82 [m.D,.int p.1,.int p.2] (fun r=>r=pD (trans m p)):=
 MC S (Ah ha hx) (Ah hc hy) (Ah hb hx) (Ah hd hy)
theorem QW(S:Ao O P.K U){m:Mx}(ha:Bd 64 m.a)(hb:Bd 64 m.b)(hc:Bd 64 m.c)(hd:Bd 64 m.d)(hx:Bd 1000 (p.1-m.e))(hy:Bd 1000 (p.2-m.f))(h0:m.a*m.d-m.b*m.c≠0):
 FnP O w U (n+4) 96 [m.D,.int p.1,.int p.2] (fun r=>r=pD (MD m p)):=
 Fq S ⟨Ah ha hd,Ah hb hc,Ah hd hx,Ah hc hy,Ah ha hy,Ah hb hx⟩ h0
theorem Kd:∀(qs:List Pt) (p:Pt),(BH p qs).Sublist qs:=by
 intro qs
 induction qs with
 |nil=>
  intro _
  exact .slnil
 |cons q qs ih=>
  intro p
  rewrite[BH]
  split
  ·exact(ih p).cons _
  ·exact(ih q).cons_cons _
theorem QX(g:List Pt):(II g).Sublist g:=by
 rcases g with _|⟨p,g⟩
 ·exact .slnil
 ·exact(Kd g p).cons_cons _
theorem QY(g:List Pt):(II g).length≤g.length:=(QX g).length_le
noncomputable def ak(ps:List Pt)(cl:Bool)(f:List Dat):St:=[("points",.dat (.list (ps.map pD))),("is_closed",.dat (.bool cl)),("found",.lst f)]
noncomputable def QZ(ds:List Dat)(c:Bool):AF:=.obj 141 [("points",.dat (.list ds)),("is_closed",.dat (.bool c))]
noncomputable def slX(k:List Nat):Stmt:=KC (AY 152) k
theorem Ra(h:p=q):Ce .Eq (pD p) (pD q)=true:=(Qk p q).mpr h
theorem Rb(h:p≠q):Ce .Eq (pD p) (pD q)=false:=(Bool.not_eq_true _).mp fun e=>h ((Qk p q).mp e)
theorem Xl(h:p≠q):Ce .NotEq (pD p) (pD q)=true:=congrArg not (Rb h)
theorem Xm(h:p=q):Ce .NotEq (pD p) (pD q)=false:=congrArg not (Ra h)
theorem Xn(S:Ao O P.K U)(F:AT Q):∀(rs acc:List Pt) (last:Pt),acc.length+rs.length+1≤1000000→Q .next (ak ps cl ((acc++last::BH last rs).map pD))→
 Bv O w U (scC 152) (n+2) (AG (slX [2])) (Cr (slX [2])) Q (rs.map pD) (ak ps cl (acc.map pD++[pD last])):=by
 intro rs
 induction rs with
 |nil=>
  intro acc last _ q
  rw[map_append]at q
  exact q
 |cons r rs ih=>
  intro acc last hl q
  rw[length_cons]at hl
  have hz:(acc.map pD++[pD last]).length<2^62:=by refine rr length_append ?_;refine rr (length_map ..) (rr length_singleton ?_);exact Ay hl
  by_cases h:r=last
  ·refine Aw S ["point"] [.val (pD last),.br false] (ih acc last (by exact Ay hl) (by rwa [BH,if_pos h]at q)) rfl ?_ F
   repeat' first|exact obN|refine obA ?_|apply obC
   ·exact Xm h
  ·have k:=ih (acc++[last]) r (by refine rr length_append (rr length_singleton ?_);exact Ay hl) (by rw[BH,if_neg h]at q;rwa [append_assoc])
   rw[map_append]at k
   refine Aw S ["point"] [.val (pD last),.br true] k rfl ?_ F
   repeat' first|exact obN|refine obA ?_|apply obC
   ·exact le_trans (show _≤16777216 by refine rr length_append ?_;refine rr (length_map ..) (rr length_singleton ?_);exact Ay hl) szl
   ·exact Xl h
theorem am(S:Ao O P.K U){fs:List Pt}(hz:fs.length≤1000000)(h0:cl=true→fs≠[]):Ss O w U (scC 152) (n+2) ((AY 152).drop 3) (ak ps cl (fs.map pD)) (fun fl V=>flD fl=Xk ((if cl=true then Lk fs else fs).map pD) cl):=by
 have hl:(fs.map pD).length<2^62:=by refine rr (length_map ..) ?_;exact Ay hz
 have mk:=fun p c=>DH (w:=w) (n:=n) S (p:=p) (c:=c)
 rcases cl with _|_
 ·
  refine AO S (os:=[.br false,.br false,.lent .none (QZ (fs.map pD) false)]) rfl ?_ rfl
  repeat' first|exact obN|refine obA ?_|apply obC
  exact mk _ _
 ·
  obtain⟨a,as,rfl⟩:=List.exists_cons_of_ne_nil (h0 rfl)
  by_cases h1:1<(a::as).length
  ·obtain⟨l,b,e⟩:∃l b,a::as=l++[b]:=⟨_,_,(List.dropLast_concat_getLast (by simp)).symm⟩
   have e1:AK ((a::as).map pD) (-1)=some (pD b):=by refine rr e (rr map_append ?_);exact DT
   have c1:decide ((1:Int)<(((a::as).map pD).length:Nat))=true:=decide_eq_true (by refine rr (length_map ..) ?_;lia)
   have hlast:(a::as).getLast?=some b:=by refine rr e ?_;exact List.getLast?_concat
   by_cases hb:b=a
   ·have et:Lk (a::as)=l:=by rewrite[Lk];refine rr (if_pos ⟨h1,by refine rr hlast (rr hb ?_);rfl⟩) ?_;refine rr e (rr List.dropLast_concat ?_);(with_reducible rfl)
    refine rr (if_pos rfl) (rr et ?_)
    have e2:(a::as).map pD=l.map pD++[pD b]:=by refine rr e (rr map_append ?_);rfl
    have hz':(l.map pD).length+1≤sizeLine:=le_trans (show _≤16777216 by have:=congrArg List.length e;rw[length_append,length_singleton]at this;refine rr (length_map ..) ?_;exact Gu hz (Nat.le_of_eq this.symm)) szl
    refine AO S (os:=[.br true,.br true,.val (pD b),.val (pD a),.br true,.br true,.ask (.dat (pD b)) (ak ps true (l.map pD)),.lent .none (QZ (l.map pD) true)]) rfl ?_ rfl
    repeat' first|exact obN|refine obA ?_|apply obC
    ·exact mk _ _
    ·exact fun Q q=>Zq S (congrArg (fun z=>some (AF.lst z)) e2) hz' q
    ·exact Ra hb
   ·have et:Lk (a::as)=a::as:=by rewrite[Lk];refine rr (if_neg fun h=>hb (by have:=h.2;rw[hlast]at this;exact Option.some.inj this)) ?_;(with_reducible rfl)
    refine rr (if_pos rfl) (rr et ?_)
    refine AO S (os:=[.br true,.br true,.val (pD b),.val (pD a),.br false,.br false,.lent .none (QZ ((a::as).map pD) true)]) rfl ?_ rfl
    repeat' first|exact obN|refine obA ?_|apply obC
    ·exact mk _ _
    ·exact Rb hb
  ·obtain rfl:as=[]:=by cases as with|nil=>rfl|cons _ _=>exact absurd (by simp) h1
   refine AO S (os:=[.br true,.br false,.br false,.lent .none (QZ [pD a] true)]) rfl ?_ rfl
   repeat' first|exact obN|refine obA ?_|apply obC
   exact mk _ _
theorem BV(S:Ao O P.K U)(hz:ps.length≤1000000)(h0:ps=[]→cl=false):FnP O w U (n+3) 152 [.list (ps.map pD),.bool cl] (· =lnO (Bk ps cl)):=by
 have len:∀b,decide (ps.length<2)=b→Ce .Lt (.int (ps.map pD).length) (.int 2)=b:=fun b e=>by
  refine rr (length_map ..) (rl e ?_)
  show decide _=_
  exact decide_eq_decide.mpr (by lia)
 have hl:(ps.map pD).length<2^62:=by refine rr (length_map ..) ?_;exact Ay hz
 have hl2:(ps.map pD).length≤sizeLine:=le_trans (show _≤16777216 by refine rr (length_map ..) ?_;exact Ay hz) szl
 by_cases hc:ps.length<2∧cl=false
 ·obtain⟨h1,rfl⟩:=hc
  have c1:=len true (decide_eq_true h1)
  rewrite[Bk];refine rr (if_pos ⟨h1,rfl⟩) ?_
  refine FnP.go S (DF P) rfl [.br true,.br true,.br true] rfl ?_
  exact obs
 ·obtain⟨p,qs,rfl⟩:∃p qs,ps=p::qs:=by
   rcases ps with _|⟨p,qs⟩
   ·exact absurd ⟨by decide,h0 rfl⟩ hc
   ·exact⟨p,qs,rfl⟩
  refine FnP.ofC S (DF P) rfl ?_
  have rest:Ss O w U (scC 152) (n+2) ((AY 152).drop 2) (ak (p::qs) cl [pD p]) (fun fl V=>flD fl=lnO (Bk (p::qs) cl)):=by
   refine Jd S [] rfl rfl obs ?_
   refine Xn S Av qs [] p (by rw[length_cons]at hz;refine rr length_nil ?_;exact Ay hz) ?_
   have:=am (w:=w) (n:=n) S (ps:=p::qs) (fs:=II (p::qs)) (cl:=cl) (le_trans (QY _) hz) (fun V=>cons_ne_nil _ _)
   refine this.mono fun fl s h=>?_
   refine rr h ?_;rewrite[Bk];refine rr (if_neg hc) ?_;rfl
  by_cases h1:(p::qs).length<2
  ·have c1:=len true (decide_eq_true h1)
   obtain rfl:cl=true:=by cases cl<;>first|rfl|exact absurd ⟨h1,rfl⟩ hc
   refine Ax S 2 [] [.br true,.br false,.br false] rfl ?_ rest
   exact obs
  ·have c1:=len false (decide_eq_false h1)
   refine Ax S 2 [] [.br false,.br false] rfl ?_ rest
   exact obs
def Ha:List Row→List Pt→Prop
 |[],_=>True
 | .m p::r,_=>Ha r [p]
 | .l p::r,ps=>Ha r (ps++[p])
 | .z::r,ps=>ps≠[]∧Ha r (ps.take 1)
 | .c _ _ _::_,_=>False
theorem TX(f:α→β)(l:List α)(a:α):(l++[a]).map f=l.map f++[f a]:=by simp
theorem OS(x:Option Ln)(fs:List (Option Ln)):Hk (x::fs)=(match x with|none=>[]|some l=>if l.1.isEmpty then[]else[l])++Hk fs:=by
 rcases x with _|⟨l⟩
 ·rfl
 ·simp only[Hk,List.filterMap_cons,id,filter_cons];cases l.1.isEmpty<;>simp
theorem Jf(S:Ao O P.K U){Q:List Dat→St→Prop}(L:List Str)(os:List Or)(q:Bm O w U sc n tgt ifs elt Q ds acc st')(h:MA L (OO O w U n sc tgt ifs elt d st os [])=some (none,st',ms))(hm:AD ms)(hz:acc.length+1≤sizeLine)(F:∀acc s,Q acc (LV L s)→Q acc s):Bm O w U sc n tgt ifs elt Q (d::ds) acc st:=by
 obtain⟨s,e,rfl⟩:=Gd h
 exact QS S os (q.drop (Gc L s) (F _ s)) e hm hz
noncomputable def cU(rows:List Row)(ps:List Dat)(fs:List Dat):St:=[("rows",.dat (.list (rows.map Be))),("points",.lst ps),("found",.lst fs)]
noncomputable def lsX(k:List Nat):Stmt:=KC (AY 157) k
theorem Xo(S:Ao O P.K U)(F:AT Q):∀(rs:List Row) (fs:List (Option Ln)) (ps:List Pt),fs.length+rs.length≤1000→ps.length+rs.length≤1000→Ha rs ps→
 (∀fs' ps',fs'.length≤1000→ps'.length≤1000→fs'++[Bk ps' false]=DA rs fs ps→Q .next (cU rows (ps'.map pD) (fs'.map lnO)))→Bv O w U (scC 157) (n+3) (AG (lsX [1])) (Cr (lsX [1])) Q (rs.map Be) (cU rows (ps.map pD) (fs.map lnO)):=by
 intro rs
 induction rs with
 |nil=>exact fun fs ps hf hp V q=>q fs ps hf hp rfl
 |cons r rs ih=>
  intro fs ps hf hp hr q
  rw[length_cons]at hf hp
  have hfz:(fs.map lnO).length+1≤sizeLine:=le_trans (show _≤16777216 by refine rr (length_map ..) ?_;exact Ay hf) szl
  have hpz:(ps.map pD).length+1≤sizeLine:=le_trans (show _≤16777216 by refine rr (length_map ..) ?_;exact Ay hp) szl
  have hpz':(ps.map pD).length≤sizeLine:=Nat.le_of_succ_le hpz
  cases r with
  |m p=>
   have k:=ih (fs++[Bk ps false]) [p] (by refine rr length_append (rr length_singleton ?_);exact Ay hf) (by refine rr length_singleton ?_;exact Ay hf) hr q
   rw[map_append]at k
   have f:=BV (w:=w) (n:=n) (ps:=ps) (cl:=false) S (by exact Ay hp) (fun V=>rfl)
   refine Aw S ["row"] [.br true,.val (lnO (Bk ps false))] k rfl ?_ F
   exact obs
  |l p=>
   have k:=ih fs (ps++[p]) (by exact Ay hf) (by refine rr length_append (rr length_singleton ?_);exact Ay hp) hr q
   rw[map_append]at k
   refine Aw S ["row"] [.br false,.br true] k rfl ?_ F
   exact obs
  |z=>
   have k:=ih (fs++[Bk ps true]) (ps.take 1) (by refine rr length_append (rr length_singleton ?_);exact Ay hf) (by refine rr length_take ?_;exact(Gu hf (min_le_left (1) (ps.length)))) hr.2 q
   rw[map_append,map_take]at k
   have f:=BV (w:=w) (n:=n) (ps:=ps) (cl:=true) S (by exact Ay hp) (fun h=>absurd h hr.1)
   refine Aw S ["row"] [.br false,.br false,.br true,.val (lnO (Bk ps true))] k rfl ?_ F
   exact obs
  |c _ _ _=>exact hr.elim
noncomputable def lsE:Expr:=AG (lsX [3])
theorem Xp(S:Ao O P.K U){Q:List Dat→St→Prop}(F:∀acc s,Q acc (LV ["line"] s)→Q acc s):∀(gs:List (Option Ln)) (acc:List Dat),acc.length+gs.length≤1001→Q (acc++(Hk gs).map lnD) []→
 Bm O w U (BL (OP lsE) (scC 157)) (n+3) (JZ lsE) (Ka lsE) (IH lsE) Q (gs.map lnO) acc []:=by
 intro gs
 induction gs with
 |nil=>intro acc _ q;exact(append_nil acc)▸q
 |cons g gs ih=>
  intro acc hl q
  rw[length_cons]at hl
  have hz:acc.length+1≤sizeLine:=le_trans (show _≤16777216 by exact Ay hl) szl
  rw[OS]at q
  rcases g with _|⟨l⟩
  ·
   refine Jf S ["line"] [.br false,.br false] (ih acc (by exact Ay hl) q) rfl ?_ hz F
   repeat' first|exact obN|refine obA ?_|apply obC
   all_goals exact trivial
  ·
   have pl:Cm (.list (l.1.map pD))∧Cm (.list []):=⟨(Qm _).plain,(Qm []).plain⟩
   have e:(!deq (.list (l.1.map pD)) (.list []))=!l.1.isEmpty:=by refine rr (KW ..) ?_;simp
   cases c:l.1.isEmpty with
   |true=>
    rw[c]at e
    refine Jf S ["line"] [.br true,.br false,.br false] (ih acc (by exact Ay hl) (by simpa[c]using q)) rfl ?_ hz F
    repeat' first|exact obN|refine obA ?_|apply obC
    all_goals exact trivial
   |false=>
    rw[c]at e
    refine BY S ["line"] [.br true,.br true,.br true] (ih (acc++[lnD l]) (by refine rr length_append (rr length_singleton ?_);exact Ay hl) (by simpa[c]using q)) rfl ?_ hz F
    repeat' first|exact obN|refine obA ?_|apply obC
    all_goals exact trivial
theorem TY(S:Ao O P.K U){Q:List Dat→St→Prop}{gs:List (Option Ln)}(e:ds=gs.map lnO)(F:∀acc s,Q acc (LV ["line"] s)→Q acc s)(hl:gs.length≤1001)(q:Q ((Hk gs).map lnD) []):
 Bm O w U (BL (OP lsE) (scC 157)) (n+3) (JZ lsE) (Ka lsE) (IH lsE) Q ds [] []:=e▸Xp S F gs [] (by refine rr length_nil ?_;exact Ay hl) q
theorem IJ(S:Ao O P.K U)(hz:rows.length≤1000)(hr:Ha rows []):FnP O w U (n+4) 157 [.list (rows.map Be)] (fun r=>r=.list ((Bg rows).map lnD)):=by
 refine FnP.ofC S (HL P) rfl ?_
 refine Ax (st':=cU rows [] []) S 1 [] [] rfl obs ?_
 refine Jd S [] rfl rfl obs ?_
 refine Xo S Av rows [] [] (by refine rr length_nil ?_;exact Ay hz) (by refine rr length_nil ?_;exact Ay hz) hr fun fs ps hf hp e=>?_
 have hfz:(fs.map lnO).length+1≤sizeLine:=le_trans (show _≤16777216 by refine rr (length_map ..) ?_;exact Ay hf) szl
 have f:=BV (w:=w) (n:=n) (ps:=ps) (cl:=false) S (by exact Ay hp) (fun V=>rfl)
 have es:Bg rows=Hk (fs++[Bk ps false]):=by rewrite[Bg];refine rr e ?_;(with_reducible rfl)
 refine rr es ?_
 have em:(fs++[Bk ps false]).map lnO=fs.map lnO++[lnO (Bk ps false)]:=map_append
 refine AO S (os:=[.val (lnO (Bk ps false)),.ask (.dat (.list ((Hk (fs++[Bk ps false])).map lnD))) [("rows",.dat (.list (rows.map Be))),("points",.dat (.list (ps.map pD))),("found",.dat (.list (fs.map lnO++[lnO (Bk ps false)])))]]) rfl ?_ rfl
 repeat' first|exact obN|refine obA ?_|apply obC
 refine fun Q q=>AV (EA (BG.of (by kernel_rfl)) (FN (Fb S (os:=[]) rfl obs ⟨_,rfl,?_⟩)))
 refine TY S em.symm ?_ (by refine rr length_append (rr length_singleton ?_);exact Ay hf) q
 intro acc s q
 rwa [BM (by kernel_rfl)]at q
noncomputable def lbE:Expr:=AG (KC (AY 310) [0])
theorem Xq(S:Ao O P.K U){m:Mx}(ha:Bd 64 m.a)(hb:Bd 64 m.b)(hc:Bd 64 m.c)(hd:Bd 64 m.d)(h0:m.a*m.d-m.b*m.c≠0){Q:List Dat→St→Prop}(F:∀acc s,Q acc (LV ["point"] s)→Q acc s):∀(qs:List Pt) (acc:List Dat),acc.length+qs.length≤1000→(∀p∈qs,Bd 1000 (p.1-m.e)∧Bd 1000 (p.2-m.f))→Q (acc++(qs.map (MD m)).map pD) [("matrix",.dat m.D)]→
 Bm O w U (BL (OP lbE) (scC 310)) (n+4) (JZ lbE) (Ka lbE) (IH lbE) Q (qs.map pD) acc [("matrix",.dat m.D)]:=by
 intro qs
 induction qs with
 |nil=>intro acc _ _ q;exact(append_nil acc)▸q
 |cons a qs ih=>
  intro acc hl hq q
  rw[length_cons]at hl
  have k:=ih (acc++[pD (MD m a)]) (by refine rr length_append (rr length_singleton ?_);exact Ay hl) (fun p h=>hq p (.tail _ h)) (by refine rr (append_assoc ..) ?_;exact q)
  have iv:=QW (w:=w) (n:=n) S ha hb hc hd (hq a (.head _)).1 (hq a (.head _)).2 h0
  refine BY S ["point"] [.val (pD (MD m a))] k rfl ?_ (le_trans (show _≤16777216 by exact Ay hl) szl) F
  exact obs
theorem GJ(S:Ao O P.K U){l:Ln}{m:Mx}(hz:l.1.length≤1000)(hl:l.1≠[])(ha:Bd 64 m.a)(hb:Bd 64 m.b)(hc:Bd 64 m.c)(hd:Bd 64 m.d)(hp:∀p∈l.1,Bd 1000 (p.1-m.e)∧Bd 1000 (p.2-m.f))(h0:m.a*m.d-m.b*m.c≠0):
 FnP O w U (n+5) 310 [lnD l,m.D] (fun r=>r=lnD (BQ m l)):=by
 obtain⟨ps,cl⟩:=l
 refine FnP.ofC S (FU P) rfl ?_
 refine GI S [("matrix",.dat m.D)] [] rfl rfl obs (Xq S ha hb hc hd h0 ?_ ps [] (by refine rr length_nil (rr (Nat.zero_add ..) ?_);exact hz) hp ?_) (by kernel_rfl) (by kernel_rfl) (by kernel_rfl) (by intro Y h;cases Y;dsimp only at h;subst h;kernel_rfl)
 ·intro acc s q
  rwa [BM (by kernel_rfl)]at q
 refine Ss.at [("line",.dat (lnD (ps,cl))),("matrix",.dat m.D),("points",.lst ((ps.map (MD m)).map pD))] ?_ (by kernel_rfl)
 have f:=BV (w:=w) (n:=n+1) (ps:=ps.map (MD m)) (cl:=cl) S (by refine rr (length_map ..) ?_;exact le_trans hz (by decide)) (fun h=>absurd (map_eq_nil_iff.mp h) hl)
 have mk:=DH (w:=w) (n:=n+2) S (p:=.list ((ps.map (MD m)).map pD)) (c:=.bool cl)
 delta BQ
 dsimp only
 cases e:Bk (ps.map (MD m)) cl with
 |none=>
  rw[e]at f
  refine AO S (os:=[.val .none,.br false,.lent .none (QZ ((ps.map (MD m)).map pD) cl)]) rfl ?_ rfl
  repeat' first|exact obN|refine obA ?_|apply obC
  all_goals first|exact mk|exact trivial
 |some l=>
  rw[e]at f
  refine AO S (os:=[.val (lnD l),.br true]) rfl ?_ rfl
  repeat' first|exact obN|refine obA ?_|apply obC
  all_goals exact trivial
def Gh(m:Mx):Prop:=Bd 64 m.a∧Bd 64 m.b∧Bd 64 m.c∧Bd 64 m.d∧Bd 64 m.e∧Bd 64 m.f
def BdP(k:Nat)(p:Pt):Prop:=Bd k p.1∧Bd k p.2
theorem BdP.up{l:Nat}(h:BdP k p)(kl:autoParam (k≤l) au.a4._auto_1):BdP l p:=⟨h.1.up kl,h.2.up kl⟩
theorem TZ{m:Mx}(hm:Gh m)(hp:BdP 900 p):BdP 1000 (trans m p):=by
 obtain⟨ha,hb,hc,hd,he,hf⟩:=hm
 obtain⟨hx,hy⟩:=hp
 exact⟨(Bd.add (Bd.divI (Bd.add (Bd.mul ha hx) (Bd.mul hc hy))) he).up,(Bd.add (Bd.divI (Bd.add (Bd.mul hb hx) (Bd.mul hd hy))) hf).up⟩
theorem Nx(S:Ao O P.K U){p:CI}(hm:Gh p.m)(hq:BdP 900 q):
 FnL O w U (n+3) 253 (Bj p i rs) [pD q] (fun d a=>d=pD (trans p.m q)∧a=Bj p i rs):=by
 have h:=ME (w:=w) (n:=n) S hm.1 hm.2.1 hm.2.2.1 hm.2.2.2.1 hq.1.up hq.2.up
 refine FnL.go S (JO P) (by kernel_rfl) rfl [.val (pD (trans p.m q))] rfl ?_
 exact obs
theorem Ke(S:Ao O P.K U){p:CI}(hh:Bd 64 p.half)(hq:BdP 100 q)(h0:q≠(0,0)):
 FnL O w U (n+4) 270 (Bj p i rs) [pD q] (fun d a=>d=pD (An p.half q)∧a=Bj p i rs):=by
 have b1:=hq.1;have b2:=hq.2
 have hlen:0<(q.1*1000000)*(q.1*1000000)+(q.2*1000000)*(q.2*1000000):=by
  have k:∀x:Int,x≠0→0<x*x:=fun x hx=>by
   rcases lt_or_gt_of_ne hx with h|h
   ·exact Int.mul_pos_of_neg_of_neg h h
   ·exact mul_pos h h
  have k0:∀x:Int,0≤x*x:=fun x=>by
   by_cases hx:x=0
   ·subst hx;decide
   ·exact le_of_lt (k x hx)
  by_cases h1:q.1=0
  ·have h2:q.2≠0:=fun h=>h0 (Prod.ext h1 h)
   have:=k (q.2*1000000) (by lia)
   have:=k0 (q.1*1000000)
   omega
  ·have:=k (q.1*1000000) (by lia)
   have:=k0 (q.2*1000000)
   omega
 have hr:=HX hlen
 have h:=TV (w:=w) (n:=n+1) S (Bd.up (Bd.mul b1 (Bd.num (x:=1000000)))) (Bd.up (Bd.mul b2 (Bd.num (x:=1000000))))
 have dv:=fun z=>CB (w:=w) (n:=n+2) S (a:=z) (ne_of_gt hr)
 have m1:Am (-q.2*p.half) 1000000:=PySem.IntMulOk.of_right (by decide)
 have m2:Am (-q.2) p.half:=Ah b2.neg hh
 have m3:Am q.1 p.half:=Ah b1 hh
 refine FnL.go S (Le P) (by kernel_rfl) rfl [.val (.int (BN ((q.1*1000000)*(q.1*1000000)+(q.2*1000000)*(q.2*1000000)))),.val (.int (An p.half q).1),.val (.int (An p.half q).2)] rfl ?_
 repeat' first|exact obN|refine obA ?_|apply obC
 all_goals exact dv _
theorem Jg(S:Ao O P.K U)(hp:BdP 100 p)(hq:BdP 100 q):
 FnP O w U (n+3) 225 [pD p,pD q] (fun d=>d=.tuple [.int (AQ p q),.int (BI p q)]):=by
 have b1:=hp.1;have b2:=hp.2
 have b3:=hq.1;have b4:=hq.2
 have bw:Bd 410 ((p.1*p.1+p.2*p.2)*(q.1*q.1+q.2*q.2)):=Bd.up (Bd.mul (Bd.add (Bd.mul b1 b1) (Bd.mul b2 b2)) (Bd.add (Bd.mul b3 b3) (Bd.mul b4 b4)))
 have h:=aj (w:=w) (n:=n+1) S (x:=(p.1*p.1+p.2*p.2)*(q.1*q.1+q.2*q.2)*1000000*1000000) (Bd.up (Bd.mul (Bd.mul bw (Bd.num (x:=1000000))) (Bd.num (x:=1000000))))
 have m1:Am (p.1*p.1+p.2*p.2) (q.1*q.1+q.2*q.2):=Ah (Bd.add (Bd.mul b1 b1) (Bd.mul b2 b2)) (Bd.add (Bd.mul b3 b3) (Bd.mul b4 b4))
 have n1:Am p.1 p.1:=Ah b1 b1
 have n2:Am p.2 p.2:=Ah b2 b2
 have n3:Am q.1 q.1:=Ah b3 b3
 have n4:Am q.2 q.2:=Ah b4 b4
 have n5:Am p.1 q.1:=Ah b1 b3
 have n6:Am p.2 q.2:=Ah b2 b4
 refine FnP.go S (FT P) rfl [.val (.int (AQ p q))] rfl ?_
 exact obs
theorem Vq(S:Ao O P.K U)(hp:BdP 100 p)(hq:BdP 100 q)(hl:Bd 64 limit):
 FnP O w U (n+4) 232 [pD p,pD q,.int limit] (fun d=>d=.bool (Dh (AQ p q) (BI p q) limit)):=by
 have b1:Bd 1000 (AQ p q):=by
  have b1:=hp.1;have b2:=hp.2
  have b3:=hq.1;have b4:=hq.2
  exact Bd.up (Bd.rootI (Bd.mul (Bd.mul (Bd.mul (Bd.add (Bd.mul b1 b1) (Bd.mul b2 b2)) (Bd.add (Bd.mul b3 b3) (Bd.mul b4 b4))) (Bd.num (x:=1000000))) (Bd.num (x:=1000000))))
 have b2:Bd 2000 (BI p q):=by
  have c1:=hp.1;have c2:=hp.2
  have c3:=hq.1;have c4:=hq.2
  exact Bd.up (Bd.add b1 (Bd.mul (Bd.num (x:=1000000)) (Bd.add (Bd.mul c1 c3) (Bd.mul c2 c4))))
 have h:=Jg (w:=w) (n:=n) S hp hq
 have m1:Am limit limit:=Ah hl hl
 have m2:Am (limit*limit) (BI p q):=Ah (Bd.mul hl hl) b2
 delta Dh
 cases c:decide (BI p q≤0)with
 |true=>
  refine FnP.go S (Ec P) rfl [.val (.tuple [.int (AQ p q),.int (BI p q)]),.br true] rfl ?_
  exact obs
 |false=>
  refine FnP.go S (Ec P) rfl [.val (.tuple [.int (AQ p q),.int (BI p q)]),.br false] rfl ?_
  exact obs
noncomputable def AC(e:Pt×Pt):Dat:=.tuple [pD e.1,pD e.2]
theorem Ny:∀as bs:List Pt,FO (as.map pD) (bs.map pD)=(as.zip bs).map AC:=by
 intro as
 induction as with
 |nil=>
  intro _
  exact rfl
 |cons a as ih=>
  intro zz4
  rcases zz4 with _|⟨b,bs⟩
  ·exact rfl
  ·have:=ih bs
   unfold FO at this⊢
   simp only[map_cons,List.zipWith_cons_cons,List.zip_cons_cons,this]
   rfl
theorem Xr{ts:List Pt}(tb:∀t∈ts,BdP k t):∀e∈Ll ts,BdP k e.1∧BdP k e.2:=by
 intro e he
 delta Ll at he
 obtain⟨h1,h2⟩:=of_mem_zip (show(e.1,e.2)∈_ from he)
 refine⟨tb _ h1,?_⟩
 rcases mem_append.mp h2 with h|h
 ·exact tb _ (mem_of_mem_drop h)
 ·exact tb _ (List.mem_of_mem_take h)
noncomputable def Ua(p:CI)(i:Addr)(ds:List Dat):AF:=.obj 301 [("half",.dat (.int p.half)),("cap",.dat (.int p.cap)),("join",.dat (.int p.join)),("limit",.dat (.int p.limit)),("matrix",.dat p.m.D),("is_turned",.dat (.bool p.turned)),("rows",.own i ds)]
noncomputable def pfX(k:List Nat):Stmt:=KC (AY 258) k
theorem Xs(S:Ao O P.K U){p:CI}(hm:Gh p.m){Q:List Dat→St→Prop}(F:∀acc s,Q acc (LV ["point"] s)→Q acc s):∀(qs:List Pt) (acc:List Dat),acc.length+qs.length≤1000→(∀q∈qs,BdP 900 q)→Q (acc++(qs.map (trans p.m)).map pD) [("self",Bj p i rs)]→
 Bm O w U (BL (OP (AG (pfX [0]))) (scC 258)) (n+4) (JZ (AG (pfX [0]))) (Ka (AG (pfX [0]))) (IH (AG (pfX [0]))) Q (qs.map pD) acc [("self",Bj p i rs)]:=by
 intro qs
 induction qs with
 |nil=>intro acc _ _ q;rw[map_nil,map_nil,append_nil]at q;exact q
 |cons a qs ih=>
  intro acc hl hq q
  rw[length_cons]at hl
  have k:=ih (acc++[pD (trans p.m a)]) (by refine rr length_append (rr length_singleton ?_);exact Ay hl) (fun q h=>hq q (.tail _ h)) (by refine rr (append_assoc ..) ?_;exact q)
  have dv:=Nx (w:=w) (n:=n+1) (i:=i) (rs:=rs) S hm (hq a (.head _))
  refine BY S ["point"] [.lent (pD (trans p.m a)) (Bj p i rs)] k rfl ?_ (le_trans (show _≤16777216 by exact Ay hl) szl) F
  exact obs
noncomputable def SD(A:AF)(ps:List Pt)(th:AF)(tl:St):St:=("self",A)::("points",.dat (.list (ps.map pD)))::("there",th)::tl
theorem Xt(S:Ao O P.K U){A:AF}{ts:List Pt}(F:AT Q):∀(es:List (Pt×Pt)) (acc:Int),(∀e∈es,BdP 1000 e.1∧BdP 1000 e.2)→Q .next (SD A ps (.dat (.list (ts.map pD))) [("area",.dat (.int (es.foldl (fun s q=>s+AJ q.1 q.2) acc)))])→
 Bv O w U (scC 258) (n+4) (AG (pfX [2])) (Cr (pfX [2])) Q (es.map AC) (SD A ps (.dat (.list (ts.map pD))) [("area",.dat (.int acc))]):=by
 intro es
 induction es with
 |nil=>exact fun acc V q=>q
 |cons e es ih=>
  intro acc hb q
  obtain⟨⟨b1,b2⟩,b3,b4⟩:=hb e (.head _)
  have m1:Am e.1.1 e.2.2:=Ah b1 b4
  have m2:Am e.1.2 e.2.1:=Ah b2 b3
  refine Aw S ["one","other"] [] (ih (acc+AJ e.1 e.2) (fun e h=>hb e (.tail _ h)) q) rfl ?_ F
  exact obs
noncomputable def pfE:Expr:=kid (AG (pfX [6])) 0
theorem Nz(S:Ao O P.K U){Q:List Dat→St→Prop}(F:∀acc s,Q acc (LV ["point"] s)→Q acc s):∀(vs:List Pt) (acc:List Dat),acc.length+vs.length≤1000→Q (acc++(vs.map Row.l).map Be) []→
 Bm O w U (BL (OP pfE) (scC 258)) (n+4) (JZ pfE) (Ka pfE) (IH pfE) Q (vs.map pD) acc []:=by
 intro vs
 induction vs with
 |nil=>intro acc _ q;rw[map_nil,map_nil,append_nil]at q;exact q
 |cons a vs ih=>
  intro acc hl q
  rw[length_cons]at hl
  have k:=ih (acc++[Be (.l a)]) (by refine rr length_append (rr length_singleton ?_);exact Ay hl) (by refine rr (append_assoc ..) ?_;exact q)
  refine BY S ["point"] [] k rfl ?_ (le_trans (show _≤16777216 by exact Ay hl) szl) F
  exact obs
theorem Rc(S:Ao O P.K U){p:CI}{us:List Pt}{t:Pt}{area:Int}{th:AF}(ht:th=.dat (.list ((t::us).map pD))∨th=.lst ((t::us).map pD))(hz:us.length≤100)(hr:rs.length≤100000):
 Ss O w U (scC 258) (n+4) ((AY 258).drop 5) (SD (Bj p i rs) ps th [("area",.dat (.int area))]) (fun fl st'=>∃a',look "self" st'=some a'∧flD fl=.none∧a'=Bj p i (rs++BO (t::us))):=by
 have hl:((t::us).map pD).length<2^62:=by refine rr (length_map ..) (rr length_cons ?_);exact Ay hz
 have hl2:((t::us).map pD).length≤sizeLine:=le_trans (show _≤16777216 by refine rr (length_map ..) (rr length_cons ?_);exact Ay hz) szl
 have h1:(rs.map Be).length+1≤sizeLine:=le_trans (show _≤16777216 by refine rr (length_map ..) ?_;exact Ay hr) szl
 have h2:(rs.map Be++[Be (.m t)]).length+((us.map Row.l).map Be).length≤sizeLine:=le_trans (show _≤16777216 by simp;exact Gu hz hr) szl
 have h3:(rs.map Be++[Be (.m t)]++(us.map Row.l).map Be).length+1≤sizeLine:=le_trans (show _≤16777216 by simp;exact Gu hz hr) szl
 have fin:Ua p i (rs.map Be++[Be (.m t)]++(us.map Row.l).map Be++[Be .z])=Bj p i (rs++BO (t::us)):=by
  delta Ua Bj BO
  simp
 rcases ht with rfl|rfl
 ·refine AO S (os:=[.val (pD t),.val (pD t),.ask (.dat (.list ((us.map Row.l).map Be))) (SD (Ua p i (rs.map Be++[Be (.m t)])) ps (.dat (.list ((t::us).map pD))) [("area",.dat (.int area))])]) rfl ?_ ⟨_,rfl,rfl,fin⟩
  repeat' first|exact obN|refine obA ?_|apply obC
  ·refine fun Q q=>AV (EA (BG.of (by kernel_rfl)) (FN (Fb S (os:=[]) rfl obs ⟨_,rfl,Nz S ?_ us [] (by refine rr length_nil ?_;exact Ay hz) q⟩)))
   intro acc s q
   rwa [BM (by kernel_rfl)]at q
 ·refine AO S (os:=[.val (pD t),.val (pD t),.ask (.dat (.list ((us.map Row.l).map Be))) (SD (Ua p i (rs.map Be++[Be (.m t)])) ps (.lst ((t::us).map pD)) [("area",.dat (.int area))])]) rfl ?_ ⟨_,rfl,rfl,fin⟩
  repeat' first|exact obN|refine obA ?_|apply obC
  ·refine fun Q q=>AV (EA (BG.of (by kernel_rfl)) (FN (Fb S (os:=[]) rfl obs ⟨_,rfl,Nz S ?_ us [] (by refine rr length_nil ?_;exact Ay hz) q⟩)))
   intro acc s q
   rwa [BM (by kernel_rfl)]at q
theorem Dp(S:Ao O P.K U){p:CI}(hm:Gh p.m)(hq:∀q∈ps,BdP 900 q)(hz:ps.length≤100)(hr:rs.length≤100000):
 FnL O w U (n+5) 258 (Bj p i rs) [.list (ps.map pD)] (fun d a=>d=.none∧a=Bj p i (rs++Ch p.m ps)):=by
 refine FnL.ofC S (GF P) (by kernel_rfl) rfl ?_
 refine GI S [("self",Bj p i rs)] [] rfl rfl obs (Xs S hm ?_ ps [] (by refine rr length_nil ?_;exact Ay hz) hq ?_) (by kernel_rfl) (by kernel_rfl) (by kernel_rfl) (by intro Y h;cases Y;dsimp only at h;subst h;kernel_rfl)
 ·intro acc s q
  rwa [BM (by kernel_rfl)]at q
 have tb:∀t∈ps.map (trans p.m),BdP 1000 t:=fun t ht=>by
  obtain⟨q,hq',rfl⟩:=mem_map.mp ht
  exact TZ hm (hq q hq')
 have tz:(ps.map (trans p.m)).length≤100:=by refine rr (length_map ..) ?_;exact hz
 delta Ch
 generalize ps.map (trans p.m)=ts at tb tz⊢
 refine Ss.at (SD (Bj p i rs) ps (.lst (ts.map pD)) []) ?_ (by kernel_rfl)
 refine Ax (st':=SD (Bj p i rs) ps (.lst (ts.map pD)) [("area",.dat (.int 0))]) S 1 [] [] rfl obs ?_
 have ez:FO (ts.map pD) ((ts.map pD).drop 1++(ts.map pD).take 1)=(Ll ts).map AC:=by refine rl map_drop (rl map_take ?_);refine rl map_append (rr (Ny ..) ?_);rfl
 have hl2:(ts.map pD).length≤sizeLine:=le_trans (show _≤16777216 by refine rr (length_map ..) ?_;exact Ay tz) szl
 have ha:((ts.map pD).drop 1).length+((ts.map pD).take 1).length≤sizeLine:=le_trans (show _≤16777216 by simp;exact(YY tz (sub_le (ts.length) (1)) (min_le_left (1) (ts.length)))) szl
 have lp:=Xt (w:=w) (n:=n) S (A:=Bj p i rs) (ps:=ps) (ts:=ts) (Q:=FL O w U (scC 258) (n+4) ((AY 258).drop 3) (fun fl st'=>∃a',look "self" st'=some a'∧flD fl=.none∧a'=Bj p i (rs++if BB ts=0 then[]else BO (AW ts)))) Av (Ll ts) 0 (Xr tb)
 rw[←ez]at lp
 refine Nw S [] rfl ?_ (lp ?_) (glb P (by kernel_rfl) (by kernel_rfl)) rfl rfl
 ·exact obs
 show Ss _ _ _ _ _ _ (SD (Bj p i rs) ps (.dat (.list (ts.map pD))) [("area",.dat (.int (BB ts)))]) _
 by_cases h0:BB ts=0
 ·have c0:=decide_eq_true h0
  refine rr (if_pos h0) (rr (append_nil ..) ?_)
  refine AO S (os:=[.br true]) rfl ?_ ⟨_,rfl,rfl,rfl⟩
  exact obs
 ·have c0:=decide_eq_false h0
  refine rr (if_neg h0) ?_
  have len:(AW ts).length=ts.length:=by delta AW;split<;>simp
  obtain⟨t,us,e⟩:∃t us,AW ts=t::us:=by
   cases h:AW ts with
   |nil=>
    rw[h]at len
    obtain rfl:ts=[]:=List.length_eq_zero_iff.mp len.symm
    exact absurd rfl h0
   |cons t us=>exact⟨t,us,rfl⟩
  have zus:us.length≤100:=by rw[e,length_cons]at len;exact Gu tz (Nat.le_of_eq len)
  by_cases hn:BB ts<0
  ·have cn:=decide_eq_true hn
   have er:(ts.map pD).reverse=(t::us).map pD:=by refine rl e ?_;rewrite[AW];refine rr (if_pos hn) (rr List.map_reverse ?_);(with_reducible rfl)
   refine Ax (st':=SD (Bj p i rs) ps (.lst (ts.map pD).reverse) [("area",.dat (.int (BB ts)))]) S 2 [] [.br false,.br true] rfl obs ?_
   refine rr er (rr e ?_)
   exact Rc S (.inr rfl) zus hr
  ·have cn:=decide_eq_false hn
   have er:ts=t::us:=by refine rl e ?_;rewrite[AW];refine rr (if_neg hn) ?_;(with_reducible rfl)
   refine Ax (st':=SD (Bj p i rs) ps (.dat (.list (ts.map pD))) [("area",.dat (.int (BB ts)))]) S 2 [] [.br false,.br false] rfl obs ?_
   refine rr e ?_
   exact Rc S (.inl (by refine rr er ?_;rfl)) zus hr
theorem BdP.add{l:Nat}(h:BdP k p)(g:BdP l q):BdP (max k l+1) (Ag p q):=⟨h.1.add g.1,h.2.add g.2⟩
theorem BdP.sub{l:Nat}(h:BdP k p)(g:BdP l q):BdP (max k l+1) (Ae p q):=⟨h.1.sub g.1,h.2.sub g.2⟩
theorem Lm{one:Pt}(hh:Bd 64 half)(h1:BdP 64 one)(h2:BdP 64 other):BdP 200 (Cn half (Au half) one other):=
 ⟨(Bd.add h1.1 (Bd.divI (Bd.mul h2.1 (Bd.divI (Bd.mul hh (Bd.num (x:=552285))))))).up,(Bd.add h1.2 (Bd.divI (Bd.mul h2.2 (Bd.divI (Bd.mul hh (Bd.num (x:=552285))))))).up⟩
noncomputable def SF(p:CI)(i:Addr)(rs:List Row)(q:Pt)(tl:St):St:=("self",Bj p i rs)::("centre",.dat (pD q))::("reach",.dat (.int (Au p.half)))::("half",.dat (.int p.half))::tl
noncomputable def Xu(m:Mx)(q k0 k1 k2 k3:Pt):St:=[("corners",.dat (.list [pD k0,pD k1,pD k2,pD k3])),("there",.lst [pD (trans m (Ag q k0)),pD (trans m (Ag q k1)),pD (trans m (Ag q k2)),pD (trans m (Ag q k3))])]
noncomputable def pcX(k:List Nat):Stmt:=KC (AY 263) k
theorem dev(S:Ao O P.K U){p:CI}(hm:Gh p.m)(hq:BdP 100 q)(i:Addr)(rs:List Row){r:Pt}(h:BdP 500 r):FnL O w U (n+4) 253 (Bj p i rs) [pD (Ag q r)] (fun d a=>d=pD (trans p.m (Ag q r))∧a=Bj p i rs):=Nx S hm (BdP.add hq h).up
noncomputable def cV(p:CI)(i:Addr)(ds:List Dat):AF:=.obj 301 [("half",.dat (.int p.half)),("cap",.dat (.int p.cap)),("join",.dat (.int p.join)),("limit",.dat (.int p.limit)),("matrix",.dat p.m.D),("is_turned",.dat (.bool p.turned)),("rows",.own i ds)]
theorem Kf(p:CI)(i:Addr)(rs:List Row)(r:Row):Bj p i (rs++[r])=cV p i (rs.map Be++[Be r]):=by
 delta Bj cV;refine rr (TX ..) ?_;rfl
set_option maxHeartbeats 4000000 in
theorem Kg(S:Ao O P.K U){p:CI}{k0 k1 k2 k3 one:Pt}{num:Int}(hm:Gh p.m)(hh:Bd 64 p.half)(hq:BdP 100 q)(h0:p.half≠0)(hr:rs.length≤1000000)
 (e1:AK [pD k0,pD k1,pD k2,pD k3] num=some (pD one)) (e2:AK [pD k0,pD k1,pD k2,pD k3] ((num+1).fmod 4)=some (pD other)) (c1:BdP 64 one) (c2:BdP 64 other) (F:AT Q)
 (hl:Bv O w U (scC 263) (n+4) (AG (pcX [6])) (Cr (pcX [6])) Q ds (SF p i (rs++[KD p.m p.half (Au p.half) q one other]) q (Xu p.m q k0 k1 k2 k3))):
 Bv O w U (scC 263) (n+4) (AG (pcX [6])) (Cr (pcX [6])) Q (.int num::ds) (SF p i rs q (Xu p.m q k0 k1 k2 k3)):=by
 have n1:BdP 500 (Cn p.half (Au p.half) one other):=(Lm hh c1 c2).up
 have n2:BdP 500 (Cn p.half (Au p.half) other one):=(Lm hh c2 c1).up
 have hrc:Bd 128 (Au p.half):=(Bd.divI (Bd.mul hh (Bd.num (x:=552285)))).up
 have dv:=fun z=>CB (w:=w) (n:=n+3) S (a:=z) h0
 have four:(4:Int)≠0:=by decide
 have d1:=c1.1;have d2:=c1.2
 have d3:=c2.1;have d4:=c2.2
 refine Ge rfl ?_
 refine Ax (st':=SF p i rs q (Xu p.m q k0 k1 k2 k3++([("number",.dat (.int num)),("other",.dat (pD other)),("one",.dat (pD one)),("near",.dat (pD (Cn p.half (Au p.half) one other))),("far",.dat (pD (Cn p.half (Au p.half) other one)))]:St))) S 3 [] [.val (pD one),.val (pD other),.val (.int (CM (other.1*Au p.half) p.half)),.val (.int (CM (other.2*Au p.half) p.half)),.val (.int (CM (one.1*Au p.half) p.half)),.val (.int (CM (one.2*Au p.half) p.half))] rfl ?_ ?_
 ·repeat' first|exact obN|refine obA ?_|apply obC
  all_goals exact dv _
 refine GI S [("self",Bj p i rs),("centre",.dat (pD q))] [] rfl rfl obs (DV S [.lent (pD (trans p.m (Ag q (Cn p.half (Au p.half) one other)))) (Bj p i rs),.lent (pD (trans p.m (Ag q (Cn p.half (Au p.half) other one)))) (Bj p i rs),.lent (pD (trans p.m (Ag q other))) (Bj p i rs)] rfl ?_ rfl ?_) (by kernel_rfl) (by kernel_rfl) (by kernel_rfl) (by intro Y h;cases Y;dsimp only at h;subst h;kernel_rfl)
 ·repeat' first|exact obN|refine obA ?_|apply obC
  ·exact dev S hm hq i rs (BdP.up ⟨d3,d4⟩)
  ·exact dev S hm hq i rs n2
  ·exact dev S hm hq i rs n1
 refine Ss.at (SF p i rs q (Xu p.m q k0 k1 k2 k3++([("number",.dat (.int num)),("other",.dat (pD other)),("one",.dat (pD one)),("near",.dat (pD (Cn p.half (Au p.half) one other))),("far",.dat (pD (Cn p.half (Au p.half) other one))),("points",.lst [pD (trans p.m (Ag q (Cn p.half (Au p.half) one other))),pD (trans p.m (Ag q (Cn p.half (Au p.half) other one))),pD (trans p.m (Ag q other))])]:St))) ?_ (by kernel_rfl)
 delta SF at hl
 rw[Kf]at hl
 refine Gf S ["number","one","other","near","far","points"] [.val (pD (trans p.m (Ag q (Cn p.half (Au p.half) one other)))),.val (pD (trans p.m (Ag q (Cn p.half (Au p.half) one other)))),.val (pD (trans p.m (Ag q (Cn p.half (Au p.half) other one)))),.val (pD (trans p.m (Ag q (Cn p.half (Au p.half) other one)))),.val (pD (trans p.m (Ag q other))),.val (pD (trans p.m (Ag q other)))] hl rfl ?_ F
 repeat' first|exact obN|refine obA ?_|apply obC
 exact le_trans (show _≤16777216 by refine rr (length_map ..) ?_;exact Ay hr) szl
set_option maxHeartbeats 4000000 in
theorem Xv(S:Ao O P.K U){p:CI}{k0 k1 k2 k3:Pt}(hm:Gh p.m)(hh:Bd 64 p.half)(hq:BdP 100 q)(h0:p.half≠0)(hr:rs.length≤100000)(b0:BdP 64 k0)(b1:BdP 64 k1)(b2:BdP 64 k2)(b3:BdP 64 k3):
 Ss O w U (scC 263) (n+4) ((AY 263).drop 4) (SF p i rs q [("corners",.lst [pD k0,pD k1,pD k2,pD k3])]) (fun fl st'=>∃a',look "self" st'=some a'∧flD fl=.none∧a'=Bj p i (rs++[.m (trans p.m (Ag q k0)),KD p.m p.half (Au p.half) q k0 k1,KD p.m p.half (Au p.half) q k1 k2,KD p.m p.half (Au p.half) q k2 k3,KD p.m p.half (Au p.half) q k3 k0,.z])):=by
 refine GI S [("self",Bj p i rs),("centre",.dat (pD q))] [] rfl rfl obs (DV S [.lent (pD (trans p.m (Ag q k0))) (Bj p i rs),.lent (pD (trans p.m (Ag q k1))) (Bj p i rs),.lent (pD (trans p.m (Ag q k2))) (Bj p i rs),.lent (pD (trans p.m (Ag q k3))) (Bj p i rs)] rfl ?_ rfl ?_) (by kernel_rfl) (by kernel_rfl) (by kernel_rfl) (by intro Y h;cases Y;dsimp only at h;subst h;kernel_rfl)
 ·repeat' first|exact obN|refine obA ?_|apply obC
  ·exact dev S hm hq i rs b3.up
  ·exact dev S hm hq i rs b2.up
  ·exact dev S hm hq i rs b1.up
  ·exact dev S hm hq i rs b0.up
 refine Ss.at (SF p i rs q (Xu p.m q k0 k1 k2 k3)) ?_ (by kernel_rfl)
 have hz:(rs.map Be).length+1≤sizeLine:=le_trans (show _≤16777216 by refine rr (length_map ..) ?_;exact Ay hr) szl
 refine Ax (st':=("self",cV p i (rs.map Be++[Be (.m (trans p.m (Ag q k0)))]))::("centre",.dat (pD q))::("reach",.dat (.int (Au p.half)))::("half",.dat (.int p.half))::Xu p.m q k0 k1 k2 k3) S 1 [] [.val (pD (trans p.m (Ag q k0))),.val (pD (trans p.m (Ag q k0)))] rfl ?_ ?_
 ·exact obs
 refine rl (Kf p i rs (.m (trans p.m (Ag q k0)))) ?_
 refine Bl (GX (Nf S (glb P (by kernel_rfl) (by kernel_rfl)) rfl (Fc S (os:=[]) rfl obs ⟨0,4,1,.one _,by decide,by decide,?_⟩)))
 show Bv _ _ _ _ _ _ _ _ [.int 0,.int 1,.int 2,.int 3] (SF p i (rs++[.m (trans p.m (Ag q k0))]) q (Xu p.m q k0 k1 k2 k3))
 refine Kg S hm hh hq h0 (by simp;exact Ay hr) rfl rfl b0 b1 Av ?_
 refine Kg S hm hh hq h0 (by simp;exact Ay hr) rfl rfl b1 b2 Av ?_
 refine Kg S hm hh hq h0 (by simp;exact Ay hr) rfl rfl b2 b3 Av ?_
 refine Kg S hm hh hq h0 (by simp;exact Ay hr) rfl rfl b3 b0 Av ?_
 have hz':((rs++[Row.m (trans p.m (Ag q k0))]++[KD p.m p.half (Au p.half) q k0 k1]++[KD p.m p.half (Au p.half) q k1 k2]++[KD p.m p.half (Au p.half) q k2 k3]++[KD p.m p.half (Au p.half) q k3 k0]).map Be).length+1≤sizeLine:=le_trans (show _≤16777216 by simp;exact Ay hr) szl
 refine AO S (os:=[]) rfl ?_ ⟨_,rfl,rfl,?_⟩
 ·exact obs
 ·exact(Kf p i _ .z).symm.trans (congrArg (Bj p i) (by simp only[append_assoc,List.cons_append,nil_append]))
theorem EF(S:Ao O P.K U){p:CI}(hm:Gh p.m)(hh:Bd 64 p.half)(hq:BdP 100 q)(hr:rs.length≤100000):
 FnL O w U (n+5) 263 (Bj p i rs) [pD q] (fun d a=>d=.none∧a=Bj p i (rs++AP p.m p.turned p.half q)):=by
 have dv:=CB (w:=w) (n:=n+3) S (a:=p.half*552285) (b:=1000000) (by decide)
 by_cases h0:p.half=0
 ·rewrite[AP];refine rr (if_pos h0) (rr (append_nil ..) ?_)
  have c0:=decide_eq_true h0
  cases ht:p.turned with
  |true=>
   refine FnL.go S (Cs P) (by kernel_rfl) rfl [.val (.int (Au p.half)),.br true,.val (pD (p.half,0)),.val (pD (0,-p.half)),.val (pD (-p.half,0)),.val (pD (0,p.half)),.br true] rfl ?_
   exact obs
  |false=>
   refine FnL.go S (Cs P) (by kernel_rfl) rfl [.val (.int (Au p.half)),.br false,.br true] rfl ?_
   exact obs
 ·have c0:=decide_eq_false h0
  have B:=fun{k0 k1 k2 k3:Pt}=>Xv (w:=w) (n:=n) S (i:=i) (k0:=k0) (k1:=k1) (k2:=k2) (k3:=k3) hm hh hq h0 hr
  refine FnL.ofC S (Cs P) (by kernel_rfl) rfl ?_
  rewrite[AP];refine rr (if_neg h0) ?_
  have z:Bd 64 0:=Bd.num
  cases ht:p.turned with
  |true=>
   refine Ax (st':=SF p i rs q [("corners",.lst [pD (p.half,0),pD (0,-p.half),pD (-p.half,0),pD (0,p.half)])]) S 4 [] [.val (.int (Au p.half)),.br true,.val (pD (p.half,0)),.val (pD (0,-p.half)),.val (pD (-p.half,0)),.val (pD (0,p.half)),.br false] rfl ?_ (B ⟨hh,z⟩ ⟨z,hh.neg⟩ ⟨hh.neg,z⟩ ⟨z,hh⟩)
   exact obs
  |false=>
   refine Ax (st':=SF p i rs q [("corners",.lst [pD (p.half,0),pD (0,p.half),pD (-p.half,0),pD (0,-p.half)])]) S 4 [] [.val (.int (Au p.half)),.br false,.br false] rfl ?_ (B ⟨hh,z⟩ ⟨z,hh⟩ ⟨hh.neg,z⟩ ⟨z,hh.neg⟩)
   exact obs
theorem EU{w:Pt}(hh:Bd 64 half)(hw:BdP 100 w):BdP 300 (An half w):=
 ⟨(Bd.divI (Bd.mul (Bd.mul hw.2.neg hh) (Bd.num (x:=1000000)))).up (by decide),(Bd.divI (Bd.mul (Bd.mul hw.1 hh) (Bd.num (x:=1000000)))).up (by decide)⟩
theorem Vr{a b:Pt}(hab:a≠b):Ae b a≠(0,0):=fun h=>hab (Prod.ext (Int.sub_eq_zero.mp (congrArg Prod.fst h)).symm (Int.sub_eq_zero.mp (congrArg Prod.snd h)).symm)
theorem OT(S:Ao O P.K U){p:CI}{a b:Pt}(hm:Gh p.m)(hh:Bd 64 p.half)(ha:BdP 64 a)(hb:BdP 64 b)(hab:a≠b)(hr:rs.length≤100000):
 FnL O w U (n+6) 277 (Bj p i rs) [pD a,pD b] (fun d x=>d=.none∧x=Bj p i (rs++Ak p (Ci p.half a b))):=by
 have hs:BdP 300 (An p.half (Ae b a)):=EU hh (BdP.sub hb ha).up
 have ha':BdP 300 a:=ha.up
 have hb':BdP 300 b:=hb.up
 refine FnL.go S (HM P) (by kernel_rfl) rfl [.lent (pD (An p.half (Ae b a))) (Bj p i rs),.lent .none (Bj p i (rs++Ak p (Ci p.half a b)))] rfl ?_
 repeat' first|exact obN|refine obA ?_|apply obC
 ·exact Dp S (ps:=[Ag a (An p.half (Ae b a)),Ae a (An p.half (Ae b a)),Ae b (An p.half (Ae b a)),Ag b (An p.half (Ae b a))]) hm (Bn (ha'.add hs).up (Bn (ha'.sub hs).up (Bn (hb'.sub hs).up (Bn (hb'.add hs).up JN)))) (of_decide_eq_true (by kernel_rfl)) hr
 ·exact Ke S hh (BdP.sub hb ha).up (Vr hab)
theorem Lo(S:Ao O P.K U){p:CI}{a b:Pt}(hm:Gh p.m)(hh:Bd 64 p.half)(ha:BdP 64 a)(hb:BdP 64 b)(hab:a≠b)(hr:rs.length≤100000):
 FnL O w U (n+6) 291 (Bj p i rs) [pD a,pD b] (fun d x=>d=.none∧x=Bj p i (rs++(AI p a b).flatMap (Ak p))):=by
 delta AI
 by_cases h1:p.cap=1
 ·have c1:=decide_eq_true h1
  refine rr (if_pos h1) (rr flatMap_cons ?_);refine rr flatMap_nil (rr (append_nil ..) ?_)
  refine FnL.go S (Dx P) (by kernel_rfl) rfl [.br true,.lent .none (Bj p i (rs++Ak p (.circ b)))] rfl ?_
  repeat' first|exact obN|refine obA ?_|apply obC
  exact EF S hm hh (BdP.up hb) hr
 ·have c1:=decide_eq_false h1
  refine rr (if_neg h1) ?_
  by_cases h2:p.cap=2
  ·have c2:=decide_eq_true h2
   refine rr (if_pos h2) (rr flatMap_cons ?_);refine rr flatMap_nil (rr (append_nil ..) ?_)
   have hs:BdP 300 (An p.half (Ae b a)):=EU hh (BdP.sub hb ha).up
   have hb':BdP 300 b:=hb.up
   have hon:BdP 300 ((An p.half (Ae b a)).2,-(An p.half (Ae b a)).1):=⟨hs.2,hs.1.neg⟩
   refine FnL.go S (Dx P) (by kernel_rfl) rfl [.br false,.br true,.lent (pD (An p.half (Ae b a))) (Bj p i rs),.lent .none (Bj p i (rs++Ak p _))] rfl ?_
   repeat' first|exact obN|refine obA ?_|apply obC
   ·exact Dp S (ps:=[Ag b (An p.half (Ae b a)),Ae b (An p.half (Ae b a)),Ag (Ae b (An p.half (Ae b a))) ((An p.half (Ae b a)).2,-(An p.half (Ae b a)).1),Ag (Ag b (An p.half (Ae b a))) ((An p.half (Ae b a)).2,-(An p.half (Ae b a)).1)]) hm (Bn (hb'.add hs).up (Bn (hb'.sub hs).up (Bn ((hb'.sub hs).add hon).up (Bn ((hb'.add hs).add hon).up JN)))) (of_decide_eq_true (by kernel_rfl)) hr
   ·exact Ke S hh (BdP.sub hb ha).up (Vr hab)
  ·have c2:=decide_eq_false h2
   refine rr (if_neg h2) ?_;refine rr flatMap_nil (rr (append_nil ..) ?_)
   refine FnL.go S (Dx P) (by kernel_rfl) rfl [.br false,.br false] rfl ?_
   exact obs
theorem Ub(h:AJ p q≠0):p≠(0,0)∧q≠(0,0):=by
 constructor
 ·rintro rfl;exact h (by simp[AJ])
 ·rintro rfl;exact h (by simp[AJ])
theorem Uc(hp:BdP 64 p)(hq:BdP 64 q):Bd 390 (AQ p q):=
 Bd.up (Bd.rootI (Bd.mul (Bd.mul (Bd.mul (Bd.add (Bd.mul hp.1 hp.1) (Bd.mul hp.2 hp.2)) (Bd.add (Bd.mul hq.1 hq.1) (Bd.mul hq.2 hq.2))) (Bd.num (x:=1000000))) (Bd.num (x:=1000000))))
noncomputable def Rd(h near far:Pt)(whole both:Int):Pt:=(h.1+CM ((near.1+far.1)*whole) both,h.2+CM ((near.2+far.2)*whole) both)
noncomputable def ao(p:CI)(i:Addr)(rs:List Row)(a hr b one other:Pt)(turn s:Int)(far near:Pt)(ps:List Dat):St:=[("self",Bj p i rs),("ahead",.dat (pD a)),("here",.dat (pD hr)),("behind",.dat (pD b)),("other",.dat (pD other)),("one",.dat (pD one)),("turn",.dat (.int turn)),("sign",.dat (.int s)),("far",.dat (pD far)),("near",.dat (pD near)),("points",.lst ps)]
def pjQ(p:CI)(i:Addr)(rs:List Row)(ps:List Pt)(fl:Fl)(st':St):Prop:=∃a',look "self" st'=some a'∧flD fl=.none∧a'=Bj p i (rs++Ak p (.poly ps))
set_option maxHeartbeats 4000000 in
theorem au(S:Ao O P.K U){p:CI}{a hr b one far near:Pt}{s:Int}(hm:Gh p.m)(hli:Bd 64 p.limit)(hhr:BdP 60 hr)(c1:BdP 64 one)(c2:BdP 64 other)(bn:BdP 364 near)(bf:BdP 364 far)(hz:rs.length≤100000)(h3:p.join=0)(ho:Dh (AQ one other) (BI one other) p.limit=false):
 Ss O w U (scC 284) (n+5) ((AY 284).drop 8) (ao p i rs a hr b one other turn s far near [pD hr,pD (Ag hr near)]) (pjQ p i rs [hr,Ag hr near,Rd hr near far (AQ one other) (BI one other),Ag hr far]):=by
 have d4:=decide_eq_true h3
 have bp:0<BI one other:=by
  delta Dh at ho
  simp only[or_eq_false_iff,decide_eq_false_iff_not]at ho
  exact Af (not_le.mp ho.1)
 have w1:=Uc c1 c2
 have bt:BdP 850 (Rd hr near far (AQ one other) (BI one other)):=⟨(Bd.add hhr.1 (Bd.divI (Bd.mul (Bd.add bn.1 bf.1) w1))).up (by decide),(Bd.add hhr.2 (Bd.divI (Bd.mul (Bd.add bn.2 bf.2) w1))).up (by decide)⟩
 have k1:Am (near.1+far.1) (AQ one other):=Ah (bn.1.add bf.1) w1
 have k2:Am (near.2+far.2) (AQ one other):=Ah (bn.2.add bf.2) w1
 have ov:=Vq (w:=w) (n:=n+1) S c1.up c2.up hli
 rw[ho]at ov
 have pr:=Jg (w:=w) (n:=n+2) S c1.up c2.up
 have dv:=fun z=>CB (w:=w) (n:=n+4) S (a:=z) (b:=BI one other) (by exact(ne_of_gt bp))
 refine AO S (os:=[.br true,.val (.bool false),.br true,.br true,.val (.tuple [.int (AQ one other),.int (BI one other)]),.val (.int (CM ((near.1+far.1)*AQ one other) (BI one other))),.val (.int (CM ((near.2+far.2)*AQ one other) (BI one other))),.lent .none (Bj p i (rs++Ak p (.poly [hr,Ag hr near,Rd hr near far (AQ one other) (BI one other),Ag hr far])))]) rfl ?_ ⟨_,rfl,rfl,rfl⟩
 repeat' first|exact obN|refine obA ?_|apply obC
 ·exact Dp S (ps:=[hr,Ag hr near,Rd hr near far (AQ one other) (BI one other),Ag hr far]) hm (Bn hhr.up (Bn (BdP.add hhr bn).up (Bn bt.up (Bn (BdP.add hhr bf).up JN)))) (of_decide_eq_true (by kernel_rfl)) hz
 all_goals exact dv _
theorem cW(S:Ao O P.K U){p:CI}{a hr b one far near:Pt}{s:Int}(hm:Gh p.m)(hli:Bd 64 p.limit)(hhr:BdP 60 hr)(c1:BdP 64 one)(c2:BdP 64 other)(bn:BdP 364 near)(bf:BdP 364 far)(hz:rs.length≤100000)(h3:¬(p.join=0∧Dh (AQ one other) (BI one other) p.limit=false)):
 Ss O w U (scC 284) (n+5) ((AY 284).drop 8) (ao p i rs a hr b one other turn s far near [pD hr,pD (Ag hr near)]) (pjQ p i rs [hr,Ag hr near,Ag hr far]):=by
 have ov:=Vq (w:=w) (n:=n+1) S c1.up c2.up hli
 have fig:=Dp (w:=w) (n:=n) (i:=i) (rs:=rs) S (ps:=[hr,Ag hr near,Ag hr far]) hm (Bn hhr.up (Bn (BdP.add hhr bn).up (Bn (BdP.add hhr bf).up JN))) (of_decide_eq_true (by kernel_rfl)) hz
 by_cases hj:p.join=0
 ·have d4:=decide_eq_true hj
  rw[(Bool.not_eq_false _).mp fun e=>h3 ⟨hj,e⟩]at ov
  refine AO S (os:=[.br true,.val (.bool true),.br false,.br false,.lent .none (Bj p i (rs++Ak p (.poly [hr,Ag hr near,Ag hr far])))]) rfl ?_ ⟨_,rfl,rfl,rfl⟩
  exact obs
 ·have d4:=decide_eq_false hj
  refine AO S (os:=[.br false,.br false,.lent .none (Bj p i (rs++Ak p (.poly [hr,Ag hr near,Ag hr far])))]) rfl ?_ ⟨_,rfl,rfl,rfl⟩
  exact obs
theorem Vs(S:Ao O P.K U){p:CI}{a hr b one far near:Pt}{s:Int}(hm:Gh p.m)(hli:Bd 64 p.limit)(hhr:BdP 60 hr)(c1:BdP 64 one)(c2:BdP 64 other)(bn:BdP 364 near)(bf:BdP 364 far)(hz:rs.length≤100000):
 Ss O w U (scC 284) (n+5) ((AY 284).drop 8) (ao p i rs a hr b one other turn s far near [pD hr,pD (Ag hr near)]) (fun fl st'=>∃a',look "self" st'=some a'∧flD fl=.none∧a'=Bj p i (rs++(if p.join=0∧Dh (AQ one other) (BI one other) p.limit=false then[Fig.poly [hr,Ag hr near,Rd hr near far (AQ one other) (BI one other),Ag hr far]]else[.poly [hr,Ag hr near,Ag hr far]]).flatMap (Ak p))):=by
 split
 ·refine rr flatMap_cons ?_;refine rr flatMap_nil (rr (append_nil ..) ?_)
  exact au S hm hli hhr c1 c2 bn bf hz (‹_∧_›:_∧_).1 (‹_∧_›:_∧_).2
 ·refine rr flatMap_cons ?_;refine rr flatMap_nil (rr (append_nil ..) ?_)
  exact cW S hm hli hhr c1 c2 bn bf hz ‹_›
set_option maxHeartbeats 4000000 in
theorem Jh(S:Ao O P.K U){p:CI}{a hr b:Pt}(hm:Gh p.m)(hh:Bd 64 p.half)(hli:Bd 64 p.limit)(ha:BdP 60 a)(hhr:BdP 60 hr)(hb:BdP 60 b)(hz:rs.length≤100000):
 FnL O w U (n+6) 284 (Bj p i rs) [pD a,pD hr,pD b] (fun d x=>d=.none∧x=Bj p i (rs++(Az p a hr b).flatMap (Ak p))):=by
 have f1:BdP 64 (Ae hr a):=(BdP.sub hhr ha).up
 have f2:BdP 64 (Ae b hr):=(BdP.sub hb hhr).up
 have m1:Am (hr.1-a.1) (b.2-hr.2):=Ah f1.1 f2.2
 have m2:Am (hr.2-a.2) (b.1-hr.1):=Ah f1.2 f2.1
 delta Az
 by_cases h1:p.join=1
 ·have d1:=decide_eq_true h1
  refine rr (if_pos h1) (rr flatMap_cons ?_);refine rr flatMap_nil (rr (append_nil ..) ?_)
  refine FnL.go S (De P) (by kernel_rfl) rfl [.br true,.lent .none (Bj p i (rs++Ak p (.circ hr)))] rfl ?_
  repeat' first|exact obN|refine obA ?_|apply obC
  exact EF S hm hh (BdP.up hhr) hz
 have d1:=decide_eq_false h1
 refine rr (if_neg h1) ?_
 by_cases h2:AJ (Ae hr a) (Ae b hr)=0
 ·have d2:decide (AJ (Ae hr a) (Ae b hr)=0)=true:=decide_eq_true h2
  refine rr (if_pos h2) ?_;refine rr flatMap_nil (rr (append_nil ..) ?_)
  refine FnL.go S (De P) (by kernel_rfl) rfl [.br false,.br true] rfl ?_
  exact obs
 have d2:decide (AJ (Ae hr a) (Ae b hr)=0)=false:=decide_eq_false h2
 refine rr (if_neg h2) ?_
 obtain⟨z1,z2⟩:=Ub h2
 have a1:=Ke (w:=w) (n:=n+1) (i:=i) (rs:=rs) S hh f1.up z1
 have a2:=Ke (w:=w) (n:=n+1) (i:=i) (rs:=rs) S hh f2.up z2
 obtain⟨g1,g2⟩:=EU hh (f1.up:BdP 100 (Ae hr a))
 obtain⟨g3,g4⟩:=EU hh (f2.up:BdP 100 (Ae b hr))
 refine FnL.ofC S (De P) (by kernel_rfl) rfl ?_
 dsimp only
 by_cases h:0<AJ (Ae hr a) (Ae b hr)
 ·have d3:decide (0<AJ (Ae hr a) (Ae b hr))=true:=decide_eq_true h
  refine rr (if_pos h) ?_
  refine Ax (st':=ao p i rs a hr b (Ae hr a) (Ae b hr) (AJ (Ae hr a) (Ae b hr)) (-1) (-1*(An p.half (Ae b hr)).1,-1*(An p.half (Ae b hr)).2) (-1*(An p.half (Ae hr a)).1,-1*(An p.half (Ae hr a)).2) [pD hr,pD (Ag hr (-1*(An p.half (Ae hr a)).1,-1*(An p.half (Ae hr a)).2))]) S 8 [] [.br false,.br false,.br true,.lent (pD (An p.half (Ae hr a))) (Bj p i rs),.lent (pD (An p.half (Ae b hr))) (Bj p i rs)] rfl ?_ (Vs S hm hli hhr f1 f2 ⟨Bd.mul (Bd.num (x:= -1)) g1,Bd.mul (Bd.num (x:= -1)) g2⟩ ⟨Bd.mul (Bd.num (x:= -1)) g3,Bd.mul (Bd.num (x:= -1)) g4⟩ hz)
  exact obs
 ·have d3:decide (0<AJ (Ae hr a) (Ae b hr))=false:=decide_eq_false h
  refine rr (if_neg h) ?_
  refine Ax (st':=ao p i rs a hr b (Ae hr a) (Ae b hr) (AJ (Ae hr a) (Ae b hr)) 1 (1*(An p.half (Ae b hr)).1,1*(An p.half (Ae b hr)).2) (1*(An p.half (Ae hr a)).1,1*(An p.half (Ae hr a)).2) [pD hr,pD (Ag hr (1*(An p.half (Ae hr a)).1,1*(An p.half (Ae hr a)).2))]) S 8 [] [.br false,.br false,.br false,.lent (pD (An p.half (Ae hr a))) (Bj p i rs),.lent (pD (An p.half (Ae b hr))) (Bj p i rs)] rfl ?_ (Vs S hm hli hhr f1 f2 ⟨Bd.mul (Bd.num (x:=1)) g1,Bd.mul (Bd.num (x:=1)) g2⟩ ⟨Bd.mul (Bd.num (x:=1)) g3,Bd.mul (Bd.num (x:=1)) g4⟩ hz)
  exact obs
noncomputable def aw(lens:List Int)(num:Nat)(left:Int):AF:=.obj 194 [("lengths",.dat (.list (lens.map .int))),("number",.dat (.int num)),("left",.dat (.int left))]
noncomputable def Cu(l:Ln):List Pt:=if l.2 then l.1++l.1.take 1 else l.1
noncomputable def BW(l:Ln):List (Pt×Pt):=(Cu l).zip ((Cu l).drop 1)
noncomputable def YT(A:AF):St:=[("self",A),("lengths",.dat (.list [])),("offset",.dat (.int 0))]
theorem Kh(S:Ao O P.K U):FnL O w U (n+3) 170 (.obj 194 []) [.list [],.int 0] (fun r a=>r=.none∧a=aw [] 0 0):=by
 have any:∀Q:EV→St→Prop,Q (.dat (.bool false)) (YT (.obj 194 []))→Ev O w U (scC 170) (n+2) (kid (AG (KC (AY 170) [0])) 0) (YT (.obj 194 [])) Q:=by
  intro Q q
  refine KV S (glb P (by kernel_rfl) (by kernel_rfl)) rfl (AV (EA (BG.of (by kernel_rfl)) (FN (Fb S (os:=[]) rfl obs ⟨[],rfl,?_⟩))))
  exact⟨_,_,rfl,Wh,q⟩
 have lst:∀Q:EV→St→Prop,Q (.dat (.list [])) (YT (.obj 194 []))→Ev O w U (scC 170) (n+2) (AG (KC (AY 170) [1])) (YT (.obj 194 [])) Q:=
  fun Q q=>AV (Hu S (glb P (by kernel_rfl) (by kernel_rfl)) rfl (AM S (os:=[]) rfl obs ⟨_,[],rfl,rfl,by decide,q⟩))
 refine FnL.go S (IE P) (by kernel_rfl) rfl [.ask (.dat (.bool false)) (YT (.obj 194 [])),.br false,.br false,.br false,.br false,.ask (.dat (.list [])) (YT (.obj 194 [])),.br false] rfl ?_
 repeat' first|exact obN|refine obA ?_|apply obC
 exact⟨(JG (JH (k:=1) [])).plain,(JG (JH (k:=1) [])).plain⟩
noncomputable def az(half cap join limit:Int)(m:Mx):AF:=.obj 301 [("half",.dat (.int half)),("cap",.dat (.int cap)),("join",.dat (.int join)),("limit",.dat (.int limit)),("matrix",.dat m.D),("is_turned",.dat (.bool (CI.turned ⟨half,cap,join,limit,m⟩)))]
noncomputable def fq(A:AF)(half cap join limit:Int)(m:Mx):St:=[("self",A),("half",.dat (.int half)),("cap",.dat (.int cap)),("join",.dat (.int join)),("limit",.dat (.int limit)),("matrix",.dat m.D)]
theorem OU(S:Ao O P.K U){m:Mx}(hm:Gh m):FnL O w U (n+1) 246 (.obj 301 []) [.int half,.int cap,.int join,.int limit,m.D] (fun r a=>r=.none∧∃i,a=Bj ⟨half,cap,join,limit,m⟩ i []):=by
 obtain⟨h1,h2,h3,h4,_⟩:=hm
 have m1:Am m.a m.d:=Ah h1 h4
 have m2:Am m.b m.c:=Ah h2 h3
 refine FnL.ofC S (Mr P) (by kernel_rfl) rfl ?_
 refine Ax (st':=fq (az half cap join limit m) half cap join limit m) S 6 [] [.val (.int m.a),.val (.int m.d),.val (.int m.b),.val (.int m.c)] rfl ?_ ?_
 ·exact obs
 refine Bl (Mf S ((((Lc S P.tab 20).f _ _).ok (st:=fq (az half cap join limit m) half cap join limit m) (os:=[]) (ms:=[]) rfl .nil).2 _ ⟨[],301,_,rfl,rfl,QH P,GZ P,of_decide_eq_true (by kernel_rfl),fun i=>Vc ⟨_,rfl,rfl,i,rfl⟩⟩))
theorem Ud(S:Ao O P.K U){ls:List Ln}:FnP O w U (n+6) 218 [.list (ls.map lnD),.list [],.int 0] (fun r=>r=.list (ls.map lnD)):=
 FnP.go S (Hi P) rfl [.br true] rfl obs
theorem Dq(m:Mx)(ps:List Pt):(Ch m ps).length≤ps.length+1:=by
 delta Ch
 split
 ·simp
 ·have len:(AW (ps.map (trans m))).length=ps.length:=by delta AW;split<;>simp
  cases e:AW (ps.map (trans m))with
  |nil=>simp[BO]
  |cons a l=>rw[e]at len;simp[BO]at len⊢;exact Ay (Nat.le_of_eq len)
theorem EG(m:Mx)(t:Bool)(h:Int)(c:Pt):(AP m t h c).length≤6:=by
 delta AP
 split
 ·simp
 ·simp
theorem Hb(p:CI)(a b:Pt):(Ak p (Ci p.half a b)).length≤6:=le_trans (Dq _ _) (by simp)
theorem BZ(p:CI)(a b c:Pt):((Az p a b c).flatMap (Ak p)).length≤6:=by
 delta Az
 dsimp only
 split
 ·simp only[flatMap_cons,flatMap_nil,append_nil];exact EG _ _ _ _
 ·split
  ·simp
  ·split
   ·simp only[flatMap_cons,flatMap_nil,append_nil];exact le_trans (Dq _ _) (by simp)
   ·simp only[flatMap_cons,flatMap_nil,append_nil];exact le_trans (Dq _ _) (by simp)
theorem Fs(p:CI)(a b:Pt):((AI p a b).flatMap (Ak p)).length≤6:=by
 delta AI
 dsimp only
 split
 ·simp only[flatMap_cons,flatMap_nil,append_nil];exact EG _ _ _ _
 ·split
  ·simp only[flatMap_cons,flatMap_nil,append_nil];exact le_trans (Dq _ _) (by simp)
  ·simp
theorem Lp(h:k<ps.length):ps[k]?=some (at' ps k):=by
 delta at'
 refine rr (List.getD_eq_getElem?_getD) (rr (List.getElem?_eq_getElem h) ?_);rfl
theorem Lq(h:k<ps.length):at' ps k∈ps:=List.mem_of_getElem? (Lp h)
theorem Ki(h:k<ps.length):AK (ps.map pD) (k:Int)=some (pD (at' ps k)):=GD (by refine rr (getElem?_map) (rr (Lp h) ?_);rfl)
theorem NC(h1:1≤k)(h:k≤ps.length):AK (ps.map pD) (-(k:Int))=some (pD (at' ps (ps.length-k))):=
 FQ (j:=ps.length-k) (by refine rr (if_pos (Int.neg_neg_of_pos (Int.natCast_pos.mpr h1))) (rr (length_map ..) ?_);exact(add_comm _ _).trans (Int.ofNat_sub h).symm) (by refine rr (getElem?_map) (rr (Lp (Nat.sub_lt (lt_of_lt_of_le h1 h) h1)) ?_);rfl)
theorem Re{l:Ln}(h:k<l.1.length):(Cu l)[k]?=some (at' l.1 k):=by
 delta Cu
 split
 ·refine rr (List.getElem?_append_left h) ?_;exact Lp h
 ·exact Lp h
theorem Rf{l:Ln}(h:k+1<l.1.length):(at' l.1 k,at' l.1 (k+1))∈BW l:=by
 delta BW
 rewrite[List.mem_iff_getElem?]
 refine⟨k,?_⟩
 rewrite[List.getElem?_zip_eq_some]
 refine⟨Re (by exact Ay h),?_⟩
 refine rr (List.getElem?_drop) (rr (Nat.add_comm 1 k) ?_)
 exact Re h
noncomputable def aA(e:Pt×Pt×Pt):Dat:=.tuple [pD e.1,pD e.2.1,pD e.2.2]
theorem Rg(as bs cs:List Pt):JU (as.map pD) (bs.map pD) (cs.map pD)=(TU as bs cs).map aA:=by
 delta JU TU
 refine rr List.zip_map ?_;refine rr List.zipWith_map (rr List.map_zip_eq_zipWith ?_)
 rfl
theorem Ue{q:Pt×Pt×Pt}{as bs cs:List Pt}(h:q∈TU as bs cs):q.1∈as∧q.2.1∈bs∧q.2.2∈cs:=
 have k:=of_mem_zip h
 ⟨k.1,of_mem_zip k.2⟩
theorem ND(as bs cs:List Pt):(TU as bs cs).length≤as.length:=le_trans (Nat.le_of_eq length_zip) (min_le_left ..)
theorem Lr(p:CI):∀es:List (Pt×Pt),((es.map fun q=>Ci p.half q.1 q.2).flatMap (Ak p)).length≤6*es.length:=by
 intro es
 induction es with
 |nil=>
  exact le_refl _
 |cons e es ih=>
  have:=ih
  have:=Hb p e.1 e.2
  refine rr map_cons (rr flatMap_cons ?_);refine rr length_append (rr length_cons ?_);exact Gu ih this
theorem Ls(p:CI):∀es:List (Pt×Pt×Pt),((es.flatMap fun q=>Az p q.1 q.2.1 q.2.2).flatMap (Ak p)).length≤6*es.length:=by
 intro es
 induction es with
 |nil=>
  exact le_refl _
 |cons e es ih=>
  have:=ih
  have:=BZ p e.1 e.2.1 e.2.2
  refine rr flatMap_cons (rr flatMap_append ?_);refine rr length_append (rr length_cons ?_);exact Gu ih this
theorem NE(l:Ln):(Cu l).length≤l.1.length+1:=by
 delta Cu
 split
 ·refine rr length_append (rr length_take ?_);exact(Ay (min_le_left (1) (l.fst.length)))
 ·exact le_succ _
theorem HZ(l:Ln):(BW l).length≤l.1.length+1:=by
 have:=NE l
 delta BW;refine rr length_zip ?_;lia
theorem NF{l:Ln}(h:q∈Cu l):q∈l.1:=by
 delta Cu at h
 split at h
 ·exact(mem_append.mp h).elim id List.mem_of_mem_take
 ·exact h
theorem NH{l:Ln}{e:Pt×Pt}(h:e∈BW l):e.1∈l.1∧e.2∈l.1:=
 have k:=of_mem_zip (show(e.1,e.2)∈_ from h)
 ⟨NF k.1,NF (mem_of_mem_drop k.2)⟩
noncomputable def YU(p:CI)(i:Addr)(rs:List Row)(l:Ln)(tl:St):St:=("self",Bj p i rs)::("line",.dat (lnD l))::("points",.dat (.list (l.1.map pD)))::tl
noncomputable def Vt(l:Ln):St:=[("ring",.dat (.list ((Cu l).map pD)))]
noncomputable def pdX(k:List Nat):Stmt:=KC (AY 298) k
noncomputable abbrev Fe(p:CI)(es:List (Pt×Pt)):List Row:=(es.map fun q=>Ci p.half q.1 q.2).flatMap (Ak p)
noncomputable abbrev Fj(p:CI)(es:List (Pt×Pt×Pt)):List Row:=(es.flatMap fun q=>Az p q.1 q.2.1 q.2.2).flatMap (Ak p)
theorem Uf(S:Ao O P.K U){p:CI}{l:Ln}(hm:Gh p.m)(hh:Bd 64 p.half)(F:AT Q):∀(es:List (Pt×Pt)) (rs:List Row),rs.length+6*es.length≤60000→(∀e∈es,BdP 60 e.1∧BdP 60 e.2∧e.1≠e.2)→Q .next (YU p i (rs++Fe p es) l (Vt l))→
 Bv O w U (scC 298) (n+6) (AG (pdX [3])) (Cr (pdX [3])) Q (es.map AC) (YU p i rs l (Vt l)):=by
 intro es
 induction es with
 |nil=>intro rs _ _ q;exact(append_nil rs)▸q
 |cons e es ih=>
  intro rs hl he q
  rw[length_cons]at hl
  obtain⟨b1,b2,b3⟩:=he e (.head _)
  have lr:=Hb p e.1 e.2
  have d:=OT (w:=w) (n:=n) (i:=i) (rs:=rs) S hm hh b1.up b2.up b3 (by exact Ay hl)
  exact Aw S ["one","other"] [.lent .none (Bj p i (rs++Ak p (Ci p.half e.1 e.2)))] (ih (rs++Ak p (Ci p.half e.1 e.2)) (by refine rr length_append ?_;exact Gu hl lr) (fun e h=>he e (.tail _ h)) (by refine rr (append_assoc ..) ?_;exact q)) rfl (.cons d .nil) F
theorem Ug(S:Ao O P.K U){p:CI}{l:Ln}(hm:Gh p.m)(hh:Bd 64 p.half)(hli:Bd 64 p.limit)(F:AT Q):∀(es:List (Pt×Pt×Pt)) (rs:List Row),rs.length+6*es.length≤70000→(∀e∈es,BdP 60 e.1∧BdP 60 e.2.1∧BdP 60 e.2.2)→Q .next (YU p i (rs++Fj p es) l (Vt l))→
 Bv O w U (scC 298) (n+6) (AG (pdX [4])) (Cr (pdX [4])) Q (es.map aA) (YU p i rs l (Vt l)):=by
 intro es
 induction es with
 |nil=>intro rs _ _ q;exact(append_nil rs)▸q
 |cons e es ih=>
  intro rs hl he q
  rw[length_cons]at hl
  obtain⟨b1,b2,b3⟩:=he e (.head _)
  have lr:=BZ p e.1 e.2.1 e.2.2
  have d:=Jh (w:=w) (n:=n) (i:=i) (rs:=rs) S hm hh hli b1 b2 b3 (by exact Ay hl)
  have a:rs++Fj p (e::es)=(rs++(Az p e.1 e.2.1 e.2.2).flatMap (Ak p))++Fj p es:=by
   delta Fj;refine rr flatMap_cons ?_;refine rr flatMap_append (rr (append_assoc ..) ?_);rfl
  exact Aw S ["ahead","here","behind"] [.lent .none (Bj p i (rs++(Az p e.1 e.2.1 e.2.2).flatMap (Ak p)))] (ih (rs++(Az p e.1 e.2.1 e.2.2).flatMap (Ak p)) (by refine rr length_append ?_;exact Gu hl lr) (fun e h=>he e (.tail _ h)) (a▸q)) rfl (.cons d .nil) F
theorem aD(S:Ao O P.K U){p:CI}{l:Ln}(hm:Gh p.m)(hh:Bd 64 p.half)(hli:Bd 64 p.limit)(h2:2≤l.1.length)(hz:l.1.length≤100)(hp:∀q∈l.1,BdP 60 q)(he:∀e∈BW l,e.1≠e.2)(hr:rs.length≤70000):
 Ss O w U (scC 298) (n+6) ((AY 298).drop 5) (YU p i rs l (Vt l)) (fun fl st'=>∃a',look "self" st'=some a'∧flD fl=.none∧a'=Bj p i (rs++(Fr p l).flatMap (Ak p))):=by
 have hlm:(l.1.map pD).length<2^62:=by refine rr (length_map ..) ?_;exact Ay hz
 have i0:AK (l.1.map pD) 0=some (pD (at' l.1 0)):=Ki (k:=0) (by exact Ay h2)
 have i1:AK (l.1.map pD) 1=some (pD (at' l.1 1)):=Ki (k:=1) (by exact Ay h2)
 have m1:AK (l.1.map pD) (-1)=some (pD (at' l.1 (l.1.length-1))):=NC (k:=1) UZ (by exact Ay h2)
 have m2:AK (l.1.map pD) (-2)=some (pD (at' l.1 (l.1.length-2))):=NC (k:=2) UZ (by exact(Ay h2))
 have b0:=hp _ (Lq (ps:=l.1) (k:=0) (by exact Ay h2))
 have b1:=hp _ (Lq (ps:=l.1) (k:=1) (by exact Ay h2))
 have c1:=hp _ (Lq (ps:=l.1) (k:=l.1.length-1) (by exact(Nat.sub_one_lt_of_lt h2)))
 have c2:=hp _ (Lq (ps:=l.1) (k:=l.1.length-2) (by omega))
 have n0:at' l.1 0≠at' l.1 1:=he _ (Rf (l:=l) (k:=0) (by exact Ay h2))
 have n1:at' l.1 (l.1.length-2)≠at' l.1 (l.1.length-1):=by
  have:=he _ (Rf (l:=l) (k:=l.1.length-2) (by omega))
  rwa [show l.1.length-2+1=l.1.length-1 by grind]at this
 obtain⟨ps,c⟩:=l
 delta Fr
 dsimp only at*
 generalize at' ps 0=q0 at*
 generalize at' ps 1=q1 at*
 generalize at' ps (ps.length-1)=z1 at*
 generalize at' ps (ps.length-2)=z2 at*
 have J:=fun(rs:List Row) (hr:rs.length≤80000) {a b c:Pt} (ha:BdP 60 a) (hb:BdP 60 b) (hc:BdP 60 c)=>Jh (w:=w) (n:=n) (i:=i) (rs:=rs) S hm hh hli ha hb hc (by exact Ay hr)
 rcases c with _|_
 ·
  refine rr (if_neg Bool.false_ne_true) ?_;refine rr flatMap_append (rl (append_assoc ..) ?_)
  have lc:=Fs p q1 q0
  have d1:=Lo (w:=w) (n:=n) (i:=i) (rs:=rs) S hm hh b1.up b0.up n0.symm (by exact Ay hr)
  have d2:=Lo (w:=w) (n:=n) (i:=i) (rs:=rs++(AI p q1 q0).flatMap (Ak p)) S hm hh c2.up c1.up n1 (by refine rr length_append ?_;exact Gu hr lc)
  exact AO S (os:=[.br false,.val (pD q1),.val (pD q0),.lent .none (Bj p i (rs++(AI p q1 q0).flatMap (Ak p))),.val (pD z2),.val (pD z1),.lent .none (Bj p i (rs++(AI p q1 q0).flatMap (Ak p)++(AI p z2 z1).flatMap (Ak p)))]) rfl obs ⟨_,rfl,rfl,rfl⟩
 ·
  refine rr (if_pos rfl) ?_
  by_cases h3:2<ps.length
  ·refine rr (if_pos h3) ?_;refine rr flatMap_append (rl (append_assoc ..) ?_)
   have c3:decide ((2:Int)<((ps.map pD).length:Nat))=true:=decide_eq_true (by refine rr (length_map ..) ?_;exact(Int.lt_of_toNat_lt h3))
   have lj:=BZ p z2 z1 q0
   have d1:=J rs (by exact Ay hr) c2 c1 b0
   have d2:=J (rs++(Az p z2 z1 q0).flatMap (Ak p)) (by refine rr length_append ?_;exact Gu hr lj) c1 b0 b1
   exact AO S (os:=[.br true,.br true,.val (pD z2),.val (pD z1),.val (pD q0),.lent .none (Bj p i (rs++(Az p z2 z1 q0).flatMap (Ak p))),.val (pD z1),.val (pD q0),.val (pD q1),.lent .none (Bj p i (rs++(Az p z2 z1 q0).flatMap (Ak p)++(Az p z1 q0 q1).flatMap (Ak p)))]) rfl obs ⟨_,rfl,rfl,rfl⟩
  ·refine rr (if_neg h3) ?_;refine rr flatMap_append (rl (append_assoc ..) ?_)
   have c3:decide ((2:Int)<((ps.map pD).length:Nat))=false:=decide_eq_false (by refine rr (length_map ..) ?_;lia)
   have lj:=BZ p q0 q1 q0
   have d1:=J rs (by exact Ay hr) b0 b1 b0
   have d2:=J (rs++(Az p q0 q1 q0).flatMap (Ak p)) (by refine rr length_append ?_;exact Gu hr lj) c1 b0 b1
   exact AO S (os:=[.br true,.br false,.val (pD q0),.val (pD q1),.val (pD q0),.lent .none (Bj p i (rs++(Az p q0 q1 q0).flatMap (Ak p))),.val (pD z1),.val (pD q0),.val (pD q1),.lent .none (Bj p i (rs++(Az p q0 q1 q0).flatMap (Ak p)++(Az p z1 q0 q1).flatMap (Ak p)))]) rfl obs ⟨_,rfl,rfl,rfl⟩
theorem OV(S:Ao O P.K U){p:CI}{l:Ln}(hm:Gh p.m)(hh:Bd 64 p.half)(hli:Bd 64 p.limit)(h1:1≤l.1.length)(hz:l.1.length≤100)(hp:∀q∈l.1,BdP 60 q)
 (he:2≤l.1.length→∀e∈BW l,e.1≠e.2) (hr:rs.length≤50000):
 FnL O w U (n+7) 298 (Bj p i rs) [lnD l] (fun d x=>d=.none∧x=Bj p i (rs++(Bo p l).flatMap (Ak p))):=by
 have sp:=QV (w:=w) (n:=n+5) (ps:=l.1.map pD) (c:=l.2) S (by refine rr (length_map ..) ?_;exact Ay hz)
 have hs:(l.1.map pD).length≤sizeLine:=le_trans (show _≤1000 by refine rr (length_map ..) ?_;exact Ay hz) (by decide)
 by_cases hc:l.1.length=1
 ·rewrite[Bo];refine rr (if_pos hc) ?_
  have c1:decide (((l.1.map pD).length:Int)=1)=true:=decide_eq_true (by refine rr (length_map ..) ?_;exact(Int.neg_inj.mp (congrArg Neg.neg (congrArg Nat.cast hc))))
  rw[c1]at sp
  by_cases h:p.cap=1
  ·refine rr (if_pos h) (rr (List.flatMap_singleton ..) ?_)
   have c2:=decide_eq_true h
   have i0:AK (l.1.map pD) 0=some (pD (at' l.1 0)):=Ki (k:=0) (by exact Ay h1)
   have hlm:(l.1.map pD).length<2^62:=by refine rr (length_map ..) ?_;exact Ay hz
   have d:=EF (w:=w) (n:=n+1) (i:=i) (rs:=rs) (q:=at' l.1 0) S hm hh (hp _ (Lq (by exact Ay h1))).up (by exact Ay hr)
   refine FnL.go S (Fn P) (by kernel_rfl) rfl [.val (.bool true),.br true,.br true,.val (pD (at' l.1 0)),.lent .none (Bj p i (rs++Ak p (.circ (at' l.1 0))))] rfl ?_
   exact obs
  ·refine rr (if_neg h) ?_;refine rr flatMap_nil (rr (append_nil ..) ?_)
   have c2:=decide_eq_false h
   refine FnL.go S (Fn P) (by kernel_rfl) rfl [.val (.bool true),.br true,.br false] rfl ?_
   exact obs
 ·have h2:2≤l.1.length:=by lia
  have c1:decide (((l.1.map pD).length:Int)=1)=false:=decide_eq_false (by refine rr (length_map ..) ?_;exact(Nat.ToInt.of_diseq rfl rfl hc))
  rw[c1]at sp
  have he:=he h2
  have le:=Lr p (BW l)
  have el:=HZ l
  have lj:=Ls p (TU l.1 (l.1.drop 1) (l.1.drop 2))
  have zl:=ND l.1 (l.1.drop 1) (l.1.drop 2)
  have hr3:((Cu l).map pD).length≤sizeLine:=le_trans (show _≤1000 by have:=NE l;refine rr (length_map ..) ?_;exact Gu hz this) (by decide)
  have rest:Ss O w U (scC 298) (n+6) ((AY 298).drop 3) (YU p i rs l (Vt l)) (fun fl st'=>∃a',look "self" st'=some a'∧flD fl=.none∧a'=Bj p i (rs++(Bo p l).flatMap (Ak p))):=by
   rewrite[Bo];refine rr (if_neg hc) ?_
   dsimp only
   rewrite[show rs++((((if l.2=true then l.1++l.1.take 1 else l.1).zip ((if l.2=true then l.1++l.1.take 1 else l.1).drop 1)).map fun q=>Ci p.half q.1 q.2)++((TU l.1 (l.1.drop 1) (l.1.drop 2)).flatMap fun q=>Az p q.1 q.2.1 q.2.2)++Fr p l).flatMap (Ak p)=rs++Fe p (BW l)++Fj p (TU l.1 (l.1.drop 1) (l.1.drop 2))++(Fr p l).flatMap (Ak p)by
    refine rr flatMap_append (rr flatMap_append ?_);refine rl (append_assoc ..) (rl (append_assoc ..) ?_);rfl]
   refine Nw S [] (xs:=(Cu l).map pD) (ys:=((Cu l).map pD).drop 1) rfl obs ?_ (glb P (by kernel_rfl) (by kernel_rfl)) rfl rfl
   refine rl map_drop (rr (Ny ..) ?_)
   refine Uf S hm hh Av (BW l) rs (by exact YY (mN 6 hz) hr (mN 6 el)) (fun e h=>⟨hp _ (NH h).1,hp _ (NH h).2,he e h⟩) ?_
   refine Bl (GX (Xc S (glb P (by kernel_rfl) (by kernel_rfl)) rfl (Fc S (os:=[]) rfl obs ⟨l.1.map pD,(l.1.map pD).drop 1,(l.1.map pD).drop 2,rfl,?_⟩)))
   refine rl map_drop ?_;refine rl map_drop (rr (Rg ..) ?_)
   refine Ug S hm hh hli Av _ _ (by refine rr length_append ?_;lia) (fun e h=>have k:=Ue h;⟨hp _ k.1,hp _ (mem_of_mem_drop k.2.1),hp _ (mem_of_mem_drop k.2.2)⟩) ?_
   exact aD S hm hh hli h2 hz hp he (by refine rr length_append (rr length_append ?_);lia)
  refine FnL.ofC S (Fn P) (by kernel_rfl) rfl ?_
  obtain⟨ps,c⟩:=l
  rcases c with _|_
  ·exact Ax S 3 [] [.val (.bool false),.br false,.br false] rfl obs rest
  ·
   have e:Vt (ps,true)=([("ring",.dat (.list (ps.map pD++(ps.map pD).take 1)))]:St):=by simp[Vt,Cu]
   rw[e]at rest
   have hb:(ps.map pD).length+((ps.map pD).take 1).length≤sizeLine:=le_trans (show _≤1000 by refine rr length_take (rr (length_map ..) ?_);dsimp only at hz;exact(Gu hz (min_le_left (1) (ps.length)))) (by decide)
   exact Ax S 3 [] [.val (.bool false),.br false,.br true] rfl obs rest
theorem Uh(p:CI)(l:Ln):((Fr p l).flatMap (Ak p)).length≤12:=by
 delta Fr
 dsimp only
 split
 ·refine rr flatMap_append (rr length_append ?_)
  refine Nat.add_le_add (b:=6) (d:=6) ?_ (BZ p _ _ _)
  split<;>exact BZ p _ _ _
 ·refine rr flatMap_append (rr length_append ?_)
  exact Nat.add_le_add (b:=6) (d:=6) (Fs p _ _) (Fs p _ _)
theorem NI(p:CI){l:Ln}(h:l.1.length≤22):((Bo p l).flatMap (Ak p)).length≤300:=by
 delta Bo
 split
 ·split
  ·refine rr (List.flatMap_singleton ..) ?_;exact le_trans (EG _ _ _ _) (by decide)
  ·exact zero_le _
 ·have a:=Lr p (BW l)
  have b:=HZ l
  have c:=Ls p (TU l.1 (l.1.drop 1) (l.1.drop 2))
  have d:=ND l.1 (l.1.drop 1) (l.1.drop 2)
  have e:=Uh p l
  show(List.flatMap (Ak p) (List.map _ (BW l)++_++_)).length≤300
  refine rr flatMap_append (rr flatMap_append ?_);refine rr length_append (rr length_append ?_)
  exact Ay (aN (mN 12 h) (aN a (aN (mN 6 b) (aN c (aN (mN 6 d) e)))))
structure cp(rows:List Row)(m:Mx):Prop where
 few:rows.length≤1000
 ok:Ha rows []
 mx:Gh m
 reg:m.a*m.d-m.b*m.c≠0
 lines:(Bg rows).length≤10
 line:∀l∈Bg rows,l.1≠[]∧l.1.length≤1000∧∀p∈l.1,Bd 1000 (p.1-m.e)∧Bd 1000 (p.2-m.f)
 draw:∀l∈(Bg rows).map (BQ m),1≤l.1.length∧l.1.length≤22∧(∀p∈l.1,BdP 60 p)∧(2≤l.1.length→∀e∈BW l,e.1≠e.2)
noncomputable def Rh(p:CI)(rows:List Row):List Fig:=((Bg rows).map (BQ p.m)).flatMap (Bo p)
noncomputable def Co(width:Int):Int:=CM (if width<0 then-width else width) 2
structure SqA where
 (rows:List Row) (width:Int) (p:CI)
noncomputable def Vu(a:SqA)(tl:St):St:=("rows",.dat (.list (a.rows.map Be)))::("width",.dat (.int a.width))::("cap",.dat (.int a.p.cap))::("join",.dat (.int a.p.join))::("limit",.dat (.int a.p.limit))::("lengths",.dat (.list []))::("offset",.dat (.int 0))::("matrix",.dat a.p.m.D)::tl
noncomputable def sqX(k:List Nat):Stmt:=KC (AY 315) k
noncomputable def sqE:Expr:=AG (sqX [4])
theorem Xw(S:Ao O P.K U){m:Mx}(ok:cp rows m){Q:List Dat→St→Prop}(F:∀acc s,Q acc (LV ["line"] s)→Q acc s):∀(xs:List Ln) (acc:List Dat),acc.length+xs.length≤10→(∀l∈xs,l∈Bg rows)→Q (acc++(xs.map (BQ m)).map lnD) [("matrix",.dat m.D)]→
 Bm O w U (BL (OP sqE) (scC 315)) (n+8) (JZ sqE) (Ka sqE) (IH sqE) Q (xs.map lnD) acc [("matrix",.dat m.D)]:=by
 intro xs
 induction xs with
 |nil=>intro acc _ _ q;exact(append_nil acc)▸q
 |cons x xs ih=>
  intro acc hl hm q
  rw[length_cons]at hl
  obtain⟨q1,q2,q3⟩:=ok.line x (hm x (.head _))
  have d:=GJ (w:=w) (n:=n+3) S q2 q1 ok.mx.1 ok.mx.2.1 ok.mx.2.2.1 ok.mx.2.2.2.1 q3 ok.reg
  exact BY S ["line"] [.val (lnD (BQ m x))] (ih (acc++[lnD (BQ m x)]) (by refine rr length_append (rr length_singleton ?_);exact Ay hl) (fun l h=>hm l (.tail _ h)) (by refine rr (append_assoc ..) ?_;exact q)) rfl (.cons d .nil) (le_trans (show _≤1000 by exact Ay hl) (by decide)) F
theorem Xx(S:Ao O P.K U){a:SqA}{A:Dat}(hm:Gh a.p.m)(hh:Bd 64 a.p.half)(hli:Bd 64 a.p.limit)(F:AT Q):∀(xs:List Ln) (rs:List Row),rs.length+300*xs.length≤40000→(∀l∈xs,1≤l.1.length∧l.1.length≤22∧(∀p∈l.1,BdP 60 p)∧(2≤l.1.length→∀e∈BW l,e.1≠e.2))→
 Q .next (Vu a [("lines",.dat A),("pen",Bj a.p i (rs++(xs.flatMap (Bo a.p)).flatMap (Ak a.p)))])→Bv O w U (scC 315) (n+8) (AG (sqX [6])) (Cr (sqX [6])) Q (xs.map lnD) (Vu a [("lines",.dat A),("pen",Bj a.p i rs)]):=by
 intro xs
 induction xs with
 |nil=>intro rs _ _ q;exact(append_nil rs)▸q
 |cons x xs ih=>
  intro rs hl hx q
  rw[length_cons]at hl
  obtain⟨d1,d2,d3,d4⟩:=hx x (.head _)
  have dl:=NI a.p d2
  have d:=OV (w:=w) (n:=n+1) (p:=a.p) (i:=i) (rs:=rs) S hm hh hli d1 (by exact Ay d2) d3 d4 (by exact Ay hl)
  have e:rs++((x::xs).flatMap (Bo a.p)).flatMap (Ak a.p)=(rs++(Bo a.p x).flatMap (Ak a.p))++(xs.flatMap (Bo a.p)).flatMap (Ak a.p):=by
   refine rr flatMap_cons ?_;refine rr flatMap_append (rr (append_assoc ..) ?_);rfl
  exact Aw S ["line"] [.lent .none (Bj a.p i (rs++(Bo a.p x).flatMap (Ak a.p)))] (ih (rs++(Bo a.p x).flatMap (Ak a.p)) (by refine rr length_append ?_;exact Gu hl dl) (fun l h=>hx l (.tail _ h)) (e▸q)) rfl (.cons d .nil) F
theorem Ri(S:Ao O P.K U){width:Int}{m:Mx}(ok:cp rows m)(hw:Bd 60 width)(hcap:cap=0∨cap=1∨cap=2)(hjoin:join=0∨join=1∨join=2)(hlim:1000000≤limit)(hlim2:Bd 64 limit):
 FnP O w U (n+9) 315 [.list (rows.map Be),.int width,.int cap,.int join,.int limit,.list [],.int 0,m.D]
  (fun r=>r=.list (((Rh ⟨Co width,cap,join,limit,m⟩ rows).flatMap (Ak ⟨Co width,cap,join,limit,m⟩)).map Be)):=by
 refine FnP.ofC S (OJ P) rfl ?_
 have k1:Ce .NotIn (.int cap) (.tuple [.int 0,.int 1,.int 2])=false:=by rcases hcap with rfl|rfl|rfl<;>rfl
 have k2:Ce .NotIn (.int join) (.tuple [.int 0,.int 1,.int 2])=false:=by rcases hjoin with rfl|rfl|rfl<;>rfl
 have k3:decide (limit<1000000)=false:=decide_eq_false (by exact(not_lt.mpr hlim))
 have dd:=Kh (w:=w) (n:=n+4) S
 have nr:=Fd (w:=w) (n:=n+6) (e:=m.e) (f:=m.f) S (Ah ok.mx.1 ok.mx.2.2.2.1) (Ah ok.mx.2.1 ok.mx.2.2.1) ok.reg
 refine Ax (st':=Vu ⟨rows,width,⟨Co width,cap,join,limit,m⟩⟩ []) S 4 [] [.br false,.br false,.br false,.br false,.ask (.dat (.list [])) (Vu ⟨rows,width,⟨Co width,cap,join,limit,m⟩⟩ []),.lent .none (aw [] 0 0),.val (.int (m.a*m.d-m.b*m.c))] rfl ?_ ?_
 ·repeat' first|exact obN|refine obA ?_|apply obC
  ·exact fun Q q=>AV (Hu S (glb P (by kernel_rfl) (by kernel_rfl)) rfl (AM S (os:=[]) rfl obs ⟨_,[],rfl,rfl,by decide,q⟩))
 have sl:=IJ (w:=w) (n:=n+4) S ok.few ok.ok
 refine GI S [("matrix",.dat m.D)] [.val (.list ((Bg rows).map lnD))] rfl rfl obs (Xw S ok ?_ (Bg rows) [] (by refine rr length_nil (rr (Nat.zero_add ..) ?_);exact ok.lines) (fun V h=>h) ?_) (by kernel_rfl) (by kernel_rfl) (by kernel_rfl) (by intro Y h;cases Y;dsimp only at h;subst h;kernel_rfl)
 ·intro acc s q
  rwa [BM (by kernel_rfl)]at q
 refine Ss.at (Vu ⟨rows,width,⟨Co width,cap,join,limit,m⟩⟩ [("lines",.lst (((Bg rows).map (BQ m)).map lnD))]) ?_ (by kernel_rfl)
 have dv:=CB (w:=w) (n:=n+7) (a:=if width<0 then-width else width) (b:=2) S (by decide)
 obtain⟨g1,g2,g3,g4,g5⟩:ce P.K "Pen" (.cls 301 246):=P.tab.gl rfl
 refine Bl (DQ (Qa S (C:=301) (fI:=246) ⟨by kernel_rfl,g1,by decide+kernel⟩ g2 g3 g4 g5 (Fc S (os:=[.val (.int (Co width))]) rfl obs ?_)) (by kernel_rfl))
 refine(OU S ok.mx).mono fun d a h=>?_
 obtain⟨rfl,i,rfl⟩:=h
 refine⟨rfl,?_⟩
 refine Ss.at (Vu ⟨rows,width,⟨Co width,cap,join,limit,m⟩⟩ [("lines",.lst (((Bg rows).map (BQ m)).map lnD)),("pen",Bj ⟨Co width,cap,join,limit,m⟩ i [])]) ?_ (by kernel_rfl)
 have hh:Bd 64 (Co width):=Bd.divI (show Bd 64 (if width<0 then-width else width)from by split<;>first|exact hw.neg.up|exact hw.up)
 have hW:=Ud (n:=n+2) (w:=w) (ls:=(Bg rows).map (BQ m)) S
 have hdl:((Bg rows).map (BQ m)).length≤100:=by refine rr (length_map ..) ?_;exact le_trans ok.lines (by decide)
 have hdr:=ok.draw
 delta Rh
 dsimp only
 generalize(Bg rows).map (BQ m)=ds at hW hdl hdr⊢
 refine Jd S (st':=Vu ⟨rows,width,⟨Co width,cap,join,limit,m⟩⟩ [("lines",.dat (.list (ds.map lnD))),("pen",Bj ⟨Co width,cap,join,limit,m⟩ i [])]) [.val (.list (ds.map lnD))] rfl rfl obs (Xx S (a:=⟨rows,width,⟨Co width,cap,join,limit,m⟩⟩) ok.mx hh hlim2 Av ds [] (by refine rr length_nil ?_;exact Ay (mN 300 hdl)) hdr ?_)
 generalize((ds.flatMap (Bo ⟨Co width,cap,join,limit,m⟩)).flatMap (Ak ⟨Co width,cap,join,limit,m⟩))=out
 refine AO S (os:=[.ask (.dat (.list (out.map Be))) (Vu ⟨rows,width,⟨Co width,cap,join,limit,m⟩⟩ [("lines",.dat (.list (ds.map lnD))),("pen",.dat (Hq (Bj ⟨Co width,cap,join,limit,m⟩ i out)))])]) rfl (.cons (fun Q q=>?_) .nil) rfl
 exact KP S rfl rfl (QH P) (GZ P) q
noncomputable def Ap(x m s:Int):Bool:=if 0≤m then decide (0≤x)&&decide (m*m*s≤x*x)else decide (0≤x)||decide (x*x≤m*m*s)
noncomputable def Ad(a b:Pt):Int:=a.1*b.2-a.2*b.1
noncomputable def AA(a b:Pt):Int:=a.1*b.1+a.2*b.2
noncomputable def Cl:Option Bool→Dat
 |some b=>.bool b
 |none=>.none
noncomputable def By(x m s:Int):Option Bool:=if Ap x (m+1) s then some true else if Ap x (m-1) s then none else some false
noncomputable def OX(l:List (Option Bool)):Option Bool:=if some false∈l then some false else if none∈l then none else some true
noncomputable def IA(l:List (Option Bool)):Option Bool:=if some true∈l then some true else if none∈l then none else some false
theorem EH(S:Ao O P.K U){x m s:Int}(hx:Bd 1000 x)(hm:Bd 1000 m)(hs:Bd 1000 s):FnP O w U (n+1) 336 [.int x,.int m,.int s] (fun d=>d=.bool (Ap x m s)):=by
 have m1:Am x x:=Ah hx hx
 have m2:Am m m:=Ah hm hm
 have m3:Am (m*m) s:=Ah (hm.mul hm) hs
 delta Ap
 by_cases c1:0≤m
 ·have c:=decide_eq_true c1
  refine rr (if_pos c1) ?_
  by_cases c2:0≤x
  ·have c':=decide_eq_true c2
   refine rr c' ?_
   refine FnP.go S (Cg P) rfl [.br true,.br true] rfl ?_
   exact obs
  ·have c':=decide_eq_false c2
   refine rr c' ?_
   refine FnP.go S (Cg P) rfl [.br true,.br false] rfl ?_
   exact obs
 ·have c:=decide_eq_false c1
  refine rr (if_neg c1) ?_
  by_cases c2:0≤x
  ·have c':=decide_eq_true c2
   refine rr c' ?_
   refine FnP.go S (Cg P) rfl [.br false,.br true] rfl ?_
   exact obs
  ·have c':=decide_eq_false c2
   refine rr c' ?_
   refine FnP.go S (Cg P) rfl [.br false,.br false] rfl ?_
   exact obs
theorem Ia(S:Ao O P.K U){a b:Pt}(ha:BdP 1000 a)(hb:BdP 1000 b):FnP O w U (n+1) 343 [pD a,pD b] (fun d=>d=.int (Ad a b)):=by
 have m1:Am a.1 b.2:=Ah ha.1 hb.2
 have m2:Am a.2 b.1:=Ah ha.2 hb.1
 refine FnP.go S (JP P) rfl [] rfl ?_
 exact obs
theorem Kj(S:Ao O P.K U){a b:Pt}(ha:BdP 1000 a)(hb:BdP 1000 b):FnP O w U (n+1) 350 [pD a,pD b] (fun d=>d=.int (AA a b)):=by
 have m1:Am a.1 b.1:=Ah ha.1 hb.1
 have m2:Am a.2 b.2:=Ah ha.2 hb.2
 refine FnP.go S (Mt P) rfl [] rfl ?_
 exact obs
theorem Ee(S:Ao O P.K U){a b:Pt}:FnP O w U (n+1) 357 [pD a,pD b] (fun d=>d=pD (Ae a b)):=by
 refine FnP.go S (Lg P) rfl [] rfl ?_
 exact obs
theorem Kk(S:Ao O P.K U){x m s:Int}(hx:Bd 1000 x)(hm:Bd 900 m)(hs:Bd 1000 s):FnP O w U (n+2) 378 [.int x,.int m,.int s] (fun d=>d=Cl (By x m s)):=by
 have h1:Bd 1000 (m+1):=Bd.up (Bd.add hm Bd.num)
 have h2:Bd 1000 (m-1):=Bd.up (Bd.sub hm Bd.num)
 have r1:=EH (w:=w) (n:=n) S hx h1 hs
 have r2:=EH (w:=w) (n:=n) S hx h2 hs
 delta By
 generalize Ap x (m+1) s=b1 at r1⊢
 generalize Ap x (m-1) s=b2 at r2⊢
 rcases b1 with _|_
 ·rcases b2 with _|_
  ·refine FnP.go S (Dy P) rfl [.val (.bool false),.br false,.val (.bool false),.br false] rfl ?_
   exact obs
  ·refine FnP.go S (Dy P) rfl [.val (.bool false),.br false,.val (.bool true),.br true] rfl ?_
   exact obs
 ·refine FnP.go S (Dy P) rfl [.val (.bool true),.br true] rfl ?_
  exact obs
theorem Xy(a:Option Bool)(b:Option Bool):deq (Cl a) (Cl b)=decide (a=b):=by
 rcases a with _|(_|_)<;>rcases b with _|(_|_)<;>rfl
theorem Kl(l:List (Option Bool))(b:Option Bool):((l.map Cl).any fun y=>deq y (Cl b))=decide (b∈l):=by
 induction l with
 |nil=>rfl
 |cons a l ih=>
  refine rr map_cons (rr any_cons ?_);refine rr ih (rr (Xy ..) ?_)
  by_cases h:a=b
  ·subst h
   refine rr (decide_eq_true rfl) ?_;refine rr (Bool.true_or ..) (rr (decide_eq_true (List.mem_cons_self ..)) ?_);rfl
  ·refine rr (decide_eq_false h) (rr (Bool.false_or ..) ?_)
   exact decide_eq_decide.mpr ⟨fun k=>.tail _ k,fun k=>(mem_cons.mp k).resolve_left fun q=>h q.symm⟩
theorem aE(S:Ao O P.K U):FnP O w U (n+1) 364 [.list (l.map Cl)] (fun d=>d=Cl (OX l)):=by
 have e1:((l.map Cl).any fun y=>deq y (.bool false))=decide (some false∈l):=Kl l (some false)
 have e2:((l.map Cl).any fun y=>deq y .none)=decide (none∈l):=Kl l none
 have at1:(l.map Cl).all Gz=true:=by
  refine rr List.all_map ?_;exact all_eq_true.mpr fun a V=>by rcases a with _|(_|_)<;>rfl
 delta OX
 by_cases c1:some false∈l
 ·refine rr (if_pos c1) ?_
  have k1:=e1.trans (decide_eq_true c1)
  refine FnP.go S (Fo P) rfl [.br true] rfl ?_
  repeat' first|exact obN|refine obA ?_|apply obC
  all_goals exact⟨rfl,at1⟩
 ·refine rr (if_neg c1) ?_
  have k1:=e1.trans (decide_eq_false c1)
  by_cases c2:none∈l
  ·refine rr (if_pos c2) ?_
   have k2:=e2.trans (decide_eq_true c2)
   refine FnP.go S (Fo P) rfl [.br false,.br true] rfl ?_
   repeat' first|exact obN|refine obA ?_|apply obC
   all_goals exact⟨rfl,at1⟩
  ·refine rr (if_neg c2) ?_
   have k2:=e2.trans (decide_eq_false c2)
   refine FnP.go S (Fo P) rfl [.br false,.br false] rfl ?_
   repeat' first|exact obN|refine obA ?_|apply obC
   all_goals exact⟨rfl,at1⟩
theorem aF(S:Ao O P.K U):FnP O w U (n+1) 371 [.list (l.map Cl)] (fun d=>d=Cl (IA l)):=by
 have e1:((l.map Cl).any fun y=>deq y (.bool true))=decide (some true∈l):=Kl l (some true)
 have e2:((l.map Cl).any fun y=>deq y .none)=decide (none∈l):=Kl l none
 have at1:(l.map Cl).all Gz=true:=by
  refine rr List.all_map ?_;exact all_eq_true.mpr fun a V=>by rcases a with _|(_|_)<;>rfl
 delta IA
 by_cases c1:some true∈l
 ·refine rr (if_pos c1) ?_
  have k1:=e1.trans (decide_eq_true c1)
  refine FnP.go S (Fp P) rfl [.br true] rfl ?_
  repeat' first|exact obN|refine obA ?_|apply obC
  all_goals exact⟨rfl,at1⟩
 ·refine rr (if_neg c1) ?_
  have k1:=e1.trans (decide_eq_false c1)
  by_cases c2:none∈l
  ·refine rr (if_pos c2) ?_
   have k2:=e2.trans (decide_eq_true c2)
   refine FnP.go S (Fp P) rfl [.br false,.br true] rfl ?_
   repeat' first|exact obN|refine obA ?_|apply obC
   all_goals exact⟨rfl,at1⟩
  ·refine rr (if_neg c2) ?_
   have k2:=e2.trans (decide_eq_false c2)
   refine FnP.go S (Fp P) rfl [.br false,.br false] rfl ?_
   repeat' first|exact obN|refine obA ?_|apply obC
   all_goals exact⟨rfl,at1⟩
noncomputable def Ui(i:Int):Int:=if i<0 then-i else i
noncomputable def GK(a b:Pt)(before behind half:Int)(p:Pt):Option Bool:=
 OX [By (AA (Ae p a) (Ae b a)) (-before) (AA (Ae b a) (Ae b a)),By (AA (Ae b a) (Ae b a)-AA (Ae p a) (Ae b a)) (-behind) (AA (Ae b a) (Ae b a)),By (-Ui (Ad (Ae p a) (Ae b a))) (-half) (AA (Ae b a) (Ae b a))]
noncomputable def AZ(m:Pt)(half:Int)(p:Pt):Option Bool:=
 if 100*AA (Ae p m) (Ae p m)≤81*half*half then some true else if 121*half*half≤100*AA (Ae p m) (Ae p m)then some false else none
theorem Bd.dot{a b:Pt}(ha:BdP k a)(hb:BdP k b):Bd (max (k+k) (k+k)+1) (AA a b):=Bd.add (Bd.mul ha.1 hb.1) (Bd.mul ha.2 hb.2)
theorem Bd.cross{a b:Pt}(ha:BdP k a)(hb:BdP k b):Bd (max (k+k) (k+k)+1) (Ad a b):=Bd.sub (Bd.mul ha.1 hb.2) (Bd.mul ha.2 hb.1)
theorem Bd.absI(h:Bd k a):Bd k (Ui a):=by delta Mine.Internal.Ui;split;exact Bd.neg h;exact h
theorem Rj(S:Ao O P.K U){a b:Pt}{before behind:Int}(ha:BdP 64 a)(hb:BdP 64 b)(hp:BdP 64 p)(h1:Bd 64 before)(h2:Bd 64 behind)(h3:Bd 64 half):
 FnP O w U (n+3) 385 [.tuple [pD a,pD b],.int before,.int behind,.int half,pD p] (fun d=>d=Cl (GK a b before behind half p)):=by
 have bw:=hb.sub ha
 have bp:=hp.sub ha
 have l1:=Ee (w:=w) (n:=n+1) (a:=b) (b:=a) S
 have l2:=Ee (w:=w) (n:=n+1) (a:=p) (b:=a) S
 have d1:=Kj (w:=w) (n:=n+1) S (bw.up (l:=1000)) (bw.up (l:=1000))
 have d2:=Kj (w:=w) (n:=n+1) S (bp.up (l:=1000)) (bw.up (l:=1000))
 have c1:=Ia (w:=w) (n:=n+1) S (bp.up (l:=1000)) (bw.up (l:=1000))
 have bq:=Bd.dot bw bw
 have bl:=Bd.dot bp bw
 have bc:=Bd.absI (Bd.cross bp bw)
 delta GK
 generalize Ae b a=W at*
 generalize Ae p a=V at*
 generalize AA W W=q at*
 generalize AA V W=l at*
 have y1:=Kk (w:=w) (n:=n) S (bl.up (l:=1000)) (h1.neg.up (l:=900)) (bq.up (l:=1000))
 have y2:=Kk (w:=w) (n:=n) S (Bd.up (l:=1000) (Bd.sub bq bl)) (h2.neg.up (l:=900)) (bq.up (l:=1000))
 have y3:=Kk (w:=w) (n:=n) S (Bd.up (l:=1000) bc.neg) (h3.neg.up (l:=900)) (bq.up (l:=1000))
 have y4:=aE (w:=w) (n:=n+1) S (l:=[By l (-before) q,By (q-l) (-behind) q,By (-Ui (Ad V W)) (-half) q])
 refine FnP.go S (HN P) rfl [.val (pD W),.val (.int q),.val (pD V),.val (.int l),.val (pD V),.val (.int (Ad V W)),.val (Cl (By l (-before) q)),.val (Cl (By (q-l) (-behind) q)),.val (Cl (By (-Ui (Ad V W)) (-half) q)),.val (Cl (OX [By l (-before) q,By (q-l) (-behind) q,By (-Ui (Ad V W)) (-half) q]))] rfl ?_
 exact obs
theorem Ft(S:Ao O P.K U){m:Pt}(hm:BdP 64 m)(hp:BdP 64 p)(h3:Bd 64 half):
 FnP O w U (n+2) 392 [pD m,.int half,pD p] (fun d=>d=Cl (AZ m half p)):=by
 have bv:=hp.sub hm
 have l1:=Ee (w:=w) (n:=n) (a:=p) (b:=m) S
 have d1:=Kj (w:=w) (n:=n) S (bv.up (l:=1000)) (bv.up (l:=1000))
 have bq:=Bd.dot bv bv
 delta AZ
 generalize Ae p m=V at*
 generalize AA V V=q at*
 have m1:Am 100 q:=.of_left (by decide)
 have m2:Am 81 half:=.of_left (by decide)
 have m3:Am (81*half) half:=Ah (Bd.mul Bd.num h3) h3
 have m4:Am 121 half:=.of_left (by decide)
 have m5:Am (121*half) half:=Ah (Bd.mul Bd.num h3) h3
 by_cases c1:100*q≤81*half*half
 ·refine rr (if_pos c1) ?_
  have k1:=decide_eq_true c1
  refine FnP.go S (Ct P) rfl [.val (pD V),.val (.int q),.br true] rfl ?_
  exact obC k1 (obC m3 (obC m2 (obC m1 (obC d1 (obC l1 obN)))))
 ·refine rr (if_neg c1) ?_
  have k1:=decide_eq_false c1
  by_cases c2:121*half*half≤100*q
  ·refine rr (if_pos c2) ?_
   have k2:=decide_eq_true c2
   refine FnP.go S (Ct P) rfl [.val (pD V),.val (.int q),.br false,.br true] rfl ?_
   exact obC k2 (obC m5 (obC m4 (obC k1 (obC m3 (obC m2 (obC m1 (obC d1 (obC l1 obN))))))))
  ·refine rr (if_neg c2) ?_
   have k2:=decide_eq_false c2
   refine FnP.go S (Ct P) rfl [.val (pD V),.val (.int q),.br false,.br false] rfl ?_
   exact obC k2 (obC m5 (obC m4 (obC k1 (obC m3 (obC m2 (obC m1 (obC d1 (obC l1 obN))))))))
noncomputable def Cv(t:Bool)(a b p:Pt):Int:=Ad (Ae b a) (Ae p a)*(if t then 1 else-1)
noncomputable def GM(t:Bool)(p:Pt)(e:Pt×Pt):Option Bool:=
 if Ap (Cv t e.1 e.2 p) 1000 (AA (Ae e.2 e.1) (Ae e.2 e.1))then some true else if Ap (Cv t e.1 e.2 p) (-1000) (AA (Ae e.2 e.1) (Ae e.2 e.1))then none else some false
noncomputable def Di(a b c:Pt):Int:=Ad (Ae b a) (Ae c a)
noncomputable def AR(a b c p:Pt):Option Bool:=if Di a b c=0 then some false else OX ([(a,b),(b,c),(c,a)].map (GM (decide (0<Di a b c)) p))
noncomputable def cX(a b c p:Pt)(turn:Int)(acc:List Dat):St:=[("one",.dat (pD a)),("two",.dat (pD b)),("three",.dat (pD c)),("place",.dat (pD p)),("turn",.dat (.int turn)),("parts",.lst acc)]
noncomputable def trX(k:List Nat):Stmt:=KC (AY 399) k
theorem Xz(S:Ao O P.K U){a b c:Pt}(hp:BdP 400 p)(F:AT Q):∀(es:List (Pt×Pt)) (acc:List (Option Bool)),(∀e∈es,BdP 400 e.1∧BdP 400 e.2)→acc.length+es.length≤10→
 Q .next (cX a b c p turn ((acc++es.map (GM (decide (0<turn)) p)).map Cl))→Bv O w U (scC 399) (n+2) (AG (trX [3])) (Cr (trX [3])) Q (es.map AC) (cX a b c p turn (acc.map Cl)):=by
 intro es
 induction es with
 |nil=>intro acc _ _ q;exact(append_nil acc)▸q
 |cons e es ih=>
  intro acc hb hl q
  obtain⟨b1,b2⟩:=hb e (.head _)
  have bs:=b2.sub b1
  have bv:=hp.sub b1
  have l1:=Ee (w:=w) (n:=n+1) (a:=e.2) (b:=e.1) S
  have l2:=Ee (w:=w) (n:=n+1) (a:=p) (b:=e.1) S
  have c1:=Ia (w:=w) (n:=n+1) S (bs.up (l:=1000)) (bv.up (l:=1000))
  have d1:=Kj (w:=w) (n:=n+1) S (bs.up (l:=1000)) (bs.up (l:=1000))
  have bc:=Bd.cross bs bv
  have bd:=Bd.dot bs bs
  have hz:(acc.map Cl).length+1≤sizeLine:=le_trans (show _≤16777216 by refine rr (length_map ..) ?_;rw[length_cons]at hl;exact Ay hl) szl
  rw[map_cons,List.append_cons acc,map_append]at q
  have ih:=ih (acc++[GM (decide (0<turn)) p e]) (fun x hx=>hb x (.tail _ hx)) (by refine rr length_append (rr length_singleton ?_);rw[length_cons]at hl;exact Ay hl) (by refine rr map_append ?_;exact q)
  have m1:Am (Ad (Ae e.2 e.1) (Ae p e.1)) 1:=.of_right (by decide)
  have m2:Am (Ad (Ae e.2 e.1) (Ae p e.1)) (-1):=.of_right (by decide)
  have r1:∀t:Bool,FnP O w U (n+2) 336 [.int (Cv t e.1 e.2 p),.int 1000,.int (AA (Ae e.2 e.1) (Ae e.2 e.1))] (fun d=>d=.bool (Ap (Cv t e.1 e.2 p) 1000 (AA (Ae e.2 e.1) (Ae e.2 e.1)))):=fun t=>
   EH (w:=w) (n:=n+1) S (Bd.up (l:=1000) (Bd.mul bc (show Bd 64 (if t then 1 else-1)by cases t<;>exact Bd.num))) (Bd.up (l:=1000) (Bd.num (x:=1000))) (bd.up (l:=1000))
  have r2:∀t:Bool,FnP O w U (n+2) 336 [.int (Cv t e.1 e.2 p),.int (-1000),.int (AA (Ae e.2 e.1) (Ae e.2 e.1))] (fun d=>d=.bool (Ap (Cv t e.1 e.2 p) (-1000) (AA (Ae e.2 e.1) (Ae e.2 e.1)))):=fun t=>
   EH (w:=w) (n:=n+1) S (Bd.up (l:=1000) (Bd.mul bc (show Bd 64 (if t then 1 else-1)by cases t<;>exact Bd.num))) (Bd.up (l:=1000) (Bd.num (x:= -1000))) (bd.up (l:=1000))
  unfold GM at ih
  obtain⟨t,ht⟩:∃t,decide (0<turn)=t:=⟨_,rfl⟩
  rw[ht]at ih
  have r1:=r1 t
  have r2:=r2 t
  generalize Ap (Cv t e.1 e.2 p) 1000 (AA (Ae e.2 e.1) (Ae e.2 e.1))=b1 at r1 ih
  generalize Ap (Cv t e.1 e.2 p) (-1000) (AA (Ae e.2 e.1) (Ae e.2 e.1))=b2 at r2 ih
  rw[map_append]at ih
  rcases t with _|_
  ·rcases b1 with _|_
   ·rcases b2 with _|_
    ·refine Aw S ["begin","end","side","height","square","sure"] [.val (pD (Ae e.2 e.1)),.val (pD (Ae p e.1)),.val (.int (Ad (Ae e.2 e.1) (Ae p e.1))),.br false,.val (.int (AA (Ae e.2 e.1) (Ae e.2 e.1))),.val (.bool false),.br false,.val (.bool false),.br false] ih rfl ?_ F
     exact obs
    ·refine Aw S ["begin","end","side","height","square","sure"] [.val (pD (Ae e.2 e.1)),.val (pD (Ae p e.1)),.val (.int (Ad (Ae e.2 e.1) (Ae p e.1))),.br false,.val (.int (AA (Ae e.2 e.1) (Ae e.2 e.1))),.val (.bool false),.br false,.val (.bool true),.br true] ih rfl ?_ F
     exact obs
   ·refine Aw S ["begin","end","side","height","square","sure"] [.val (pD (Ae e.2 e.1)),.val (pD (Ae p e.1)),.val (.int (Ad (Ae e.2 e.1) (Ae p e.1))),.br false,.val (.int (AA (Ae e.2 e.1) (Ae e.2 e.1))),.val (.bool true),.br true] ih rfl ?_ F
    exact obs
  ·rcases b1 with _|_
   ·rcases b2 with _|_
    ·refine Aw S ["begin","end","side","height","square","sure"] [.val (pD (Ae e.2 e.1)),.val (pD (Ae p e.1)),.val (.int (Ad (Ae e.2 e.1) (Ae p e.1))),.br true,.val (.int (AA (Ae e.2 e.1) (Ae e.2 e.1))),.val (.bool false),.br false,.val (.bool false),.br false] ih rfl ?_ F
     exact obs
    ·refine Aw S ["begin","end","side","height","square","sure"] [.val (pD (Ae e.2 e.1)),.val (pD (Ae p e.1)),.val (.int (Ad (Ae e.2 e.1) (Ae p e.1))),.br true,.val (.int (AA (Ae e.2 e.1) (Ae e.2 e.1))),.val (.bool false),.br false,.val (.bool true),.br true] ih rfl ?_ F
     exact obs
   ·refine Aw S ["begin","end","side","height","square","sure"] [.val (pD (Ae e.2 e.1)),.val (pD (Ae p e.1)),.val (.int (Ad (Ae e.2 e.1) (Ae p e.1))),.br true,.val (.int (AA (Ae e.2 e.1) (Ae e.2 e.1))),.val (.bool true),.br true] ih rfl ?_ F
    exact obs
theorem Km(S:Ao O P.K U){a b c:Pt}(ha:BdP 400 a)(hb:BdP 400 b)(hc:BdP 400 c)(hp:BdP 400 p):FnP O w U (n+3) 399 [pD a,pD b,pD c,pD p] (fun d=>d=Cl (AR a b c p)):=by
 have b1:=hb.sub ha
 have b2:=hc.sub ha
 have l1:=Ee (w:=w) (n:=n+1) (a:=b) (b:=a) S
 have l2:=Ee (w:=w) (n:=n+1) (a:=c) (b:=a) S
 have c1:=Ia (w:=w) (n:=n+1) S (b1.up (l:=1000)) (b2.up (l:=1000))
 delta AR
 by_cases h0:Di a b c=0
 ·refine rr (if_pos h0) ?_
  have k0:decide (Ad (Ae b a) (Ae c a)=0)=true:=decide_eq_true h0
  refine FnP.go S (Df P) rfl [.val (pD (Ae b a)),.val (pD (Ae c a)),.val (.int (Ad (Ae b a) (Ae c a))),.br true] rfl ?_
  exact obs
 ·refine rr (if_neg h0) ?_
  have k0:decide (Ad (Ae b a) (Ae c a)=0)=false:=decide_eq_false h0
  refine FnP.ofC S (Df P) rfl ?_
  refine Ax (st':=cX a b c p (Di a b c) []) S 3 [] [.val (pD (Ae b a)),.val (pD (Ae c a)),.val (.int (Ad (Ae b a) (Ae c a))),.br false] rfl ?_ ?_
  ·exact obs
  refine Jd S [] rfl rfl obs (Xz S (turn:=Di a b c) hp Av [(a,b),(b,c),(c,a)] [] (alc ⟨ha,hb⟩ (alc ⟨hb,hc⟩ (alc ⟨hc,ha⟩ Cc))) (show 0+3≤10 by decide) ?_)
  have y:=aE (w:=w) (n:=n+1) S (l:=[(a,b),(b,c),(c,a)].map (GM (decide (0<Di a b c)) p))
  refine rr (nil_append ..) ?_
  generalize[(a,b),(b,c),(c,a)].map (GM (decide (0<Di a b c)) p)=ls at y⊢
  exact AO S (os:=[.val (Cl (OX ls))]) rfl obs rfl
noncomputable def Dj(s:Mx)(p:Pt):Pt:=(s.a*(p.1*100000)+s.c*(p.2*100000)+s.e*10*100000,s.b*(p.1*100000)+s.d*(p.2*100000)+s.f*10*100000)
theorem XA(S:Ao O P.K U){s:Mx}(hs:Bd 64 s.a∧Bd 64 s.b∧Bd 64 s.c∧Bd 64 s.d∧Bd 64 s.e∧Bd 64 s.f)(hp:BdP 64 p):FnP O w U (n+1) 434 [.list [.int s.a,.int s.b,.int s.c,.int s.d,.int s.e,.int s.f],pD p] (fun d=>d=pD (Dj s p)):=by
 have a:=hs.1;have b:=hs.2.1;have c:=hs.2.2.1;have d:=hs.2.2.2.1;have e:=hs.2.2.2.2.1;have f:=hs.2.2.2.2.2
 have x:=Bd.mul hp.1 (Bd.num (x:=100000))
 have y:=Bd.mul hp.2 (Bd.num (x:=100000))
 have m1:Am p.1 100000:=.of_right (by decide)
 have m2:Am p.2 100000:=.of_right (by decide)
 have m3:Am s.a (p.1*100000):=Ah a x
 have m4:Am s.c (p.2*100000):=Ah c y
 have m5:Am s.b (p.1*100000):=Ah b x
 have m6:Am s.d (p.2*100000):=Ah d y
 have m7:Am s.e 10:=.of_right (by decide)
 have m8:Am (s.e*10) 100000:=.of_right (by decide)
 have m9:Am s.f 10:=.of_right (by decide)
 have mA:Am (s.f*10) 100000:=.of_right (by decide)
 refine FnP.go S (Mu P) rfl [] rfl ?_
 exact obs
noncomputable def Ar(p:Pt)(e:Pt×Pt):Int:=Ad (Ae e.2 e.1) (Ae p e.1)
noncomputable def AS(p:Pt)(e:Pt×Pt):Int:=
 if(decide (e.1.2≤p.2)!=decide (e.2.2≤p.2))=true then
  if(decide (e.1.2<e.2.2)&&decide (0<Ar p e))=true then 1 else if(decide (e.2.2<e.1.2)&&decide (Ar p e<0))=true then-1 else 0
 else 0
noncomputable def cY(es:List (Pt×Pt))(p:Pt)(k:Int):St:=[("edges",.dat (.list (es.map AC))),("x",.dat (.int p.1)),("y",.dat (.int p.2)),("found",.dat (.int k))]
noncomputable def wdX(k:List Nat):Stmt:=KC (AY 446) k
theorem XB(S:Ao O P.K U){all:List (Pt×Pt)}(hp:BdP 400 p)(F:AT Q):∀(es:List (Pt×Pt)) (k:Int),(∀e∈es,BdP 400 e.1∧BdP 400 e.2)→
 Q .next (cY all p (k+(es.map (AS p)).sum))→Bv O w U (scC 446) (n+1) (AG (wdX [1])) (Cr (wdX [1])) Q (es.map AC) (cY all p k):=by
 intro es
 induction es with
 |nil=>intro k _ q;rw[map_nil,sum_nil,add_zero]at q;exact q
 |cons e es ih=>
  intro k hb q
  obtain⟨b1,b2⟩:=hb e (.head _)
  have bs:=b2.sub b1
  have bv:=hp.sub b1
  have l1:=Ee (w:=w) (n:=n) (a:=e.2) (b:=e.1) S
  have l2:=Ee (w:=w) (n:=n) (a:=p) (b:=e.1) S
  have c1:FnP O w U (n+1) 343 [pD (Ae e.2 e.1),pD (Ae p e.1)] (fun d=>d=.int (Ar p e)):=Ia (w:=w) (n:=n) S (bs.up (l:=1000)) (bv.up (l:=1000))
  rw[map_cons,sum_cons,←Int.add_assoc]at q
  have ih:=ih (k+AS p e) (fun x hx=>hb x (.tail _ hx)) q
  clear q
  have pb:∀a b:Bool,Cm (.bool a)∧Cm (.bool b):=fun V V=>QU
  have cn:Ce .NotEq (.bool (decide (e.1.2≤p.2))) (.bool (decide (e.2.2≤p.2)))=(decide (e.1.2≤p.2)!=decide (e.2.2≤p.2)):=by
   cases decide (e.1.2≤p.2)<;>cases decide (e.2.2≤p.2)<;>rfl
  unfold AS at ih
  by_cases h1:(decide (e.1.2≤p.2)!=decide (e.2.2≤p.2))=true
  ·rw[if_pos h1]at ih
   have k1:=cn.trans h1
   by_cases h2:e.1.2<e.2.2
   ·have k2:=decide_eq_true h2
    rw[k2,Bool.true_and]at ih
    by_cases h3:0<Ar p e
    ·have k3:=decide_eq_true h3
     rw[k3,if_pos rfl]at ih
     refine Aw S ["one","far","side"] [.br true,.val (pD (Ae e.2 e.1)),.val (pD (Ae p e.1)),.val (.int (Ar p e)),.br true,.br true,.br true] ih rfl ?_ F
     exact obs
    ·have k3:=decide_eq_false h3
     have k4:decide (e.2.2<e.1.2)=false:=decide_eq_false (lt_asymm h2)
     rw[k3,if_neg (by decide),k4,Bool.false_and,if_neg (by decide),add_zero]at ih
     refine Aw S ["one","far","side"] [.br true,.val (pD (Ae e.2 e.1)),.val (pD (Ae p e.1)),.val (.int (Ar p e)),.br true,.br false,.br false,.br false,.br false] ih rfl ?_ F
     exact obs
   ·have k2:=decide_eq_false h2
    rw[k2,Bool.false_and,if_neg (by decide)]at ih
    by_cases h3:e.2.2<e.1.2
    ·have k3:=decide_eq_true h3
     rw[k3,Bool.true_and]at ih
     by_cases h4:Ar p e<0
     ·have k4:=decide_eq_true h4
      rw[k4,if_pos rfl]at ih
      refine Aw S ["one","far","side"] [.br true,.val (pD (Ae e.2 e.1)),.val (pD (Ae p e.1)),.val (.int (Ar p e)),.br false,.br false,.br true,.br true,.br true] ih rfl ?_ F
      exact obs
     ·have k4:=decide_eq_false h4
      rw[k4,if_neg (by decide),add_zero]at ih
      refine Aw S ["one","far","side"] [.br true,.val (pD (Ae e.2 e.1)),.val (pD (Ae p e.1)),.val (.int (Ar p e)),.br false,.br false,.br true,.br false,.br false] ih rfl ?_ F
      exact obs
    ·have k3:=decide_eq_false h3
     rw[k3,Bool.false_and,if_neg (by decide),add_zero]at ih
     refine Aw S ["one","far","side"] [.br true,.val (pD (Ae e.2 e.1)),.val (pD (Ae p e.1)),.val (.int (Ar p e)),.br false,.br false,.br false,.br false] ih rfl ?_ F
     exact obs
  ·rw[if_neg h1,add_zero]at ih
   have k1:=cn.trans (eq_false_iff.mpr h1)
   refine Aw S ["one","far","side"] [.br false] ih rfl ?_ F
   exact obs
theorem XC(S:Ao O P.K U){es:List (Pt×Pt)}(hp:BdP 400 p)(hb:∀e∈es,BdP 400 e.1∧BdP 400 e.2):FnP O w U (n+2) 446 [.list (es.map AC),.int p.1,.int p.2] (fun d=>d=.int ((es.map (AS p)).sum)):=by
 refine FnP.ofC S (JR P) rfl ?_
 refine Ax (st':=cY es p 0) S 1 [] [] rfl obs ?_
 refine Jd S [] rfl rfl obs (XB S hp Av es 0 hb ?_)
 refine rr (zero_add ..) ?_
 exact AO S (os:=[]) rfl obs rfl
theorem aG(ha:a.natAbs.log2<1920):Bi O w (.type "str") (.int a) (.str (PySem.Str.ofString (toString a))):=by
 intro A s g v Q hh hg hv k
 refine Now.intP hv fun t=>?_
 exact P.str_of_int ha (k s.heap _ _ (fun V V e=>e) (.str _ _))
theorem XD(hx:(x.length:Int)<2^63):Bi O w (.builtin "len") (.str x) (.int x.length):=by
 intro A s g v Q hh hg hv k
 refine Now.strP hv fun t=>?_
 exact P.len_str (not_le.mpr hx) (k s.heap _ _ (fun V V e=>e) (.int _ _))
theorem aH(S:Ao O K U){l:Expr}{Q:EV→St→Prop}(h:Ev O w U sc n l st fun u st1=>Ev O w U sc n e2 st1 fun v st2=>∃a b:Int,rd st2 u=some (.int a)∧rd st2 v=some (.int b)∧1≤b∧2≤a∧Builtin.Int.intTooBig (((Builtin.Int.intBits a:Nat):Int)*b)=false∧Q (.dat (.int (a^b.toNat))) st2):
 Ev O w U sc n (.BinOp l .Pow e2 pos) st Q:=by
 intro A Y R as s hR hE r
 refine wpAny_BinOp (IR hR hE r h ?_)
 rintro u v a b st2 as2 h2 t2 e hlt r2 x1 x2 ⟨x,y,ex,ey,hb,ha,hs,q⟩
 refine wpAny_mono ?_ (fun V V p=>PE.after (t1:=t2) e p) fun V V x=>x
 refine Now.intP (r2.now x1 ex) fun t=>?_
 refine Now.intP (r2.now x2 ey) fun t'=>?_
 refine PySem.AutoIntOps.pow_4 (by exact le_of_lt hb) (by simp;lia) (by simp;lia) (by simp;lia) (by refine rr hs ?_;decide) ?_
 exact PE.grown r2 rfl (fun V V e=>e) (.int _ _) q
theorem aJ{m f:Int}(h0:0≤r)(h1:r*r≤m)(h:m<f*f)(f0:0<f):r≤(f+m.fdiv f).fdiv 2∧(f+m.fdiv f).fdiv 2<f:=by
 refine rr (fdiv_eq_ediv_of_nonneg _ (le_of_lt f0)) (rr (fdiv_eq_ediv_of_nonneg _ (by decide)) ?_)
 have d1:m/f<f:=Int.ediv_lt_of_lt_mul f0 h
 have key:2*r-f≤m/f:=by
  refine Int.le_ediv_of_mul_le f0 (Int.le_trans ?_ h1)
  have sq:0≤(r-f)*(r-f):=by
   rcases Int.le_total 0 (r-f)with q|q
   ·exact mul_nonneg q q
   ·have q':0≤f-r:=by exact Af q
    have e:(f-r)*(f-r)=(r-f)*(r-f):=by grind
    refine rl e ?_;exact mul_nonneg q' q'
  have e:r*r-(2*r-f)*f=(r-f)*(r-f):=by grind
  exact Aq sq (le_of_eq e.symm)
 generalize m/f=z at d1 key
 constructor
 ·lia
 ·lia
theorem Uj(m:Nat):(PySem.Str.ofString (toString (m:Int))).length=m.repr.length:=by
 refine rr (PyProof.Rows.ofString_len ..) ?_;rfl
noncomputable def ft(x f:Int):St:=[("number",.dat (.int x)),("found",.dat (.int f))]
noncomputable def lrX(k:List Nat):Stmt:=KC (AY 406) k
theorem XE(S:Ao O P.K U){x:Int}(h2:2≤x)(hx:Bd 300 x):∀(N:Nat) (f:Int),f.toNat<N→BN x≤f→0<f→Bd 1000 f→∀Q:Fl→St→Prop,Q .next (ft x (BN x))→
 Fa O w U (scC 406) n (AG (lrX [2])) (Cr (lrX [2])) Q N (ft x f):=by
 obtain⟨r0,r1,r2⟩:=(AU x).2 h2
 intro N
 induction N with
 |zero=>intro f h;exact absurd h (Nat.not_lt_zero _)
 |succ N ih=>
  intro f hN hr f0 hb Q q
  have mf:Am f f:=Ah hb hb
  have fz:f≠0:=ne_of_gt f0
  have two:(2:Int)≠0:=by decide
  by_cases c:x<f*f
  ·obtain⟨n1,n2⟩:=aJ (le_of_lt r0) r1 c f0
   have k:=decide_eq_true c
   have f1:=Int.lt_of_lt_of_le r0 n1
   exact CX S [.br true] (ih ((f+x.fdiv f).fdiv 2) (SH hN f0 n2) n1 f1 (hb.le (Hp (le_of_lt f1) (le_of_lt n2))) Q q) rfl obs
  ·have k:=decide_eq_false c
   have e:f=BN x:=by
    refine le_antisymm (not_lt.mp fun g=>?_) hr
    have g':BN x+1≤f:=g
    have:=mul_le_mul g' g' (by exact Af r0) (by exact le_of_lt f0)
    exact c (Int.lt_of_lt_of_le r2 this)
   rw[e]at k mf⊢
   exact HS S [.br false] q rfl obs
theorem aK(L:Nat):((2:Int)^(L*2))*2^(L*2)=16^L:=by
 refine rl (Int.pow_add ..) ?_;refine rr (show L*2+L*2=4*L by simp+arith only[*]) (rr Int.pow_mul ?_);rfl
theorem MF{x:Int}{L:Nat}(h2:2≤x)(h:x<10^L):BN x≤2^(L*2):=by
 obtain⟨r0,r1,r2⟩:=(AU x).2 h2
 refine not_lt.mp fun g=>?_
 have p:(0:Int)≤2^(L*2):=Int.pow_nonneg (by decide)
 have h1:=mul_le_mul (le_of_lt g) (le_of_lt g) p (le_of_lt r0)
 rw[aK]at h1
 have h3:(10:Int)^L≤16^L:=by
  have:=Nat.pow_le_pow_left (show 10≤16 by decide) L
  exact_mod_cast this
 exact absurd (Int.lt_of_le_of_lt h1 (Int.lt_of_le_of_lt r1 h)) (not_lt.mpr h3)
theorem aL(S:Ao O P.K U){x:Int}(hx:Bd 300 x)(hx0:x<10^100):FnP O w U (n+1) 406 [.int x] (fun d=>d=.int (BN x)):=by
 by_cases h:x<2
 ·refine rr ((AU x).1 h) ?_
  have hc:=decide_eq_true h
  refine FnP.go S (GY P) rfl [.br true] rfl ?_
  exact obs
 ·have hc:=decide_eq_false h
  have h2:2≤x:=not_lt.mp h
  obtain⟨m,rfl⟩:=Int.eq_ofNat_of_zero_le (show 0≤x by exact Af h2)
  have L0:0<m.repr.length:=Nat.length_repr_pos
  have L1:m<10^m.repr.length:=(Nat.length_repr_le_iff L0).mp (le_refl _)
  have L2:m.repr.length≤100:=(Nat.length_repr_le_iff (by decide)).mpr (by exact_mod_cast hx0)
  have e:=Uj m
  generalize m.repr.length=L at L0 L1 L2 e
  have hr:BN m≤2^(L*2):=MF h2 (by exact_mod_cast L1)
  have hp:(0:Int)<2^(L*2):=Int.pow_pos (by decide)
  refine FnP.ofC S (GY P) rfl ?_
  refine Ax (st':=[("number",.dat (.int m))]) S 1 [] [.br false] rfl obs ?_
  have ob:AD []:=obN
  have lg:((m:Int)).natAbs.log2<1920:=by
   have:=hx
   exact(Nat.log2_lt (by grind)).mpr (lt_of_lt_of_le hx (Nat.pow_le_pow_right (by decide) (by decide)))
  refine Bl (DQ (Vd (Wi (aH S (AM S (os:=[]) rfl ob (?_:Ev O w U (scC 406) n _ _ _))))) (by kernel_rfl))
  refine PG S (KV S (glb P (by kernel_rfl) (by kernel_rfl)) rfl (ZA S (glb P (by kernel_rfl) (by kernel_rfl)) rfl (AM S (os:=[]) rfl ob ⟨_,_,rfl,aG lg,_,_,rfl,XD (by refine rr e ?_;lia),AM S (os:=[]) rfl ob ⟨.int L,.int 2,by refine rl e ?_;rfl,rfl,.of_right (by decide),2,L*2,rfl,rfl,by lia,by decide,?_,?_⟩⟩)))
  ·delta Builtin.Int.intTooBig
   refine rr (show Builtin.Int.intBits 2=2 by rfl) ?_
   simp only[bitsLine]
   refine decide_eq_false ?_
   show¬((2^27:Nat):Int)<((2:Nat):Int)*((L:Int)*2)
   lia
  ·refine JI ?_
   refine rr (show((L:Int)*2).toNat=L*2 by lia) ?_
   refine Bl (FP _ (XE S h2 hx _ (2^(L*2)) (lt_succ_self _) hr hp ?_ _ ?_))
   ·show Int.natAbs _<2^1000
    refine rr (Int.natAbs_pow ..) ?_
    exact Nat.pow_lt_pow_right (by decide) (by exact Gu L2 L2)
   ·exact AO S (os:=[]) rfl ob rfl
noncomputable def YV(w:Pt)(left:Bool):Pt:=if left then(w.2,-w.1)else(-w.2,w.1)
noncomputable def Hc(w:Pt)(half:Int)(left:Bool):Pt:=(((YV w left).1*half*1000*1000).fdiv (BN (AA w w*1000*1000)),((YV w left).2*half*1000*1000).fdiv (BN (AA w w*1000*1000)))
theorem Bd.ten{x:Int}(h:Bd 300 x):x<10^100:=by
 have h':x.natAbs<2^300:=h
 have k:(2:Nat)^300≤10^100:=by decide
 have:((10^100:Nat):Int)=10^100:=by norm_cast
 grind
theorem Rk(S:Ao O P.K U){v:Pt}{left:Bool}(hv:BdP 64 v)(hh:Bd 64 half)(h0:0<AA v v):FnP O w U (n+2) 413 [pD v,.int half,.bool left] (fun d=>d=pD (Hc v half left)):=by
 have bd:Bd 129 (AA v v):=Bd.dot hv hv
 have bq:Bd 300 (AA v v*1000*1000):=Bd.up (Bd.mul (Bd.mul bd (Bd.num (x:=1000))) (Bd.num (x:=1000)))
 have d1:=Kj (w:=w) (n:=n) S (hv.up (l:=1000)) (hv.up (l:=1000))
 have r1:=aL (w:=w) (n:=n) S bq bq.ten
 have sz:BN (AA v v*1000*1000)≠0:=ne_of_gt (HX (by exact Af (mI 1000000 h0)))
 have m1:Am (AA v v) 1000:=.of_right (by decide)
 have m2:Am (AA v v*1000) 1000:=.of_right (by decide)
 have c1:Am v.2 half:=Ah hv.2 hh
 have c2:Am (v.2*half) 1000:=.of_right (by decide)
 have c3:Am (v.2*half*1000) 1000:=.of_right (by decide)
 have c4:Am (-v.1) half:=Ah hv.1.neg hh
 have c5:Am (-v.1*half) 1000:=.of_right (by decide)
 have c6:Am (-v.1*half*1000) 1000:=.of_right (by decide)
 have e1:Am (-v.2) half:=Ah hv.2.neg hh
 have e2:Am (-v.2*half) 1000:=.of_right (by decide)
 have e3:Am (-v.2*half*1000) 1000:=.of_right (by decide)
 have e4:Am v.1 half:=Ah hv.1 hh
 have e5:Am (v.1*half) 1000:=.of_right (by decide)
 have e6:Am (v.1*half*1000) 1000:=.of_right (by decide)
 delta Hc
 generalize BN (AA v v*1000*1000)=z at r1 sz⊢
 cases left with
 |true=>
  refine FnP.go S (FV P) rfl [.val (.int (AA v v)),.val (.int z),.br true] rfl ?_
  exact obC sz (obC c6 (obC c5 (obC c4 (obC sz (obC c3 (obC c2 (obC c1 (obC rfl (obC r1 (obC m2 (obC m1 (obC d1 obN))))))))))))
 |false=>
  refine FnP.go S (FV P) rfl [.val (.int (AA v v)),.val (.int z),.br false] rfl ?_
  exact obC sz (obC e6 (obC e5 (obC e4 (obC sz (obC e3 (obC e2 (obC e1 (obC rfl (obC r1 (obC m2 (obC m1 (obC d1 obN))))))))))))
theorem Rl{p:Pos}(h:Ev O w U sc n e st fun a st1=>∃ds,rd st1 a=some (.list ds)∧ts.length=ds.length∧AsL O w U sc n ts ds st1 (Q .next))
 (hstar:∀Y,(assignEach ts Y).findIdx? (·.1)=none) (hw:∀Y,Y.scope=sc→swapsWithSole [.Tuple ts k p] e pos.line Y=pure false) (hv:∀Y,Y.scope=sc→swappedStores [.Tuple ts k p] e Y=pure none):
 Sx O w U sc n (.Assign [.Tuple ts k p] e pos) st Q:=by
 intro A Y R as s hR hE r
 refine Assign_Tuple (wpAny_mono (h A Y R as s hR hE r) ?_ fun V V x=>x) (hw Y hE.isSc) (hv Y hE.isSc)
 rintro v s1 ⟨a,st1,as1,h1,t1,rfl,e1,r1,x1,ds,ex,hl,q⟩
 refine wpAny_mono ?_ (fun V V p=>PX.after (t1:=t1) e1.toS p) fun V V x=>x
 refine Now.listP (r1.now x1 ex) Bu fun a vs m ho fs=>?_
 have rest:∀{h':Heap},(∀b o,h1.get? b=some o→h'.get? b=some o)→wpAny (model O w) A (assignInOrder ((assignEach ts Y).map (·.2)) vs) (fun V s'=>PB U R Y as1 {s with heap:=h1,toks:=t1} (Q .next) s') (fun V V=>False) {s with heap:=h',toks:=t1}:=fun{h'} k=>
  wpAny_mono (q A Y R as1 {s with heap:=h',toks:=t1} _ hR hE (r1.grow k) (fs.mono (Ai.grow as1 k).vis)) (fun V V p=>PB.after (t1:=t1) (Ai.grow as1 k).toS p) fun V V x=>x
 refine wpAny_mono (Q:=fun V s'=>PB U R Y as1 {s with heap:=h1,toks:=t1} (Q .next) s') ?_ (fun V V p=>p.toPX) fun V V x=>x
 refine rr (arm_assign_Tuple ..) ?_
 refine wpAny_bind (wpAny_standAt ?_)
 delta unpack
 refine rr (hstar Y) (rr (Du ..) ?_);refine rr hl (rl fs.length ?_)
 refine wpAny_bind (wpAny_holding ?_)
 exact kun_itemsOf (items:=vs.toArray) hR.handled ⟨_,ho,rfl,_,rfl⟩ fun h' hx=>rest (FK hx)
theorem Ji(S:Ao O K U){p ip:Pos}{Q:St→Prop}(h0:look x st=some (.lst ds))(hj:j<ds.length)(hf:(j:Int)<2^63)(q:Q (put x (.lst (ds.set j d)) st))
 (hd:autoParam ((x==("__debug__":Str))=false) au.a2._auto_1) (hc:autoParam ((x==("__classdict__":Str))=false) au.a2._auto_1):As O w U sc n (.Subscript (.Name x p) (.Constant (.int j) k ip) tp) d st Q:=by
 intro A Y R as s v hR hE r f1
 refine rr (arm_assign_Subscript ..) ?_
 refine wpAny_bind (wpAny_holding ?_)
 have h0':DD (.var x) st=some ds:=by simp[DD,h0]
 refine VY S (.var (p:=p)) h0' ⟨hd,hc⟩ hE r fun a tk pa=>?_
 refine wpAny_bind (wpAny_holding ?_)
 refine wpAny_Constant_int ?_
 refine wpAny_bind (wpAny_standAt ?_)
 refine wpAny_bind (wpAny_holding ?_)
 refine r.mutPl h0' pa fun vs m ho f0 kk=>?_
 refine Ox ho hf (by refine rr f0.length ?_;exact hj) fun h' m' e' sb=>?_
 obtain⟨as',r2,e3⟩:=kk sb e' (f0.set f1 j)
 exact wpAny_release ⟨_,as',h',_,rfl,e3.toS,r2,q⟩
noncomputable abbrev EW:=List Int×Int×Int
noncomputable def Bp(t:EW):AF:=.lst [.list (t.1.map .int),.int t.2.1,.int t.2.2]
def Cj(t:EW):Prop:=t.1.length≤100∧0≤t.2.1
noncomputable def Rm(t:EW):Int:=if t.2.1<t.1.length then t.1.getD t.2.1.toNat 0 else t.2.2
noncomputable def dkV(t:EW)(many:Int):Int:=(Rm t).fmod many
noncomputable def dkT(t:EW):EW:=(t.1,t.2.1+1,(t.2.2*59+(Rm t).fmod 9923+19*t.2.1+29).fmod 100069)
theorem Ca{t:EW}(h:Cj t):Cj (dkT t):=⟨h.1,Int.le_add_one h.2⟩
theorem CN{t:EW}(hm:0<many):0≤dkV t many∧dkV t many<many:=by
 delta dkV
 refine rr (Int.fmod_eq_emod_of_nonneg _ (le_of_lt hm)) ?_;exact⟨Int.emod_nonneg _ (ne_of_gt hm),Int.emod_lt_of_pos _ hm⟩
noncomputable def fw(t:EW)(many:Int)(tl:St):St:=("deck",Bp t)::("many",.dat (.int many))::tl
noncomputable def fA(t:EW)(tl:St):St:=("numbers",.dat (.list (t.1.map .int)))::("at",.dat (.int t.2.1))::("stir",.dat (.int t.2.2))::tl
theorem Eg(S:Ao O P.K U){t:EW}(ht:Cj t)(hm:0<many):FnL O w U (n+1) 329 (Bp t) [.int many] (fun d a=>d=.int (dkV t many)∧a=Bp (dkT t)):=by
 refine FnL.ofC S (Lf P) (by kernel_rfl) rfl ?_
 have ob:AD []:=obN
 refine Bl (Rl (AM S (os:=[]) rfl ob ⟨_,rfl,rfl,?_⟩) (fun V=>rfl) (fun Y h=>by cases Y;dsimp only at h;subst h;rfl) (fun Y h=>by cases Y;dsimp only at h;subst h;kernel_rfl))
 refine ER (Jy (by kernel_rfl) (ER (Jy (by kernel_rfl) (ER (Jy (by kernel_rfl) (Ma ?_))))))
 refine Ss.at (fw t many (fA t [])) ?_ (by kernel_rfl)
 have hn:many≠0:=ne_of_gt hm
 have n1:(9923:Int)≠0:=by decide
 have n2:(100069:Int)≠0:=by decide
 have m1:Am t.2.2 59:=.of_right (by decide)
 have m2:Am 19 t.2.1:=.of_left (by decide)
 have hl:(t.1.map Dat.int).length<2^62:=by refine rr (length_map ..) ?_;exact lt_of_le_of_lt ht.1 (by decide)
 have pk:Ss O w U (scC 329) n ((AY 329).drop 2) (fw t many (fA t [("pick",.dat (.int (Rm t)))])) (fun fl st'=>∃a',look "deck" st'=some a'∧flD fl=.int (dkV t many)∧a'=Bp (dkT t)):=by
  delta dkT dkV
  generalize Rm t=q
  refine Bl (Hr (Fb S (os:=[]) rfl ?_ (MW rfl rfl (fun V=>rfl) (ER (Ji S (ds:=[.list (t.1.map .int),.int t.2.1,.int t.2.2]) rfl (by decide:1<3) (by decide) (ER (Ji S (ds:=[.list (t.1.map .int),.int (t.2.1+1),.int t.2.2]) rfl (by decide:2<3) (by decide) (Ma ?_))))))) (fun Y h=>by cases Y;dsimp only at h;subst h;rfl) (fun Y h=>by cases Y;dsimp only at h;subst h;kernel_rfl))
  ·exact obs
  ·exact AO S (os:=[]) rfl obs ⟨_,rfl,rfl,rfl⟩
 delta Rm at pk
 by_cases c:t.2.1<t.1.length
 ·rw[if_pos c]at pk
  have k:decide (t.2.1<((t.1.map Dat.int).length:Nat))=true:=by refine rr (length_map ..) ?_;exact decide_eq_true c
  have it:AK (t.1.map .int) t.2.1=some (.int (t.1.getD t.2.1.toNat 0)):=by
   obtain⟨k',hk⟩:=Int.eq_ofNat_of_zero_le ht.2
   rw[hk]at c⊢
   have c':k'<t.1.length:=ofNat_lt.mp c
   delta AK
   refine rr (show seqIndex? (k':Int) (t.1.map Dat.int).length=some k' by delta seqIndex?;refine rr (length_map ..) ?_;simp;refine rr (if_neg (not_lt.mpr (natCast_nonneg k'))) ?_;exact⟨⟨natCast_nonneg k',c⟩,rfl⟩) ?_
   simp[c']
  refine Ax S 1 [] [.br true,.val (.int (t.1.getD t.2.1.toNat 0))] rfl ?_ pk
  exact obs
 ·rw[if_neg c]at pk
  have k:decide (t.2.1<((t.1.map Dat.int).length:Nat))=false:=by refine rr (length_map ..) ?_;exact decide_eq_false c
  refine Ax S 1 [] [.br false] rfl ?_ pk
  exact obs
noncomputable def Ib(a u:Int):Int:=if a=0∧u=0 then 2 else a
noncomputable def Cx(s:EW×Pt):EW×Pt:=(dkT (dkT s.1),(s.2.1+30*Ib (dkV s.1 7-3) (dkV (dkT s.1) 7-3),s.2.2+30*(dkV (dkT s.1) 7-3)))
noncomputable def EI:Nat→EW×Pt→List Pt→EW×List Pt
 |0,s,ps=>(s.1,ps)
 |k+1,s,ps=>EI k (Cx s) (ps++[(Cx s).2])
noncomputable def aM(t:EW)(p:Pt)(ps:List Pt):St:=[("deck",Bp t),("points",.lst (ps.map pD)),("y",.dat (.int p.2)),("x",.dat (.int p.1))]
noncomputable def phX(k:List Nat):Stmt:=KC (AY 453) k
theorem XF(S:Ao O P.K U)(F:AT Q):∀(is:List Int) (s:EW×Pt) (ps:List Pt),Cj s.1→ps.length+is.length≤10→
 (∀p,Q .next (aM (EI is.length s ps).1 p (EI is.length s ps).2))→Bv O w U (scC 453) (n+1) (AG (phX [1])) (Cr (phX [1])) Q (is.map .int) (aM s.1 s.2 ps):=by
 intro is
 induction is with
 |nil=>intro s ps _ _ q;exact q s.2
 |cons i is ih=>
  intro s ps hk hl q
  obtain⟨t,p⟩:=s
  rw[length_cons]at hl q
  have d1:=Eg (w:=w) (n:=n) S (many:=7) hk (by decide)
  have d2:=Eg (w:=w) (n:=n) S (many:=7) (Ca hk) (by decide)
  have hz:(ps.map pD).length+1≤sizeLine:=le_trans (show _≤16777216 by refine rr (length_map ..) ?_;exact Ay hl) szl
  have ih:=ih (Cx (t,p)) (ps++[(Cx (t,p)).2]) (Ca (Ca hk)) (by refine rr length_append (rr length_singleton ?_);exact Ay hl) q
  unfold aM at ih⊢
  rw[map_append]at ih
  unfold Cx Ib at ih
  dsimp only at ih d1 d2⊢
  generalize dkV t 7=a at d1 ih
  generalize dkT t=t1 at d1 d2 ih
  generalize dkV t1 7=u at d2 ih
  generalize dkT t1=t2 at d2 ih
  have m2:Am 30 (2:Int):=.of_left (by decide)
  have ma:Am 30 (a-3):=.of_left (by decide)
  have mu:Am 30 (u-3):=.of_left (by decide)
  by_cases ca:a-3=0
  ·have ka:=decide_eq_true ca
   by_cases cu:u-3=0
   ·have ku:=decide_eq_true cu
    rw[if_pos ⟨ca,cu⟩]at ih
    refine Aw S ["turn","across","up"] [.lent (.int a) (Bp t1),.lent (.int u) (Bp t2),.br true,.br true,.br true] ih rfl ?_ F
    refine obC hz (obC mu (obC m2 ?_))
    exact obs
   ·have ku:=decide_eq_false cu
    rw[if_neg fun q=>cu q.2]at ih
    refine Aw S ["turn","across","up"] [.lent (.int a) (Bp t1),.lent (.int u) (Bp t2),.br true,.br false,.br false] ih rfl ?_ F
    refine obC hz (obC mu (obC ma ?_))
    exact obs
  ·have ka:=decide_eq_false ca
   rw[if_neg fun q=>ca q.1]at ih
   refine Aw S ["turn","across","up"] [.lent (.int a) (Bp t1),.lent (.int u) (Bp t2),.br false,.br false] ih rfl ?_ F
   refine obC hz (obC mu (obC ma ?_))
   exact obs
noncomputable def Lu(t:EW):EW×List Pt:=EI (1+dkV t 3).toNat (dkT t,(0,0)) [(0,0)]
theorem Lv:∀(k:Nat) (s:EW×Pt) (ps:List Pt),Cj s.1→Cj (EI k s ps).1:=by
 intro k
 induction k with
 |zero=>intro s ps h;exact h
 |succ k ih=>intro s ps h;exact ih _ _ (Ca (Ca h))
theorem aO(S:Ao O P.K U){t:EW}(hk:Cj t):FnL O w U (n+2) 453 (Bp t) [] (fun d a=>d=.tuple [.list ((Lu t).2.map pD),.bool (decide (dkV (Lu t).1 3=0))]∧a=Bp (dkT (Lu t).1)):=by
 refine FnL.ofC S (Lh P) (by kernel_rfl) rfl ?_
 refine Ax (st':=aM t (0,0) [(0,0)]) S 1 [] [] rfl ?_ ?_
 ·exact obs
 have d1:=Eg (w:=w) (n:=n) S (many:=3) hk (by decide)
 have hr:=CN (t:=t) (many:=3) (by decide)
 have hf:Cj (Lu t).1:=Lv _ _ _ (Ca hk)
 delta Lu at hf⊢
 obtain⟨j,hj⟩:=Int.eq_ofNat_of_zero_le hr.1
 rw[hj]at d1 hr⊢
 rw[hj]at hf
 have e1:(1+(j:Int)).toNat=1+j:=by lia
 rw[e1]at hf⊢
 have len:((List.range (1+j)).map fun i:Nat=>(i:Int)).length=1+j:=by refine rr (length_map ..) (rr List.length_range ?_);rfl
 refine Bl (GX (HT (k:=1+j) S [.lent (.int j) (Bp (dkT t))] rfl (.cons d1 .nil) (by lia) (?_:Bv O w U (scC 453) (n+1) (AG (phX [1])) (Cr (phX [1])) _ _ (aM (dkT t) (0,0) [(0,0)])) (glb P (by kernel_rfl) (by kernel_rfl)) rfl rfl))
 have lp:=XF (w:=w) (n:=n) S (Q:=FL O w U (scC 453) (n+1) ((AY 453).drop 2) (fun fl st'=>∃a',look "deck" st'=some a'∧flD fl=.tuple [.list ((EI (1+j) (dkT t,(0,0)) [(0,0)]).2.map pD),.bool (decide (dkV (EI (1+j) (dkT t,(0,0)) [(0,0)]).1 3=0))]∧a'=Bp (dkT (EI (1+j) (dkT t,(0,0)) [(0,0)]).1))) Av ((List.range (1+j)).map fun i:Nat=>(i:Int)) (dkT t,(0,0)) [(0,0)] (Ca hk) (by refine rr len ?_;show 1+(1+j)≤10;lia) ?_
 ·rw[map_map]at lp
  exact lp
 ·intro p
  refine rr len ?_
  generalize EI (1+j) (dkT t,(0,0)) [(0,0)]=r at hf⊢
  have d2:=Eg (w:=w) (n:=n) S (many:=3) hf (by decide)
  have pl:Cm (.int (dkV r.1 3))∧Cm (.int 0):=⟨(Mj _).plain,(Mj _).plain⟩
  refine AO S (os:=[.lent (.int (dkV r.1 3)) (Bp (dkT r.1))]) rfl ?_ ⟨_,rfl,rfl,rfl⟩
  exact obs
theorem Ro(S:Ao O K U){p:Pos}{Q:EV→St→Prop}(g:GlB sc K x)(hv:bootBuiltins x=some (.type "tuple"))(h:Ev O w U sc n e st fun a st1=>∃ds,rd st1 a=some (.list ds)∧ds.length≤sizeLine∧Q (.dat (.tuple ds)) st1)
 (he:autoParam (∀Y,starEach [e] Y=(false,eval e Y)::starEach [] Y) au.a1._auto_1):Ev O w U sc n (.Call (.Name x p) [e] [] pos) st Q:=by
 intro A Y R as s hR hE r
 refine Call_Name rfl (HA S g hv hE r (PyProof.Rows.callWith_type1 (El1 h hR hE r ?_ he) (he Y)))
 rintro v s1 ⟨a,st1,as0,h1,t1,rfl,e0,r0,x0,ds,ex,hz,q⟩
 refine r0.trimP fun as1 sub hlt r1=>?_
 have e1:=e0.trans (Ai.less sub)
 obtain⟨a,vs,m,rfl,ho,f⟩:=(r0.now x0 ex).list Bu
 have f1:=FzL.mono (Ai.less sub).vis f
 refine call_tuple_list (s:={s with heap:=h1,toks:=t1}) (items:=vs.toArray) ⟨_,ho,rfl,_,rfl⟩ (fun h' hk=>?_) (by refine rr size_toArray (rr f.length ?_);exact hz)
 have r2:=r1.grow (h':=h') hk
 have r3:=r2.grow (h':=h'.push {cls:=.type "tuple",data:=.seq vs.toArray}) (fun b o e=>get?_push_of_some _ e)
 have ev:Ai as1 h1 as1 h':=Ai.grow as1 hk
 refine PE.after (t1:=t1) (e1.trans (ev.trans (Ai.grow as1 fun b o e=>get?_push_of_some _ e))) (PE.grown (t1:=t1) r3 rfl (fun V V e=>e) (d:=.tuple ds) ?_ q)
 exact .tuple (Gw r2 (fun b hb=>(by obtain⟨o,e⟩:=hlt b hb;exact⟨o,hk b o e⟩)) rfl) ((f1.mono ev.vis).mono (EO _))
noncomputable abbrev KE:=Int×Int×Int×Int
noncomputable def cvI(k:KE)(h p q e:Int):Int:=([k.1*h,k.2.1*p,k.2.2.1*q,k.2.2.2*e]:List Int).sum.fdiv 27
noncomputable def cvP(k:KE)(h p q e:Pt):Pt:=(cvI k h.1 p.1 q.1 e.1,cvI k h.2 p.2 q.2 e.2)
noncomputable def kA:KE:=(8,12,6,1)
noncomputable def kB:KE:=(1,6,12,8)
noncomputable def kC:KE:=(0,0,0,27)
noncomputable def AE:List Row→Pt→Pt→List (Pt×Pt)
 |[],_,_=>[]
 | .m p::r,_,_=>AE r p p
 | .l p::r,h,f=>(h,p)::AE r p f
 | .c a b e::r,h,f=>(h,cvP kA h a b e)::(cvP kA h a b e,cvP kB h a b e)::(cvP kB h a b e,cvP kC h a b e)::AE r (cvP kC h a b e) f
 | .z::r,h,f=>(h,f)::AE r h f
def DI:List Row→Bool→Prop
 |[],o=>o=false
 | .m _::r,o=>o=false∧DI r true
 | .l _::r,o=>o=true∧DI r true
 | .c _ _ _::r,o=>o=true∧DI r true
 | .z::r,o=>o=true∧DI r false
noncomputable def kD(k:KE):Dat:=.tuple [.int k.1,.int k.2.1,.int k.2.2.1,.int k.2.2.2]
def NJ(k:KE):Prop:=(∀x,Am k.1 x)∧(∀x,Am k.2.1 x)∧(∀x,Am k.2.2.1 x)∧∀x,Am k.2.2.2 x
noncomputable def edX(k:List Nat):Stmt:=KC (AY 439) k
noncomputable def ptE:Expr:=AG (edX [1,0,2,2,1,0])
noncomputable def siE:Expr:=kid ptE 0
noncomputable def aQ(h p q e:Pt):Dat:=.list [pD h,pD p,pD q,pD e]
noncomputable def ptI(k:KE)(h p q e:Pt)(tl:St):St:=("four",.dat (aQ h p q e))::("share",.dat (kD k))::tl
noncomputable def cvL(k:KE)(a b c d:Int):List Int:=[k.1*a,k.2.1*b,k.2.2.1*c,k.2.2.2*d]
noncomputable def smE:Expr:=match IH siE with
 | .BinOp l _ _ _=>l
 |e=>e
noncomputable def Fu(own:Bool)(h a b e:Pt):AF:=match own with
 |true=>.lst [pD h,pD a,pD b,pD e]
 |false=>.dat (aQ h a b e)
noncomputable def ptJ(own:Bool)(k:KE)(h p q e:Pt)(tl:St):St:=("four",Fu own h p q e)::("share",.dat (kD k))::tl
theorem XG(S:Ao O P.K U)(own:Bool){k:KE}{h a b e:Pt}(K:NJ k)(Q:EV→St→Prop)(q:Q (.dat (.int (cvL k h.1 a.1 b.1 e.1).sum)) (ptI k h a b e [("side",.dat (.int 0))])):Ev O w U (BL (OP siE) (scC 439)) n smE (ptJ own k h a b e [("side",.dat (.int 0))]) Q:=by
 have k1:=K.1;have k2:=K.2.1;have k3:=K.2.2.1;have k4:=K.2.2.2
 have m1:=k1 h.1
 have m2:=k2 a.1
 have m3:=k3 b.1
 have m4:=k4 e.1
 cases own with
 |true=>
  refine KV S (glb P (by kernel_rfl) (by kernel_rfl)) rfl (AV (EA (BG.of (by kernel_rfl)) (Mw S (glb P (by kernel_rfl) (by kernel_rfl)) rfl (Fc S (os:=[]) rfl .nil ⟨_,_,rfl,?_⟩))))
  exact DV S (acc:=(cvL k h.1 a.1 b.1 e.1).map .int) [] rfl (.cons m4 (.cons m3 (.cons m2 (.cons m1 .nil)))) rfl ⟨_,_,rfl,Nh (ns:=cvL k h.1 a.1 b.1 e.1),q⟩
 |false=>
  refine KV S (glb P (by kernel_rfl) (by kernel_rfl)) rfl (AV (EA (BG.of (by kernel_rfl)) (Mw S (glb P (by kernel_rfl) (by kernel_rfl)) rfl (Fc S (os:=[]) rfl .nil ⟨_,_,rfl,?_⟩))))
  exact DV S (acc:=(cvL k h.1 a.1 b.1 e.1).map .int) [] rfl (.cons m4 (.cons m3 (.cons m2 (.cons m1 .nil)))) rfl ⟨_,_,rfl,Nh (ns:=cvL k h.1 a.1 b.1 e.1),q⟩
theorem XH(S:Ao O P.K U){k:KE}{h a b e:Pt}(K:NJ k)(Q:EV→St→Prop)(q:Q (.dat (.int (cvL k h.2 a.2 b.2 e.2).sum)) (ptI k h a b e [("side",.dat (.int 1))])):Ev O w U (BL (OP siE) (scC 439)) n smE (ptI k h a b e [("side",.dat (.int 1))]) Q:=by
 have k1:=K.1;have k2:=K.2.1;have k3:=K.2.2.1;have k4:=K.2.2.2
 have m1:=k1 h.2
 have m2:=k2 a.2
 have m3:=k3 b.2
 have m4:=k4 e.2
 refine KV S (glb P (by kernel_rfl) (by kernel_rfl)) rfl (AV (EA (BG.of (by kernel_rfl)) (Mw S (glb P (by kernel_rfl) (by kernel_rfl)) rfl (Fc S (os:=[]) rfl .nil ⟨_,_,rfl,?_⟩))))
 exact DV S (acc:=(cvL k h.2 a.2 b.2 e.2).map .int) [] rfl (.cons m4 (.cons m3 (.cons m2 (.cons m1 .nil)))) rfl ⟨_,_,rfl,Nh (ns:=cvL k h.2 a.2 b.2 e.2),q⟩
noncomputable def edS(rows:List Row)(f:List Dat)(h i:Dat)(tl:St):St:=("rows",.dat (.list (rows.map Be)))::("first",.dat i)::("here",.dat h)::("found",.lst f)::tl
noncomputable def edR(r:Dat)(v:AF)(k:KE)(tl:St):St:=("row",.dat r)::("four",v)::("share",.dat (kD k))::tl
theorem XI(S:Ao O P.K U)(own:Bool){k:KE}{f:List Dat}{x y r:Dat}{tl:St}{h a b e:Pt}(K:NJ k)(hk:IC (BF (OP siE)) (edS rows f x y (edR r (Fu own h a b e) k tl))=ptJ own k h a b e [])
 (hb:EY (BF (OP siE)) (edS rows f x y (edR r (Fu own h a b e) k tl)) (ptI k h a b e [("side",.dat (.int 1))])=edS rows f x y (edR r (Fu false h a b e) k tl)) (Q:EV→St→Prop)
 (q:Q (.dat (pD (cvP k h a b e))) (edS rows f x y (edR r (Fu false h a b e) k tl))):Ev O w U (scC 439) n ptE (edS rows f x y (edR r (Fu own h a b e) k tl)) Q:=by
 refine Ro S (glb P (by kernel_rfl) (by kernel_rfl)) rfl (AV (EA (BG.of (by kernel_rfl)) (FN (Fb S (os:=[]) rfl .nil ⟨[.int 0,.int 1],rfl,?_⟩))))
 refine Eq.mpr (congrArg (Bm _ _ _ _ _ _ _ _ _ _ _) hk) ?_
 refine DV S (acc:=[.int (cvI k h.1 a.1 b.1 e.1),.int (cvI k h.2 a.2 b.2 e.2)]) [.ask (.dat (.int (cvL k h.1 a.1 b.1 e.1).sum)) (ptI k h a b e [("side",.dat (.int 0))]),.ask (.dat (.int (cvL k h.2 a.2 b.2 e.2).sum)) (ptI k h a b e [("side",.dat (.int 1))])] rfl (.cons (by decide:(27:Int)≠0) (.cons (fun Q q=>XH S K Q q) (.cons (by decide:(27:Int)≠0) (.cons (fun Q q=>XG S own K Q q) .nil)))) rfl ⟨_,rfl,show 2≤sizeLine by decide,?_⟩
 exact hb.symm▸q
noncomputable abbrev DB(e:Pt×Pt):Dat:=AC e
def EdP(O:Program)(w:World)(U:Heap)(P:KF)(n:Nat)(Q:Fl→St→Prop)(ds:List Dat)(st:St):Prop:=Bv O w U (scC 439) n (AG (edX [1])) (Cr (edX [1])) Q ds st
theorem Rp{k:KE}(h:k=kA∨k=kB∨k=kC):NJ k:=by
 rcases h with rfl|rfl|rfl<;>exact⟨fun V=>.of_left (by decide),fun V=>.of_left (by decide),fun V=>.of_left (by decide),fun V=>.of_left (by decide)⟩
theorem fY(S:Ao O P.K U)(F:AT Q){f:List Dat}{x:Dat}{rs:List Dat}(k:EdP O w U P n Q rs (edS rows f (pD p) (pD p) [])):EdP O w U P n Q (Be (.m p)::rs) (edS rows f .none x []):=by
 refine Aw S ["row"] [.br true,.br false,.ask (.dat (pD p)) (edS rows f .none x [("row",.dat (Be (.m p)))]),.ask (.dat (pD p)) (edS rows f .none x [("row",.dat (Be (.m p)))])] k rfl ?_ F
 repeat' first|exact obN|refine obA ?_|apply obC
 all_goals first|trivial|exact fun Q q=>Ew (AM S (os:=[]) rfl .nil (AM S (os:=[]) rfl .nil ⟨1,rfl,⟨[.str "m",.int p.1,.int p.2],rfl,show 3≤sizeLine by decide,q⟩⟩))
theorem fZ(S:Ao O P.K U)(F:AT Q){f:List Dat}{h i:Pt}{rs:List Dat}(hz:f.length+3≤9000)(k:EdP O w U P n Q rs (edS rows (f++[DB (h,p)]) (pD p) (pD i) [])):EdP O w U P n Q (Be (.l p)::rs) (edS rows f (pD h) (pD i) []):=by
 have z1:f.length+1≤sizeLine:=le_trans (show _≤9000 by exact Ay hz) (by decide)
 refine Aw S ["row"] [.br false,.br true,.ask (.dat (pD p)) (edS rows f (pD h) (pD i) [("row",.dat (Be (.l p)))]),.ask (.dat (pD p)) (edS rows (f++[DB (h,p)]) (pD h) (pD i) [("row",.dat (Be (.l p)))])] k rfl ?_ F
 repeat' first|exact obN|refine obA ?_|apply obC
 all_goals exact fun Q q=>Ew (AM S (os:=[]) rfl .nil (AM S (os:=[]) rfl .nil ⟨1,rfl,⟨[.str "l",.int p.1,.int p.2],rfl,show 3≤sizeLine by decide,q⟩⟩))
theorem ga(S:Ao O P.K U)(F:AT Q){f:List Dat}{h i:Pt}{rs:List Dat}(hz:f.length+3≤9000)(k:EdP O w U P n Q rs (edS rows (f++[DB (h,i)]) .none (pD i) [])):EdP O w U P n Q (Be .z::rs) (edS rows f (pD h) (pD i) []):=by
 have z1:f.length+1≤sizeLine:=le_trans (show _≤9000 by exact Ay hz) (by decide)
 refine Aw S ["row"] [.br false,.br false,.br false] k rfl ?_ F
 exact obs
noncomputable def cE(a b e:Pt):List Dat:=[.str "c",.int a.1,.int a.2,.int b.1,.int b.2,.int e.1,.int e.2]
set_option maxHeartbeats 2000000 in
theorem gc(S:Ao O P.K U)(F:AT Q){f:List Dat}{h i a b e:Pt}{rs:List Dat}(hz:f.length+3≤9000)
 (k:EdP O w U P n Q rs (edS rows (f++[DB (h,cvP kA h a b e)]++[DB (cvP kA h a b e,cvP kB h a b e)]++[DB (cvP kB h a b e,cvP kC h a b e)]) (pD (cvP kC h a b e)) (pD i) [])):EdP O w U P n Q (Be (.c a b e)::rs) (edS rows f (pD h) (pD i) []):=by
 have z:∀k,k≤f.length+3→k≤sizeLine:=fun k h=>le_trans h (le_trans hz (by decide))
 have z1:f.length+1≤sizeLine:=z _ (by simp+arith only[*])
 have z2:(f++[DB (h,cvP kA h a b e)]).length+1≤sizeLine:=z _ (by simp)
 have z3:(f++[DB (h,cvP kA h a b e)]++[DB (cvP kA h a b e,cvP kB h a b e)]).length+1≤sizeLine:=z _ (by simp)
 refine Aw S ["row","four","share","point"] [.br false,.br false,.br true,.ask (.dat (pD a)) (edS rows f (pD h) (pD i) [("row",.dat (Be (.c a b e)))]),.ask (.dat (pD b)) (edS rows f (pD h) (pD i) [("row",.dat (Be (.c a b e)))]),.ask (.dat (pD e)) (edS rows f (pD h) (pD i) [("row",.dat (Be (.c a b e)))]),
  .run .next (edS rows (f++[DB (h,cvP kA h a b e)]++[DB (cvP kA h a b e,cvP kB h a b e)]++[DB (cvP kB h a b e,cvP kC h a b e)]) (pD (cvP kC h a b e)) (pD i) (edR (Be (.c a b e)) (Fu false h a b e) kC [("point",.dat (pD (cvP kC h a b e)))]))] k rfl ?_ F
 refine obC (fun V q=>GX (FN (Fb S (os:=[]) rfl .nil ⟨[kD kA,kD kB,kD kC],rfl,?_⟩))) ?_
 ·refine Ge (st':=edS rows f (pD h) (pD i) (edR (Be (.c a b e)) (Fu true h a b e) kA [])) rfl ?_
  refine AO S (fl:=.next) (st':=edS rows (f++[DB (h,cvP kA h a b e)]) (pD (cvP kA h a b e)) (pD i) (edR (Be (.c a b e)) (Fu false h a b e) kA [("point",.dat (pD (cvP kA h a b e)))])) (os:=[.ask (.dat (pD (cvP kA h a b e))) (edS rows f (pD h) (pD i) (edR (Be (.c a b e)) (Fu false h a b e) kA []))]) rfl (.cons z1 (.cons (fun Q q=>XI S true (Rp (.inl rfl)) (by kernel_rfl) (by kernel_rfl) Q q) .nil)) ?_
  refine Ge (st':=edS rows (f++[DB (h,cvP kA h a b e)]) (pD (cvP kA h a b e)) (pD i) (edR (Be (.c a b e)) (Fu false h a b e) kB [("point",.dat (pD (cvP kA h a b e)))])) rfl ?_
  refine AO S (fl:=.next) (st':=edS rows (f++[DB (h,cvP kA h a b e)]++[DB (cvP kA h a b e,cvP kB h a b e)]) (pD (cvP kB h a b e)) (pD i) (edR (Be (.c a b e)) (Fu false h a b e) kB [("point",.dat (pD (cvP kB h a b e)))])) (os:=[.ask (.dat (pD (cvP kB h a b e))) (edS rows (f++[DB (h,cvP kA h a b e)]) (pD (cvP kA h a b e)) (pD i) (edR (Be (.c a b e)) (Fu false h a b e) kB [("point",.dat (pD (cvP kA h a b e)))]))]) rfl (.cons z2 (.cons (fun Q q=>XI S false (Rp (.inr (.inl rfl))) (by kernel_rfl) (by kernel_rfl) Q q) .nil)) ?_
  refine Ge (st':=edS rows (f++[DB (h,cvP kA h a b e)]++[DB (cvP kA h a b e,cvP kB h a b e)]) (pD (cvP kB h a b e)) (pD i) (edR (Be (.c a b e)) (Fu false h a b e) kC [("point",.dat (pD (cvP kB h a b e)))])) rfl ?_
  exact AO S (fl:=.next) (os:=[.ask (.dat (pD (cvP kC h a b e))) (edS rows (f++[DB (h,cvP kA h a b e)]++[DB (cvP kA h a b e,cvP kB h a b e)]) (pD (cvP kB h a b e)) (pD i) (edR (Be (.c a b e)) (Fu false h a b e) kC [("point",.dat (pD (cvP kB h a b e)))]))]) rfl (.cons z3 (.cons (fun Q q=>XI S false (Rp (.inr (.inr rfl))) (by kernel_rfl) (by kernel_rfl) Q q) .nil)) q
 repeat' first|exact obN|refine obA ?_|apply obC
 ·exact fun Q q=>Ew (AM S (os:=[]) rfl .nil (AM S (os:=[]) rfl .nil ⟨5,rfl,AM S (os:=[]) rfl .nil ⟨7,rfl,⟨cE a b e,rfl,show 7≤sizeLine by decide,q⟩⟩⟩))
 ·exact fun Q q=>Ew (AM S (os:=[]) rfl .nil (AM S (os:=[]) rfl .nil ⟨3,rfl,AM S (os:=[]) rfl .nil ⟨5,rfl,⟨cE a b e,rfl,show 7≤sizeLine by decide,q⟩⟩⟩))
 ·exact fun Q q=>Ew (AM S (os:=[]) rfl .nil (AM S (os:=[]) rfl .nil ⟨1,rfl,AM S (os:=[]) rfl .nil ⟨3,rfl,⟨cE a b e,rfl,show 7≤sizeLine by decide,q⟩⟩⟩))
theorem XJ(S:Ao O P.K U)(F:AT Q):∀(rs:List Row) (f:List Dat) (h i:Pt),f.length+3*rs.length≤9000→
 (∀x,Q .next (edS rows (f++(AE rs h i).map AC) .none x []))→
 (DI rs true→EdP O w U P n Q (rs.map Be) (edS rows f (pD h) (pD i) []))∧(DI rs false→∀x,EdP O w U P n Q (rs.map Be) (edS rows f .none x [])):=by
 intro rs
 induction rs with
 |nil=>intro f h i _ q;exact⟨fun k=>Bool.noConfusion k,fun V x=>(append_nil f)▸q x⟩
 |cons r rs ih=>
  intro f h i hl q
  rw[length_cons]at hl
  have l1:f.length+3≤9000:=by exact Ay hl
  cases r with
  |m p=>exact⟨fun k=>Bool.noConfusion k.1,fun k x=>fY S F ((ih f p p (by exact Ay hl) q).1 k.2)⟩
  |l p=>exact⟨fun k=>fZ S F l1 ((ih (f++[AC (h,p)]) p i (by refine rr length_append (rr length_singleton ?_);exact Ay hl) (fun x=>by refine rr (append_assoc ..) ?_;exact q x)).1 k.2),fun k=>Bool.noConfusion k.1⟩
  |z=>exact⟨fun k=>ga S F l1 ((ih (f++[AC (h,i)]) h i (by refine rr length_append (rr length_singleton ?_);exact Ay hl) (fun x=>by refine rr (append_assoc ..) ?_;exact q x)).2 k.2 _),fun k=>Bool.noConfusion k.1⟩
  |c a b e=>exact⟨fun k=>gc S F l1 ((ih (f++[AC (h,cvP kA h a b e)]++[AC (cvP kA h a b e,cvP kB h a b e)]++[AC (cvP kB h a b e,cvP kC h a b e)]) (cvP kC h a b e) i (by simp only[length_append,length_singleton];exact Ay hl) (fun x=>by refine rr (append_assoc ..) ?_;refine rr (append_assoc ..) (rr (append_assoc ..) ?_);exact q x)).1 k.2),fun k=>Bool.noConfusion k.1⟩
theorem XK(S:Ao O P.K U)(hw:DI rows false)(hl:rows.length≤2900):FnP O w U (n+1) 439 [.list (rows.map Be)] (fun d=>d=.list ((AE rows (0,0) (0,0)).map AC)):=by
 refine FnP.ofC S (JQ P) rfl ?_
 refine Ax (st':=edS rows [] .none .none []) S 1 [] [] rfl ?_ ?_
 ·exact obs
 refine Jd S [] rfl rfl obs ((XJ S Av rows [] (0,0) (0,0) (by refine rr length_nil ?_;exact Ay (mN 3 hl)) fun x=>?_).2 hw .none)
 exact AO S (os:=[.br false]) rfl (.cons rfl (.cons trivial .nil)) rfl
theorem Bd.fdiv(h:Bd k a):Bd k (a.fdiv b):=by
 refine Bd.le h ?_
 rcases Int.le_total 0 b with q|q
 ·refine rr (fdiv_eq_ediv_of_nonneg _ q) ?_;exact Int.natAbs_ediv_le_natAbs a b
 ·refine rl (Int.neg_fdiv_neg ..) (rr (fdiv_eq_ediv_of_nonneg _ (Int.neg_nonneg_of_nonpos q)) ?_)
  exact le_trans (Int.natAbs_ediv_le_natAbs (-a) (-b)) (Nat.le_of_eq (natAbs_neg a))
structure Fv where
 (half cap join limit:Int)
noncomputable def aR(w:World)(q:Fv):Dat:=.dict w [("half",q.half),("cap",q.cap),("join",q.join),("limit",q.limit)]
noncomputable def Gv(e:Pt×Pt)(half turn:Int):Pt:=Hc (Ae e.2 e.1) half (decide (0<turn))
noncomputable def Bz(a b:Pt×Pt):Int:=Ad (Ae a.2 a.1) (Ae b.2 b.1)
noncomputable def CO(p h:Pt):Pt:=((Ae p h).1*1000,(Ae p h).2*1000)
noncomputable def SG(a b:Pt×Pt)(limit:Int):Bool:=Ap (limit*limit*AA (Ae a.2 a.1) (Ae b.2 b.1)) (2*(10:Int)^(12:Int).toNat-limit*limit) (AA (Ae a.2 a.1) (Ae a.2 a.1)*AA (Ae b.2 b.1) (Ae b.2 b.1))
noncomputable def BT(half:Int):Int:=half*half*1000*1000
noncomputable def Kn(half:Int)(f s:Pt):Pt:=(((f.1+s.1)*BT half).fdiv (BT half+AA f s),((f.2+s.2)*BT half).fdiv (BT half+AA f s))
noncomputable def BA(a b:Pt×Pt)(q:Fv)(p:Pt):Option Bool:=
 if q.join=1 then AZ b.1 q.half p else
 if Bz a b=0 then some false else
 if q.join=2∨SG a b q.limit=false then AR (0,0) (Gv a q.half (Bz a b)) (Gv b q.half (Bz a b)) (CO p b.1)
 else IA [AR (0,0) (Gv a q.half (Bz a b)) (Kn q.half (Gv a q.half (Bz a b)) (Gv b q.half (Bz a b))) (CO p b.1),
  AR (0,0) (Kn q.half (Gv a q.half (Bz a b)) (Gv b q.half (Bz a b))) (Gv b q.half (Bz a b)) (CO p b.1)]
theorem Bd.out{v:Pt}{l:Bool}(hv:BdP 20 v)(hh:Bd 20 half):BdP 170 (Hc v half l):=by
 have o:BdP 20 (YV v l):=by delta YV;cases l<;>exact⟨by first|exact hv.2|exact hv.2.neg,by first|exact hv.1|exact hv.1.neg⟩
 exact⟨Bd.up (Bd.fdiv (Bd.mul (Bd.mul (Bd.mul o.1 hh) (Bd.num (x:=1000))) (Bd.num (x:=1000)))),Bd.up (Bd.fdiv (Bd.mul (Bd.mul (Bd.mul o.2 hh) (Bd.num (x:=1000))) (Bd.num (x:=1000))))⟩
theorem Bd.tip{f s:Pt}(hf:BdP 170 f)(hs:BdP 170 s)(hh:Bd 20 half):BdP 399 (Kn half f s):=by
 have w:Bd 200 (BT half):=Bd.up (Bd.mul (Bd.mul (Bd.mul hh hh) (Bd.num (x:=1000))) (Bd.num (x:=1000)))
 exact⟨Bd.up (Bd.fdiv (Bd.mul (Bd.add hf.1 hs.1) w)),Bd.up (Bd.fdiv (Bd.mul (Bd.add hf.2 hs.2) w))⟩
noncomputable def cZ(w:World)(a b:Pt×Pt)(q:Fv)(p:Pt)(tl:St):St:=("ahead",.dat (AC a))::("behind",.dat (AC b))::("pen",.dat (aR w q))::("place",.dat (pD p))::tl
noncomputable def ijT(a b:Pt×Pt)(q:Fv)(p f s:Pt)(turn:Int)(lt:Bool)(tl:St):St:=("here",.dat (pD b.1))::("other",.dat (pD (Ae b.2 b.1)))::("one",.dat (pD (Ae a.2 a.1)))::("both",.dat (.int (AA (Ae a.2 a.1) (Ae a.2 a.1)*AA (Ae b.2 b.1) (Ae b.2 b.1))))::("turn",.dat (.int turn))::("second",.dat (pD s))::("first",.dat (pD f))::("spot",.dat (pD (CO p b.1)))::("limit",.dat (.int (q.limit*q.limit)))::("is_let",.dat (.bool lt))::tl
theorem XL(S:Ao O P.K U){a b:Pt×Pt}{q:Fv}{f s:Pt}(bf:BdP 170 f)(bs:BdP 170 s)(hh:Bd 20 q.half)(bsp:BdP 100 (CO p b.1))(hu:lt=true→BT q.half+AA f s≠0)
 (hd:d=Cl (if q.join=2∨lt=false then AR (0,0) f s (CO p b.1)else IA [AR (0,0) f (Kn q.half f s) (CO p b.1),AR (0,0) (Kn q.half f s) s (CO p b.1)])):
 Ss O w U (scC 420) (n+3) ((AY 420).drop 10) (cZ w a b q p (ijT a b q p f s turn lt [])) (fun fl V=>flD fl=d):=by
 have bt:=Bd.tip bf bs hh
 have bz:BdP 400 ((0,0):Pt):=⟨Bd.up (k:=64) Bd.num,Bd.up (k:=64) Bd.num⟩
 have tri:∀{x y:Pt},BdP 399 x→BdP 399 y→FnP O w U (n+3) 399 [pD (0,0),pD x,pD y,pD (CO p b.1)] (fun d=>d=Cl (AR (0,0) x y (CO p b.1))):=fun hx hy=>Km (w:=w) (n:=n) S bz hx.up hy.up bsp.up
 have t0:=tri bf.up bs.up
 have t1:=tri bf.up bt
 have t2:=tri bt bs.up
 have d4:=Kj (w:=w) (n:=n+2) S (bf.up (l:=1000)) (bs.up (l:=1000))
 have an:=aF (w:=w) (n:=n+2) S (l:=[AR (0,0) f (Kn q.half f s) (CO p b.1),AR (0,0) (Kn q.half f s) s (CO p b.1)])
 have m7:Am q.half q.half:=Ah hh hh
 have m8:Am (q.half*q.half) 1000:=.of_right (by decide)
 have m9:Am (q.half*q.half*1000) 1000:=.of_right (by decide)
 have bw:Bd 200 (BT q.half):=Bd.up (Bd.mul (Bd.mul (Bd.mul hh hh) (Bd.num (x:=1000))) (Bd.num (x:=1000)))
 have mA:Am (f.1+s.1) (BT q.half):=Ah (Bd.add bf.1 bs.1) bw
 have mB:Am (f.2+s.2) (BT q.half):=Ah (Bd.add bf.2 bs.2) bw
 subst hd
 by_cases k3:q.join=2
 ·refine rr (if_pos (.inl k3)) ?_
  have e3:=decide_eq_true k3
  exact AO S (os:=[.br true,.br true,.val (Cl (AR (0,0) f s (CO p b.1)))]) rfl obs rfl
 ·have e3:=decide_eq_false k3
  cases lt with
  |false=>
   refine rr (if_pos (.inr rfl)) ?_
   exact AO S (os:=[.br false,.br true,.br true,.val (Cl (AR (0,0) f s (CO p b.1)))]) rfl obs rfl
  |true=>
   have hu:=hu rfl
   refine rr (if_neg (by rintro(h|h);exact k3 h;cases h)) ?_
   refine Ax (st':=cZ w a b q p (ijT a b q p f s turn true [("whole",.dat (.int (BT q.half))),("under",.dat (.int (BT q.half+AA f s))),("tip",.dat (pD (Kn q.half f s)))])) S 4 [] [.br false,.br false,.br false,.val (.int (AA f s))] rfl obs ?_
   generalize Kn q.half f s=tp at*
   exact AO S (os:=[.val (Cl (AR (0,0) f tp (CO p b.1))),.val (Cl (AR (0,0) tp s (CO p b.1))),.val (Cl (IA [AR (0,0) f tp (CO p b.1),AR (0,0) tp s (CO p b.1)]))]) rfl obs rfl
set_option maxHeartbeats 4000000 in
theorem Rq(S:Ao O P.K U){a b:Pt×Pt}{q:Fv}(ha:BdP 18 a.1∧BdP 18 a.2)(hb:BdP 18 b.1∧BdP 18 b.2)(hp:BdP 18 p)(hh:Bd 20 q.half)(hl:Bd 30 q.limit)(h1:0<AA (Ae a.2 a.1) (Ae a.2 a.1))(h2:0<AA (Ae b.2 b.1) (Ae b.2 b.1))
 (hu:Bz a b≠0→SG a b q.limit=true→BT q.half+AA (Gv a q.half (Bz a b)) (Gv b q.half (Bz a b))≠0):
 FnP O w U (n+4) 420 [AC a,AC b,aR w q,pD p] (fun d=>d=Cl (BA a b q p)):=by
 have bone:BdP 20 (Ae a.2 a.1):=(ha.2.sub ha.1).up
 have both:BdP 20 (Ae b.2 b.1):=(hb.2.sub hb.1).up
 have ci:=Ft (w:=w) (n:=n+1) S (hb.1.up (l:=64)) (hp.up (l:=64)) (hh.up (l:=64))
 have l1:=Ee (w:=w) (n:=n+2) (a:=a.2) (b:=a.1) S
 have l2:=Ee (w:=w) (n:=n+2) (a:=b.2) (b:=b.1) S
 have l3:=Ee (w:=w) (n:=n+2) (a:=p) (b:=b.1) S
 have d1:=Kj (w:=w) (n:=n+2) S (bone.up (l:=1000)) (bone.up (l:=1000))
 have d2:=Kj (w:=w) (n:=n+2) S (both.up (l:=1000)) (both.up (l:=1000))
 have d3:=Kj (w:=w) (n:=n+2) S (bone.up (l:=1000)) (both.up (l:=1000))
 have c1:FnP O w U (n+3) 343 [pD (Ae a.2 a.1),pD (Ae b.2 b.1)] (fun d=>d=.int (Bz a b)):=Ia (w:=w) (n:=n+2) S (bone.up (l:=1000)) (both.up (l:=1000))
 have o1:FnP O w U (n+3) 413 [pD (Ae a.2 a.1),.int q.half,.bool (decide (0<Bz a b))] (fun d=>d=pD (Gv a q.half (Bz a b))):=Rk (w:=w) (n:=n+1) S (bone.up (l:=64)) (hh.up (l:=64)) h1
 have o2:FnP O w U (n+3) 413 [pD (Ae b.2 b.1),.int q.half,.bool (decide (0<Bz a b))] (fun d=>d=pD (Gv b q.half (Bz a b))):=Rk (w:=w) (n:=n+1) S (both.up (l:=64)) (hh.up (l:=64)) h2
 have bf:BdP 170 (Gv a q.half (Bz a b)):=Bd.out bone hh
 have bs:BdP 170 (Gv b q.half (Bz a b)):=Bd.out both hh
 have bsp:BdP 100 (CO p b.1):=⟨Bd.up (Bd.mul (hp.sub hb.1).1 (Bd.num (x:=1000))),Bd.up (Bd.mul (hp.sub hb.1).2 (Bd.num (x:=1000)))⟩
 have re:FnP O w U (n+3) 336 [.int (q.limit*q.limit*AA (Ae a.2 a.1) (Ae b.2 b.1)),.int (2*(10:Int)^(12:Int).toNat-q.limit*q.limit),.int (AA (Ae a.2 a.1) (Ae a.2 a.1)*AA (Ae b.2 b.1) (Ae b.2 b.1))] (fun d=>d=.bool (SG a b q.limit)):=
  EH (w:=w) (n:=n+2) S (Bd.up (Bd.mul (Bd.mul hl hl) (Bd.dot bone both))) (Bd.up (Bd.sub (Bd.num (x:=2*(10:Int)^(12:Int).toNat)) (Bd.mul hl hl))) (Bd.up (Bd.mul (Bd.dot bone bone) (Bd.dot both both)))
 have m1:Am (AA (Ae a.2 a.1) (Ae a.2 a.1)) (AA (Ae b.2 b.1) (Ae b.2 b.1)):=Ah (Bd.dot bone bone) (Bd.dot both both)
 have m2:Am (Ae p b.1).1 1000:=.of_right (by decide)
 have m3:Am (Ae p b.1).2 1000:=.of_right (by decide)
 have m4:Am q.limit q.limit:=Ah hl hl
 have m5:Am (q.limit*q.limit) (AA (Ae a.2 a.1) (Ae b.2 b.1)):=Ah (Bd.mul hl hl) (Bd.dot bone both)
 have m6:Am 2 ((10:Int)^(12:Int).toNat):=.of_left (by decide)
 have pw:Er .Pow (.int 10) (.int 12):=⟨by decide,by decide,by decide⟩
 delta BA
 by_cases k1:q.join=1
 ·refine rr (if_pos k1) ?_
  have e1:=decide_eq_true k1
  refine FnP.go S (Dg P) rfl [.br true,.val (Cl (AZ b.1 q.half p))] rfl ?_
  exact obs
 ·refine rr (if_neg k1) ?_
  have e1:=decide_eq_false k1
  by_cases k2:Bz a b=0
  ·refine rr (if_pos k2) ?_
   have e2:=decide_eq_true k2
   refine FnP.go S (Dg P) rfl [.br false,.val (pD (Ae a.2 a.1)),.val (pD (Ae b.2 b.1)),.val (.int (Bz a b)),.val (.int (AA (Ae a.2 a.1) (Ae a.2 a.1))),.val (.int (AA (Ae b.2 b.1) (Ae b.2 b.1))),.br true] rfl ?_
   exact obs
  ·refine rr (if_neg k2) ?_
   have e2:=decide_eq_false k2
   have hu:=hu k2
   generalize Bz a b=turn at*
   generalize Gv a q.half turn=f at*
   generalize Gv b q.half turn=s at*
   generalize hlt:SG a b q.limit=lt at*
   refine FnP.ofC S (Dg P) rfl ?_
   refine Ax (st':=cZ w a b q p (ijT a b q p f s turn lt [])) S 10 [] [.br false,.val (pD (Ae a.2 a.1)),.val (pD (Ae b.2 b.1)),.val (.int turn),.val (.int (AA (Ae a.2 a.1) (Ae a.2 a.1))),.val (.int (AA (Ae b.2 b.1) (Ae b.2 b.1))),.br false,.val (pD f),.val (pD s),.val (pD (Ae p b.1)),.val (.int (AA (Ae a.2 a.1) (Ae b.2 b.1))),.val (.bool lt)] rfl obs (XL S bf bs hh bsp hu rfl)
noncomputable def Fw(q:Fv)(cl:Bool):Int:=if q.cap=2∧cl=false then q.half else 0
noncomputable def Gi(q:Fv)(cl:Bool)(p:Pt)(many k:Nat)(e:Pt×Pt):Option Bool:=GK e.1 e.2 (if k=0 then Fw q cl else 0) (if k+1=many then Fw q cl else 0) q.half p
noncomputable def CC(q:Fv)(cl:Bool)(p:Pt)(many:Nat):Nat→List (Pt×Pt)→List (Option Bool)
 |_,[]=>[]
 |k,e::es=>Gi q cl p many k e::CC q cl p many (k+1) es
noncomputable def Dr(q:Fv)(cl:Bool)(p:Pt)(es:List (Pt×Pt)):List (Option Bool):=if q.cap=1∧cl=false then[AZ (es.head?.getD ((0,0),(0,0))).1 q.half p,AZ (es.getLast?.getD ((0,0),(0,0))).2 q.half p]else[]
noncomputable def Em(cl:Bool)(es:List (Pt×Pt)):List (Pt×Pt):=es.drop 1++if cl then es.take 1 else[]
noncomputable def Jj(q:Fv)(cl:Bool)(p:Pt)(es:List (Pt×Pt)):Option Bool:=IA (CC q cl p es.length 0 es++Dr q cl p es++(es.zip (Em cl es)).map fun x=>BA x.1 x.2 q p)
noncomputable def coS(w:World)(es:List (Pt×Pt))(cl:Bool)(q:Fv)(p:Pt)(tl:St):St:=("lines",.dat (.list (es.map AC)))::("is_closed",.dat (.bool cl))::("pen",.dat (aR w q))::("place",.dat (pD p))::("many",.dat (.int (es.map AC).length))::tl
noncomputable def OY(w:World)(es:List (Pt×Pt))(cl:Bool)(q:Fv)(p:Pt)(acc:List (Option Bool))(tl:St):St:=coS w es cl q p (("parts",.lst (acc.map Cl))::tl)
noncomputable def coX(k:List Nat):Stmt:=KC (AY 427) k
theorem da(S:Ao O P.K U){es:List (Pt×Pt)}{q:Fv}(hp:BdP 64 p)(hh:Bd 64 q.half)(hn:es.length≤10)(F:AT Q):∀(xs:List (Pt×Pt)) (k:Nat) (acc:List (Option Bool)),es.drop k=xs→(∀e∈xs,BdP 64 e.1∧BdP 64 e.2)→acc.length+xs.length≤100→
 Q .next (OY w es cl q p (acc++CC q cl p es.length k xs) [])→Bv O w U (scC 427) (n+4) (AG (coX [1])) (Cr (coX [1])) Q ((List.range' k xs.length).map fun i:Nat=>.int (i:Int)) (OY w es cl q p acc []):=by
 intro xs
 induction xs with
 |nil=>intro k acc _ _ _ q;exact(append_nil acc)▸q
 |cons e xs ih=>
  intro k acc hd hb hl q0
  rw[length_cons]at hl
  have he:es[k]?=some e:=by
   have:=congrArg List.head? hd
   rwa [List.head?_drop]at this
  have hk:k<es.length:=(List.getElem?_eq_some_iff.mp he).1
  have hd':es.drop (k+1)=xs:=by refine rl List.drop_drop (rr hd ?_);rfl
  have it:AK (es.map AC) (k:Int)=some (AC e):=GD (by refine rr (getElem?_map) (rr he ?_);rfl)
  have lm:(es.map AC).length<2^62:=by refine rr (length_map ..) ?_;exact lt_of_le_of_lt hn (by decide)
  have hz:(acc.map Cl).length+1≤sizeLine:=le_trans (show _≤16777216 by refine rr (length_map ..) ?_;exact Ay hl) szl
  have bl:Bd 64 (Fw q cl):=by unfold Fw;split;exact hh;exact Bd.num
  have b0:Bd 64 (if k=0 then Fw q cl else 0):=by split;exact bl;exact Bd.num
  have b1:Bd 64 (if k+1=es.length then Fw q cl else 0):=by split;exact bl;exact Bd.num
  have y:FnP O w U (n+4) 385 [AC e,.int (if k=0 then Fw q cl else 0),.int (if k+1=es.length then Fw q cl else 0),.int q.half,pD p] (fun d=>d=Cl (Gi q cl p es.length k e)):=Rj (w:=w) (n:=n+1) S (hb e (.head _)).1 (hb e (.head _)).2 hp b0 b1 hh
  have ih:=ih (k+1) (acc++[Gi q cl p es.length k e]) hd' (fun e m=>hb e (.tail _ m)) (by refine rr length_append (rr length_singleton ?_);exact Ay hl) (by refine rr (append_assoc ..) ?_;exact q0)
  unfold OY at ih
  rw[map_append]at ih
  refine Ge (st':=OY w es cl q p acc [("at",.dat (.int k))]) rfl ?_
  have rest:Ss O w U (scC 427) (n+4) ((Cr (coX [1])).drop 1) (OY w es cl q p acc [("at",.dat (.int k)),("longer",.dat (.int (Fw q cl)))]) (IV Q (Bv O w U (scC 427) (n+4) (AG (coX [1])) (Cr (coX [1])) Q ((List.range' (k+1) xs.length).map fun i:Nat=>.int (i:Int)))):=by
   generalize Fw q cl=L at*
   generalize Gi q cl p es.length k e=z at*
   have e0:decide ((k:Int)=0)=decide (k=0):=decide_eq_decide.mpr (by lia)
   have e1:decide ((k:Int)=(es.map AC).length-1)=decide (k+1=es.length):=by refine rr (length_map ..) ?_;exact decide_eq_decide.mpr (by lia)
   have ob:∀{a b:Bool},decide (k=0)=a→decide (k+1=es.length)=b→FnP O w U (n+4) 385 [AC e,.int (if a=true then L else 0),.int (if b=true then L else 0),.int q.half,pD p] (fun d=>d=Cl z)∧decide ((k:Int)=0)=a∧decide ((k:Int)=(es.map AC).length-1)=b:=by
    rintro _ _ rfl rfl
    simp only[decide_eq_true_eq]
    exact⟨y,e0,e1⟩
   cases g0:decide (k=0)<;>cases g1:decide (k+1=es.length)
   ·obtain⟨y,x0,x1⟩:=ob g0 g1
    exact Gf S ["at","longer"] [.val (AC e),.br false,.br false,.val (Cl z)] ih rfl obs F
   ·obtain⟨y,x0,x1⟩:=ob g0 g1
    exact Gf S ["at","longer"] [.val (AC e),.br false,.br true,.val (Cl z)] ih rfl obs F
   ·obtain⟨y,x0,x1⟩:=ob g0 g1
    exact Gf S ["at","longer"] [.val (AC e),.br true,.br false,.val (Cl z)] ih rfl obs F
   ·obtain⟨y,x0,x1⟩:=ob g0 g1
    exact Gf S ["at","longer"] [.val (AC e),.br true,.br true,.val (Cl z)] ih rfl obs F
  by_cases c2:q.cap=2
  ·have k2:=decide_eq_true c2
   cases cl with
   |false=>
    have eL:Fw q false=q.half:=if_pos ⟨c2,rfl⟩
    rw[eL]at rest
    exact Ax S 1 [] [.br true,.br true,.br true] rfl obs rest
   |true=>
    have eL:Fw q true=0:=if_neg fun h=>Bool.noConfusion h.2
    rw[eL]at rest
    exact Ax S 1 [] [.br true,.br false,.br false] rfl obs rest
  ·have k2:=decide_eq_false c2
   have eL:Fw q cl=0:=if_neg fun h=>c2 h.1
   rw[eL]at rest
   exact Ax S 1 [] [.br false,.br false] rfl obs rest
structure Uk(q:Fv)(cl:Bool)(es:List (Pt×Pt)):Prop where
 ne:es≠[]
 few:es.length≤10
 bd:∀e∈es,BdP 18 e.1∧BdP 18 e.2∧0<AA (Ae e.2 e.1) (Ae e.2 e.1)
 half:Bd 20 q.half
 lim:Bd 30 q.limit
 under:∀x∈es.zip (Em cl es),Bz x.1 x.2≠0→SG x.1 x.2 q.limit=true→BT q.half+AA (Gv x.1 q.half (Bz x.1 x.2)) (Gv x.2 q.half (Bz x.1 x.2))≠0
theorem Lw{es:List (Pt×Pt)}{e:Pt×Pt}(h:e∈Em cl es):e∈es:=by
 rcases mem_append.mp h with h|h
 ·exact mem_of_mem_drop h
 ·cases cl with
  |true=>exact List.mem_of_mem_take h
  |false=>cases h
theorem db(S:Ao O P.K U){es:List (Pt×Pt)}{q:Fv}(hp:BdP 18 p)(C:Uk q cl es)(F:AT Q):∀(xs:List ((Pt×Pt)×(Pt×Pt))) (acc:List (Option Bool)),(∀x∈xs,x∈es.zip (Em cl es))→acc.length+xs.length≤100→
 Q .next (OY w es cl q p (acc++xs.map fun x=>BA x.1 x.2 q p) [])→Bv O w U (scC 427) (n+4) (AG (coX [3])) (Cr (coX [3])) Q (xs.map fun x=>.tuple [AC x.1,AC x.2]) (OY w es cl q p acc []):=by
 intro xs
 induction xs with
 |nil=>intro acc _ _ q;exact(append_nil acc)▸q
 |cons x xs ih=>
  intro acc hm hl q0
  rw[length_cons]at hl
  have mx:=hm x (.head _)
  obtain⟨m1,m2⟩:=of_mem_zip (a:=x.1) (b:=x.2) mx
  obtain⟨a1,a2,a3⟩:=C.bd x.1 m1
  obtain⟨b1,b2,b3⟩:=C.bd x.2 (Lw m2)
  have hz:(acc.map Cl).length+1≤sizeLine:=le_trans (show _≤16777216 by refine rr (length_map ..) ?_;exact Ay hl) szl
  have y:=Rq (w:=w) (n:=n) S (p:=p) ⟨a1,a2⟩ ⟨b1,b2⟩ hp C.half C.lim a3 b3 (C.under x mx)
  have ih:=ih (acc++[BA x.1 x.2 q p]) (fun e m=>hm e (.tail _ m)) (by refine rr length_append (rr length_singleton ?_);exact Ay hl) (by refine rr (append_assoc ..) ?_;exact q0)
  unfold OY at ih
  rw[map_append]at ih
  generalize BA x.1 x.2 q p=z at*
  exact Aw S ["ahead","behind"] [.val (Cl z)] ih rfl obs F
theorem Rs(es fs:List (Pt×Pt)):FO (es.map AC) (fs.map AC)=(es.zip fs).map fun x=>.tuple [AC x.1,AC x.2]:=by
 delta FO
 refine rr List.zipWith_map (rr List.map_zip_eq_zipWith ?_)
 rfl
theorem Ul(S:Ao O P.K U){es:List (Pt×Pt)}{q:Fv}(hp:BdP 18 p)(C:Uk q cl es):FnP O w U (n+5) 427 [.list (es.map AC),.bool cl,aR w q,pD p] (fun d=>d=Cl (Jj q cl p es)):=by
 have few:=C.few
 have hl:(es.map AC).length<2^62:=by refine rr (length_map ..) ?_;exact lt_of_le_of_lt few (by decide)
 refine FnP.ofC S (IF P) rfl ?_
 refine Ax (st':=OY w es cl q p [] []) S 1 [] [] rfl obs ?_
 have rg:(List.range es.length).map (fun i:Nat=>Dat.int (i:Int))=(List.range' 0 es.length).map fun i:Nat=>Dat.int (i:Int):=by refine rr List.range_eq_range' ?_;rfl
 refine Bl (GX (HT (k:=es.length) S [] (by refine rl (length_map (f:=AC)) ?_;rfl) .nil (le_trans few (by decide)) (?_:Bv O w U (scC 427) (n+4) (AG (coX [1])) (Cr (coX [1])) _ _ (OY w es cl q p [] [])) (glb P (by kernel_rfl) (by kernel_rfl)) rfl rfl))
 refine rr rg ?_
 have hp64:BdP 64 p:=hp.up
 have hh64:Bd 64 q.half:=C.half.up
 refine da S hp64 hh64 few Av es 0 [] rfl (fun e m=>⟨(C.bd e m).1.up,(C.bd e m).2.1.up⟩) (by refine rr length_nil ?_;exact Ay few) ?_
 have lp:(CC q cl p es.length 0 es).length=es.length:=by
  have:∀(m:Nat) (xs:List (Pt×Pt)) (k:Nat),(CC q cl p m k xs).length=xs.length:=fun m xs=>by
   induction xs with
   |nil=>exact fun V=>rfl
   |cons _ _ ih=>exact fun k=>congrArg (· +1) (ih (k+1))
  exact this _ _ _
 refine rr (nil_append ..) ?_
 unfold Jj
 generalize CC q cl p es.length 0 es=A at lp⊢
 have tail:∀B:List (Option Bool),B.length≤20→Ss O w U (scC 427) (n+4) ((AY 427).drop 3) (OY w es cl q p B []) (fun fl V=>flD fl=Cl (IA (B++(es.zip (Em cl es)).map fun x=>BA x.1 x.2 q p))):=by
  intro B hB
  have jl:((es.zip (Em cl es)).map fun x=>BA x.1 x.2 q p).length≤10:=by refine rr (length_map ..) (rr length_zip ?_);exact le_trans (min_le_left _ _) few
  have zl:(es.zip (Em cl es)).length≤10:=by refine rr length_zip ?_;exact le_trans (min_le_left _ _) few
  have dr:(es.map AC).drop 1=(es.drop 1).map AC:=(map_drop ..).symm
  have tk:(es.map AC).take 1=(es.take 1).map AC:=(map_take ..).symm
  have hz:(es.map AC).length≤sizeLine:=by refine rr (length_map ..) ?_;exact le_trans few (by decide)
  have fin:∀L:List Dat,L=(Em cl es).map AC→Bv O w U (scC 427) (n+4) (AG (coX [3])) (Cr (coX [3])) (FL O w U (scC 427) (n+4) ((AY 427).drop 4) fun fl V=>flD fl=Cl (IA (B++(es.zip (Em cl es)).map fun x=>BA x.1 x.2 q p))) (FO (es.map AC) L) (OY w es cl q p B []):=by
   rintro _ rfl
   refine rr (Rs ..) ?_
   refine db S hp C Av _ B (fun V h=>h) (by exact Gu hB zl) ?_
   have y:=aF (w:=w) (n:=n+3) S (l:=B++(es.zip (Em cl es)).map fun x=>BA x.1 x.2 q p)
   generalize B++(es.zip (Em cl es)).map (fun x=>BA x.1 x.2 q p)=R at y⊢
   exact AO S (os:=[.val (Cl (IA R))]) rfl obs rfl
  cases cl with
  |false=>
   have sz:((es.map AC).drop 1).length+([]:List Dat).length≤sizeLine:=by
    refine rr length_drop ?_;exact le_trans (sub_le _ _) hz
   refine Nw S [.br false] rfl obs (fin _ ?_) (glb P (by kernel_rfl) (by kernel_rfl)) rfl rfl
   unfold Em
   refine rr map_append (rl dr ?_);rfl
  |true=>
   have sz:((es.map AC).drop 1).length+((es.map AC).take 1).length≤sizeLine:=by
    refine rr length_drop (rr length_take ?_);exact le_trans (show _≤(es.map AC).length+1 by grind) (by refine rr (length_map ..) ?_;exact le_trans (Nat.add_le_add_right few 1) (by decide))
   refine Nw S [.br true] rfl obs (fin _ ?_) (glb P (by kernel_rfl) (by kernel_rfl)) rfl rfl
   unfold Em
   refine rr map_append (rl dr ?_);refine rr (if_pos rfl) (rl tk ?_);rfl
 by_cases c1:q.cap=1
 ·have k1:=decide_eq_true c1
  cases cl with
  |false=>
   obtain⟨e0,es0,rfl⟩:∃e es0,es=e::es0:=by
    cases es with
    |nil=>exact absurd rfl C.ne
    |cons e es=>exact⟨e,es,rfl⟩
   obtain⟨el,hel⟩:∃el,(e0::es0).getLast?=some el:=⟨_,List.getLast?_cons⟩
   have eA:Dr q false p (e0::es0)=[AZ e0.1 q.half p,AZ el.2 q.half p]:=by
    unfold Dr;refine rr (if_pos ⟨c1,rfl⟩) (rr hel ?_);rfl
   refine rr eA ?_;rewrite[List.append_cons A];refine rr (show A++[AZ e0.1 q.half p]++[AZ el.2 q.half p]=A++[AZ e0.1 q.half p]++[AZ el.2 q.half p]from rfl) ?_
   have ml:el∈e0::es0:=List.mem_of_getLast? hel
   have y1:=Ft (w:=w) (n:=n+2) S ((C.bd e0 (.head _)).1.up (l:=64)) hp64 hh64
   have y2:=Ft (w:=w) (n:=n+2) S ((C.bd el ml).2.1.up (l:=64)) hp64 hh64
   have i1:AK ((e0::es0).map AC) 0=some (AC e0):=JL
   have i2:AK ((e0::es0).map AC) (-1)=some (AC el):=by
    obtain⟨ys,hys⟩:=List.getLast?_eq_some_iff.mp hel
    refine rr hys (rr map_append ?_);exact DT
   have z1:(A.map Cl).length+1≤sizeLine:=le_trans (show _≤16777216 by refine rr (length_map ..) (rr lp ?_);exact Ay few) szl
   have z2:(A.map Cl++[Cl (AZ e0.1 q.half p)]).length+1≤sizeLine:=le_trans (show _≤16777216 by refine rr length_append (rr (length_map ..) ?_);refine rr lp (rr length_singleton ?_);exact Ay few) szl
   have tail:=tail (A++[AZ e0.1 q.half p]++[AZ el.2 q.half p]) (by simp only[length_append,length_singleton];exact Gu few (Nat.le_of_eq lp))
   unfold OY at tail
   rw[map_append,map_append]at tail
   generalize AZ e0.1 q.half p=r1 at*
   generalize AZ el.2 q.half p=r2 at*
   exact Ax S 1 [] [.br true,.br true,.br true,.val (AC e0),.val (Cl r1),.val (AC el),.val (Cl r2)] rfl obs tail
  |true=>
   have eA:Dr q true p es=[]:=if_neg fun h=>Bool.noConfusion h.2
   refine rr eA (rr (append_nil ..) ?_)
   exact Ax S 1 [] [.br true,.br false,.br false] rfl obs (tail A (by exact Gu few (Nat.le_of_eq lp)))
 ·have k1:=decide_eq_false c1
  have eA:Dr q cl p es=[]:=if_neg fun h=>c1 h.1
  refine rr eA (rr (append_nil ..) ?_)
  exact Ax S 1 [] [.br false,.br false] rfl obs (tail A (by exact Gu few (Nat.le_of_eq lp)))
noncomputable def Vv(k:Int)(ds:List Dat):List Dat:=(replicate k.toNat ds).flatten
theorem FzL.rep(h:FzL g vs ds):∀k:Nat,FzL g (replicate k vs).flatten (replicate k ds).flatten:=by
 intro k
 induction k with
 |zero=>exact .nil
 |succ k ih=>refine rr replicate_succ (rr replicate_succ ?_);refine rr List.flatten_cons (rr List.flatten_cons ?_);exact h.append ih
theorem aS{l:Expr}{Q:EV→St→Prop}(h:Ev O w U sc n l st fun a st1=>Ev O w U sc n e2 st1 fun b st2=>∃ds k,rd st2 a=some (.list ds)∧rd st2 b=some (.int k)∧0≤k∧k≤1000∧ds.length≤1000∧Q (.dat (.list (Vv k ds))) st2):
 Ev O w U sc n (.BinOp l .Mult e2 pos) st Q:=by
 intro A Y R as s hR hE r
 refine wpAny_BinOp (IR hR hE r h ?_)
 rintro u v a b st2 as2 h2 t2 e hlt r2 x1 x2 ⟨ds,k,ex,ey,k0,k1,dl,q⟩
 refine wpAny_mono ?_ (fun V V p=>PE.after (t1:=t2) e p) fun V V x=>x
 refine Now.listP (r2.now x1 ex) Bu fun l vs m ho f=>?_
 refine Now.intP (r2.now x2 ey) fun t=>?_
 have hl:vs.toArray.size≤1000:=by refine rr size_toArray (rr f.length ?_);exact dl
 have hm:vs.toArray.size*k.toNat≤1000*1000:=Nat.mul_le_mul hl (by lia)
 refine wpAny_binaryOp_repeat_ref (s:={s with heap:=h2,toks:=t2}) (T:="list") (U:="int") (by decide) ⟨_,ho,rfl⟩ (fun s'=>typeIs_int s' k t) noFill_list_mul F.fills_int_mul F.slot_int_rmul repeat_list F.slot_int_index.lookup ?_
 refine call_meets F.slot_int_rmul (typeIs_int _ k t) F.entry_int_rmul (F.args_int_rmul_2 _ _) (lm_int_rmul_list_any k t l vs.toArray m none #[]) ⟨ho,rfl,⟨_,ho,rfl⟩,?_⟩
 refine call_meets F.slot_list_mul ⟨_,ho,rfl⟩ F.entry_list_mul (F.args_list_mul_2 _ _) (lm_list_mul_any l vs.toArray m none #[] k t (by simp[Builtin.List.listFitsIndex];exact⟨Af k0,Af k1⟩) (by lia) (by simp[Builtin.List.listTooLong,sizeLine]at hm⊢;exact Ay hm)) ⟨ho,?_⟩
 refine rr (listMul_foldl_if ..) ?_
 exact PE.grown (t1:=t2) r2 rfl (fun b o e=>get?_push_of_some _ e) (.list (Gw r2 hlt rfl) ((f.rep k.toNat).mono (EO _))) q
theorem Rel.stored(r:Rel U R Y st as h)(S:Ex Y x v h h')(nx:∀a,(x,a)∉st):Rel U R Y st as h'∧∀b o,vis R as h b o→vis R as h' b o:=by
 obtain⟨val,cs,hr,hd⟩:=r.1;have hn:=r.2;have hsep:=r.3;have hl:=r.4;have hc:=r.5;have hi:=r.8;have hb:=r.9
 have kp:∀b o,b∉R→h.get? b=some o→h'.get? b=some o:=fun b o hR e=>S.keep b o (fun q=>hR (q▸hl)) (fun y V q=>hR (hc y b q)) e
 have kv:∀b o,vis R as h b o→vis R as h' b o:=by rintro b o ⟨p,q,e⟩;exact⟨p,q,kp b o p e⟩
 exact⟨⟨⟨val,cs,fun y a hy=>(by obtain⟨p,q,z⟩:=hr y a hy;exact⟨S.other y _ (fun e=>nx a (e▸hy)) p,q.mono kv fun b hb o e=>kp b o (fun q=>hsep b q (z b hb)) e,z⟩),hd⟩,hn,hsep,hl,hc,S.locs,S.cels,fun b hb=>(by obtain⟨o,e⟩:=hi b hb;exact S.live b o e),fun b o e=>kv b o (hb b o e)⟩,kv⟩
theorem Rel.withRow(r:Rel U R Y st as h)(hv:AB h Y x v)(f:Fz (vis R as h) v d)(nx:∀a,(x,a)∉st):Rel U R Y ((x,.dat d)::st) as h:=by
 obtain⟨val,cs,hr,hd⟩:=r.rows
 have ne:∀{y a},(y,a)∈st→y≠x:=fun{y a} m e=>nx a (e▸m)
 refine⟨⟨fun y=>if y=x then v else val y,fun y=>if y=x then[]else cs y,fun y a hy=>?_,fun y a z b hy hz hne c hcy=>?_⟩,nodup_cons.mpr ⟨fun q=>?_,r.names⟩,r.sep,r.locR,r.celR,r.locs,r.cels,r.inb,r.base⟩
 ·dsimp only
  rcases mem_cons.mp hy with e|hy
  ·cases e;refine rr (if_pos rfl) (rr (if_pos rfl) ?_);exact⟨hv,.dat f,fun b hb=>nomatch hb⟩
  ·refine rr (if_neg (ne hy)) (rr (if_neg (ne hy)) ?_);exact hr y a hy
 ·dsimp only at hcy⊢
  rcases mem_cons.mp hy with e|hy
  ·cases e;rw[if_pos rfl]at hcy;cases hcy
  ·rw[if_neg (ne hy)]at hcy
   rcases mem_cons.mp hz with e|hz
   ·cases e;refine rr (if_pos rfl) ?_;exact fun q=>nomatch q
   ·refine rr (if_neg (ne hz)) ?_;exact hd y a z b hy hz hne c hcy
 ·obtain⟨⟨y,a⟩,m,e⟩:=mem_map.mp q
  obtain rfl:y=x:=e
  exact nx a m
noncomputable def XM(i1 i2 i3 i4:Int)(k1 k2 k3 k4:Str):List (Str×Int):=[(k1,i1),(k2,i2),(k3,i3),(k4,i4)]
noncomputable def XN(v1 v2 v3 v4:Value)(k1 k2 k3 k4:Str):List (Str×Value):=[(k1,v1),(k2,v2),(k3,v3),(k4,v4)]
theorem Um{k:Str}{i:Int}:∀l:List (Str×Int×Tok),(l.map fun x=>(x.1,x.2.1)).lookup k=some i→∃t,valueAt (l.map fun x=>(x.1,Value.int x.2.1 x.2.2)) k=some (.int i t):=by
 intro l
 induction l with
 |nil=>intro h;cases h
 |cons x l ih=>
  intro h
  rw[map_cons,lookup_cons]at h
  show∃t,((((x.1,Value.int x.2.1 x.2.2)::l.map fun x=>(x.1,Value.int x.2.1 x.2.2)).find? fun kv=>kv.1=k).map (·.2))=some (.int i t)
  by_cases c:x.1=k
  ·refine rr (List.find?_cons) ?_;dsimp only;refine rr (decide_eq_true c) ?_
   rw[beq_iff_eq.mpr c.symm]at h
   cases h
   exact⟨_,rfl⟩
  ·refine rr (List.find?_cons) ?_;dsimp only;refine rr (decide_eq_false c) ?_
   rw[beq_eq_false_iff_ne.mpr (Ne.symm c)]at h
   exact ih h
theorem XO{D:Addr}{i1 i2 i3 i4:Int}{t1 t2 t3 t4:Tok}{k1 k2 k3 k4:Str}(hd:h.DictOf (strKind O w) D (XN (.int i1 t1) (.int i2 t2) (.int i3 t3) (.int i4 t4) k1 k2 k3 k4))(hg:∀o,h.get? D=some o→g D o):Fz g (.ref D) (.dict w (XM i1 i2 i3 i4 k1 k2 k3 k4)):=by
 obtain⟨o,es,ep,ho,hx,hdt,hk,hf⟩:=hd.mapOf
 refine .dict (hg o ho) hx hdt hk fun k i e=>?_
 obtain⟨t,ht⟩:=Um [(k1,i1,t1),(k2,i2,t2),(k3,i3,t3),(k4,i4,t4)] e
 exact⟨t,(hf k).trans ht⟩
theorem GN(a b c:Str×Value):(merged ([]:List (Str×Value)) [a,b,c]).length≤3:=by
 have h1:=stored_length_le ([]:List (Str×Value)) a.1 a.2
 have h2:=stored_length_le (stored [] a.1 a.2) b.1 b.2
 have h3:=stored_length_le (stored (stored [] a.1 a.2) b.1 b.2) c.1 c.2
 show(stored (stored (stored [] a.1 a.2) b.1 b.2) c.1 c.2).length≤3
 rw[length_nil]at h1
 exact YY h1 h2 h3
theorem no4{y1 y2 y3 y4:Str}(nd:[y1,y2,y3,y4].Nodup)(v1 v2 v3 v4:Value):stored (merged [] [(y1,v1),(y2,v2),(y3,v3)]) y4 v4=XN v1 v2 v3 v4 y1 y2 y3 y4:=by
 simp only[nodup_cons,mem_cons,not_mem_nil,or_false,not_or]at nd
 obtain⟨⟨n12,n13,n14⟩,⟨n23,n24⟩,n34,_⟩:=nd
 simp[merged,stored,XN,n12,n13,n14,n23,n24,n34]
abbrev EvI(O:Program)(w:World)(U:Heap)(sc:Scope)(n:Nat)(e:Expr)(st:St)(Q:Int→St→Prop):Prop:=Ev O w U sc n e st fun a s1=>∃i,rd s1 a=some (.int i)∧Q i s1
section
variable{as3:List Addr}{D:Addr}{H:Heap}
theorem EvI.go{Q:Int→St→Prop}{P:Value→Shared→Prop}(x:EvI O w U sc n e st Q)(hR:CG A n)(hE:AN sc Y)(r:Rel U R Y st as s.heap)
 (k:∀i t st' as' h' tk',Ai as s.heap as' h'→Rel U R Y st' as' h'→Q i st'→P (.int i t) {s with heap:=h',toks:=tk'}):wpAny (model O w) A (eval e Y) P E s:=
 Ev.go x hR hE r fun V V st' as' h' tk' z r v q=>by obtain⟨i,ei,q⟩:=q;exact Now.intP (r.now v ei) fun t=>k i t st' as' h' tk' z r q
noncomputable def prI(Y:Env)(k:Str)(c:Nat)(p dp:Pos)(e:Expr):Sem Value×Sem Value:=(eval (.Constant (.str k) c p) Y,do let x←eval e Y;standAt dp;pure x)
theorem XP{k:Str}{c:Nat}{p dp:Pos}{Q:Int→St→Prop}{ps:List (Sem Value×Sem Value)}{K:List (Value×Value)→Shared→Prop}(x:EvI O w U sc n e st Q)(hR:CG A n)(hE:AN sc Y)(r:Rel U R Y st as s.heap)
 (kk:∀i t u st' as' h' tk',Ai as s.heap as' h'→Rel U R Y st' as' h'→Q i st'→wpAny (model O w) A (evalPairs ps) (fun vs s3=>K ((.str k u,.int i t)::vs) s3) E {s with heap:=h',toks:=tk'}):wpAny (model O w) A (evalPairs (prI Y k c p dp e::ps)) K E s:=
 evalPairs_cons (wpAny_Constant_str (wpAny_bind (x.go (s:={s with toks:=s.toks+1}) hR hE r fun i t st' as' h' tk' z r q=>wpAny_bind (wpAny_standAt (wpAny_pure (kk i t _ st' as' h' tk' z r q))))))
structure Hl(U:Heap)(R:List Addr)(Y:Env)(st:St)(as:List Addr)(h:Heap)(D:Addr)(as':List Addr)(H:Heap):Prop where
 r:Rel U ([D]++R) Y st as' H
 n:h.get? D=none
 l:Y.locals∈R
 c:∀x c,Y.cells.lookup x=some c→c∈R
 o:D∉R
 st:Bc Y as h as' H
theorem Hl.nl(N:Hl U R Y st as h D as' H):Y.locals∉[D]:=fun q=>N.o (At q▸N.l)
theorem Hl.nc(N:Hl U R Y st as h D as' H):∀x c,Y.cells.lookup x=some c→c∉[D]:=fun x c e q=>N.o (At q▸N.c x c e)
theorem Hl.ev(N:Hl U R Y st as h D as' H)(z:Ai as' H as3 h1)(r:Rel U ([D]++R) Y st' as3 h1):Hl U R Y st' as h D as3 h1:=⟨r,N.n,N.l,N.c,N.o,N.st.trans z.toS⟩
theorem Hl.keep(N:Hl U R Y st as h D as' H)(k:∀b o,b∉[D]→H.get? b=some o→h1.get? b=some o)(hv:AB H Y x v):AB h1 Y x v:=
 hv.keep fun b o hb e=>k b o (fun q=>hb.elim (fun z=>N.nl (z▸q)) (by rintro⟨x,z⟩;exact N.nc x b z q)) e
theorem Hl.poke(N:Hl U R Y st as h D as' H)(k:∀b o,b∉[D]→H.get? b=some o→h1.get? b=some o)(al:∃o,h1.get? D=some o):Hl U R Y st as h D as' h1:=
 have al':∀b∈[D],∃o,h1.get? b=some o:=fun V hb=>At hb▸al
 ⟨(N.r.poke (fun b hb=>mem_append_left _ hb) N.nl N.nc k al').1,N.n,N.l,N.c,N.o,
  ⟨fun b o n1 n2 n3 e=>k b o (fun q=>by rw[At q,N.n]at e;cases e) (N.st.keep b o n1 n2 n3 e),N.st.fresh,N.st.live.trans fun b o e=>by
   by_cases q:b∈[D]
   ·exact al' b q
   ·exact⟨o,k b o q e⟩,fun F x v hp hv=>N.keep k (N.st.pin F x v hp hv)⟩⟩
theorem Hl.dict(d:h1.DictOf (strKind O w) D kvs)(k:∀o,h1.get? D=some o→h2.get? D=some o):h2.DictOf (strKind O w) D kvs:=by
 obtain⟨o,es,ep,ho,hx⟩:=d
 exact⟨o,es,ep,k o ho,hx⟩
theorem Rt(d:h1.DictOf (strKind O w) D kvs):∃o,h1.get? D=some o:=by
 obtain⟨o,_,_,ho,_⟩:=d
 exact⟨o,ho⟩
theorem Hl.make(r:Rel U R Y st as h):∃as',Hl U R Y st as h h.objs.size as' (h.push {cls:=.type "dict",data:=.dict #[]}):=
 r.trimP fun as0 sub hlt r=>⟨as0,(r.laid (cs:=[h.objs.size]) (fun b o e=>get?_push_of_some _ e) (fun b hb=>At hb▸⟨AH _ (le_refl _),_,get?_push_size _ rfl⟩) hlt).1,AH _ (le_refl _),r.locR,r.celR,fun q=>Bf (AH _ (le_refl _)) (r.inb _ q),((Ai.less sub).trans (Ai.grow as0 fun b o e=>get?_push_of_some _ e)).toS⟩
theorem Hl.offs(N:Hl U R Y st as h D as' H)(z:Ai as' H as3 h1):∀o,H.get? D=some o→h1.get? D=some o:=fun o e=>z.keep D o (N.r.sep D (.head _)) e
section
variable{k1 k2 k3 k4:Str}{e3 e4:Expr}{p1 p3 dp:Pos}{c1 c2 c3:Nat}{Q3:Int→Int→Int→St→Prop}
theorem Ru{Q:Value→Shared→Prop}(N:Hl U R Y st as h D as' s.heap)(d:s.heap.DictOf (strKind O w) D [])(x:EvI O w U sc n e1 st fun i1 s1=>EvI O w U sc n e2 s1 fun i2 s2=>EvI O w U sc n e3 s2 fun i3 s3=>Q3 i1 i2 i3 s3)(hR:CG A n)(hE:AN sc Y)
 (k:∀i1 i2 i3 t1 t2 t3 st3 as3 h4 tk4,Hl U R Y st3 as h D as3 h4→h4.DictOf (strKind O w) D (merged [] [(k1,.int i1 t1),(k2,.int i2 t2),(k3,.int i3 t3)])→Q3 i1 i2 i3 st3→Q (.ref D) {s with heap:=h4,toks:=tk4}):
 wpAny (model O w) A (evalPairs [prI Y k1 c1 p1 dp e1,prI Y k2 c2 p2 dp e2,prI Y k3 c3 p3 dp e3]) (fun vs s₁=>∃kvs,Carries (strKind O w) vs kvs∧s₁.heap.DictOf (strKind O w) D []∧∀h',h'.DictOf (strKind O w) D (merged [] kvs)→Heap.SameBut D s₁.heap h'→Q (.ref D) {s₁ with heap:=h',toks:=s₁.toks+vs.length}) E s:=by
 refine XP x hR hE N.r fun i1 t1 u1 st1 as1 h1 tk1 z1 r1 q1=>?_
 refine XP (s:={s with heap:=h1,toks:=tk1}) q1 hR hE r1 fun i2 t2 u2 st2 as2 h2 tk2 z2 r2 q2=>?_
 refine XP (s:={s with heap:=h2,toks:=tk2}) q2 hR hE r2 fun i3 t3 u3 st3 as3 h3 tk3 z3 r3 q3=>?_
 have z:=(z1.trans z2).trans z3
 exact evalPairs_nil ⟨[(k1,.int i1 t1),(k2,.int i2 t2),(k3,.int i3 t3)],⟨strKind_is O w k1 u1,rfl,strKind_is O w k2 u2,rfl,strKind_is O w k3 u3,rfl,trivial⟩,Hl.dict d (N.offs z),fun h4 d4 sb=>k i1 i2 i3 t1 t2 t3 st3 as3 h4 _ ((N.ev z r3).poke (Ez sb) (Rt d4)) d4 q3⟩
theorem Un{K:Unit→Shared→Prop}{i1 i2 i3 i4:Int}{t1 t2 t3 t4:Tok}(N:Hl U R Y st' as h D as' s.heap)(v:AB s.heap Y y (.ref D))(d:s.heap.DictOf (strKind O w) D (merged [] [(k1,.int i1 t1),(k2,.int i2 t2),(k3,.int i3 t3)]))(nd:[k1,k2,k3,k4].Nodup)(ny:∀a,(y,a)∉st')
 (k:∀h7 tk7,Bc Y as h as' h7→Rel U R Y ((y,.dat (.dict w (XM i1 i2 i3 i4 k1 k2 k3 k4)))::st') as' h7→K () {s with heap:=h7,toks:=tk7}) {u:Tok}:wpAny (model O w) A (setItem (.ref D) (.str k4 u) (.int i4 t4)) K E s:=by
 refine wpAny_setItem_pairs (strKind_is O w k4 _) d (fun h7 D7 S7=>?_) (le_trans (GN _ _ _) (by decide))
 rw[no4 nd]at D7
 have N7:=N.poke (Ez S7) (Rt D7)
 exact k h7 _ N7.st ((N7.r.shrink (fun b hb=>mem_append_right _ hb) N.l N.c).withRow (N.keep (Ez S7) v) (XO D7 fun o e=>⟨N.o,N7.r.sep D (.head _),e⟩) ny)
end
end
theorem XQ{k1 k2 k3 k4:Str}{e3 e4:Expr}{p p1 p3 p4 py dp NU:Pos}{c1 c2 c3 c4:Nat}
 (h:EvI O w U sc n e1 st fun i1 s1=>EvI O w U sc n e2 s1 fun i2 s2=>EvI O w U sc n e3 s2 fun i3 s3=>(∀a,(y,a)∉s3)∧
  EvI O w U sc n e4 s3 fun i4 s4=>(∀a,(y,a)∉s4)∧Ss O w U sc n rest ((y,.dat (.dict w (XM i1 i2 i3 i4 k1 k2 k3 k4)))::s4) Q)
 (hy:BD sc y=true) (nd:[k1,k2,k3,k4].Nodup) (hd:(y==("__debug__":Str))=false) (hc:(y==("__classdict__":Str))=false)
 (hw1:∀Y,swapsWith (.Dict [some (.Constant (.str k1) c1 p1),some (.Constant (.str k2) c2 p2),some (.Constant (.str k3) c3 p3)] [e1,e2,e3] dp) (some (.Name y p)) pos.line Y=pure false)
 (hw2:∀Y,swapsWith e4 (some (.Subscript (.Name y py) (.Constant (.str k4) c4 p4) tp)) NU.line Y=pure false):
 Ss O w U sc n (.Assign [.Name y p] (.Dict [some (.Constant (.str k1) c1 p1),some (.Constant (.str k2) c2 p2),some (.Constant (.str k3) c3 p3)] [e1,e2,e3] dp) pos:: .Assign [.Subscript (.Name y py) (.Constant (.str k4) c4 p4) tp] e4 NU::rest) st Q:=by
 intro A Y R as s hR hE r
 obtain⟨as0,N⟩:=Hl.make r
 refine wpAny_execs_cons (wpAny_Assign_Name (wpAny_Dict_pairs (knd:=strKind O w) (pairs:=[prI Y k1 c1 p1 dp e1,prI Y k2 c2 p2 dp e2,prI Y k3 c3 p3 dp e3]) rfl (cons_ne_nil _ _) (show 3≤15 by decide) ?_) (hw1 Y))
 refine Ru (Q:=fun v s=>wpAny (model O w) A (storeName Y y v) _ _ s) (s:={s with heap:=s.heap.push {cls:=.type "dict",data:=.dict #[]}}) N (Heap.DictOf.new s.heap) h hR hE fun i1 i2 i3 t1 t2 t3 st3 as3 h4 tk4 N4 d4 q3=>?_
 refine Jx hE hy N4.r.locs N4.r.cels (fun e=>hE.has y (.inl e)) fun h5 tk5 S5=>?_
 have N5:Hl U R Y st3 as s.heap s.heap.objs.size as3 h5:=⟨(N4.r.stored S5 q3.1).1,N4.n,N4.l,N4.c,N4.o,N4.st.trans ⟨fun b o n1 n2 V e=>S5.keep b o n1 n2 e,fun b h=>.inl h,S5.live,fun V z v hp hv=>S5.pin hp hv⟩⟩
 have d5:=Hl.dict d4 fun o e=>S5.keep _ o (fun q=>N4.nl (q▸ .head _)) (fun x V q=>N4.nc x _ q (.head _)) e
 refine wpAny_execs_cons (wpAny_Assign_Subscript (EvI.go (s:={s with heap:=h5,toks:=tk5}) q3.2 hR hE N5.r fun i4 t4 st4 as4 h6 tk6 E6 r7 q4=>?_) (hw2 Y))
 have N6:=N5.ev E6 r7
 have v6:AB h6 Y y (.ref s.heap.objs.size):=S5.var.keep fun b o hb e=>E6.keep b o (N5.r.sep b (mem_append_right _ (hb.elim (fun q=>q▸N.l) (by rintro⟨z,q⟩;exact N.c z b q)))) e
 exact CZ (s:={s with heap:=h6,toks:=tk6}) hE v6 (wpAny_Constant_str (Un (s:={s with heap:=h6,toks:=tk6+1}) N6 v6 (Hl.dict d5 (N5.offs E6)) nd q4.1 fun h7 tk7 SS r10=>
  wpAny_mono (q4.2 A Y R as4 {s with heap:=h7,toks:=tk7} hR hE r10) (fun V V p=>PX.after SS p) fun V V x=>x)) hd hc
structure LwB where
 (ns nums:List Int) (pts:List Pt) (cl:Bool) (ends:List Pt) (lines:List (Pt×Pt)) (units:Int) (q:Fv) (s:Mx) (rows:List Dat) (mx:AF) (found:List Dat) (edges:List (Pt×Pt))
noncomputable def spD(s:Mx):Dat:=.list [.int s.a,.int s.b,.int s.c,.int s.d,.int s.e,.int s.f]
noncomputable def Ic(w:World)(a:LwB)(tl:St):St:=("pen",.dat (aR w a.q))::tl
noncomputable def BC(a:LwB)(t:EW)(tl:St):St:=("script",.dat (.list (a.ns.map .int)))::("numbers",.dat (.list (a.nums.map .int)))::("deck",Bp t)::tl
noncomputable def Ba(a:LwB)(tl:St):St:=("points",.dat (.list (a.pts.map pD)))::("is_closed",.dat (.bool a.cl))::tl
noncomputable def BR(a:LwB)(tl:St):St:=("ends",.dat (.list (a.ends.map pD)))::("lines",.dat (.list (a.lines.map AC)))::("units",.dat (.int a.units))::tl
noncomputable def aT(a:LwB)(tl:St):St:=("space",.dat (spD a.s))::("rows",.dat (.list a.rows))::("matrix",a.mx)::("found",.dat (.list a.found))::("edges",.dat (.list (a.edges.map AC)))::tl
noncomputable def Uo(w:World)(a:LwB)(t:EW)(tl:St):St:=Ic w a (BC a t (Ba a (BR a (aT a tl))))
noncomputable def lwX(k:List Nat):Stmt:=KC (AY 458) k
abbrev LwP(O:Program)(w:World)(U:Heap)(P:KF)(n k:Nat)(st:St):Prop:=Ss O w U (scC 458) (n+12) ((AY 458).drop k) st (fun fl V=>flD fl=.bool true)
def MG(a:LwB)(p:Pt):Prop:=∀due,Jj a.q a.cl p a.lines=some due→decide ((a.edges.map (AS (Dj a.s p))).sum≠0)=due
structure aU(a:LwB):Prop where
 cov:Uk a.q a.cl a.lines
 sp:Bd 64 a.s.a∧Bd 64 a.s.b∧Bd 64 a.s.c∧Bd 64 a.s.d∧Bd 64 a.s.e∧Bd 64 a.s.f
 pts:a.pts≠[]∧a.pts.length≤10∧∀p∈a.pts,BdP 10 p
 edges:∀e∈a.edges,BdP 400 e.1∧BdP 400 e.2
 place:∀m∈a.pts,∀x y:Int,-30≤x→x≤30→ -30≤y→y≤30→MG a (m.1+x,m.2+y)
theorem Up(a b:Bool):deq (.bool a) (.bool b)=(a==b):=by cases a<;>cases b<;>rfl
theorem Uq(k:Int):Ce .NotEq (.int k) (.int 0)=decide (k≠0):=by
 show(!deq (.int k) (.int 0))=_
 refine rr (Ni ..) ?_;by_cases h:k=0<;>simp[h]
theorem XR(S:Ao O P.K U){a:LwB}(E:aU a)(F:AT Q)(q:∀t,Q .next (Uo w a t [])):∀(is:List Int) (t:EW),Cj t→Bv O w U (scC 458) (n+12) (AG (lwX [15])) (Cr (lwX [15])) Q (is.map .int) (Uo w a t []):=by
 intro is
 induction is with
 |nil=>exact fun t V=>q t
 |cons i is ih=>
  intro t ht
  have p0:=E.pts.1;have pl:=E.pts.2.1;have pb:=E.pts.2.2
  have lp:0<a.pts.length:=List.length_pos_iff.mpr p0
  have d1:=Eg (w:=w) (n:=n+11) S ht (many:=a.pts.length) (by lia)
  have d2:=Eg (w:=w) (n:=n+11) S (Ca ht) (many:=61) (by decide)
  have d3:=Eg (w:=w) (n:=n+11) S (Ca (Ca ht)) (many:=61) (by decide)
  have r1:=CN (t:=t) (many:=a.pts.length) (by lia)
  have r2:=CN (t:=dkT t) (many:=61) (by decide)
  have r3:=CN (t:=dkT (dkT t)) (many:=61) (by decide)
  have k3:=Ca (Ca (Ca ht))
  generalize dkV t a.pts.length=j at d1 r1
  generalize dkV (dkT t) 61=x at d2 r2
  generalize dkV (dkT (dkT t)) 61=y at d3 r3
  obtain⟨k,rfl⟩:=Int.eq_ofNat_of_zero_le r1.1
  have hk:k<a.pts.length:=by lia
  obtain⟨m,hm⟩:∃m,a.pts[k]?=some m:=⟨_,List.getElem?_eq_getElem hk⟩
  have it:AK (a.pts.map pD) (k:Int)=some (pD m):=GD (by refine rr (getElem?_map) (rr hm ?_);rfl)
  have lm:(a.pts.map pD).length<2^62:=by refine rr (length_map ..) ?_;exact lt_of_le_of_lt pl (by decide)
  have mm:=List.mem_of_getElem? hm
  have bm:=pb m mm
  have d1:FnL O w U (n+12) 329 (Bp t) [.int (a.pts.map pD).length] (fun d v=>d=.int k∧v=Bp (dkT t)):=by refine rr (length_map ..) ?_;exact d1
  have bp:BdP 18 (m.1+x-30,m.2+y-30):=by
   have bx:Bd 10 x:=.of (b:=61) (by lia) (by lia)
   have bY:Bd 10 y:=.of (b:=61) (by lia) (by lia)
   have b30:Bd 10 (30:Int):=.of (b:=30) (by decide) (by decide)
   exact⟨Bd.up (Bd.sub (Bd.add bm.1 bx) b30),Bd.up (Bd.sub (Bd.add bm.2 bY) b30)⟩
  have c1:=Ul (w:=w) (n:=n+7) S bp E.cov
  have l1:=XA (w:=w) (n:=n+11) S (s:=a.s) E.sp (bp.up (l:=64))
  have bl:BdP 400 (Dj a.s (m.1+x-30,m.2+y-30)):=by
   have sa:=E.sp.1;have sb:=E.sp.2.1;have sc:=E.sp.2.2.1;have sd:=E.sp.2.2.2.1;have se:=E.sp.2.2.2.2.1;have sf:=E.sp.2.2.2.2.2
   exact⟨Bd.up (Bd.add (Bd.add (Bd.mul sa (Bd.mul bp.1 (Bd.num (x:=100000)))) (Bd.mul sc (Bd.mul bp.2 (Bd.num (x:=100000))))) (Bd.mul (Bd.mul se (Bd.num (x:=10))) (Bd.num (x:=100000)))),
    Bd.up (Bd.add (Bd.add (Bd.mul sb (Bd.mul bp.1 (Bd.num (x:=100000)))) (Bd.mul sd (Bd.mul bp.2 (Bd.num (x:=100000))))) (Bd.mul (Bd.mul sf (Bd.num (x:=10))) (Bd.num (x:=100000))))⟩
  have w1:=XC (w:=w) (n:=n+10) S bl E.edges
  have po:MG a (m.1+x-30,m.2+y-30):=by
   have e1:m.1+x-30=m.1+(x-30):=by simp+arith only[*]
   have e2:m.2+y-30=m.2+(y-30):=by simp+arith only[*]
   refine rr e1 (rr e2 ?_)
   exact E.place m mm (x-30) (y-30) (by exact Af r2.1) (by exact Af r2.2) (by exact Af r3.1) (by exact Af r3.2)
  delta MG at po
  have ih:=ih (dkT (dkT (dkT t))) k3
  generalize dkT (dkT (dkT t))=t3 at d3 ih
  generalize dkT (dkT t)=t2 at d2 d3
  generalize dkT t=t1 at d1 d2
  generalize Jj a.q a.cl (m.1+x-30,m.2+y-30) a.lines=cv at c1 po
  generalize Dj a.s (m.1+x-30,m.2+y-30)=sp at l1 w1 po
  generalize(a.edges.map (AS sp)).sum=wd at w1 po
  cases cv with
  |none=>
   refine Aw S ["turn","middle","place","spot","due"] [.lent (.int k) (Bp t1),.val (pD m),.lent (.int x) (Bp t2),.lent (.int y) (Bp t3),.val (Cl none),.val (pD sp),.br false,.br false] ih rfl ?_ F
   repeat' first|exact obN|refine obA ?_|apply obC
   all_goals trivial
  |some due=>
   have po:Ce .NotEq (.bool (Ce .NotEq (.int wd) (.int 0))) (Cl (some due))=false:=by
    refine rr (Uq ..) (rr (po due rfl) ?_)
    show(!deq (.bool due) (.bool due))=false
    refine rr (Up ..) ?_;cases due<;>rfl
   refine Aw S ["turn","middle","place","spot","due"] [.lent (.int k) (Bp t1),.val (pD m),.lent (.int x) (Bp t2),.lent (.int y) (Bp t3),.val (Cl (some due)),.val (pD sp),.br true,.val (.int wd),.br false,.br false] ih rfl ?_ F
   repeat' first|exact obN|refine obA ?_|apply obC
   all_goals trivial
noncomputable def ptR:List Pt→List Row
 |[]=>[]
 |p::ps=>.m p::ps.map .l
theorem NK(d:Dat):∀k:Nat,Vv k [d]=replicate k d:=by
 intro k
 delta Vv
 refine rr (toNat_natCast ..) ?_
 induction k with
 |zero=>rfl
 |succ k ih=>refine rr replicate_succ (rr replicate_succ ?_);refine rr List.flatten_cons (rr ih ?_);rfl
theorem XS(d:Dat):∀(ys:List Dat) (k:Nat),ys.length≤k→FO (replicate k d) ys=ys.map fun y=>.tuple [d,y]:=by
 intro ys
 induction ys with
 |nil=>intro k _;unfold FO;refine rr List.zipWith_nil_right ?_;rfl
 |cons y ys ih=>
  intro k h
  cases k with
  |zero=>cases h
  |succ k=>
   have:=ih k (Nat.le_of_succ_le_succ h)
   unfold FO at this⊢
   refine rr replicate_succ ?_;refine rr List.zipWith_cons_cons (rr this ?_);rfl
noncomputable def rcE:Expr:=AG (lwX [9])
theorem XT(S:Ao O P.K U){s:Mx}(hs:Bd 64 s.a∧Bd 64 s.b∧Bd 64 s.c∧Bd 64 s.d∧Bd 64 s.e∧Bd 64 s.f){Q:List Dat→St→Prop}(F:∀acc s,Q acc (LV ["word","point"] s)→Q acc s):∀(ps:List Pt) (acc:List Dat),acc.length+ps.length≤100→(∀p∈ps,BdP 64 p)→Q (acc++(ps.map fun p=>Row.l (Dj s p)).map Be) [("space",.dat (spD s))]→
 Bm O w U (BL (OP rcE) (scC 458)) (n+12) (JZ rcE) (Ka rcE) (IH rcE) Q (ps.map fun p=>.tuple [.str "l",pD p]) acc [("space",.dat (spD s))]:=by
 intro ps
 induction ps with
 |nil=>intro acc _ _ q;exact(append_nil acc)▸q
 |cons p ps ih=>
  intro acc hl hp q
  rw[length_cons]at hl
  have d:=XA (w:=w) (n:=n+11) S hs (hp p (.head _))
  have z:[Dat.str "l"].length+[Dat.int (Dj s p).1,.int (Dj s p).2].length≤sizeLine:=show 3≤sizeLine by decide
  exact BY S ["word","point"] [.val (pD (Dj s p))] (ih (acc++[Be (.l (Dj s p))]) (by refine rr length_append (rr length_singleton ?_);exact Ay hl) (fun p h=>hp p (.tail _ h)) (by refine rr (append_assoc ..) ?_;exact q)) rfl (.cons z (.cons d .nil)) (le_trans (show _≤1000 by exact Ay hl) (by decide)) F
noncomputable def CV(a:LwB):List Row:=ptR (a.pts.map (Dj a.s))++if a.cl then[.z]else[]
noncomputable def mxR(s:Mx):Mx:=⟨s.a*10*100000,s.b*10*100000,s.c*10*100000,s.d*10*100000,s.e*10*100000,s.f*10*100000⟩
noncomputable def aV(a:LwB):CI:=⟨Co (20*a.units*100000),a.q.cap,a.q.join,a.q.limit,mxR a.s⟩
noncomputable def mxA(s:Mx):AF:=.lst [.int (mxR s).a,.int (mxR s).b,.int (mxR s).c,.int (mxR s).d,.int (mxR s).e,.int (mxR s).f]
noncomputable def Gj(a:LwB):List Row:=(Rh (aV a) (CV a)).flatMap (Ak (aV a))
noncomputable def aW(a:LwB):List (Pt×Pt):=AE (Gj a) (0,0) (0,0)
noncomputable def Rv(a:LwB):LwB:={a with rows:=(CV a).map Be,mx:=mxA a.s,found:=(Gj a).map Be,edges:=aW a}
structure GO(a:LwB):Prop where
 sq:cp (CV a) (mxR a.s)
 wf:DI (Gj a) false
 few:(Gj a).length≤2900
 fin:aU (Rv a)
 units:1≤a.units∧a.units≤2
 cap:a.q.cap=0∨a.q.cap=1∨a.q.cap=2
 join:a.q.join=0∨a.q.join=1∨a.q.join=2
 lim:1000000≤a.q.limit∧a.q.limit≤10000000
noncomputable def lw9(w:World)(a:LwB)(t:EW)(tl:St):St:=Ic w a (BC a t (Ba a (BR a (("space",.dat (spD a.s))::tl))))
theorem dc(S:Ao O P.K U){a:LwB}(X:GO a){t:EW}(ht:Cj t):LwP O w U P n 13 (lw9 w (Rv a) t [("rows",.dat (.list (Rv a).rows)),("matrix",(Rv a).mx),("found",.dat (.list (Rv a).found))]):=by
 have d:=XK (w:=w) (n:=n+11) S X.wf X.few
 have d:FnP O w U (n+12) 439 [.list (Rv a).found] (fun d=>d=.list ((Rv a).edges.map AC)):=d
 have E:=X.fin
 generalize Rv a=b at*
 refine Ax (st':=Uo w b t []) S 2 [] [.val (.list (b.edges.map AC)),.br false] rfl ?_ ?_
 ·repeat' first|exact obN|refine obA ?_|apply obC
  all_goals trivial
 refine Bl (GX (HT (k:=6) S [] rfl .nil (by decide) (?_:Bv O w U (scC 458) (n+12) (AG (lwX [15])) (Cr (lwX [15])) _ _ (Uo w b t [])) (glb P (by kernel_rfl) (by kernel_rfl)) rfl rfl))
 have lp:=XR (w:=w) (n:=n) S E (Q:=FL O w U (scC 458) (n+12) ((AY 458).drop 16) fun fl V=>flD fl=.bool true) Av (fun t=>AO S (os:=[]) rfl .nil rfl) ((List.range 6).map fun i:Nat=>(i:Int)) t ht
 rw[map_map]at lp
 exact lp
theorem de(S:Ao O P.K U){a:LwB}(X:GO a){t:EW}(ht:Cj t):LwP O w U P n 10 (lw9 w a t [("rows",.lst ((ptR (a.pts.map (Dj a.s))).map Be))]):=by
 have nx:=dc (w:=w) (n:=n) S X ht
 have sz:((ptR (a.pts.map (Dj a.s))).map Be).length+([Row.z].map Be).length≤sizeLine:=by
  have:=X.sq.few
  unfold CV at this
  rw[length_append]at this
  (with_reducible refine rr (length_map ..) ?_)
  exact le_trans (show _≤1001 by show _+1≤1001;lia) (by decide)
 have sz0:((ptR (a.pts.map (Dj a.s))).map Be).length+([]:List Dat).length≤sizeLine:=le_trans (add_le_add_left (zero_le _) _) sz
 have mid:LwP O w U P n 11 (lw9 w a t [("rows",.dat (.list ((CV a).map Be)))]):=by
  have s1:=X.fin.sp.1;have s2:=X.fin.sp.2.1;have s3:=X.fin.sp.2.2.1;have s4:=X.fin.sp.2.2.2.1;have s5:=X.fin.sp.2.2.2.2.1;have s6:=X.fin.sp.2.2.2.2.2
  refine GI S [] [] rfl rfl .nil (DV S (acc:=[.int (mxR a.s).a,.int (mxR a.s).b,.int (mxR a.s).c,.int (mxR a.s).d,.int (mxR a.s).e,.int (mxR a.s).f]) [] rfl obs rfl ?_) (by kernel_rfl) (by kernel_rfl) (by kernel_rfl) (by intro Y h;cases Y;dsimp only at h;subst h;kernel_rfl)
  refine Ss.at (lw9 w a t [("rows",.dat (.list ((CV a).map Be))),("matrix",mxA a.s)]) ?_ (by kernel_rfl)
  have bu:Bd 20 a.units:=.of (b:=2) (by have:=X.units;lia) (by have:=X.units;lia)
  have bw:Bd 60 (20*a.units*100000):=by
   have h1:=X.units
   exact .of (b:=4000000) (by lia) (by lia)
  have d:=Ri (w:=w) (n:=n+3) S X.sq bw X.cap X.join X.lim.1 (.of (b:=10000000) (by have:=X.lim;lia) X.lim.2)
  have d:FnP O w U (n+12) 315 [.list ((CV a).map Be),.int (20*a.units*100000),.int a.q.cap,.int a.q.join,.int a.q.limit,.list [],.int 0,(mxR a.s).D] (fun r=>r=.list (Rv a).found):=d
  have m1:Am 20 a.units:=.of_left (by decide)
  have m2:Am (20*a.units) 100000:=.of_right (by decide)
  have zl:((CV a).map Be).length≤sizeLine:=by(with_reducible refine rr (length_map ..) ?_);exact le_trans X.sq.few (by decide)
  have nx:LwP O w U P n 13 (lw9 w a t [("rows",.dat (.list ((CV a).map Be))),("matrix",mxA a.s),("found",.dat (.list (Rv a).found))]):=nx
  generalize(Rv a).found=fd at d nx
  refine Ax (st':=lw9 w a t [("rows",.dat (.list ((CV a).map Be))),("matrix",mxA a.s),("found",.dat (.list fd))]) S 1 [] [.ask (.dat (.list ((CV a).map Be))) (lw9 w a t [("rows",.dat (.list ((CV a).map Be))),("matrix",mxA a.s)]),.ask (.dat (mxR a.s).D) (lw9 w a t [("rows",.dat (.list ((CV a).map Be))),("matrix",mxA a.s)]),.val (.list fd)] rfl ?_ nx
  repeat' first|exact obN|refine obA ?_|apply obC
  ·exact fun Q q=>AV (Hu S (glb P (by kernel_rfl) (by kernel_rfl)) rfl (AM S (os:=[]) rfl .nil ⟨_,[.int (mxR a.s).a,.int (mxR a.s).b,.int (mxR a.s).c,.int (mxR a.s).d,.int (mxR a.s).e,.int (mxR a.s).f],rfl,rfl,show 6≤sizeLine by decide,q⟩))
  ·exact fun Q q=>AV (Hu S (glb P (by kernel_rfl) (by kernel_rfl)) rfl (AM S (os:=[]) rfl .nil ⟨_,_,rfl,rfl,zl,q⟩))
 cases hc:a.cl with
 |true=>
  have e:(CV a).map Be=(ptR (a.pts.map (Dj a.s))).map Be++[Be .z]:=by unfold CV;(with_reducible refine rr (hc ..) ?_);(with_reducible refine rr ((if_pos rfl) ..) ?_);(with_reducible refine rr (map_append ..) ?_);rfl
  rw[e]at mid
  unfold lw9 Ba at mid⊢
  rw[hc]at mid⊢
  exact Ax S 1 [] [.br true] rfl obs mid
 |false=>
  have e:(CV a).map Be=(ptR (a.pts.map (Dj a.s))).map Be++[]:=by unfold CV;(with_reducible refine rr (hc ..) ?_);(with_reducible refine rr (append_nil ..) ?_);exact congrArg _ (append_nil _)
  rw[e]at mid
  unfold lw9 Ba at mid⊢
  rw[hc]at mid⊢
  exact Ax S 1 [] [.br false] rfl obs mid
theorem ge(S:Ao O P.K U){a:LwB}(X:GO a){t:EW}(ht:Cj t):LwP O w U P n 9 (lw9 w a t []):=by
 have nx:=de (w:=w) (n:=n) S X ht
 have p0:=X.fin.pts.1;have pl:=X.fin.pts.2.1;have pb:=X.fin.pts.2.2
 have pl:a.pts.length≤10:=pl
 have pb:∀p∈a.pts,BdP 10 p:=pb
 have lm:(a.pts.map pD).length<2^62:=by(with_reducible refine rr (length_map ..) ?_);exact lt_of_le_of_lt pl (by decide)
 have k1:((a.pts.map pD).length:Int)≤1000:=by(with_reducible refine rr (length_map ..) ?_);lia
 have rl:(Vv ((a.pts.map pD).length:Nat) [.str "l"]).length≤10:=by(with_reducible refine rr (NK ..) ?_);(with_reducible refine rr (List.length_replicate ..) ?_);(with_reducible refine rr (length_map ..) ?_);exact pl
 have side:([.str "m"]:List Dat).length+(Vv ((a.pts.map pD).length:Nat) [.str "l"]).length≤sizeLine:=le_trans (add_le_add_left rl 1) (by decide)
 refine Bl (Dv (BG.of (by kernel_rfl)) (QM S (glb P (by kernel_rfl) (by kernel_rfl)) rfl (Pv (Wi (PG S (AM S (os:=[]) rfl .nil (aS (AM S (os:=[]) rfl .nil (AM S (os:=[]) rfl (.cons lm .nil) ⟨[.str "l"],_,rfl,rfl,natCast_nonneg _,k1,show 1≤1000 by decide,⟨.list [.str "m"],.list (Vv ((a.pts.map pD).length:Nat) [.str "l"]),rfl,rfl,side,JI (Fc S (os:=[]) rfl .nil ⟨_,_,rfl,?_⟩)⟩⟩)))))))) (by kernel_rfl) (by intro Y h;cases Y;dsimp only at h;subst h;kernel_rfl))
 have zz:FO (.str "m"::Vv ((a.pts.map pD).length:Nat) [.str "l"]) (a.pts.map pD)=(match a.pts with|[]=>[]|p::ps=>.tuple [.str "m",pD p]::ps.map fun p=>.tuple [.str "l",pD p]):=by
  cases hp:a.pts with
  |nil=>exact absurd hp p0
  |cons p ps=>
   dsimp only
   (with_reducible refine rr (NK ..) ?_);(with_reducible refine rr (map_cons ..) ?_)
   show .tuple [.str "m",pD p]::FO (replicate (List.length (pD p::ps.map pD)) (.str "l")) (ps.map pD)=_
   (with_reducible refine rr ((XS _ _ _ (by(with_reducible refine rr (length_cons ..) ?_);exact le_succ _)) ..) ?_);(with_reducible refine rr (map_map ..) ?_)
   rfl
 show Bm O w U (BL (OP rcE) (scC 458)) (n+12) (JZ rcE) (Ka rcE) (IH rcE) _ (FO (.str "m"::Vv ((a.pts.map pD).length:Nat) [.str "l"]) (a.pts.map pD)) [] [("space",.dat (spD a.s))]
 (with_reducible refine rr (zz ..) ?_)
 have hs:=X.fin.sp
 have hs:Bd 64 a.s.a∧Bd 64 a.s.b∧Bd 64 a.s.c∧Bd 64 a.s.d∧Bd 64 a.s.e∧Bd 64 a.s.f:=hs
 cases hp:a.pts with
 |nil=>exact absurd hp p0
 |cons p ps=>
  dsimp only
  rw[hp]at pb pl
  rw[length_cons]at pl
  have d:=XA (w:=w) (n:=n+11) S hs ((pb p (.head _)).up (l:=64))
  have z:[Dat.str "m"].length+[Dat.int (Dj a.s p).1,.int (Dj a.s p).2].length≤sizeLine:=show 3≤sizeLine by decide
  refine BY S ["word","point"] [.val (pD (Dj a.s p))] (XT S hs ?_ ps [Be (.m (Dj a.s p))] (by(with_reducible refine rr (length_singleton ..) ?_);exact Ay pl) (fun p h=>(pb p (.tail _ h)).up) ?_) rfl (.cons z (.cons d .nil)) (show 1≤sizeLine by decide) ?_
  ·intro acc s q
   rwa [BM (by kernel_rfl)]at q
  ·unfold lw9 Ba at nx⊢
   rw[hp]at nx⊢
   have e:(ptR ((p::ps).map (Dj a.s))).map Be=[Be (.m (Dj a.s p))]++(ps.map fun p=>Row.l (Dj a.s p)).map Be:=by
    unfold ptR
    (with_reducible refine rr (map_cons ..) ?_)
    show _=Be (.m (Dj a.s p))::_
    dsimp only
    (with_reducible refine rr (map_cons ..) ?_);(with_reducible refine rr (map_map ..) ?_);(with_reducible refine rr (map_map ..) ?_);(with_reducible refine rr (map_map ..) ?_);rfl
   rw[e]at nx
   exact Ss.at _ nx (by kernel_rfl)
  ·intro acc s q
   rwa [BM (by kernel_rfl)]at q
noncomputable def spL:List Mx:=[⟨1,0,0,1,0,0⟩,⟨0,1,-1,0,5,0⟩,⟨2,1,0,1,-3,4⟩,⟨1,1,-1,1,0,0⟩,⟨3,-1,1,-2,0,7⟩,⟨-1,0,2,1,1,1⟩]
noncomputable def Hm(ps:List Pt):Pt:=ps.head?.getD (0,0)
noncomputable def Fx(ps:List Pt):Pt:=ps.getLast?.getD (0,0)
noncomputable def GP(ps:List Pt)(cl:Bool):List Pt:=ps++if cl=true∧Hm ps≠Fx ps then[Hm ps]else[]
inductive EJ:Pt→List Pt→Prop
 |nil (p:Pt):EJ p []
 |cons {p:Pt}{ps:List Pt} (a u:Int) (ha: -3≤a∧a≤3) (hu: -3≤u∧u≤3) (h0:¬(a=0∧u=0)) (h:EJ (p.1+30*a,p.2+30*u) ps):EJ p ((p.1+30*a,p.2+30*u)::ps)
structure df(a:LwB):Prop where
 path:∃ps,a.pts=(0,0)::ps∧1≤ps.length∧ps.length≤3∧EJ (0,0) ps
 ends:a.ends=GP a.pts a.cl
 lines:a.lines=a.ends.zip (a.ends.drop 1)
 units:1≤a.units∧a.units≤2
 half:a.q.half=10*a.units
 cap:a.q.cap=0∨a.q.cap=1∨a.q.cap=2
 join:a.q.join=0∨a.q.join=1∨a.q.join=2
 lim:a.q.limit=1000000∨a.q.limit=1500000∨a.q.limit=10000000
 sp:a.s∈spL
abbrev LwF:Prop:=∀a,df a→GO a
set_option tactic.hygienic true in
theorem Rw(h:look x st=none):∀a,(x,a)∉st:=by
 intro a
 induction st with
 |nil=>exact fun h=>nomatch h
 |cons hd r ih=>
  have y:=hd.1;have b:=hd.2
  unfold look at h
  split at h
  ·cases h
  ·rename_i ne
   intro m
   rcases mem_cons.mp m with e|m
   ·cases e;exact ne rfl
   ·exact ih h m
noncomputable def spT:Dat:=.tuple [.list [.int 1,.int 0,.int 0,.int 1,.int 0,.int 0],.list [.int 0,.int 1,.int (-1),.int 0,.int 5,.int 0],.list [.int 2,.int 1,.int 0,.int 1,.int (-3),.int 4],.list [.int 1,.int 1,.int (-1),.int 1,.int 0,.int 0],.list [.int 3,.int (-1),.int 1,.int (-2),.int 0,.int 7],.list [.int (-1),.int 0,.int 2,.int 1,.int 1,.int 1]]
theorem gg(S:Ao O P.K U){a:LwB}(LF:∀s∈spL,GO {a with s:=s}){t:EW}(ht:Cj t):LwP O w U P n 8 (Ic w a (BC a t (Ba a (BR a [])))):=by
 have d:=Eg (w:=w) (n:=n+11) S ht (many:=6) (by decide)
 have r:=CN (t:=t) (many:=6) (by decide)
 have e:dkV t 6=0∨dkV t 6=1∨dkV t 6=2∨dkV t 6=3∨dkV t 6=4∨dkV t 6=5:=by lia
 have g:∀Q:EV→St→Prop,Q (.dat spT) (Ic w a (BC a t (Ba a (BR a []))))→Ev O w U (scC 458) (n+12) (match AG (lwX [8])with| .Subscript l _ _=>l|e=>e) (Ic w a (BC a t (Ba a (BR a [])))) Q:=fun Q q=>KS S ⟨by kernel_rfl,P.spa,by decide+kernel⟩ P.fsp q
 have nx:=fun s hs=>ge (w:=w) (n:=n) S (LF s hs) (Ca ht)
 rcases e with e|e|e|e|e|e<;>rw[e]at d
 ·exact Ax S 1 [] [.ask (.dat spT) (Ic w a (BC a t (Ba a (BR a [])))),.lent (.int 0) (Bp (dkT t))] rfl (.cons d (.cons g .nil)) (nx _ (.head _))
 ·exact Ax S 1 [] [.ask (.dat spT) (Ic w a (BC a t (Ba a (BR a [])))),.lent (.int 1) (Bp (dkT t))] rfl (.cons d (.cons g .nil)) (nx _ (.tail _ (.head _)))
 ·exact Ax S 1 [] [.ask (.dat spT) (Ic w a (BC a t (Ba a (BR a [])))),.lent (.int 2) (Bp (dkT t))] rfl (.cons d (.cons g .nil)) (nx _ (.tail _ (.tail _ (.head _))))
 ·exact Ax S 1 [] [.ask (.dat spT) (Ic w a (BC a t (Ba a (BR a [])))),.lent (.int 3) (Bp (dkT t))] rfl (.cons d (.cons g .nil)) (nx _ (.tail _ (.tail _ (.tail _ (.head _)))))
 ·exact Ax S 1 [] [.ask (.dat spT) (Ic w a (BC a t (Ba a (BR a [])))),.lent (.int 4) (Bp (dkT t))] rfl (.cons d (.cons g .nil)) (nx _ (.tail _ (.tail _ (.tail _ (.tail _ (.head _))))))
 ·exact Ax S 1 [] [.ask (.dat spT) (Ic w a (BC a t (Ba a (BR a [])))),.lent (.int 5) (Bp (dkT t))] rfl (.cons d (.cons g .nil)) (nx _ (.tail _ (.tail _ (.tail _ (.tail _ (.tail _ (.head _)))))))
set_option maxHeartbeats 2000000 in
theorem gh(S:Ao O P.K U){a:LwB}(LF:∀s∈spL,∀c j l:Int,(c=0∨c=1∨c=2)→(j=0∨j=1∨j=2)→(l=1000000∨l=1500000∨l=10000000)→GO {a with q:=⟨10*a.units,c,j,l⟩,s:=s}){t:EW}(ht:Cj t):LwP O w U P n 6 (BC a t (Ba a (BR a []))):=by
 have k1:=Ca ht
 have k2:=Ca k1
 have k3:=Ca k2
 have d1:=Eg (w:=w) (n:=n+11) S ht (many:=3) (by decide)
 have d2:=Eg (w:=w) (n:=n+11) S k1 (many:=3) (by decide)
 have d3:=Eg (w:=w) (n:=n+11) S k2 (many:=3) (by decide)
 have r1:=CN (t:=t) (many:=3) (by decide)
 have r2:=CN (t:=dkT t) (many:=3) (by decide)
 have r3:=CN (t:=dkT (dkT t)) (many:=3) (by decide)
 have e1:dkV t 3=0∨dkV t 3=1∨dkV t 3=2:=by lia
 have e2:dkV (dkT t) 3=0∨dkV (dkT t) 3=1∨dkV (dkT t) 3=2:=by lia
 have e3:dkV (dkT (dkT t)) 3=0∨dkV (dkT (dkT t)) 3=1∨dkV (dkT (dkT t)) 3=2:=by lia
 have nx:=fun(l:Int) hl=>gg (w:=w) (n:=n) (a:={a with q:=⟨10*a.units,dkV t 3,dkV (dkT t) 3,l⟩}) S (fun s hs=>LF s hs _ _ l e1 e2 hl) k3
 generalize dkT (dkT (dkT t))=t3 at k3 d3 nx
 generalize dkV (dkT (dkT t)) 3=l0 at d3 e3
 generalize dkV t 3=c at*
 generalize dkV (dkT t) 3=j at*
 have mu:Am 10 a.units:=.of_left (by decide)
 have dict:=fun{l:Int} (hl:l=1000000∨l=1500000∨l=10000000) (h4:Ev O w U (scC 458) (n+12) (AG (lwX [7])) (BC a (dkT (dkT t)) (Ba a (BR a []))) fun b st2=>b=.dat (.int l)∧st2=BC a t3 (Ba a (BR a [])))=>
  (XQ (O:=O) (w:=w) (U:=U) (sc:=scC 458) (n:=n+12) (y:="pen") (k1:="half") (k2:="cap") (k3:="join") (k4:="limit") (st:=BC a t (Ba a (BR a []))) (Q:=fun fl V=>flD fl=.bool true) (rest:=(AY 458).drop 8)
   (AM S (os:=[]) rfl (.cons mu .nil) ⟨10*a.units,rfl,AM S (os:=[.lent (.int c) (Bp (dkT t))]) rfl (.cons d1 .nil) ⟨c,rfl,AM S (os:=[.lent (.int j) (Bp (dkT (dkT t)))]) rfl (.cons d2 .nil) ⟨j,rfl,Rw (by kernel_rfl),h4.mono fun b st2 e=>⟨l,by refine rr e.1 ?_;rfl,by refine rr e.2 ?_;exact Rw (by kernel_rfl),by refine rr e.2 ?_;exact nx l hl⟩⟩⟩⟩) (by kernel_rfl) (by decide+kernel) (by decide+kernel) (by decide+kernel) (fun V=>rfl) (fun V=>rfl):LwP O w U P n 6 (BC a t (Ba a (BR a []))))
 rcases e3 with rfl|rfl|rfl
 ·exact dict (.inl rfl) (AM S (os:=[.lent (.int 0) (Bp t3)]) rfl (.cons d3 .nil) ⟨rfl,rfl⟩)
 ·exact dict (.inr (.inl rfl)) (AM S (os:=[.lent (.int 1) (Bp t3)]) rfl (.cons d3 .nil) ⟨rfl,rfl⟩)
 ·exact dict (.inr (.inr rfl)) (AM S (os:=[.lent (.int 2) (Bp t3)]) rfl (.cons d3 .nil) ⟨rfl,rfl⟩)
theorem Lx:∀(k:Nat) (s:EW×Pt) (ps:List Pt),∃qs,(EI k s ps).2=ps++qs∧qs.length=k∧EJ s.2 qs:=by
 intro k
 induction k with
 |zero=>exact fun s ps=>⟨[],(append_nil _).symm,rfl,.nil _⟩
 |succ k ih=>
  intro s ps
  obtain⟨qs,e,l,h⟩:=ih (Cx s) (ps++[(Cx s).2])
  refine⟨(Cx s).2::qs,?_,congrArg (· +1) l,?_⟩
  ·show(EI k (Cx s) (ps++[(Cx s).2])).2=_
   refine rr e (rr (append_assoc ..) ?_);rfl
  ·have r1:=CN (t:=s.1) (many:=7) (by decide)
   have r2:=CN (t:=dkT s.1) (many:=7) (by decide)
   refine .cons (Ib (dkV s.1 7-3) (dkV (dkT s.1) 7-3)) (dkV (dkT s.1) 7-3) ?_ (by exact⟨Af r2.1,Af r2.2⟩) ?_ h
   ·delta Ib
    split
    ·exact⟨UZ,UZ⟩
    ·exact⟨Af r1.1,Af r1.2⟩
   ·delta Ib;split
    ·rintro⟨h,_⟩;cases h
    ·assumption
section
variable{st2:St}
theorem aY(S:Ao O P.K U){p:Pos}(os:List Or)(h:goD O w U n sc e st os []=some ⟨d,st1,[],ms⟩)(hm:AD ms)(ha:Te sc 3 (.Tuple ts k p) d st1 [] []=some ⟨(),st2,[],[]⟩)(q:Ss O w U sc n rest st2 Q)
 (hw:∀Y,Y.scope=sc→swapsWithSole [.Tuple ts k p] e pos.line Y=pure false) (hv:∀Y,Y.scope=sc→swappedStores [.Tuple ts k p] e Y=pure none):Ss O w U sc n (.Assign [.Tuple ts k p] e pos::rest) st Q:=
 Bl (Hr (Fb S h hm (((EC 3 _ _).ok ha .nil).2 (fun V s=>Ss O w U sc n rest s Q) q)) hw hv)
theorem gi(S:Ao O P.K U)(LF:LwF){a:LwB}(hp:∃ps,a.pts=(0,0)::ps∧1≤ps.length∧ps.length≤3∧EJ (0,0) ps)(he:a.ends=GP a.pts a.cl)(hl:a.lines=a.ends.zip (a.ends.drop 1)){t:EW}(ht:Cj t):
 LwP O w U P n 5 (BC a t (Ba a [("ends",.dat (.list (a.ends.map pD))),("lines",.dat (.list (a.lines.map AC)))])):=by
 have d:=Eg (w:=w) (n:=n+11) S ht (many:=2) (by decide)
 have r:=CN (t:=t) (many:=2) (by decide)
 have nx:=gh (w:=w) (n:=n) (a:={a with units:=1+dkV t 2}) S (fun s hs c j l hc hj hl'=>LF _ ⟨hp,he,hl,by dsimp only;exact⟨Af r.1,Af r.2⟩,rfl,hc,hj,hl',hs⟩) (Ca ht)
 exact Ax S 1 [] [.lent (.int (dkV t 2)) (Bp (dkT t))] rfl obs nx
theorem XU(es fs:List Pt):FO (es.map pD) (fs.map pD)=(es.zip fs).map AC:=by
 delta FO
 refine rr List.zipWith_map (rr List.map_zip_eq_zipWith ?_)
 rfl
theorem gj(S:Ao O P.K U)(LF:LwF){a:LwB}(hp:∃ps,a.pts=(0,0)::ps∧1≤ps.length∧ps.length≤3∧EJ (0,0) ps)(he:a.ends=GP a.pts a.cl)(hl:a.lines=a.ends.zip (a.ends.drop 1)){t:EW}(ht:Cj t):
 LwP O w U P n 4 (BC a t (Ba a [("ends",.dat (.list (a.ends.map pD)))])):=by
 have nx:=gi (w:=w) (n:=n) S LF hp he hl ht
 have el:a.ends.length≤10:=by
  obtain⟨ps,e,_,h3,_⟩:=hp
  refine rr he ?_
  delta GP
  refine rr length_append ?_;refine rr e (rr length_cons ?_)
  split
  ·refine rr length_singleton ?_;lia
  ·refine rr length_nil ?_;lia
 have zl:(a.ends.map pD).length≤sizeLine:=by refine rr (length_map ..) ?_;exact le_trans el (by decide)
 have zz:FO (a.ends.map pD) ((a.ends.map pD).drop 1)=a.lines.map AC:=by refine rl map_drop ?_;refine rr (XU ..) (rr hl ?_);rfl
 refine Ax S 1 [] [.ask (.dat (.list (a.lines.map AC))) (BC a t (Ba a [("ends",.dat (.list (a.ends.map pD)))]))] rfl (.cons (fun Q q=>?_) .nil) nx
 refine AV (Lj S (glb P (by kernel_rfl) (by kernel_rfl)) rfl (glb P (by kernel_rfl) (by kernel_rfl)) rfl (Fc S (os:=[]) rfl (.cons zl .nil) ⟨_,_,rfl,zl,?_⟩))
 refine rr zz ?_;exact q
theorem gk(S:Ao O P.K U)(LF:LwF){a:LwB}(hp:∃ps,a.pts=(0,0)::ps∧1≤ps.length∧ps.length≤3∧EJ (0,0) ps){t:EW}(ht:Cj t):LwP O w U P n 3 (BC a t (Ba a [])):=by
 have nx:=gj (w:=w) (n:=n) (a:={a with ends:=GP a.pts a.cl,lines:=(GP a.pts a.cl).zip ((GP a.pts a.cl).drop 1)}) S LF hp rfl rfl ht
 have nx:LwP O w U P n 4 (BC a t (Ba a [("ends",.dat (.list ((GP a.pts a.cl).map pD)))])):=nx
 obtain⟨ps,e,h1,h3,_⟩:=hp
 have pl:a.pts.length≤10:=by refine rr e (rr length_cons ?_);lia
 have lm:(a.pts.map pD).length<2^62:=by refine rr (length_map ..) ?_;exact lt_of_le_of_lt pl (by decide)
 have i1:AK (a.pts.map pD) 0=some (pD (Hm a.pts)):=by refine rr e ?_;exact JL
 have i2:AK (a.pts.map pD) (-1)=some (pD (Fx a.pts)):=by
  obtain⟨l,hl⟩:∃l,a.pts.getLast? =some l:=by refine rr e ?_;exact⟨_,List.getLast?_cons⟩
  obtain⟨ys,hys⟩:=List.getLast?_eq_some_iff.mp hl
  delta Fx
  refine rr hl ?_;refine rr hys (rr map_append ?_);exact DT
 have s1:(a.pts.map pD).length+[pD (Hm a.pts)].length≤sizeLine:=by refine rr (length_map ..) ?_;exact le_trans (Nat.add_le_add_right pl 1) (by decide)
 have s0:(a.pts.map pD).length+([]:List Dat).length≤sizeLine:=by refine rr (length_map ..) ?_;exact le_trans pl (by decide)
 have dp:Ce .NotEq (pD (Hm a.pts)) (pD (Fx a.pts))=!decide (Hm a.pts=Fx a.pts):=by
  show(!deq (pD (Hm a.pts)) (pD (Fx a.pts)))=_
  congr 1
  rewrite[Bool.eq_iff_iff];rewrite[decide_eq_true_iff]
  exact Qk ..
 delta GP at nx
 cases hc:a.cl with
 |false=>
  rw[hc,if_neg (fun h=>Bool.noConfusion h.1),append_nil]at nx
  delta Ba at nx⊢
  rw[hc]at nx⊢
  have nx:LwP O w U P n 4 (BC a t (("points",.dat (.list (a.pts.map pD)))::("is_closed",.dat (.bool false))::[("ends",.dat (.list (a.pts.map pD++[])))])):=by refine rr (append_nil ..) ?_;exact nx
  exact Ax S 1 [] [.br false,.br false] rfl obs nx
 |true=>
  by_cases hd:Hm a.pts=Fx a.pts
  ·rw[hc,if_neg (fun h=>h.2 hd),append_nil]at nx
   rw[decide_eq_true hd]at dp
   delta Ba at nx⊢
   rw[hc]at nx⊢
   have nx:LwP O w U P n 4 (BC a t (("points",.dat (.list (a.pts.map pD)))::("is_closed",.dat (.bool true))::[("ends",.dat (.list (a.pts.map pD++[])))])):=by refine rr (append_nil ..) ?_;exact nx
   exact Ax S 1 [] [.br true,.val (pD (Hm a.pts)),.val (pD (Fx a.pts)),.br false,.br false] rfl obs nx
  ·rw[hc,if_pos ⟨rfl,hd⟩,map_append]at nx
   rw[decide_eq_false hd]at dp
   delta Ba at nx⊢
   rw[hc]at nx⊢
   exact Ax S 1 [] [.br true,.val (pD (Hm a.pts)),.val (pD (Fx a.pts)),.br true,.br true,.val (pD (Hm a.pts))] rfl obs nx
noncomputable def dg(x:Int):Int:=x.fmod 1000003
noncomputable def nmE:Expr:=AG (lwX [0])
theorem XV(S:Ao O P.K U){Q:List Dat→St→Prop}(F:∀acc s,Q acc (LV ["cell"] s)→Q acc s):∀(xs:List Int) (acc:List Dat),acc.length+xs.length≤63→Q (acc++(xs.map dg).map .int) []→
 Bm O w U (BL (OP nmE) (scC 458)) (n+12) (JZ nmE) (Ka nmE) (IH nmE) Q (xs.map .int) acc []:=by
 intro xs
 induction xs with
 |nil=>intro acc _ q;exact(append_nil acc)▸q
 |cons x xs ih=>
  intro acc hl q
  rw[length_cons]at hl
  have b2:Er .Mod (.int x) (.int 1000003):=show(1000003:Int)≠0 by decide
  refine BY S ["cell"] [.ask (.dat (.int x)) [("cell",.dat (.int x))]] (ih (acc++[.int (dg x)]) (by refine rr length_append (rr length_singleton ?_);exact Ay hl) (by refine rr (append_assoc ..) ?_;exact q)) rfl (.cons b2 (.cons (fun Q q=>?_) .nil)) (le_trans (show _≤1000 by exact Ay hl) (by decide)) F
  exact ZA S (glb P (by kernel_rfl) (by kernel_rfl)) rfl (AM S (os:=[]) rfl .nil ⟨_,_,rfl,ZD,q⟩)
noncomputable def CD(ns:List Int):List Int:=(ns.take 40).map dg
set_option maxHeartbeats 1000000 in
theorem gm(S:Ao O P.K U)(LF:LwF)(hz:ns.length≤63):LwP O w U P n 1 [("script",.dat (.list (ns.map .int))),("numbers",.lst ((CD ns).map .int))]:=by
 have nl:(CD ns).length≤40:=by delta CD;refine rr (length_map ..) (rr length_take ?_);exact min_le_left _ _
 have k0:Cj (CD ns,0,(CD ns).sum.fmod 9923+331):=⟨le_trans nl (by decide),Int.le_refl 0⟩
 have k1:Cj (Lu (CD ns,0,(CD ns).sum.fmod 9923+331)).1:=Lv _ _ _ (Ca k0)
 have d:=aO (w:=w) (n:=n+10) S k0
 obtain⟨qs,e1,e2,e3⟩:=Lx (1+dkV (CD ns,0,(CD ns).sum.fmod 9923+331) 3).toNat (dkT (CD ns,0,(CD ns).sum.fmod 9923+331),(0,0)) [(0,0)]
 have r:=CN (t:=(CD ns,0,(CD ns).sum.fmod 9923+331)) (many:=3) (by decide)
 have hp:∃ps,(Lu (CD ns,0,(CD ns).sum.fmod 9923+331)).2=(0,0)::ps∧1≤ps.length∧ps.length≤3∧EJ (0,0) ps:=⟨qs,e1,by omega,by omega,e3⟩
 clear e1 e2 e3 r
 refine Ax (st':=[("script",.dat (.list (ns.map .int))),("numbers",.dat (.list ((CD ns).map .int))),("deck",Bp (CD ns,0,(CD ns).sum.fmod 9923+331))]) S 1 [] [.ask (.dat (.int (CD ns).sum)) [("script",.dat (.list (ns.map .int))),("numbers",.dat (.list ((CD ns).map .int)))]] rfl (.cons (by decide:(9923:Int)≠0) (.cons (fun Q q=>KV S (glb P (by kernel_rfl) (by kernel_rfl)) rfl (AM S (os:=[]) rfl .nil ⟨_,_,rfl,Nh,q⟩)) .nil)) ?_
 generalize Lu (CD ns,0,(CD ns).sum.fmod 9923+331)=r at*
 generalize(CD ns,0,(CD ns).sum.fmod 9923+331)=t at*
 refine aY S (st2:=BC ⟨ns,CD ns,r.2,decide (dkV r.1 3=0),[],[],0,⟨0,0,0,0⟩,⟨0,0,0,0,0,0⟩,[],.lst [],[],[]⟩ (dkT r.1) (Ba ⟨ns,CD ns,r.2,decide (dkV r.1 3=0),[],[],0,⟨0,0,0,0⟩,⟨0,0,0,0,0,0⟩,[],.lst [],[],[]⟩ [])) [.lent (.tuple [.list (r.2.map pD),.bool (decide (dkV r.1 3=0))]) (Bp (dkT r.1))] rfl (.cons d .nil) rfl ?_ (fun V V=>rfl) (by intro Y h;cases Y;dsimp only at h;subst h;kernel_rfl)
 exact gk S LF hp (Ca k1)
theorem Aa4(S:Ao O P.K U)(hz:ns.length≤63)(LF:LwF):Ss O w U (scC 458) (n+12) (AY 458) ([("script",.dat (.list (ns.map .int)))]:St) (fun fl V=>flD fl=.bool true):=by
 have hs:(ns.map Dat.int).length≤sizeLine:=le_trans (show _≤1000 by refine rr (length_map ..) ?_;exact Ay hz) (by decide)
 have tk:(ns.map Dat.int).take 40=(ns.take 40).map Dat.int:=(map_take ..).symm
 refine Bl (Dv (BG.of (by kernel_rfl)) (FN (Wi (AV (Jw (AM S (os:=[]) rfl .nil (AM S (os:=[]) rfl .nil ⟨40,rfl,⟨ns.map .int,rfl,hs,JI ⟨_,rfl,?_⟩⟩⟩)))))) (by kernel_rfl) (by intro Y h;cases Y;dsimp only at h;subst h;kernel_rfl))
 refine rr (show FH none (some (40:Int)) (ns.map Dat.int)=(ns.take 40).map Dat.int from(Mn 40 _).trans tk) ?_
 refine XV S ?_ (ns.take 40) [] (by refine rr length_nil (rr length_take ?_);exact(Ay (min_le_left 40 ns.length))) ?_
 ·intro acc s q
  rwa [BM (by kernel_rfl)]at q
 exact Ss.at _ (gm S LF hz) (by kernel_rfl)
end
theorem XW{A:Int}(h:A≤B)(v:autoParam (B+1≤A) au.a8._auto_1){P:Prop}:P:=absurd h (not_le.mpr v)
theorem faA{p:α→Prop}{l r:List α}(h:∀x∈l,p x)(t:∀x∈r,p x):∀x∈l++r,p x:=List.forall_mem_append.mpr ⟨h,t⟩
noncomputable def Fy(p:Pt)(es:List (Pt×Pt)):Int:=(es.map (AS p)).sum
theorem Hw(p:Pt)(a b:List (Pt×Pt)):Fy p (a++b)=Fy p a+Fy p b:=by
 delta Fy;refine rr map_append (rr sum_append ?_);rfl
theorem CE(p:Pt)(e:Pt×Pt)(b:List (Pt×Pt)):Fy p (e::b)=AS p e+Fy p b:=by
 delta Fy;refine rr map_cons (rr sum_cons ?_);rfl
theorem Ur(p:Pt):Fy p []=0:=rfl
noncomputable def AL(a:Pt):List Pt→Pt→List (Pt×Pt)
 |[],z=>[(a,z)]
 |b::r,z=>(a,b)::AL b r z
noncomputable def Al:List Pt→List (Pt×Pt)
 |[]=>[]
 |a::r=>AL a r a
noncomputable def Ly(p v:Pt):Int:=if v.2≤p.2 then 1 else 0
theorem Rx(f:Pt→Int):∀(r:List Pt) (a z:Pt),((AL a r z).map fun e=>f e.1-f e.2).sum=f a-f z:=by
 intro r
 induction r with
 |nil=>intro a z;exact add_zero _
 |cons b r ih=>
  intro a z
  show f a-f b+((AL b r z).map fun e=>f e.1-f e.2).sum=_
  refine rr (ih ..) ?_;simp+arith only[*]
theorem DC(p a b:Pt):Ar p (a,b)=Ad (Ae a p) (Ae b p):=by
 delta Ar Ad Ae;dsimp only;grind
theorem Ko(p a b:Pt):Ar p (b,a)= -Ar p (a,b):=by
 refine rr (DC ..) (rr (DC ..) ?_);delta Ad;grind
theorem Gk{a b:Pt}(h1:a.2≤p.2)(h2:p.2<b.2):AS p (a,b)=if 0<Ar p (a,b)then 1 else 0:=by
 have h3:=Int.lt_of_le_of_lt h1 h2
 delta AS
 dsimp only
 refine rr (decide_eq_true h1) ?_;refine rr (decide_eq_false (not_le.mpr h2)) (rr (if_pos (by decide:(true !=false)=true)) ?_);refine rr (decide_eq_true h3) (rr (Bool.true_and ..) ?_);refine rr (decide_eq_false (lt_asymm h3)) (rr (Bool.false_and ..) ?_);rewrite[if_neg Bool.false_ne_true]
 by_cases c:0<Ar p (a,b)
 ·refine rr (if_pos c) (rr (if_pos (decide_eq_true c)) ?_);rfl
 ·refine rr (if_neg c) (rr (if_neg (by refine rr (decide_eq_false c) ?_;exact Bool.false_ne_true)) ?_);rfl
theorem DJ{a b:Pt}(h1:p.2<a.2)(h2:b.2≤p.2):AS p (a,b)=if Ar p (a,b)<0 then-1 else 0:=by
 have h3:=Int.lt_of_le_of_lt h2 h1
 delta AS
 dsimp only
 refine rr (decide_eq_true h2) (rr (decide_eq_false (not_le.mpr h1)) ?_);refine rr (if_pos (by decide:(false !=true)=true)) (rr (decide_eq_false (lt_asymm h3)) ?_);refine rr (Bool.false_and ..) (rr (if_neg Bool.false_ne_true) ?_);refine rr (decide_eq_true h3) (rr (Bool.true_and ..) ?_)
 by_cases c:Ar p (a,b)<0
 ·refine rr (if_pos c) (rr (if_pos (decide_eq_true c)) ?_);rfl
 ·refine rr (if_neg c) (rr (if_neg (by refine rr (decide_eq_false c) ?_;exact Bool.false_ne_true)) ?_);rfl
theorem BJ{a b:Pt}(h:a.2≤p.2↔b.2≤p.2):AS p (a,b)=0:=by
 delta AS
 dsimp only
 rewrite[decide_eq_decide.mpr h];refine rr (if_neg (by cases decide (b.2≤p.2)<;>decide)) ?_;(with_reducible rfl)
theorem Ry(p a b:Pt):AS p (a,b)+AS p (b,a)=0:=by
 by_cases h1:a.2≤p.2
 ·by_cases h2:b.2≤p.2
  ·refine rr (BJ ⟨fun V=>h2,fun V=>h1⟩) (rr (BJ ⟨fun V=>h1,fun V=>h2⟩) ?_);rfl
  ·have h2:=not_le.mp h2
   refine rr (Gk h1 h2) ?_;refine rr (DJ h2 h1) (rr (Ko p a b) ?_)
   split<;>split<;>first|rfl|lia
 ·have h1:=not_le.mp h1
  by_cases h2:b.2≤p.2
  ·refine rr (DJ h1 h2) ?_;refine rr (Gk h2 h1) (rr (Ko p a b) ?_)
   split<;>split<;>first|rfl|lia
  ·refine rr (BJ ⟨fun h=>absurd h (not_le.mpr h1),fun h=>absurd h h2⟩) (rr (BJ ⟨fun h=>absurd h h2,fun h=>absurd h (not_le.mpr h1)⟩) ?_);rfl
noncomputable def lin(α β:Int)(p v:Pt):Int:=α*(v.1-p.1)+β*(v.2-p.2)
theorem Us(α β:Int)(p a b:Pt):α*Ar p (a,b)=lin α β p a*(b.2-p.2)-(a.2-p.2)*lin α β p b:=by
 refine rr (DC ..) ?_;delta Ad Ae lin;grind
theorem OZ{α β:Int}{a b:Pt}(ha:0<lin α β p a)(hb:0<lin α β p b):AS p (a,b)=if 0<α then Ly p a-Ly p b else 0:=by
 have key:=Us α β p a b
 delta Ly
 by_cases h1:a.2≤p.2
 ·refine rr (if_pos h1) ?_
  by_cases h2:b.2≤p.2
  ·refine rr (if_pos h2) (rr (BJ ⟨fun V=>h2,fun V=>h1⟩) ?_);split<;>rfl
  ·have h2':=not_le.mp h2
   refine rr (if_neg h2) (rr (Gk h1 h2') ?_)
   have k:0<α*Ar p (a,b):=by
    have x:=mul_pos ha (sub_pos.mpr h2')
    have y:=mul_nonneg (sub_nonneg.mpr h1) (le_of_lt hb)
    have z:(a.2-p.2)*lin α β p b= -((p.2-a.2)*lin α β p b):=by grind
    exact FG (le_of_eq key.symm) x y (le_of_eq z)
   by_cases c:0<α
   ·refine rr (if_pos c) (rr (if_pos (Int.pos_of_mul_pos_right k c)) ?_);rfl
   ·refine rr (if_neg c) (rr (if_neg fun d=>absurd (Int.pos_of_mul_pos_left k d) c) ?_);rfl
 ·have h1':=not_le.mp h1
  refine rr (if_neg h1) ?_
  by_cases h2:b.2≤p.2
  ·refine rr (if_pos h2) (rr (DJ h1' h2) ?_)
   have k:0<α* -Ar p (a,b):=by
    have x:=mul_pos (sub_pos.mpr h1') hb
    have y:=mul_nonneg (le_of_lt ha) (sub_nonneg.mpr h2)
    have z:lin α β p a*(b.2-p.2)= -(lin α β p a*(p.2-b.2)):=by grind
    have z2:α* -Ar p (a,b)= -(α*Ar p (a,b)):=by grind
    exact Af (aI (le_of_eq key) (aI x (aI y (aI (le_of_eq z) (le_of_eq z2.symm)))))
   by_cases c:0<α
   ·have:=Int.pos_of_mul_pos_right k c
    refine rr (if_pos c) (rr (if_pos (by lia)) ?_);rfl
   ·refine rr (if_neg c) (rr (if_neg fun d=>absurd (Int.pos_of_mul_pos_left k (by lia)) c) ?_);rfl
  ·refine rr (if_neg h2) (rr (BJ ⟨fun h=>absurd h h1,fun h=>absurd h h2⟩) ?_);split<;>rfl
def Cyc(es:List (Pt×Pt)):Prop:=∀f:Pt→Int,(es.map fun e=>f e.1-f e.2).sum=0
theorem Hx(ps:List Pt):Cyc (Al ps):=fun f=>by
 cases ps with
 |nil=>rfl
 |cons a r=>exact(Rx f r a a).trans (sub_self _)
theorem Gl{α β:Int}{es:List (Pt×Pt)}(hc:Cyc es)(h:∀e∈es,0<lin α β p e.1∧0<lin α β p e.2):Fy p es=0:=by
 delta Fy
 have e:es.map (AS p)=es.map fun e=>if 0<α then Ly p e.1-Ly p e.2 else 0:=map_congr_left fun e he=>OZ (h e he).1 (h e he).2
 refine rr e ?_
 by_cases c:0<α
 ·simp only[if_pos c];exact hc _
 ·simp only[if_neg c]
  clear e hc h
  induction es with
  |nil=>rfl
  |cons _ _ ih=>refine rr map_cons ?_;refine rr sum_cons (rr ih ?_);rfl
theorem MH{s:Int}{a b c:Pt}(ha:0<s*(a.2-p.2))(hb:0<s*(b.2-p.2))(hc:0<s*(c.2-p.2))(h1:0<Ar p (a,b))(h2:0<Ar p (b,c)):0<Ar p (a,c):=by
 have e:s*(b.2-p.2)*Ar p (a,c)=s*(a.2-p.2)*Ar p (b,c)+s*(c.2-p.2)*Ar p (a,b):=by
  refine rr (DC ..) ?_;refine rr (DC ..) (rr (DC ..) ?_);delta Ad Ae;grind
 have x:=mul_pos ha h2
 have y:=mul_pos hc h1
 exact Int.pos_of_mul_pos_right (by refine rr e ?_;exact Int.add_pos x y) hb
theorem MI{s:Int}:∀(r:List Pt) (a z:Pt),(∀v∈a::r,0<s*(v.2-p.2))→0<s*(z.2-p.2)→(∀e∈AL a r z,0<Ar p e)→0<Ar p (a,z):=by
 intro r
 induction r with
 |nil=>intro a z _ _ h;exact h _ (.head _)
 |cons b r ih=>
  intro a z hv hz h
  exact MH (hv a (.head _)) (hv b (.tail _ (.head _))) hz (h _ (.head _)) (ih b z (fun v m=>hv v (.tail _ m)) hz fun e m=>h e (.tail _ m))
theorem NL{f:α→Int}:∀{l:List α},(∀x∈l,0≤f x)→(l.map f).sum≤0→∀x∈l,f x=0:=by
 intro l
 induction l with
 |nil=>intro _ _ x h;cases h
 |cons a l ih=>
  intro h hs x hx
  rw[map_cons,sum_cons]at hs
  have h0:∀{l:List α},(∀x∈l,0≤f x)→0≤(l.map f).sum:=fun{l}=>by
   induction l with
   |nil=>exact fun V=>Int.le_refl 0
   |cons b l ih=>intro h;refine rr map_cons (rr sum_cons ?_);exact add_nonneg (h b (.head _)) (ih fun x m=>h x (.tail _ m))
  have ha:=h a (.head _)
  have hl:=h0 fun x m=>h x (.tail _ m)
  cases hx with
  |head=>exact le_antisymm (Aq hs hl) (ha)
  |tail _ m=>exact ih (fun x m=>h x (.tail _ m)) (by exact Aq hs ha) x m
theorem Pa{f:α→Int}:∀{l:List α},(∀x∈l,0≤f x)→0≤(l.map f).sum:=by
 intro l
 induction l with
 |nil=>exact fun V=>Int.le_refl 0
 |cons b l ih=>intro h;refine rr map_cons (rr sum_cons ?_);exact add_nonneg (h b (.head _)) (ih fun x m=>h x (.tail _ m))
theorem XY(f g:α→Int)(l:List α):(l.map fun x=>f x-g x).sum=(l.map f).sum-(l.map g).sum:=by
 induction l with
 |nil=>rfl
 |cons a l ih=>simp only[map_cons,sum_cons,ih];simp+arith only[*]
theorem MJ:∀(r:List Pt) (a z:Pt),∀v∈a::r,∃w,(v,w)∈AL a r z:=by
 intro r
 induction r with
 |nil=>intro a z v h;refine rr (mem_singleton.mp h) ?_;exact⟨z,.head _⟩
 |cons b r ih=>
  intro a z v h
  rcases mem_cons.mp h with rfl|h
  ·exact⟨b,.head _⟩
  ·obtain⟨w,m⟩:=ih b z v h;exact⟨w,.tail _ m⟩
theorem Rz:∀(r:List Pt) (a z:Pt),∀v∈z::r,∃u,(u,v)∈AL a r z:=by
 intro r
 induction r with
 |nil=>intro a z v h;refine rr (mem_singleton.mp h) ?_;exact⟨a,.head _⟩
 |cons b r ih=>
  intro a z v h
  rcases mem_cons.mp h with rfl|h
  ·obtain⟨u,m⟩:=ih b v v (.head _);exact⟨u,.tail _ m⟩
  rcases mem_cons.mp h with rfl|h
  ·exact⟨a,.head _⟩
  ·obtain⟨u,m⟩:=ih b z v (.tail _ h);exact⟨u,.tail _ m⟩
theorem Dk:∀(r:List Pt) (a z:Pt),∀e∈AL a r z,e.1∈a::r∧e.2∈z::r:=by
 intro r
 induction r with
 |nil=>intro a z e h;obtain rfl:=mem_singleton.mp h;exact⟨.head _,.head _⟩
 |cons b r ih=>
  intro a z e h
  rcases mem_cons.mp h with rfl|h
  ·exact⟨.head _,.tail _ (.head _)⟩
  ·obtain⟨h1,h2⟩:=ih b z e h
   exact⟨.tail _ h1,(mem_cons.mp h2).elim (fun q=>q▸ .head _) fun q=>.tail _ (.tail _ q)⟩
theorem MK{f:Pt→Int}:∀(r:List Pt) (a z:Pt),(∀e∈AL a r z,f e.1=f e.2)→∀v∈a::r,f v=f a:=by
 intro r
 induction r with
 |nil=>intro a z _ v h;refine rr (mem_singleton.mp h) ?_;rfl
 |cons b r ih=>
  intro a z h v m
  have h1:f a=f b:=h (a,b) (.head _)
  rcases mem_cons.mp m with rfl|m
  ·rfl
  ·exact(ih b z (fun e k=>h e (.tail _ k)) v m).trans h1.symm
theorem RA{a:Pt}{r:List Pt}(h:∀e∈Al (a::r),0<Ar p e):1≤Fy p (Al (a::r)):=by
 refine not_lt.mp fun hw=>?_
 have nn:∀e∈Al (a::r),0≤AS p e∧0≤AS p e-(Ly p e.1-Ly p e.2):=fun⟨x,y⟩ he=>by
  have hs:=h _ he
  unfold Ly
  by_cases h1:x.2≤p.2
  ·by_cases h2:y.2≤p.2
   ·refine rr (BJ ⟨fun V=>h2,fun V=>h1⟩) ?_;refine rr (if_pos h1) (rr (if_pos h2) ?_);decide
   ·refine rr (Gk h1 (not_le.mp h2)) (rr (if_pos h1) ?_);refine rr (if_neg h2) (rr (if_pos hs) ?_);decide
  ·by_cases h2:y.2≤p.2
   ·refine rr (DJ (not_le.mp h1) h2) (rr (if_neg h1) ?_);refine rr (if_pos h2) (rr (if_neg (lt_asymm hs)) ?_);decide
   ·refine rr (BJ ⟨fun h=>absurd h h1,fun h=>absurd h h2⟩) ?_;refine rr (if_neg h1) (rr (if_neg h2) ?_);decide
 have w0:Fy p (Al (a::r))≤0:=Int.lt_add_one_iff.mp hw
 have z1:=NL (fun e he=>(nn e he).1) w0
 have z2:=NL (f:=fun e=>AS p e-(Ly p e.1-Ly p e.2)) (fun e he=>(nn e he).2) (by
  refine rr (XY ..) (rr (Hx (a::r) (Ly p)) ?_);exact(sub_zero _).symm▸w0)
 have hc:∀e∈Al (a::r),Ly p e.1=Ly p e.2:=fun e he=>by
  have k1:=z1 e he
  have k2:AS p e-(Ly p e.1-Ly p e.2)=0:=z2 e he
  exact le_antisymm (Aq (le_of_eq k1) (le_of_eq k2.symm)) (Aq (le_of_eq k1.symm) (le_of_eq k2))
 have cst:=MK r a a hc
 have fin:∀{s:Int},(∀v∈a::r,0<s*(v.2-p.2))→False:=fun hv=>by
  have:=MI r a a hv (hv a (.head _)) h
  rw[DC]at this
  unfold Ad at this
  rw[mul_comm,sub_self]at this
  exact Int.lt_irrefl _ this
 by_cases c:a.2≤p.2
 ·have low:∀v∈a::r,v.2≤p.2:=fun v hv=>by
   have e:=cst v hv
   unfold Ly at e
   rw[if_pos c]at e
   split at e
   ·assumption
   ·cases e
  refine fin (s:= -1) fun v hv=>?_
  have hl:=low v hv
  by_cases hz:v.2=p.2
  ·obtain⟨w,m1⟩:=MJ r a a v hv
   obtain⟨u,m2⟩:=Rz r a a v hv
   have s1:=h _ m1
   have s2:=h _ m2
   have lw:=low w (Dk r a a _ m1).2
   have lu:=low u (Dk r a a _ m2).1
   rw[DC]at s1 s2
   unfold Ad Ae at s1 s2
   dsimp only at s1 s2
   rw[hz,sub_self,zero_mul,sub_zero]at s1
   rw[hz,sub_self,mul_zero,Int.zero_sub]at s2
   have x1:0<(p.1-v.1)*(p.2-w.2):=by
    have e:(p.1-v.1)*(p.2-w.2)=(v.1-p.1)*(w.2-p.2):=by grind
    refine rr e ?_;exact s1
   have x2:0<(p.2-u.2)*(v.1-p.1):=by
    have e:(p.2-u.2)*(v.1-p.1)= -((u.2-p.2)*(v.1-p.1)):=by grind
    refine rr e ?_;exact s2
   have p1:0<p.1-v.1:=by
    refine not_le.mp fun q=>?_
    have:=mul_nonneg (Int.neg_nonneg_of_nonpos q) (sub_nonneg.mpr lw)
    rw[neg_mul]at this;exact YZ x1 this
   have p2:0<v.1-p.1:=by
    refine not_le.mp fun q=>?_
    have:=mul_nonneg (sub_nonneg.mpr lu) (Int.neg_nonneg_of_nonpos q)
    rw[mul_neg]at this;exact YZ x2 this
   exact He hl p1 p2
  ·lia
 ·have high:∀v∈a::r,¬v.2≤p.2:=fun v hv q=>by
   have e:=cst v hv
   unfold Ly at e
   rw[if_neg c,if_pos q]at e
   cases e
  exact fin (s:=1) fun v hv=>by have:=high v hv;exact Af (not_le.mp this)
theorem Ie(h:∀e∈Al ps,∀v∈ps,0≤Ar v e):0≤Fy p (Al ps):=by
 by_cases c:∃e∈Al ps,Ar p e<0
 ·obtain⟨⟨x,y⟩,he,hs⟩:=c
  refine le_of_eq (Gl (α:= -(y.2-x.2)) (β:=y.1-x.1) (Hx ps) fun e m=>?_).symm
  have key:∀v∈ps,0<lin (-(y.2-x.2)) (y.1-x.1) p v:=fun v hv=>by
   have e:lin (-(y.2-x.2)) (y.1-x.1) p v=Ar v (x,y)-Ar p (x,y):=by
    delta lin Ar Ad Ae;dsimp only;grind
   have:=h _ he v hv
   refine rr e ?_;exact Aq hs this
  have mem:∀e∈Al ps,e.1∈ps∧e.2∈ps:=by
   cases ps with
   |nil=>intro e h;cases h
   |cons a r=>exact fun e h=>Dk r a a e h
  exact⟨key _ (mem e m).1,key _ (mem e m).2⟩
 ·refine Pa fun⟨x,y⟩ he=>?_
  have hs:0≤Ar p (x,y):=not_lt.mp fun q=>c ⟨_,he,q⟩
  by_cases h1:x.2≤p.2
  ·by_cases h2:y.2≤p.2
   ·refine rr (BJ ⟨fun V=>h2,fun V=>h1⟩) ?_;exact Int.le_refl 0
   ·refine rr (Gk h1 (not_le.mp h2)) ?_;split<;>decide
  ·by_cases h2:y.2≤p.2
   ·refine rr (DJ (not_le.mp h1) h2) (rr (if_neg (not_lt.mpr hs)) ?_);exact Int.le_refl 0
   ·refine rr (BJ ⟨fun h=>absurd h h1,fun h=>absurd h h2⟩) ?_;exact Int.le_refl 0
noncomputable def RB(e:Pt×Pt):Pt×Pt:=(e.2,e.1)
theorem Jk:∀(r:List Pt) (a b z:Pt),AL a (r++[b]) z=AL a r b++[(b,z)]:=by
 intro r
 induction r with
 |nil=>intro a b z;rfl
 |cons c r ih=>intro a b z;show(a,c)::AL c (r++[b]) z=_;refine rr (ih ..) ?_;rfl
theorem RC:∀(r:List Pt) (a z:Pt),AL z r.reverse a=((AL a r z).map RB).reverse:=by
 intro r
 induction r with
 |nil=>intro a z;rfl
 |cons b r ih=>
  intro a z
  refine rr reverse_cons ?_;refine rr (Jk ..) (rr (ih ..) ?_)
  show _=(RB (a,b)::(AL b r z).map RB).reverse
  refine rr reverse_cons ?_;rfl
theorem Ut(a:Pt)(l:List Pt):(Al (l++[a])).Perm (Al (a::l)):=by
 cases l with
 |nil=>exact .refl _
 |cons x l=>
  show(AL x (l++[a]) x).Perm ((a,x)::AL x l a)
  refine rr (Jk ..) ?_
  exact List.perm_append_comm
theorem NM(ps:List Pt):(Al ps.reverse).Perm ((Al ps).map RB):=by
 cases ps with
 |nil=>exact .refl _
 |cons a r=>
  refine rr reverse_cons ?_
  refine(Ut a r.reverse).trans ?_
  show(AL a r.reverse a).Perm _
  refine rr (RC ..) ?_
  exact List.reverse_perm _
theorem RD(f:Pt→Pt):∀(r:List Pt) (a z:Pt),AL (f a) (r.map f) (f z)=(AL a r z).map fun e=>(f e.1,f e.2):=by
 intro r
 induction r with
 |nil=>intro a z;rfl
 |cons b r ih=>intro a z;show(f a,f b)::AL (f b) (r.map f) (f z)=_;refine rr (ih ..) ?_;rfl
theorem Gm(f:Pt→Pt)(ps:List Pt):Al (ps.map f)=(Al ps).map fun e=>(f e.1,f e.2):=by
 cases ps with
 |nil=>rfl
 |cons a r=>exact RD f r a a
theorem Ig{a b:List (Pt×Pt)}(h:a.Perm b):Fy p a=Fy p b:=by
 induction h with
 |nil=>rfl
 |cons x _ ih=>refine rr (CE ..) ?_;refine rr (CE ..) (rr ih ?_);rfl
 |swap x y l=>refine rr (CE ..) (rr (CE ..) ?_);refine rr (CE ..) (rr (CE ..) ?_);simp+arith only[*]
 |trans _ _ h1 h2=>exact h1.trans h2
noncomputable def Cb(s:Mx)(v:Pt):Pt:=(s.a*v.1+s.c*v.2+s.e*1000000,s.b*v.1+s.d*v.2+s.f*1000000)
noncomputable def Bs(s:Mx):Int:=s.a*s.d-s.b*s.c
theorem NN(s:Mx)(p a b:Pt):Ar (Cb s p) (Cb s a,Cb s b)=Bs s*Ar p (a,b):=by
 refine rr (DC ..) (rr (DC ..) ?_);delta Ad Ae Cb Bs;dsimp only;grind
noncomputable def dvE(s:Mx)(e:Pt×Pt):Pt×Pt:=if 0<Bs s then(Cb s e.1,Cb s e.2)else(Cb s e.2,Cb s e.1)
noncomputable def Bq(s:Mx)(p:Pt)(es:List (Pt×Pt)):Int:=Fy (Cb s p) (es.map (dvE s))
theorem NO(s:Mx)(p:Pt)(a b:List (Pt×Pt)):Bq s p (a++b)=Bq s p a+Bq s p b:=by
 delta Bq;refine rr map_append (rr (Hw ..) ?_);rfl
theorem EK(s:Mx)(p:Pt)(e:Pt×Pt)(b:List (Pt×Pt)):Bq s p (e::b)=AS (Cb s p) (dvE s e)+Bq s p b:=CE ..
theorem Kp(s:Mx)(p a b:Pt):AS (Cb s p) (dvE s (a,b))+AS (Cb s p) (dvE s (b,a))=0:=by
 delta dvE;split<;>exact Ry ..
theorem RE{s:Mx}(h:Bs s≠0)(p:Pt)(e:Pt×Pt):∃k,0<k∧Ar (Cb s p) (dvE s e)=k*Ar p e:=by
 delta dvE
 split
 ·exact⟨_,‹_›,NN s p e.1 e.2⟩
 ·refine⟨-Bs s,by lia,?_⟩
  refine rr (Ko ..) ?_;refine rr (NN ..) (rr (neg_mul ..) ?_);rfl
theorem NP(s:Mx)(α β:Int)(p v:Pt):lin (α*s.d-β*s.b) (β*s.a-α*s.c) (Cb s p) (Cb s v)=Bs s*lin α β p v:=by
 delta lin Cb Bs;dsimp only;grind
theorem RF(s:Mx)(ps:List Pt):∃qs:List Pt,(Al qs).Perm ((Al ps).map (dvE s))∧(∀v∈qs,∃u∈ps,v=Cb s u)∧(ps≠[]→qs≠[]):=by
 by_cases c:0<Bs s
 ·refine⟨ps.map (Cb s),?_,fun v h=>?_,fun h e=>h (map_eq_nil_iff.mp e)⟩
  ·refine rr (Gm ..) ?_
   refine .of_eq (map_congr_left fun e V=>?_)
   delta dvE;refine rr (if_pos c) ?_;rfl
  ·obtain⟨u,h1,rfl⟩:=mem_map.mp h;exact⟨u,h1,rfl⟩
 ·refine⟨(ps.map (Cb s)).reverse,?_,fun v h=>?_,fun h e=>h (map_eq_nil_iff.mp (List.reverse_eq_nil_iff.mp e))⟩
  ·refine(NM _).trans ?_
   refine rr (Gm ..) (rr map_map ?_)
   refine .of_eq (map_congr_left fun e V=>?_)
   delta dvE;refine rr (if_neg c) ?_;rfl
  ·obtain⟨u,h1,rfl⟩:=mem_map.mp (mem_reverse.mp h);exact⟨u,h1,rfl⟩
theorem RG{s:Mx}(hs:Bs s≠0)(h0:ps≠[])(h:∀e∈Al ps,0<Ar p e):1≤Bq s p (Al ps):=by
 obtain⟨qs,h1,_,h3⟩:=RF s ps
 delta Bq
 refine rl (Ig h1) ?_
 cases qs with
 |nil=>exact absurd rfl (h3 h0)
 |cons a r=>
  refine RA fun e he=>?_
  obtain⟨e0,m,rfl⟩:=mem_map.mp (h1.mem_iff.mp he)
  obtain⟨k,k0,ek⟩:=RE hs p e0
  refine rr ek ?_;exact mul_pos k0 (h e0 m)
theorem DW{s:Mx}(hs:Bs s≠0)(h:∀e∈Al ps,∀v∈ps,0≤Ar v e):0≤Bq s p (Al ps):=by
 obtain⟨qs,h1,h2,_⟩:=RF s ps
 delta Bq
 refine rl (Ig h1) ?_
 refine Ie fun e he v hv=>?_
 obtain⟨u,hu,rfl⟩:=h2 v hv
 obtain⟨e0,m,rfl⟩:=mem_map.mp (h1.mem_iff.mp he)
 obtain⟨k,k0,ek⟩:=RE hs u e0
 refine rr ek ?_;exact mul_nonneg (le_of_lt k0) (h e0 m u hu)
theorem Vw{es:List (Pt×Pt)}(s:Mx)(hc:Cyc es):Cyc (es.map (dvE s)):=fun f=>by
 refine rr map_map ?_
 by_cases c:0<Bs s
 ·have:=hc fun v=>f (Cb s v)
  refine rl this ?_
  refine congrArg List.sum (map_congr_left fun e V=>?_)
  show f (dvE s e).1-f (dvE s e).2=_
  delta dvE;refine rr (if_pos c) ?_;rfl
 ·have:=hc fun v=> -f (Cb s v)
  refine rl this ?_
  refine congrArg List.sum (map_congr_left fun e V=>?_)
  show f (dvE s e).1-f (dvE s e).2=_
  delta dvE;refine rr (if_neg c) ?_;dsimp only;simp+arith only[*]
theorem RH{s:Mx}(hs:Bs s≠0){α β:Int}{es:List (Pt×Pt)}(hc:Cyc es)(h:∀e∈es,0<lin α β p e.1∧0<lin α β p e.2):Bq s p es=0:=by
 by_cases c:0<Bs s
 ·refine Gl (α:=α*s.d-β*s.b) (β:=β*s.a-α*s.c) (Vw s hc) fun e he=>?_
  obtain⟨e0,m,rfl⟩:=mem_map.mp he
  obtain⟨k1,k2⟩:=h e0 m
  delta dvE
  refine rr (if_pos c) ?_
  dsimp only
  refine rr (NP ..) (rr (NP ..) ?_)
  exact⟨mul_pos c k1,mul_pos c k2⟩
 ·refine Gl (α:= -α*s.d- -β*s.b) (β:= -β*s.a- -α*s.c) (Vw s hc) fun e he=>?_
  obtain⟨e0,m,rfl⟩:=mem_map.mp he
  obtain⟨k1,k2⟩:=h e0 m
  have n:∀v,lin (-α) (-β) p v= -lin α β p v:=fun v=>by delta lin;grind
  delta dvE
  refine rr (if_neg c) ?_
  dsimp only
  refine rr (NP ..) (rr (NP ..) ?_);refine rr (n ..) (rr (n ..) ?_);refine rr (mul_neg ..) (rr (mul_neg ..) ?_);refine rl (neg_mul ..) (rl (neg_mul ..) ?_)
  have c':0< -Bs s:=by lia
  exact⟨mul_pos c' k2,mul_pos c' k1⟩
theorem Jl{s:Mx}(hs:Bs s≠0){α β:Int}(h:∀v∈ps,0<lin α β p v):Bq s p (Al ps)=0:=by
 refine RH (α:=α) (β:=β) hs (Hx ps) fun e he=>?_
 cases ps with
 |nil=>cases he
 |cons a r=>exact⟨h _ (Dk r a a e he).1,h _ (Dk r a a e he).2⟩
noncomputable def aZ:Nat→Nat→Nat→Nat
 |0,_,x=>x
 |k+1,n,x=>if(x+n/x)/2<x then aZ k n ((x+n/x)/2)else x
noncomputable def isq(n:Int):Int:=(aZ 60 n.toNat 70368744177664:Nat)
noncomputable def Uu(x r:Int):Bool:=decide (0<r)&&decide (r*r≤x)&&decide (x<(r+1)*(r+1))
noncomputable def Vx(h:Int)(w:Pt)(L:Int):Pt:=(CM (-w.2*h*1000000) L,CM (w.1*h*1000000) L)
noncomputable def RJ(w:Pt):Int:=(w.1*1000000)*(w.1*1000000)+(w.2*1000000)*(w.2*1000000)
structure Lz(a u h:Int)(s:Pt):Prop where
 c0:0<a*s.2-u*s.1
 c1:(a*a+u*u)*((h-1)*(h-1))≤(a*s.2-u*s.1)*(a*s.2-u*s.1)
 c2:(a*s.2-u*s.1)*(a*s.2-u*s.1)≤(a*a+u*u)*((h+1)*(h+1))
 d0:(a*s.1+u*s.2)*(a*s.1+u*s.2)≤a*a+u*u
 s1:(h-1)*(h-1)≤s.1*s.1+s.2*s.2
 s2:s.1*s.1+s.2*s.2≤(h+1)*(h+1)
noncomputable def XZ(a u h:Int)(s:Pt):Bool:=
 decide (0<a*s.2-u*s.1)&&(decide ((a*a+u*u)*((h-1)*(h-1))≤(a*s.2-u*s.1)*(a*s.2-u*s.1))&&(decide ((a*s.2-u*s.1)*(a*s.2-u*s.1)≤(a*a+u*u)*((h+1)*(h+1)))&&(decide ((a*s.1+u*s.2)*(a*s.1+u*s.2)≤a*a+u*u)
  &&(decide ((h-1)*(h-1)≤s.1*s.1+s.2*s.2)&&decide (s.1*s.1+s.2*s.2≤(h+1)*(h+1))))))
theorem Uv{u h:Int}{s:Pt}(x:XZ a u h s=true):Lz a u h s:=by
 delta XZ at x
 simp only[and_eq_true,decide_eq_true_eq]at x
 exact⟨x.1,x.2.1,x.2.2.1,x.2.2.2.1,x.2.2.2.2.1,x.2.2.2.2.2⟩
structure Dl(f F:Pt)(H:Int):Prop where
 x1: -102≤f.1-100*F.1
 x2:f.1-100*F.1≤102
 y1: -102≤f.2-100*F.2
 y2:f.2-100*F.2≤102
 n1:H*H-3*H≤F.1*F.1+F.2*F.2
 n2:F.1*F.1+F.2*F.2≤H*H+3*H
noncomputable def Uw(f F:Pt)(H:Int):Bool:=
 decide (-102≤f.1-100*F.1)&&(decide (f.1-100*F.1≤102)&&(decide (-102≤f.2-100*F.2)&&(decide (f.2-100*F.2≤102)&&(decide (H*H-3*H≤F.1*F.1+F.2*F.2)&&decide (F.1*F.1+F.2*F.2≤H*H+3*H)))))
theorem NQ{f:Pt}(x:Uw f F H=true):Dl f F H:=by
 delta Uw at x
 simp only[and_eq_true,decide_eq_true_eq]at x
 exact⟨x.1,x.2.1,x.2.2.1,x.2.2.2.1,x.2.2.2.2.1,x.2.2.2.2.2⟩
noncomputable def dh(v:Pt)(half L:Int)(l:Bool):Pt:=(((YV v l).1*half*1000*1000).fdiv L,((YV v l).2*half*1000*1000).fdiv L)
noncomputable def Eh(p:Pt):Pt:=(-p.1,-p.2)
noncomputable def fB(un a u:Int)(L M:Int)(s:Pt):Bool:=
 Uu (RJ (3000000*a,3000000*u)) L&&(Uu (AA (30*a,30*u) (30*a,30*u)*1000*1000) M&&(XZ a u (1000000*un) s&&(Uw (Eh s) (dh (30*a,30*u) (10*un) M true) (10000*un)&&Uw s (dh (30*a,30*u) (10*un) M false) (10000*un))))
noncomputable def fC(un a u L M:Int):Bool:=fB un a u L M (Vx (1000000*un) (3000000*a,3000000*u) L)
noncomputable def NR(un a u:Int):Bool:=fC un a u (isq (RJ (3000000*a,3000000*u))) (isq (AA (30*a,30*u) (30*a,30*u)*1000*1000))
noncomputable def fD:Bool:=(List.range 19).all fun i=>(List.range 19).all fun j=>(i==9&&j==9)||(NR 1 ((i:Int)-9) ((j:Int)-9)&&NR 2 ((i:Int)-9) ((j:Int)-9))
theorem Ya:fD=true:=by decide+kernel
theorem NS{x:Int}(h:Uu x r=true):BN x=r:=by
 delta Uu at h
 simp only[and_eq_true,decide_eq_true_eq]at h
 obtain⟨⟨h1,h2⟩,h3⟩:=h
 refine HV.unique (AU x) ⟨fun hx=>?_,fun V=>⟨h1,h2,h3⟩⟩
 have:r*r<2:=Int.lt_of_le_of_lt h2 hx
 have h4:r≤1:=not_lt.mp fun q=>by
  have:=mul_le_mul (Int.add_one_le_iff.mpr q) (Int.add_one_le_iff.mpr q) (by decide) (by exact le_of_lt h1)
  omega
 have:r=1:=by exact le_antisymm (h4) (h1)
 subst this
 exact le_antisymm (h2) (Af hx)
structure di(un a u:Int):Prop where
 side:Lz a u (1000000*un) (An (1000000*un) (3000000*a,3000000*u))
 left:Dl (Eh (An (1000000*un) (3000000*a,3000000*u))) (Hc (30*a,30*u) (10*un) true) (10000*un)
 right:Dl (An (1000000*un) (3000000*a,3000000*u)) (Hc (30*a,30*u) (10*un) false) (10000*un)
theorem Hd{u:Int}(hu:un=1∨un=2)(a1: -9≤a)(a2:a≤9)(u1: -9≤u)(u2:u≤9)(h0:¬(a=0∧u=0)):di un a u:=by
 have k:NR un a u=true:=by
  have e:=Ya
  unfold fD at e
  rw[all_eq_true]at e
  have e:=e (a+9).toNat (mem_range.mpr (by lia))
  rw[all_eq_true]at e
  have e:=e (u+9).toNat (mem_range.mpr (by lia))
  rw[show(((a+9).toNat:Nat):Int)-9=a by omega,show(((u+9).toNat:Nat):Int)-9=u by lia,or_eq_true,and_eq_true,and_eq_true]at e
  rcases e with⟨e1,e2⟩|⟨e1,e2⟩
  ·rw[beq_iff_eq]at e1 e2;exact absurd ⟨by lia,by lia⟩ h0
  ·rcases hu with rfl|rfl
   ·exact e1
   ·exact e2
 unfold NR fC fB at k
 generalize isq (RJ (3000000*a,3000000*u))=L at k
 generalize isq (AA (30*a,30*u) (30*a,30*u)*1000*1000)=M at k
 simp only[and_eq_true]at k
 obtain⟨k1,k2,k3,k4,k5⟩:=k
 have r1:=NS k1
 have r2:=NS k2
 have ea:An (1000000*un) (3000000*a,3000000*u)=Vx (1000000*un) (3000000*a,3000000*u) L:=by refine rl r1 ?_;rfl
 have eo:∀l,Hc (30*a,30*u) (10*un) l=dh (30*a,30*u) (10*un) M l:=fun l=>by refine rl r2 ?_;rfl
 rw[←ea]at k3 k4 k5
 exact⟨Uv k3,by refine rr (eo ..) ?_;exact NQ k4,by refine rr (eo ..) ?_;exact NQ k5⟩
theorem sq0(x:Int):0≤x*x:=by
 rcases Int.le_total 0 x with h|h
 ·exact mul_nonneg h h
 ·refine rl (neg_mul_neg ..) ?_;exact mul_nonneg (Int.neg_nonneg_of_nonpos h) (Int.neg_nonneg_of_nonpos h)
theorem IK{x y:Int}(hy:0≤y)(h:x*x<y*y): -y<x∧x<y:=by
 constructor
 ·refine not_le.mp fun q=>?_
  have:=mul_le_mul (show y≤ -x by exact Af q) (show y≤ -x by exact Af q) hy (by exact Aq hy q)
  rw[neg_mul_neg]at this;exact absurd this (not_le.mpr h)
 ·refine not_le.mp fun q=>?_
  have:=mul_le_mul q q hy (Int.le_trans hy q);exact absurd this (not_le.mpr h)
theorem DX{x y:Int}(hy:0≤y)(h:x*x≤y*y): -y≤x∧x≤y:=by
 have k:x*x<(y+1)*(y+1):=by
  have e:(y+1)*(y+1)=y*y+2*y+1:=by grind
  exact FG hy hy h (le_of_eq e.symm)
 have:=IK (show 0≤y+1 by exact Af hy) k
 exact⟨by exact Af this.1,by exact Int.le_of_lt_add_one this.2⟩
theorem Dm{x y p q:Int}(h1:x*x≤p)(h2:y*y≤q):x*y*(x*y)≤p*q:=by
 have x0:0≤x*x:=(sq0 _)
 have y0:0≤y*y:=(sq0 _)
 have e:x*y*(x*y)=x*x*(y*y):=by grind
 refine rr e ?_;exact mul_le_mul h1 h2 y0 (Int.le_trans x0 h1)
theorem Kq{x y p q:Int}(h1:p≤x*x)(h2:q≤y*y)(hp:0≤p)(hq:0≤q):p*q≤x*y*(x*y):=by
 have e:x*y*(x*y)=x*x*(y*y):=by grind
 refine rr e ?_;exact mul_le_mul h1 h2 hq (Int.le_trans hp h1)
structure Jm(hf h n c d X A:Int):Prop where
 two:(hf=10∧h=1000000)∨(hf=20∧h=2000000)
 n1:1≤n
 n2:n≤162
 c0:0<c
 c1:n*((h-1)*(h-1))≤c*c
 c2:c*c≤n*((h+1)*(h+1))
 d0:d*d≤n
 a0: -16000≤A∧A≤16000
section
variable{h n d A:Int}
theorem Jm.dX(L:Jm hf h n c d X A)(x0:X*X≤(hf-1)*(hf-1)*n): -((hf-1)*n)≤d*X∧d*X≤(hf-1)*n:=by
 have n1:=L.n1
 have k:=Dm L.d0 x0
 have h1:0≤(hf-1)*n:=by
  rcases L.two with⟨rfl,_⟩|⟨rfl,_⟩
  ·lia
  ·lia
 refine DX h1 (Int.le_trans k (le_of_eq ?_))
 grind
theorem Jm.gap(L:Jm hf h n c d X A){z:Int}(z0:z*z≤(hf-1)*(hf-1)*n): -c<100000*z∧100000*z<c∧99999*n*(h-1)≤c*c-100000*(c*z)∧99999*n*(h-1)≤c*c+100000*(c*z):=by
 have n1:=L.n1
 have c0:=L.c0
 have c1:=L.c1
 have k:100000*z*(h-1)*(100000*z*(h-1))≤(100000*(hf-1)*c)*(100000*(hf-1)*c):=by
  rcases L.two with⟨rfl,rfl⟩|⟨rfl,rfl⟩
  ·grind
  ·grind
 have k2:=DX (by rcases L.two with⟨rfl,_⟩|⟨rfl,_⟩<;>lia) k
 have m1:=mul_le_mul_of_nonneg_right k2.1 (le_of_lt c0)
 have m2:=mul_le_mul_of_nonneg_right k2.2 (le_of_lt c0)
 rcases L.two with⟨rfl,rfl⟩|⟨rfl,rfl⟩
 ·refine⟨by lia,by lia,?_,?_⟩
  ·lia
  ·lia
 ·refine⟨by lia,by lia,?_,?_⟩
  ·lia
  ·lia
theorem Jm.start(L:Jm hf h n c d X A)(x0:X*X≤(hf-1)*(hf-1)*n)(h0:0≤A)(h1:n≤A*A):0<c*A-d*X:=by
 have n1:=L.n1
 have k1:=L.dX x0
 have k2:=Kq L.c1 h1 (mul_nonneg (by exact le_of_lt n1) (sq0 _)) (by exact le_of_lt n1)
 have k3:(hf-1)*n*((hf-1)*n)<n*((h-1)*(h-1))*n:=by
  have nn:=mul_pos (show 0<n by exact n1) (show 0<n by exact n1)
  rcases L.two with⟨rfl,rfl⟩|⟨rfl,rfl⟩
  ·lia
  ·lia
 have k4:=(IK (mul_nonneg (le_of_lt L.c0) h0) (Int.lt_of_lt_of_le k3 k2)).2
 exact Aq k1.2 k4
theorem Jm.capA(L:Jm hf h n c d X A)(x0:X*X≤(hf-1)*(hf-1)*n)(h1:0≤A∨A*A≤(hf-1)*(hf-1)*n):0<c*c+d*d+100000*(c*A-d*X):=by
 have n1:=L.n1
 have k1:=L.dX x0
 have d2:0≤d*d:=(sq0 _)
 have c1:=L.c1
 rcases h1 with h1|h1
 ·have:=mul_nonneg (le_of_lt L.c0) h1
  rcases L.two with⟨rfl,rfl⟩|⟨rfl,rfl⟩
  ·lia
  ·lia
 ·have:=(L.gap h1).2.2.2
  rcases L.two with⟨rfl,rfl⟩|⟨rfl,rfl⟩
  ·lia
  ·lia
theorem Jm.capX(L:Jm hf h n c d X A)(x0:X*X≤(hf-1)*(hf-1)*n):0<c*c+d*d-100000*(d*A+c*X)∧0<c*c+d*d+100000*(d*A+c*X):=by
 have n1:=L.n1
 have n2:=L.n2
 have d2:0≤d*d:=(sq0 _)
 have dd:=DX (x:=d) (y:=13) (by decide) (by have:=L.d0;exact Aq n2 this)
 have a0:=L.a0
 have g:=L.gap x0
 have dA: -208000≤d*A∧d*A≤208000:=by
  have:=Dm (x:=d) (y:=A) (p:=13*13) (q:=16000*16000) (by have:=L.d0;exact Aq n2 this) (by
   have:=mul_nonneg (show 0≤16000-A by exact sub_nonneg.mpr a0.2) (show 0≤16000+A by exact Af a0.1)
   lia)
  exact DX (by decide) this
 rcases L.two with⟨rfl,rfl⟩|⟨rfl,rfl⟩<;>exact⟨by lia,by lia⟩
end
noncomputable def LW(x α β:Pt):List Pt:=[x,Ag x α,Ag (Ag x α) β,Ag x β]
noncomputable def net(x α β v:Pt):Pt:=(x.1+v.1*α.1+v.2*β.1,x.2+v.1*α.2+v.2*β.2)
noncomputable def dj(v:Pt)(e:Pt×Pt):Int:=(e.2.1-e.1.1)*(v.2-e.1.2)-(e.2.2-e.1.2)*(v.1-e.1.1)
theorem Ux(x α β v:Pt)(e:Pt×Pt):Ar (net x α β v) (net x α β e.1,net x α β e.2)=dj v e*Ad α β:=by
 dsimp only[Ar,net,dj,Ad,Ae];grind
theorem Jn{x α β:Pt}(h:0≤Ad α β){L:List Pt}(e:ps=L.map (net x α β))(ok:(Al L).all (fun e=>L.all fun v=>decide (0≤dj v e))=true):∀e∈Al ps,∀v∈ps,0≤Ar v e:=by
 subst e
 intro e he v hv
 rw[Gm]at he
 obtain⟨e,me,rfl⟩:=mem_map.mp he
 obtain⟨v,mv,rfl⟩:=mem_map.mp hv
 refine rr (Ux ..) ?_
 exact mul_nonneg (of_decide_eq_true (all_eq_true.mp (all_eq_true.mp ok e me) v mv)) h
theorem be(x α β:Pt):x=net x α β (0,0):=by delta net;dsimp only;refine rr (zero_mul ..) (rr (zero_mul ..) ?_);refine rr (zero_mul ..) (rr (zero_mul ..) ?_);refine rr (add_zero ..) (rr (add_zero ..) ?_);refine rr (add_zero ..) (rr (add_zero ..) ?_);rfl
theorem bh(x α β:Pt):Ag x α=net x α β (1,0):=by delta net Ag;dsimp only;refine rr (zero_mul ..) (rr (zero_mul ..) ?_);refine rr (one_mul ..) (rr (one_mul ..) ?_);refine rr (add_zero ..) (rr (add_zero ..) ?_);rfl
theorem bj(x α β:Pt):Ag x β=net x α β (0,1):=by delta net Ag;dsimp only;refine rr (zero_mul ..) (rr (zero_mul ..) ?_);refine rr (one_mul ..) (rr (one_mul ..) ?_);refine rr (add_zero ..) (rr (add_zero ..) ?_);rfl
theorem dk(x α β:Pt):Ag (Ag x α) β=net x α β (1,1):=by delta net Ag;dsimp only;refine rr (one_mul ..) (rr (one_mul ..) ?_);refine rr (one_mul ..) (rr (one_mul ..) ?_);rfl
theorem FA{a b:Pt}{l r:List Pt}(h:a=b)(k:l=r):a::l=b::r:=by refine rr h (rr k ?_);rfl
theorem FB{x α β:Pt}(h:0≤Ad α β):∀e∈Al (LW x α β),∀v∈LW x α β,0≤Ar v e:=
 Jn (L:=[(0,0),(1,0),(1,1),(0,1)]) h (FA (be ..) (FA (bh ..) (FA (dk ..) (FA (bj ..) rfl)))) (by decide)
theorem RK{s:Mx}(hs:Bs s≠0){f g:Int}{x α β:Pt}(h1:0<lin f g p x)(h2:0<lin f g p (Ag x α))(h3:0<lin f g p (Ag (Ag x α) β))(h4:0<lin f g p (Ag x β)):Bq s p (Al (LW x α β))=0:=
 Jl (α:=f) (β:=g) hs (alc h1 (alc h2 (alc h3 (alc h4 Cc))))
noncomputable def EL(s:Pt):Pt:=(-s.2,s.1)
noncomputable def Bh(k:Int)(s:Pt):Pt:=(k*s.1,k*s.2)
noncomputable def Gn(P w s:Pt):List Pt:=LW (Ag P s) (Bh (-2) s) w
noncomputable def Go(P s:Pt):List Pt:=LW (Ae P s) (Bh 2 s) (EL s)
noncomputable def Gp(Q s:Pt):List Pt:=LW (Ag Q s) (Bh (-2) s) (Eh (EL s))
noncomputable def cq(b:Bool)(P s:Pt):List Pt:=if b then[Ag (Ag P s) (EL s),Ag (Ae P s) (EL s)]else[]
noncomputable def bo(b:Bool)(Q s:Pt):List Pt:=if b then[Ae (Ae Q s) (EL s),Ae (Ag Q s) (EL s)]else[]
noncomputable def NT(b1 b2:Bool)(P Q s:Pt):List Pt:=Ag P s::(cq b1 P s++Ae P s::Ae Q s::(bo b2 Q s++[Ag Q s]))
theorem LC:∀(r:List Pt) (a b:Pt) (r':List Pt) (z:Pt),AL a (r++b::r') z=AL a r b++AL b r' z:=by
 intro r
 induction r with
 |nil=>intro a b r' z;rfl
 |cons c r ih=>intro a b r' z;show(a,c)::AL c (r++b::r') z=_;refine rr (ih ..) ?_;rfl
theorem Jo(b1 b2:Bool)(P Q s:Pt):Al (NT b1 b2 P Q s)=AL (Ag P s) (cq b1 P s) (Ae P s)++((Ae P s,Ae Q s)::(AL (Ae Q s) (bo b2 Q s) (Ag Q s)++[(Ag Q s,Ag P s)])):=by
 show AL (Ag P s) (cq b1 P s++Ae P s::Ae Q s::(bo b2 Q s++[Ag Q s])) (Ag P s)=_
 refine rr (LC ..) ?_
 show _++((Ae P s,Ae Q s)::AL (Ae Q s) (bo b2 Q s++[Ag Q s]) (Ag P s))=_
 refine rr (LC ..) ?_;rfl
noncomputable def DN(b:Bool)(k:Int):Int:=if b then k else 0
theorem Uy(m:Mx)(p P w s:Pt)(b1 b2:Bool):Bq m p (Al (Gn P w s))+DN b1 (Bq m p (Al (Go P s)))+DN b2 (Bq m p (Al (Gp (Ag P w) s)))=Bq m p (Al (NT b1 b2 P (Ag P w) s)):=by
 have e1:Ag (Ag P s) (Bh (-2) s)=Ae P s:=by delta Ag Bh Ae;dsimp only;congr 1<;>simp+arith only[*]
 have e2:Ag (Ae P s) w=Ae (Ag P w) s:=by delta Ag Ae;dsimp only;congr 1<;>simp+arith only[*]
 have e3:Ag (Ag P s) w=Ag (Ag P w) s:=by delta Ag;dsimp only;congr 1<;>simp+arith only[*]
 have e4:Ag (Ae P s) (Bh 2 s)=Ag P s:=by delta Ag Bh Ae;dsimp only;congr 1<;>simp+arith only[*]
 have e5:Ag (Ag (Ag P w) s) (Bh (-2) s)=Ae (Ag P w) s:=by delta Ag Bh Ae;dsimp only;congr 1<;>simp+arith only[*]
 have e6:∀x:Pt,Ag x (Eh (EL s))=Ae x (EL s):=fun x=>by delta Ag Ae Eh;dsimp only;congr 1<;>lia
 delta Gn Go Gp LW
 refine rr e1 ?_;refine rr e2 (rr e3 ?_);refine rr e4 (rr e5 ?_);refine rr (e6 ..) (rr (e6 ..) ?_)
 have r1:=Kp m p (Ag P s) (Ae P s)
 have r2:=Kp m p (Ae (Ag P w) s) (Ag (Ag P w) s)
 have z:Bq m p []=0:=rfl
 (with_reducible refine rr (Jo ..) ?_);(with_reducible refine rr (NO ..) ?_);(with_reducible refine rr (EK ..) ?_);(with_reducible refine rr (NO ..) ?_)
 cases b1<;>cases b2<;>simp only[DN,cq,bo,if_true,if_false,false_eq_true,Al,AL,EK,z]<;>lia
section
variable{h n d A:Int}{u v1 v2:Int}{P s:Pt}
noncomputable abbrev En(P:Pt)(v1 v2:Int):Pt:=(P.1+100000*v1,P.2+100000*v2)
noncomputable abbrev DK(a u:Int):Pt:=(3000000*a,3000000*u)
section
variable(hn:n=a*a+u*u)(hc:c=a*s.2-u*s.1)(hd:d=a*s.1+u*s.2)(hA:A=a*v1+u*v2)(hX:X=a*v2-u*v1)
include hn hc hd hA hX
theorem gn:n*Ar (En P v1 v2) (Ag P s,Ae P s)=200000*(c*A-d*X):=by subst hn hc hd hA hX;dsimp only[Ar,Ad,Ae,Ag];grind
theorem dm:n*Ar (En P v1 v2) (Ag P s,Ag (Ag P s) (EL s))=c*c+d*d-100000*(d*A+c*X):=by subst hn hc hd hA hX;dsimp only[Ar,Ad,Ae,Ag,EL];grind
theorem dq:n*Ar (En P v1 v2) (Ag (Ag P s) (EL s),Ag (Ae P s) (EL s))=2*(c*c+d*d+100000*(c*A-d*X)):=by subst hn hc hd hA hX;dsimp only[Ar,Ad,Ae,Ag,EL];grind
theorem du:n*Ar (En P v1 v2) (Ag (Ae P s) (EL s),Ae P s)=c*c+d*d+100000*(d*A+c*X):=by subst hn hc hd hA hX;dsimp only[Ar,Ad,Ae,Ag,EL];grind
theorem gq:n*Ar (En P v1 v2) (Ae (Ag P (DK a u)) s,Ag (Ag P (DK a u)) s)=200000*(c*(30*n-A)-d* -X):=by subst hn hc hd hA hX;dsimp only[Ar,Ad,Ae,Ag];grind
theorem dw:n*Ar (En P v1 v2) (Ae (Ag P (DK a u)) s,Ae (Ae (Ag P (DK a u)) s) (EL s))=c*c+d*d-100000*(d*(30*n-A)+c* -X):=by subst hn hc hd hA hX;dsimp only[Ar,Ad,Ae,Ag,EL];grind
theorem dz:n*Ar (En P v1 v2) (Ae (Ae (Ag P (DK a u)) s) (EL s),Ae (Ag (Ag P (DK a u)) s) (EL s))=2*(c*c+d*d+100000*(c*(30*n-A)-d* -X)):=by subst hn hc hd hA hX;dsimp only[Ar,Ad,Ae,Ag,EL];grind
theorem dB:n*Ar (En P v1 v2) (Ae (Ag (Ag P (DK a u)) s) (EL s),Ag (Ag P (DK a u)) s)=c*c+d*d+100000*(d*(30*n-A)+c* -X):=by subst hn hc hd hA hX;dsimp only[Ar,Ad,Ae,Ag,EL];grind
end
theorem gr(hc:c=a*s.2-u*s.1)(hX:X=a*v2-u*v1):Ar (En P v1 v2) (Ae P s,Ae (Ag P (DK a u)) s)=3000000*(100000*X+c)∧Ar (En P v1 v2) (Ag (Ag P (DK a u)) s,Ag P s)=3000000*(c-100000*X):=by
 subst hc hX;constructor<;>(dsimp only[Ar,Ad,Ae,Ag];grind)
theorem LD{t y n:Int}(hn:1≤n)(e:n*t=y)(hy:0<y):0<t:=Int.pos_of_mul_pos_right (by refine rr e ?_;exact hy) (show 0<n by exact hn)
theorem NU{k y:Int}(hk:0<k)(hy:0<y):0<k*y:=mul_pos hk hy
theorem Yb{b1:Bool}(hn:n=a*a+u*u)(hc:c=a*s.2-u*s.1)(hd:d=a*s.1+u*s.2)(hA:A=a*v1+u*v2)(hX:X=a*v2-u*v1)(L:Jm hf h n c d X A)(hB: -16000≤30*n-A∧30*n-A≤16000)(x0:X*X≤(hf-1)*(hf-1)*n)
 (h1:if b1=true then 0≤A∨A*A≤(hf-1)*(hf-1)*n else 0≤A∧n≤A*A) (h2:if b2=true then 0≤30*n-A∨(30*n-A)*(30*n-A)≤(hf-1)*(hf-1)*n else 0≤30*n-A∧n≤(30*n-A)*(30*n-A)):
 ∀e∈Al (NT b1 b2 P (Ag P (DK a u)) s),0<Ar (En P v1 v2) e:=by
 have n1:=L.n1
 have L':Jm hf h n c d (-X) (30*n-A):=⟨L.two,L.n1,L.n2,L.c0,L.c1,L.c2,L.d0,hB⟩
 have x0': -X* -X≤(hf-1)*(hf-1)*n:=by refine rr (neg_mul_neg ..) ?_;exact x0
 have g:=L.gap x0
 have k1:=L.capX x0
 have k2:=L'.capX x0'
 have w:=gr (P:=P) hc hX
 intro e he
 rw[Jo]at he
 refine faA (p:=fun e=>0<Ar (En P v1 v2) e) ?_ (alc (by refine rr w.1 ?_;exact NU (by decide) (by exact Af g.1)) (faA ?_ (alc (by refine rr w.2 ?_;exact NU (by decide) (by exact sub_pos.mpr g.2.1)) Cc))) e he
 ·cases b1 with
  |false=>exact alc (LD n1 (gn hn hc hd hA hX) (NU (by decide) (L.start x0 (h1:_∧_).1 (h1:_∧_).2))) Cc
  |true=>exact alc (LD n1 (dm hn hc hd hA hX) k1.1) (alc (LD n1 (dq hn hc hd hA hX) (NU (by decide) (L.capA x0 h1))) (alc (LD n1 (du hn hc hd hA hX) k1.2) Cc))
 ·cases b2 with
  |false=>exact alc (LD n1 (gq hn hc hd hA hX) (NU (by decide) (L'.start x0' (h2:_∧_).1 (h2:_∧_).2))) Cc
  |true=>exact alc (LD n1 (dw hn hc hd hA hX) k2.1) (alc (LD n1 (dz hn hc hd hA hX) (NU (by decide) (L'.capA x0' h2))) (alc (LD n1 (dB hn hc hd hA hX) k2.2) Cc))
end
structure Kr(v:Option Bool)(k:Int):Prop where
 t:v=some true→1≤k
 f:v=some false→k=0
 n:0≤k
theorem Ih{x m s:Int}(hm:0≤m)(h:Ap x m s=true):0≤x∧m*m*s≤x*x:=by
 delta Ap at h
 rw[if_pos hm,and_eq_true,decide_eq_true_eq,decide_eq_true_eq]at h;exact h
theorem Gq{x m s:Int}(hm:m<0)(h:Ap x m s=true):0≤x∨x*x≤m*m*s:=by
 delta Ap at h
 rw[if_neg (not_le.mpr hm),or_eq_true,decide_eq_true_eq,decide_eq_true_eq]at h;exact h
theorem DL{x m s:Int}(hm:m<0)(h:Ap x m s=false):x<0∧m*m*s<x*x:=by
 delta Ap at h
 rw[if_neg (not_le.mpr hm),or_eq_false_iff,decide_eq_false_iff_not,decide_eq_false_iff_not]at h
 exact⟨not_le.mp h.1,not_le.mp h.2⟩
set_option tactic.hygienic true in
theorem LE(h:OX l=some true):∀x∈l,x=some true:=by
 delta OX at h
 split at h
 ·cases h
 split at h
 ·cases h
 ·rename_i h1 h2
  intro x hx
  cases x with
  |none=>exact absurd hx h2
  |some b=>cases b with
   |true=>rfl
   |false=>exact absurd hx h1
theorem Jp(h:OX l=some false):some false∈l:=by
 delta OX at h
 split at h
 ·assumption
 split at h<;>cases h
theorem FC{x m s:Int}(h:By x m s=some true):Ap x (m+1) s=true:=by
 delta By at h
 split at h
 ·assumption
 split at h<;>cases h
set_option tactic.hygienic true in
theorem EM{x m s:Int}(h:By x m s=some false):Ap x (m-1) s=false:=by
 delta By at h
 split at h
 ·cases h
 split at h
 ·cases h
 ·rename_i h2;exact eq_false_iff.mpr h2
section
variable{h n d A:Int}{u v1 v2:Int}{P s:Pt}{m:Mx}
theorem Jm.out(L:Jm hf h n c d X A){z:Int}(h1:z<0)(h2:(hf+1)*(hf+1)*n<z*z):c+d< -(100000*z)∧c-d< -(100000*z):=by
 have n1:=L.n1
 have c0:=L.c0
 have c2:=L.c2
 have d0:=L.d0
 have cd:=Dm L.c2 L.d0
 have cd:=DX (x:=c*d) (y:=n*(h+1)) (by rcases L.two with⟨_,rfl⟩|⟨_,rfl⟩<;>lia) (by
  have e:n*((h+1)*(h+1))*n=n*(h+1)*(n*(h+1)):=by grind
  refine rl e ?_;exact cd)
 have y0:0≤ -(100000*z):=by exact Af (mI 100000 h1)
 have s1:(c+d)*(c+d)< -(100000*z)* -(100000*z):=by
  rcases L.two with⟨rfl,rfl⟩|⟨rfl,rfl⟩
  ·grind
  ·grind
 have s2:(c-d)*(c-d)< -(100000*z)* -(100000*z):=by
  rcases L.two with⟨rfl,rfl⟩|⟨rfl,rfl⟩
  ·grind
  ·grind
 exact⟨(IK y0 s1).2,(IK y0 s2).2⟩
theorem Jm.out0(L:Jm hf h n c d X A){z:Int}(h1:z<0)(h2:n<z*z):d< -(100000*z)∧ -d< -(100000*z):=by
 have:=IK (x:=d) (y:= -z) (by exact Af h1) (by refine rr (neg_mul_neg ..) ?_;exact Int.lt_of_le_of_lt L.d0 h2)
 exact⟨by exact BU 2 (aI (mI 99999 this.1) (mI 100001 this.2)),by exact BU 2 (aI (mI 100001 this.1) (mI 99999 this.2))⟩
noncomputable def ll(f g:Int)(v:Pt):Int:=f*v.1+g*v.2
theorem FD(f g:Int)(p x y:Pt):lin f g p (Ag x y)=lin f g p x+ll f g y:=by dsimp only[lin,ll,Ag];grind
theorem GQ(hm:Bs m≠0){f g L A:Int}{x α β:Pt}(hL:lin f g p x=L)(hA:ll f g α=A)(hB:ll f g β=B)(h1:0<L)(h2:0<L+A)(h3:0<L+A+B)(h4:0<L+B):Bq m p (Al (LW x α β))=0:=by
 subst hL hA hB
 refine RK (f:=f) (g:=g) hm h1 ?_ ?_ ?_
 ·refine rr (FD ..) ?_;exact h2
 ·refine rr (FD ..) (rr (FD ..) ?_);exact h3
 ·refine rr (FD ..) ?_;exact h4
section
variable{f g D F R W:Int}(hm:Bs m≠0)(hD:ll f g s=D)(hF:f*v1+g*v2=F)(hR:g*s.1-f*s.2=R)(hW:ll f g (DK a u)=W)
include hm hD hF
theorem bA:lin f g (En P v1 v2) P= -(100000*F):=by subst hF;dsimp only[lin];grind
theorem RN(k:Int):ll f g (Bh k s)=k*D:=by subst hD;dsimp only[ll,Bh];grind
theorem dC:lin f g (En P v1 v2) (Ae P s)= -(100000*F)-D:=by subst hD hF;dsimp only[lin,ll,Ae];grind
include hW
theorem Ii(h1:0< -(100000*F)+D)(h2:0< -(100000*F)+D+ -2*D)(h3:0< -(100000*F)+D+ -2*D+W)(h4:0< -(100000*F)+D+W):Bq m (En P v1 v2) (Al (Gn P (DK a u) s))=0:=
 GQ hm ((FD ..).trans (by refine rr (bA hm hD hF) (rr hD ?_);rfl)) (RN hm hD hF _) hW h1 h2 h3 h4
include hR
theorem Ij(h1:0< -(100000*F)-D)(h2:0< -(100000*F)-D+2*D)(h3:0< -(100000*F)-D+2*D+R)(h4:0< -(100000*F)-D+R):Bq m (En P v1 v2) (Al (Go P s))=0:=
 GQ hm (dC hm hD hF) (RN hm hD hF _) (show ll f g (EL s)=R by subst hR;dsimp only[ll,EL];grind) h1 h2 h3 h4
theorem Ik(h1:0< -(100000*F)+W+D)(h2:0< -(100000*F)+W+D+ -2*D)(h3:0< -(100000*F)+W+D+ -2*D+ -R)(h4:0< -(100000*F)+W+D+ -R):Bq m (En P v1 v2) (Al (Gp (Ag P (DK a u)) s))=0:=
 GQ hm ((FD ..).trans (by refine rr (FD ..) (rr (bA hm hD hF) ?_);refine rr hD (rr hW ?_);rfl)) (RN hm hD hF _) (show ll f g (Eh (EL s))= -R by subst hR;dsimp only[ll,EL,Eh];grind) h1 h2 h3 h4
end
theorem pl1{R:Int}(h:X<Z)(v:autoParam (Z≤R+X) au.a8._auto_1):0<R:=by have:Z≤R+X:=v;exact Aq h v
theorem pl2{A R:Int}(h:X<Z)(k:A≤B)(v:autoParam (Z+B≤R+(X+A)) au.a8._auto_1):0<R:=by have:Z+B≤R+(X+A):=v;exact He h k v
theorem ML{k0 k1 k2:Int}{b1:Bool}(e0:k0=0)(e1:b1=true→k1=0)(e2:b2=true→k2=0):k0+DN b1 k1+DN b2 k2=0:=by
 subst e0
 cases b1<;>cases b2
 ·rfl
 ·refine rr (e2 rfl) ?_;rfl
 ·refine rr (e1 rfl) ?_;rfl
 ·refine rr (e1 rfl) (rr (e2 rfl) ?_);rfl
theorem fE{n:Int}(n1:1≤n):0≤3000000*n:=by exact Af (mI 3000000 n1)
theorem bB{n:Int}(n1:1≤n)(c0:0<c):0≤3000000*n+c:=by exact Aq (mI 3000000 n1) c0
theorem RO(hm:Bs m≠0){b1:Bool}(hn:n=a*a+u*u)(hc:c=a*s.2-u*s.1)(hd:d=a*s.1+u*s.2)(hA:A=a*v1+u*v2)(n1:1≤n)(c0:0<c)(k0:d< -(100000*A)∧ -d< -(100000*A))(k1:b1=true→c+d< -(100000*A)∧c-d< -(100000*A)):
 Bq m (En P v1 v2) (Al (Gn P (DK a u) s))+DN b1 (Bq m (En P v1 v2) (Al (Go P s)))+DN b2 (Bq m (En P v1 v2) (Al (Gp (Ag P (DK a u)) s)))=0:=by
 have hW:ll a u (DK a u)=3000000*n:=by subst hn;dsimp only[ll];grind
 have hR:u*s.1-a*s.2= -c:=by subst hc;exact(Int.neg_sub ..).symm
 have n3:=fE n1
 have n4:=bB n1 c0
 have k2:=k0.1;have k3:=k0.2
 refine ML (Ii hm hd.symm hA.symm hW (pl1 k3) (pl1 k2) (pl2 k2 n3) (pl2 k3 n3)) (fun h=>?_) fun V=>Ik hm hd.symm hA.symm hR hW (pl2 k3 n3) (pl2 k2 n3) (pl2 k2 n4) (pl2 k3 n4)
 obtain⟨k4,k5⟩:=k1 h
 exact Ij hm hd.symm hA.symm hR hW (pl1 k2) (pl1 k3) (pl1 k5) (pl1 k4)
theorem Yc(hm:Bs m≠0){b1:Bool}(hn:n=a*a+u*u)(hc:c=a*s.2-u*s.1)(hd:d=a*s.1+u*s.2)(hA:A=a*v1+u*v2)(n1:1≤n)(c0:0<c)(k0:d< -(100000*(30*n-A))∧ -d< -(100000*(30*n-A)))(k1:b2=true→c+d< -(100000*(30*n-A))∧c-d< -(100000*(30*n-A))):
 Bq m (En P v1 v2) (Al (Gn P (DK a u) s))+DN b1 (Bq m (En P v1 v2) (Al (Go P s)))+DN b2 (Bq m (En P v1 v2) (Al (Gp (Ag P (DK a u)) s)))=0:=by
 have hW:ll (-a) (-u) (DK a u)= -(3000000*n):=by subst hn;dsimp only[ll];grind
 have hR: -u*s.1- -a*s.2=c:=by subst hc;grind
 have hD:ll (-a) (-u) s= -d:=by subst hd;dsimp only[ll];grind
 have hF: -a*v1+ -u*v2= -A:=by subst hA;grind
 have n3:=fE n1
 have n4:=bB n1 c0
 have k2:=k0.1;have k3:=k0.2
 refine ML (Ii hm hD hF hW (pl2 k2 n3) (pl2 k3 n3) (pl1 k3) (pl1 k2)) (fun V=>Ij hm hD hF hR hW (pl2 k3 n3) (pl2 k2 n3) (pl2 k2 n4) (pl2 k3 n4)) fun h=>?_
 obtain⟨k4,k5⟩:=k1 h
 exact Ik hm hD hF hR hW (pl1 k2) (pl1 k3) (pl1 k5) (pl1 k4)
theorem dD{d C E y:Int}(c0:0<c)(k2:c+d<y)(k3:c-d<y)(ec:C=c∧E=d∨C= -c∧E= -d):(-C<y∧C<y)∧(C-E<y∧C+E<y)∧(-C-E<y∧ -C+E<y):=by
 have cy:c<y:=by exact BU 2 (aI k2 k3)
 have ny: -c<y:=by exact He c0 c0 cy
 have m1: -c-d<y:=by exact He c0 c0 k3
 have m2: -c+d<y:=by exact He c0 c0 k2
 rcases ec with⟨rfl,rfl⟩|⟨rfl,rfl⟩
 ·exact⟨⟨ny,cy⟩,⟨k3,k2⟩,m1,m2⟩
 ·refine rr (neg_neg ..) ?_;refine rr (Int.sub_neg ..) (rr (Int.sub_neg ..) ?_)
  exact⟨⟨cy,ny⟩,⟨m2,m1⟩,k2,k3⟩
theorem NV(hm:Bs m≠0){b1:Bool}(e:Int)(he:e=1∨e= -1)(hc:c=a*s.2-u*s.1)(hd:d=a*s.1+u*s.2)(hX:X=a*v2-u*v1)(c0:0<c)(k1:c+d< -(100000*(e*X))∧c-d< -(100000*(e*X))):
 Bq m (En P v1 v2) (Al (Gn P (DK a u) s))+DN b1 (Bq m (En P v1 v2) (Al (Go P s)))+DN b2 (Bq m (En P v1 v2) (Al (Gp (Ag P (DK a u)) s)))=0:=by
 have hW:ll (-(e*u)) (e*a) (DK a u)=0:=by dsimp only[ll];grind
 have hR:e*a*s.1- -(e*u)*s.2=e*d:=by subst hd;grind
 have hD:ll (-(e*u)) (e*a) s=e*c:=by subst hc;dsimp only[ll];grind
 have hF: -(e*u)*v1+e*a*v2=e*X:=by subst hX;grind
 have k2:=k1.1;have k3:=k1.2
 have ec:e*c=c∧e*d=d∨e*c= -c∧e*d= -d:=by
  rcases he with rfl|rfl
  ·exact .inl ⟨one_mul _,one_mul _⟩
  ·exact .inr ⟨neg_one_mul _,neg_one_mul _⟩
 have k:=dD c0 k2 k3 ec
 have q1:=k.1.1;have q2:=k.1.2;have q3:=k.2.1.1;have q4:=k.2.1.2;have q5:=k.2.2.1;have q6:=k.2.2.2
 exact ML (Ii hm hD hF hW (pl1 q1) (pl1 q2) (pl1 q2) (pl1 q1)) (fun V=>Ij hm hD hF hR hW (pl1 q2) (pl1 q1) (pl1 q5) (pl1 q3)) fun V=>Ik hm hD hF hR hW (pl1 q1) (pl1 q2) (pl1 q4) (pl1 q6)
end
noncomputable def scP(x:Pt):Pt:=(100000*x.1,100000*x.2)
theorem bC(A:Int):30*A*(30*A)=900*(A*A):=by grind
theorem fF(hf n:Int):(-hf+1)*(-hf+1)*(900*n)=900*((hf-1)*(hf-1)*n):=by grind
theorem fG(hf n:Int):(-hf-1)*(-hf-1)*(900*n)=900*((hf+1)*(hf+1)*n):=by grind
theorem gt(n:Int):(-0+1)*(-0+1)*(900*n)=900*n:=by lia
theorem gu(n:Int):(-0-1)*(-0-1)*(900*n)=900*n:=by lia
theorem Ks(h:a*a=0):a=0:=(Int.mul_eq_zero.mp h).elim id id
theorem Hn{x y k l:Int}(hx: -k≤x∧x≤k)(hy: -l≤y∧y≤l)(k0:0≤k)(l0:0≤l): -(k*l)≤x*y∧x*y≤k*l:=by
 have b:∀{x k:Int},-k≤x∧x≤k→x*x≤k*k:=fun{x k} hx=>by
  have:=mul_nonneg (show 0≤k-x by exact sub_nonneg.mpr hx.2) (show 0≤k+x by exact Af hx.1);grind
 refine DX (mul_nonneg k0 l0) (Int.le_trans (Dm (b hx) (b hy)) (le_of_eq ?_))
 grind
section
variable{h:Int}{u v1 v2:Int}{P s:Pt}{m:Mx}
theorem LG(hm:Bs m≠0){b1:Bool}(c0:0<a*s.2-u*s.1):0≤Bq m p (Al (Gn P (DK a u) s))+DN b1 (Bq m p (Al (Go P s)))+DN b2 (Bq m p (Al (Gp (Ag P (DK a u)) s))):=by
 have q1:=sq0 s.1
 have q2:=sq0 s.2
 have k1:0≤Bq m p (Al (Gn P (DK a u) s)):=DW hm (FB (by dsimp only[Ad,Bh];lia))
 have k2:0≤Bq m p (Al (Go P s)):=DW hm (FB (by dsimp only[Ad,Bh,EL];lia))
 have k3:0≤Bq m p (Al (Gp (Ag P (DK a u)) s)):=DW hm (FB (by dsimp only[Ad,Bh,EL,Eh];lia))
 cases b1<;>cases b2<;>simp only[DN,if_true,if_false,false_eq_true]<;>lia
theorem Yd(two:(hf=10∧h=1000000)∨(hf=20∧h=2000000)):1<hf:=by rcases two with⟨rfl,_⟩|⟨rfl,_⟩<;>decide
theorem NW{b:Bool}{n A:Int}(h1:1<hf)(t:Ap (30*A) (-(if b=true then hf else 0)+1) (900*n)=true):if b=true then 0≤A∨A*A≤(hf-1)*(hf-1)*n else 0≤A∧n≤A*A:=by
 cases b with
 |false=>
  rw[if_neg Bool.false_ne_true]at t⊢
  have:=Ih (by decide) t
  rw[gt,bC]at this
  exact⟨by exact BU 30 this.1,by exact BU 900 this.2⟩
 |true=>
  rw[if_pos rfl]at t⊢
  have:=Gq (by exact Af h1) t
  rw[fF,bC]at this
  exact this.imp (fun q=>by exact BU 30 q) fun q=>by exact BU 900 q
theorem LH{b:Bool}{n A:Int}(h1:1<hf)(n1:1≤n)(t:Ap (30*A) (-(if b=true then hf else 0)-1) (900*n)=false):A<0∧n<A*A∧(b=true→(hf+1)*(hf+1)*n<A*A):=by
 cases b with
 |false=>
  rw[if_neg Bool.false_ne_true]at t
  have:=DL (by decide) t
  rw[gu,bC]at this
  exact⟨by lia,by lia,fun q=>Bool.noConfusion q⟩
 |true=>
  rw[if_pos rfl]at t
  have:=DL (by exact Af h1) t
  rw[fG,bC]at this
  have sqn:(1:Int)*1*n≤(hf+1)*(hf+1)*n:=mul_le_mul_of_nonneg_right (mul_le_mul (by exact Af h1) (by exact Af h1) (by decide) (by exact Af h1)) (by exact le_of_lt n1)
  exact⟨by lia,by lia,fun V=>by grind⟩
theorem dE(X:Int):0≤Ui (-(30*X))∧Ui (-(30*X))*Ui (-(30*X))=900*(X*X):=by
 have e: -(30*X)* -(30*X)=900*(X*X):=by refine rr (neg_mul_neg ..) ?_;exact bC X
 delta Ui;split
 ·exact⟨by lia,by refine rr (neg_mul_neg ..) ?_;exact e⟩
 ·exact⟨by lia,e⟩
theorem Pb{n:Int}(h1:1<hf)(n1:1≤n)(aX:0≤Z∧Z*Z=900*(X*X))(t:Ap (-Z) (-hf+1) (900*n)=true):X*X≤(hf-1)*(hf-1)*n:=by
 have nn:0≤(hf-1)*(hf-1)*n:=mul_nonneg (sq0 _) (by exact le_of_lt n1)
 rcases Gq (by exact Af h1) t with q|q
 ·have y0:Z=0:=by exact le_antisymm (Af q) (aX.1)
  rw[y0,mul_zero]at aX;lia
 ·rw[neg_mul_neg,fF]at q;exact BU 900 (aI (le_of_eq aX.2.symm) q)
theorem MM{n:Int}(h1:1<hf)(n1:1≤n)(aX:0≤Z∧Z*Z=900*(X*X))(t:Ap (-Z) (-hf-1) (900*n)=false):(hf+1)*(hf+1)*n<X*X∧X≠0:=by
 have F:=DL (by exact Af h1) t
 rw[fG,neg_mul_neg]at F
 have nn:0≤(hf+1)*(hf+1)*n:=mul_nonneg (sq0 _) (by exact le_of_lt n1)
 have k:(hf+1)*(hf+1)*n<X*X:=by omega
 exact⟨k,fun q=>by rw[q,mul_zero]at k;exact absurd nn (not_le.mpr k)⟩
theorem bD(ha: -9≤a∧a≤9)(hu: -9≤u∧u≤9)(h0:¬(a=0∧u=0)):1≤a*a+u*u∧a*a+u*u≤162:=by
 have q1:=(Hn ha ha (by decide) (by decide)).2
 have q2:=(Hn hu hu (by decide) (by decide)).2
 refine⟨not_lt.mp fun q=>h0 ?_,by exact add_le_add q1 q2⟩
 have qa:=sq0 a
 have qu:=sq0 u
 exact⟨Ks (by exact le_antisymm (Aq q qu) (qa)),Ks (by exact le_antisymm (Aq q qa) (qu))⟩
section
variable{n d A:Int}{b1:Bool}(hm:Bs m≠0)(hn:n=a*a+u*u)(hc:c=a*s.2-u*s.1)(hd:d=a*s.1+u*s.2)(hA:A=a*v1+u*v2)(hX:X=a*v2-u*v1)(LA:Jm hf h n c d X A)(LB:Jm hf h n c d (-X) (30*n-A))
include hm hn hc hd hA hX LA LB
theorem Uz(t1:Ap (30*A) (-(if b1=true then hf else 0)+1) (900*n)=true)(t2:Ap (30*(30*n-A)) (-(if b2=true then hf else 0)+1) (900*n)=true)(x0:X*X≤(hf-1)*(hf-1)*n):
 1≤Bq m (En P v1 v2) (Al (Gn P (DK a u) s))+DN b1 (Bq m (En P v1 v2) (Al (Go P s)))+DN b2 (Bq m (En P v1 v2) (Al (Gp (Ag P (DK a u)) s))):=by
 have h1:=Yd LA.two
 refine rr (Uy ..) ?_
 exact RG hm (by delta NT;exact cons_ne_nil _ _) (Yb hn hc hd hA hX LA LB.a0 x0 (NW h1 t1) (NW h1 t2))
theorem RQ(F:Ap (30*A) (-(if b1=true then hf else 0)-1) (900*n)=false∨Ap (30*(30*n-A)) (-(if b2=true then hf else 0)-1) (900*n)=false∨((hf+1)*(hf+1)*n<X*X∧X≠0)):
 Bq m (En P v1 v2) (Al (Gn P (DK a u) s))+DN b1 (Bq m (En P v1 v2) (Al (Go P s)))+DN b2 (Bq m (En P v1 v2) (Al (Gp (Ag P (DK a u)) s)))=0:=by
 have h1:=Yd LA.two
 rcases F with F|F|⟨k,x0⟩
 ·have k:=LH h1 LA.n1 F
  exact RO hm hn hc hd hA LA.n1 LA.c0 (LA.out0 k.1 k.2.1) fun q=>LA.out k.1 (k.2.2 q)
 ·have k:=LH h1 LA.n1 F
  exact Yc hm hn hc hd hA LA.n1 LA.c0 (LA.out0 k.1 k.2.1) fun q=>LA.out k.1 (k.2.2 q)
 ·rcases lt_or_gt_of_ne x0 with q|q
  ·exact NV hm 1 (.inl rfl) hc hd hX LA.c0 (LA.out (z:=1*X) (by refine rr (one_mul ..) ?_;exact q) (by refine rr (one_mul ..) ?_;exact k))
  ·exact NV hm (-1) (.inr rfl) hc hd hX LA.c0 (LA.out (z:= -1*X) (by refine rr (neg_one_mul ..) ?_;exact Int.neg_neg_of_pos q) (by refine rr (neg_one_mul ..) (rr (neg_mul_neg ..) ?_);exact k))
end
theorem UA(hm:Bs m≠0){b1:Bool}{Pp:Pt}(two:(hf=10∧h=1000000)∨(hf=20∧h=2000000))(D:Lz a u h s)(ha: -9≤a∧a≤9)(hu: -9≤u∧u≤9)(h0:¬(a=0∧u=0))(h1: -600≤v1∧v1≤600)(h2: -600≤v2∧v2≤600):
 Kr (GK Pp (Pp.1+30*a,Pp.2+30*u) (if b1 then hf else 0) (if b2 then hf else 0) hf (Pp.1+v1,Pp.2+v2))
  (Bq m (En (scP Pp) v1 v2) (Al (Gn (scP Pp) (DK a u) s))+DN b1 (Bq m (En (scP Pp) v1 v2) (Al (Go (scP Pp) s)))+DN b2 (Bq m (En (scP Pp) v1 v2) (Al (Gp (Ag (scP Pp) (DK a u)) s)))):=by
 obtain⟨n1,n2⟩:=bD ha hu h0
 have q1:=Hn ha h1 (by decide) (by decide)
 have q2:=Hn hu h2 (by decide) (by decide)
 have Ab: -10800≤a*v1+u*v2∧a*v1+u*v2≤10800:=⟨by exact add_le_add q1.1 q2.1,by exact add_le_add q1.2 q2.2⟩
 clear q1 q2
 have eA:AA (Ae (Pp.1+v1,Pp.2+v2) Pp) (Ae (Pp.1+30*a,Pp.2+30*u) Pp)=30*(a*v1+u*v2):=by dsimp only[AA,Ae];grind
 have eS:AA (Ae (Pp.1+30*a,Pp.2+30*u) Pp) (Ae (Pp.1+30*a,Pp.2+30*u) Pp)=900*(a*a+u*u):=by dsimp only[AA,Ae];grind
 have eX:Ad (Ae (Pp.1+v1,Pp.2+v2) Pp) (Ae (Pp.1+30*a,Pp.2+30*u) Pp)= -(30*(a*v2-u*v1)):=by dsimp only[Ad,Ae];grind
 have eB:∀n A:Int,900*n-30*A=30*(30*n-A):=fun n A=>by simp+arith only[*]
 obtain⟨n,hn⟩:∃n,n=a*a+u*u:=⟨_,rfl⟩
 obtain⟨A,hA⟩:∃A,A=a*v1+u*v2:=⟨_,rfl⟩
 obtain⟨X,hX⟩:∃X,X=a*v2-u*v1:=⟨_,rfl⟩
 have D':=D
 have d1:=D.1;have d2:=D.2;have d3:=D.3;have d4:=D.4
 rw[←hn]at n1 n2 eS d2 d3 d4
 rw[←hA]at Ab eA
 rw[←hX]at eX
 have L:Jm hf h n (a*s.2-u*s.1) (a*s.1+u*s.2) X A:=⟨two,n1,n2,d1,d2,d3,d4,⟨by exact Af Ab.1,by exact Af Ab.2⟩⟩
 have L':Jm hf h n (a*s.2-u*s.1) (a*s.1+u*s.2) (-X) (30*n-A):=⟨two,n1,n2,d1,d2,d3,d4,⟨by exact Aq (mI 30 n1) Ab.2,by exact Aq (mI 30 n2) Ab.1⟩⟩
 have hp:=Yd two
 have aX:=dE X
 delta GK
 refine rr eA (rr eS ?_);refine rr eX (rr (eB ..) ?_)
 refine⟨fun ht=>?_,fun hF=>?_,LG hm d1⟩
 ·have T:=LE ht
  exact Uz hm hn rfl rfl hA hX L L' (FC (T _ (.head _))) (FC (T _ (.tail _ (.head _)))) (Pb hp n1 aX (FC (T _ (.tail _ (.tail _ (.head _))))))
 ·have F:=Jp hF
  exact RQ hm hn rfl rfl hA hX L L' ((mem_cons.mp F).imp (fun F=>EM F.symm) fun F=>(mem_cons.mp F).imp (fun F=>EM F.symm) fun F=>MM hp n1 aX (EM (mem_singleton.mp F).symm))
end
structure Nrm(x:Pt)(N:Int):Prop where
 n0:0≤N
 x1: -N≤x.1
 x2:x.1≤N
 y1: -N≤x.2
 y2:x.2≤N
 sq:N*N≤AA x x
theorem DM(x:Pt):∃N,Nrm x N:=by
 have q1:=sq0 x.1
 have q2:=sq0 x.2
 have a:∀y:Int,∃M,0≤M∧ -M≤y∧y≤M∧M*M=y*y:=fun y=>by
  rcases Int.le_total 0 y with h|h
  ·exact⟨y,h,by exact Aq h h,Int.le_refl _,rfl⟩
  ·exact⟨-y,by simp+arith only[*],by simp+arith only[*],by simp+arith only[*],neg_mul_neg ..⟩
 obtain⟨M1,a1,a2,a3,a4⟩:=a x.1
 obtain⟨M2,b1,b2,b3,b4⟩:=a x.2
 rcases Int.le_total M1 M2 with h|h
 ·exact⟨M2,b1,by exact Aq a2 h,by exact Int.le_trans a3 h,b2,b3,by delta AA;exact Aq q1 (le_of_eq b4)⟩
 ·exact⟨M1,a1,a2,a3,by exact Aq b2 h,by exact Int.le_trans b3 h,by delta AA;exact Aq q2 (le_of_eq a4)⟩
structure IL(A B a b:Pt)(NA NG NB:Int):Prop where
 th:0<Ad A B
 a1: -(80000*NA)≤Ad A a∧Ad A a≤80000*NA
 g1: -(70000*NG)≤Ad (Ae B A) (Ae a (Bh 100 A))∧Ad (Ae B A) (Ae a (Bh 100 A))≤70000*NG
 g2: -(70000*NG)≤Ad (Ae B A) (Ae b (Bh 100 B))∧Ad (Ae B A) (Ae b (Bh 100 B))≤70000*NG
 b1: -(80000*NB)≤Ad B b∧Ad B b≤80000*NB
 k0:9000*Ad A B≤Ad a b
 k1:90*Ad A B≤Ad a B
 k2:90*Ad A B≤Ad A b
 w: -(1000000*NG)≤Ad (Ae a (Bh 100 A)) (Ae b (Bh 100 B))∧Ad (Ae a (Bh 100 A)) (Ae b (Bh 100 B))≤1000000*NG
noncomputable def IB(O a b:Pt):List Pt:=[O,Ag O a,Ag O b]
theorem Pc{m:Mx}(hm:Bs m≠0){O a b:Pt}(h:0≤Ad a b):0≤Bq m p (Al (IB O a b)):=
 DW hm (Jn (L:=[(0,0),(1,0),(0,1)]) h (FA (be ..) (FA (bh ..) (FA (bj ..) rfl))) (by decide))
theorem ts1(O a b q:Pt):Ar (Ag O q) (O,Ag O a)=Ad a q:=by dsimp only[Ar,Ad,Ae,Ag];grind
theorem ts2(O a b q:Pt):Ar (Ag O q) (Ag O a,Ag O b)=Ad (Ae b a) (Ae q a):=by dsimp only[Ar,Ad,Ae,Ag];grind
theorem ts3(O a b q:Pt):Ar (Ag O q) (Ag O b,O)=Ad q b:=by dsimp only[Ar,Ad,Ae,Ag];grind
theorem RS(a σ:Pt):Ad a (Bh 100 σ)=100*Ad a σ∧Ad (Bh 100 σ) a=100*Ad σ a:=by dsimp only[Ad,Bh];constructor<;>grind
theorem RT{O a b:Pt}(h1:0<Ad a σ)(h2:0<Ad (Ae b a) (Ae (Bh 100 σ) a))(h3:0<Ad σ b):∀e∈Al (IB O a b),0<Ar (Ag O (Bh 100 σ)) e:=
 alc (by rewrite[ts1 O a b];refine rr ((RS a σ).1) ?_;exact mul_pos (by decide) h1) (alc (by refine rr (ts2 ..) ?_;exact h2) (alc (by rewrite[ts3 O a b];refine rr ((RS b σ).2) ?_;exact mul_pos (by decide) h3) Cc))
theorem tp0(f g:Int)(O q v:Pt):lin f g (Ag O q) (Ag O v)=(f*v.1+g*v.2)-(f*q.1+g*q.2):=by dsimp only[lin,Ag];grind
theorem tp1(f g:Int)(O q:Pt):lin f g (Ag O q) O= -(f*q.1+g*q.2):=by dsimp only[lin,Ag];grind
theorem UB{m:Mx}(hm:Bs m≠0){O a b:Pt}{f g:Int}(h1:f*(100*σ.1)+g*(100*σ.2)<0)(h2:f*(100*σ.1)+g*(100*σ.2)<f*a.1+g*a.2)(h3:f*(100*σ.1)+g*(100*σ.2)<f*b.1+g*b.2):Bq m (Ag O (Bh 100 σ)) (Al (IB O a b))=0:=
 Jl (α:=f) (β:=g) hm (alc (by refine rr (tp1 ..) ?_;exact Int.neg_pos_of_neg h1) (alc (by refine rr (tp0 ..) ?_;exact Int.sub_pos_of_lt h2) (alc (by refine rr (tp0 ..) ?_;exact Int.sub_pos_of_lt h3) Cc)))
theorem Il{x s:Int}(h:0≤x∧1000*1000*s≤x*x)(hs:N*N≤s):1000*N≤x:=by
 have e:1000*N*(1000*N)=1000000*(N*N):=by grind
 exact(DX h.1 (x:=1000*N) (by refine rr e ?_;lia)).2
theorem Im{x s:Int}(h:x<0∧ -1000* -1000*s<x*x)(hs:N*N≤s):x< -(1000*N):=by
 have e:1000*N*(1000*N)=1000000*(N*N):=by lia
 have:=(IK (x:=1000*N) (y:= -x) (by exact Af h.1) (by refine rr e (rr (neg_mul_neg ..) ?_);lia)).2
 exact Af this
theorem Io{e:Pt×Pt}(h:GM true p e=some true):0≤Ad (Ae e.2 e.1) (Ae p e.1)∧1000*1000*AA (Ae e.2 e.1) (Ae e.2 e.1)≤Ad (Ae e.2 e.1) (Ae p e.1)*Ad (Ae e.2 e.1) (Ae p e.1):=by
 delta GM Cv at h
 rw[if_pos rfl,mul_one]at h
 split at h
 ·exact Ih (by decide) ‹_›
 split at h<;>cases h
theorem Pd{e:Pt×Pt}(h:GM true p e=some false):Ad (Ae e.2 e.1) (Ae p e.1)<0∧ -1000* -1000*AA (Ae e.2 e.1) (Ae e.2 e.1)<Ad (Ae e.2 e.1) (Ae p e.1)*Ad (Ae e.2 e.1) (Ae p e.1):=by
 delta GM Cv at h
 rw[if_pos rfl,mul_one]at h
 split at h
 ·cases h
 split at h
 ·cases h
 ·exact DL (by decide) (eq_false_iff.mpr ‹_›)
theorem LI(x:Pt):Ae x (0,0)=x:=by delta Ae;dsimp only;refine rr (sub_zero ..) (rr (sub_zero ..) ?_);rfl
theorem RU(x:Pt):AA (Ae (0,0) x) (Ae (0,0) x)=AA x x:=by dsimp only[AA,Ae];grind
theorem Pe{A B a b:Pt}(T:IL A B a b NA NG NB)(nA:Nrm A NA)(nG:Nrm (Ae B A) NG)(nB:Nrm B NB)(hA:1000*NA≤Ad A σ)(hG:1000*NG≤Ad (Ae B A) (Ae σ A))(hB:1000*NB≤Ad σ B):
 0<Ad a σ∧0<Ad (Ae b a) (Ae (Bh 100 σ) a)∧0<Ad σ b:=by
 have hsum:Ad A B=Ad σ B+Ad A σ+Ad (Ae B A) (Ae σ A):=by dsimp only[Ad,Ae];grind
 have i1:Ad A B*Ad a σ=Ad A σ*Ad a B-Ad σ B*Ad A a:=by dsimp only[Ad,Ae];grind
 have i3:Ad A B*Ad σ b=Ad σ B*Ad A b+Ad A σ*Ad B b:=by dsimp only[Ad,Ae];grind
 have i2:Ad A B*Ad (Ae b a) (Ae (Bh 100 σ) a)=Ad (Ae B A) (Ae σ A)*Ad a b-Ad σ B*(100*Ad (Ae B A) (Ae a (Bh 100 A))-Ad (Ae a (Bh 100 A)) (Ae b (Bh 100 B)))-Ad A σ*(100*Ad (Ae B A) (Ae b (Bh 100 B))-Ad (Ae a (Bh 100 A)) (Ae b (Bh 100 B))):=by
  dsimp only[Ad,Ae,Bh];grind
 have th:=T.th
 have pos:∀{y:Int},0<Ad A B*y→0<y:=fun h=>Int.pos_of_mul_pos_right h th
 have np:∀{x:Pt}{N:Int},Nrm x N→(∃y,Ad x y≠0)→0<N:=fun{x N} n h=>by
  rcases Int.lt_or_eq_of_le n.n0 with q|q
  ·exact q
  subst q
  obtain⟨y,hy⟩:=h
  have x1:x.1=0:=by have:=n.x1;have:=n.x2;lia
  have x2:x.2=0:=by have:=n.y1;have:=n.y2;lia
  exact absurd (by delta Ad;refine rr x1 (rr x2 ?_);refine rr (zero_mul ..) (rr (zero_mul ..) ?_);rfl) hy
 have pA:=np nA ⟨B,ne_of_gt th⟩
 have pB:=np nB ⟨A,by have:Ad B A= -Ad A B:=(by dsimp only[Ad];grind);exact Int.ne_of_lt (Aq th (le_of_eq this))⟩
 have pG:=np nG ⟨A,by have:Ad (Ae B A) A= -Ad A B:=(by dsimp only[Ad,Ae];grind);exact Int.ne_of_lt (Aq th (le_of_eq this))⟩
 have a1:=T.a1
 have g1:=T.g1
 have g2:=T.g2
 have b1:=T.b1
 have k0:=T.k0
 have k1:=T.k1
 have k2:=T.k2
 have w:=T.w
 clear T nA nG nB np
 generalize Ad A B=Θ at*
 generalize Ad σ B=lA at*
 generalize Ad A σ=lB at*
 generalize Ad (Ae B A) (Ae σ A)=l0 at*
 generalize Ad a B=aB at*
 generalize Ad A b=Ab at*
 generalize Ad a b=ab at*
 generalize Ad A a=Aa at*
 generalize Ad B b=Bb at*
 generalize Ad (Ae B A) (Ae a (Bh 100 A))=Ga at*
 generalize Ad (Ae B A) (Ae b (Bh 100 B))=Gb at*
 generalize Ad (Ae a (Bh 100 A)) (Ae b (Bh 100 B))=ww at*
 have up:∀{l x N y:Int},1000*N≤l→0<N→x*Θ≤y→0≤x→1000*x*(N*Θ)≤l*y:=fun{l x N y} h1 hN h2 hx=>by
  have m1:=mul_le_mul h1 h2 (mul_nonneg hx (le_of_lt th)) (by exact Aq h1 (mI 1000 hN))
  have e:1000*N*(x*Θ)=1000*x*(N*Θ):=by grind
  exact Int.le_trans (le_of_eq e.symm) m1
 have dn:∀{l x N c:Int},0≤l→l<Θ→ -(c*N)≤x→0<N→0≤c→ -(c*(N*Θ))≤l*x:=fun{l x N c} h1 h2 h3 hN hc=>by
  have m1:=mul_le_mul_of_nonneg_left h3 h1
  have m2:=mul_le_mul_of_nonneg_right (le_of_lt h2) (mul_nonneg hc (le_of_lt hN))
  have e1:l* -(c*N)= -(l*(c*N)):=mul_neg ..
  have e2:Θ*(c*N)=c*(N*Θ):=by grind
  exact FG m1 m2 (le_of_eq e1.symm) (le_of_eq e2)
 have TA:=mul_pos pA th
 have TB:=mul_pos pB th
 have TG:=mul_pos pG th
 refine⟨pos ?_,pos ?_,pos ?_⟩
 ·refine rr i1 ?_
  have u:=up hA pA k1 (by decide)
  have d:=dn (l:=lA) (x:= -Aa) (N:=NA) (c:=80000) (by exact BU 160 (aI (mI 160 hB) (aI b1.1 b1.2))) (by exact BU 160000 (aI (mI 160000 pA) (aI (mI 160000 hA) (aI (mI 160000 hG) (aI (mI 160000 (le_of_eq hsum.symm)) (aI (mI 999 a1.1) (aI (mI 999 a1.2) (aI (mI 80 w.1) (mI 80 w.2))))))))) (by exact neg_le_neg a1.2) pA (by decide)
  rw[mul_neg]at d
  grind
 ·refine rr i2 ?_
  have u:=up hG pG k0 (by decide)
  have d1:=mul_le_mul_of_nonneg_left (show-(8000000*NG)≤ -(100*Ga-ww)by exact Aq (mI 100 g1.2) w.1) (show 0≤lA by exact BU 160 (aI (mI 160 hB) (aI b1.1 b1.2)))
  have d2:=mul_le_mul_of_nonneg_left (show-(8000000*NG)≤ -(100*Gb-ww)by exact Aq (mI 100 g2.2) w.1) (show 0≤lB by exact BU 160 (aI (mI 160 hA) (aI a1.1 a1.2)))
  have d3:=mul_le_mul_of_nonneg_right (show lA+lB≤Θ by exact BU 2000 (aI (mI 2000 hG) (aI (mI 2000 (le_of_eq hsum.symm)) (aI w.1 w.2)))) (show 0≤8000000*NG by exact Aq (mI 4 w.1) (mI 4 w.2))
  have e1:lA* -(8000000*NG)+lB* -(8000000*NG)= -((lA+lB)*(8000000*NG)):=by grind
  have e2:Θ*(8000000*NG)=8000000*(NG*Θ):=by grind
  rw[mul_neg]at d1 d2
  rw[mul_neg]at d1 d2
  have e1:lA*(8000000*NG)+lB*(8000000*NG)=(lA+lB)*(8000000*NG):=by grind
  grind
 ·refine rr i3 ?_
  have u:=up hB pB k2 (by decide)
  have d:=dn (l:=lB) (x:=Bb) (N:=NB) (c:=80000) (by exact BU 160 (aI (mI 160 hA) (aI a1.1 a1.2))) (by exact BU 160000 (aI (mI 160000 pB) (aI (mI 160000 hB) (aI (mI 160000 hG) (aI (mI 160000 (le_of_eq hsum.symm)) (aI (mI 999 b1.1) (aI (mI 999 b1.2) (aI (mI 80 w.1) (mI 80 w.2))))))))) (by simp+arith only[*]) pB (by decide)
  grind
theorem Ip{m:Mx}(hm:Bs m≠0){O a b:Pt}(w:Pt)(h1:100*Ad w σ<0)(h2:100*Ad w σ<Ad w a)(h3:100*Ad w σ<Ad w b):Bq m (Ag O (Bh 100 σ)) (Al (IB O a b))=0:=by
 have e:∀x:Pt,-w.2*x.1+w.1*x.2=Ad w x:=fun x=>by dsimp only[Ad];refine rr (neg_mul ..) (rr (add_comm ..) ?_);rfl
 have t:=e (Bh 100 σ)
 rw[(RS w σ).1]at t
 exact UB hm (f:= -w.2) (g:=w.1) (by rw[←t]at h1;exact h1) (by rw[←t,←e]at h2;exact h2) (by rw[←t,←e]at h3;exact h3)
section
variable{m:Mx}(hm:Bs m≠0){O A B a b:Pt}(TT:IL A B a b NA NG NB)
include hm TT
theorem UC(n0:0≤NA)(h:Ad A σ< -(1000*NA)):Bq m (Ag O (Bh 100 σ)) (Al (IB O a b))=0:=by
 have a1:=TT.a1.1
 have k2:=TT.k2
 have th:=TT.th
 clear TT
 exact Ip hm A (by exact Aq (mI 100000 n0) (mI 100 h)) (by exact He (mI 20000 n0) (mI 100 h) a1) (by exact FG (mI 100000 n0) (mI 100 h) k2 (mI 90 th))
theorem UD(n0:0≤NG)(h:Ad (Ae B A) (Ae σ A)< -(1000*NG)):Bq m (Ag O (Bh 100 σ)) (Al (IB O a b))=0:=by
 have g1:=TT.g1.1
 have g2:=TT.g2.1
 have th:=TT.th
 have e1:Ad (Ae B A) σ=Ad (Ae B A) (Ae σ A)-Ad A B:=by dsimp only[Ad,Ae];grind
 have e2:Ad (Ae B A) a=Ad (Ae B A) (Ae a (Bh 100 A))-100*Ad A B:=by dsimp only[Ad,Ae,Bh];grind
 have e3:Ad (Ae B A) b=Ad (Ae B A) (Ae b (Bh 100 B))-100*Ad A B:=by dsimp only[Ad,Ae,Bh];grind
 clear TT
 exact Ip hm (Ae B A) (by exact FG (mI 100000 n0) (mI 100 h) (mI 100 th) (mI 100 (le_of_eq e1))) (by exact Af (aI (mI 30000 n0) (aI (mI 100 h) (aI g1 (aI (mI 100 (le_of_eq e1)) (le_of_eq e2.symm)))))) (by exact Af (aI (mI 30000 n0) (aI (mI 100 h) (aI g2 (aI (mI 100 (le_of_eq e1)) (le_of_eq e3.symm))))))
theorem UE(n0:0≤NB)(h:Ad σ B< -(1000*NB)):Bq m (Ag O (Bh 100 σ)) (Al (IB O a b))=0:=by
 have b1:=TT.b1.2
 have k1:=TT.k1
 have th:=TT.th
 have e:∀x:Pt,Ad (Eh B) x=Ad x B:=fun x=>by dsimp only[Ad,Eh];grind
 have e1:Ad b B= -Ad B b:=by dsimp only[Ad];grind
 clear TT
 exact Ip hm (Eh B) (by refine rr (e ..) ?_;exact Aq (mI 100000 n0) (mI 100 h)) (by refine rr (e ..) (rr (e ..) ?_);exact FG (mI 100000 n0) (mI 100 h) k1 (mI 90 th)) (by refine rr (e ..) (rr (e ..) ?_);exact FG (mI 20000 n0) (mI 100 h) b1 (le_of_eq e1.symm))
end
theorem MN{m:Mx}(hm:Bs m≠0){O A B a b:Pt}(T:IL A B a b NA NG NB)(nA:Nrm A NA)(nG:Nrm (Ae B A) NG)(nB:Nrm B NB):Kr (AR (0,0) A B σ) (Bq m (Ag O (Bh 100 σ)) (Al (IB O a b))):=by
 have th:=T.th
 have et:Di (0,0) A B=Ad A B:=by delta Di;refine rr (LI ..) (rr (LI ..) ?_);rfl
 have eB:Ad (Ae (0,0) B) (Ae σ B)=Ad σ B:=by dsimp only[Ad,Ae];grind
 delta AR
 refine rr et ?_;refine rr (if_neg (ne_of_gt th)) (rr (decide_eq_true th) ?_)
 refine⟨fun ht=>?_,fun hF=>?_,Pc hm (by have:=T.k0;exact Aq (mI 9000 th) this)⟩
 ·have Tt:=LE ht
  have t1:=Io (Tt _ (.head _))
  have t2:=Io (Tt _ (.tail _ (.head _)))
  have t3:=Io (Tt _ (.tail _ (.tail _ (.head _))))
  dsimp only at t1 t2 t3
  rw[LI,LI]at t1
  rw[RU,eB]at t3
  obtain⟨r1,r2,r3⟩:=Pe T nA nG nB (Il t1 nA.sq) (Il t2 nG.sq) (Il t3 nB.sq)
  exact RG hm (by delta IB;exact cons_ne_nil _ _) (RT r1 r2 r3)
 ·have F:=Jp hF
  rw[mem_map]at F
  obtain⟨e,me,he⟩:=F
  have h:=Pd he
  have nA0:=nA.n0
  have nG0:=nG.n0
  have nB0:=nB.n0
  simp only[mem_cons,not_mem_nil,or_false]at me
  rcases me with rfl|rfl|rfl
  ·dsimp only at h
   rw[LI,LI]at h
   exact UC hm T nA0 (Im h nA.sq)
  ·dsimp only at h
   exact UD hm T nG0 (Im h nG.sq)
  ·dsimp only at h
   rw[RU,eB]at h
   exact UE hm T nB0 (Im h nB.sq)
theorem Br{x y:Pt}{K:Int}(n0:0≤N)(k0:0≤K)(x1: -N≤x.1∧x.1≤N)(x2: -N≤x.2∧x.2≤N)(y1: -K≤y.1∧y.1≤K)(y2: -K≤y.2∧y.2≤K): -(2*(N*K))≤Ad x y∧Ad x y≤2*(N*K):=by
 have a:=Hn x1 y2 n0 k0
 have b:=Hn x2 y1 n0 k0
 delta Ad
 exact⟨Aq a.1 b.2,Aq a.2 b.1⟩
theorem RV{x y:Pt}{K:Int}(n0:0≤N)(k0:0≤K)(x1: -N≤x.1∧x.1≤N)(x2: -N≤x.2∧x.2≤N)(y1: -K≤y.1∧y.1≤K)(y2: -K≤y.2∧y.2≤K): -(2*(N*K))≤AA x y∧AA x y≤2*(N*K):=by
 have a:=Hn x1 y1 n0 k0
 have b:=Hn x2 y2 n0 k0
 delta AA
 exact⟨Aq a.1 b.1,Aq a.2 b.2⟩
theorem Ck(x y:Pt):Ad y x= -Ad x y:=by delta Ad;grind
structure RX(a1 u1 a2 u2 h:Int)(s1 s2:Pt):Prop where
 D1:Lz a1 u1 h s1
 D2:Lz a2 u2 h s2
 n1:1≤a1*a1+u1*u1
 n2:1≤a2*a2+u2*u2
 nn:(a1*a1+u1*u1)*(a2*a2+u2*u2)≤2916
 turn:1≤a1*u2-u1*a2
 hh:h=1000000∨h=2000000
section
variable{a1 a2 h:Int}{s1 s2:Pt}
structure Gr(h N C D X y z w:Int):Prop where
 N1:1≤N
 N2:N≤2916
 C1:1≤C
 lag:C*C+D*D=N
 X0:0<X
 X1:N*((h-1)*(h-1)*((h-1)*(h-1)))≤X*X
 X2:X*X≤N*((h+1)*(h+1)*((h+1)*(h+1)))
 y2:y*y≤N*((h+1)*(h+1))
 z2:z*z≤N*((h+1)*(h+1))
 w2:w*w≤N
 hh:h=1000000∨h=2000000
theorem RX.mix(T:RX a1 u1 a2 u2 h s1 s2):∃N C D X y z w:Int,Gr h N C D X y z w∧N*Ad s1 s2=(X+w)*C+(y-z)*D∧N*AA s1 s2=(X+w)*D+(z-y)*C∧C=a1*u2-u1*a2∧D=a1*a2+u1*u2∧N=(a1*a1+u1*u1)*(a2*a2+u2*u2):=by
 obtain⟨n1,hn1⟩:∃n,n=a1*a1+u1*u1:=⟨_,rfl⟩
 obtain⟨n2,hn2⟩:∃n,n=a2*a2+u2*u2:=⟨_,rfl⟩
 obtain⟨c1,hc1⟩:∃c,c=a1*s1.2-u1*s1.1:=⟨_,rfl⟩
 obtain⟨c2,hc2⟩:∃c,c=a2*s2.2-u2*s2.1:=⟨_,rfl⟩
 obtain⟨d1,hd1⟩:∃d,d=a1*s1.1+u1*s1.2:=⟨_,rfl⟩
 obtain⟨d2,hd2⟩:∃d,d=a2*s2.1+u2*s2.2:=⟨_,rfl⟩
 have p0:=T.1.1;have p1:=T.1.2;have p2:=T.1.3;have p3:=T.1.4;have q0:=T.2.1;have q1:=T.2.2;have q2:=T.2.3;have q3:=T.2.4;have m1:=T.3;have m2:=T.4;have mm:=T.5;have tn:=T.6;have hh:=T.7
 rw[←hn1,←hc1]at p1 p2
 rw[←hn1,←hd1]at p3
 rw[←hc1]at p0
 rw[←hn2,←hc2]at q1 q2
 rw[←hn2,←hd2]at q3
 rw[←hc2]at q0
 rw[←hn1]at m1 mm
 rw[←hn2]at m2 mm
 refine⟨n1*n2,a1*u2-u1*a2,a1*a2+u1*u2,c1*c2,d1*c2,c1*d2,d1*d2,⟨?_,?_,tn,?_,?_,?_,?_,?_,?_,?_,hh⟩,?_,?_,rfl,rfl,?_⟩
 ·have:=mul_le_mul m1 m2 (by decide) (by exact le_of_lt m1);exact this
 ·exact mm
 ·subst hn1 hn2;grind
 ·exact mul_pos p0 q0
 ·have:=Kq p1 q1 (mul_nonneg (by exact le_of_lt m1) (sq0 _)) (mul_nonneg (by exact le_of_lt m2) (sq0 _))
  have e:n1*((h-1)*(h-1))*(n2*((h-1)*(h-1)))=n1*n2*((h-1)*(h-1)*((h-1)*(h-1))):=by grind
  refine rl e ?_;exact this
 ·have:=Dm p2 q2
  have e:n1*((h+1)*(h+1))*(n2*((h+1)*(h+1)))=n1*n2*((h+1)*(h+1)*((h+1)*(h+1))):=by grind
  refine rl e ?_;exact this
 ·have:=Dm p3 q2
  have e:n1*(n2*((h+1)*(h+1)))=n1*n2*((h+1)*(h+1)):=by grind
  refine rl e ?_;exact this
 ·have:=Dm p2 q3
  have e:n1*((h+1)*(h+1))*n2=n1*n2*((h+1)*(h+1)):=by grind
  refine rl e ?_;exact this
 ·exact Dm p3 q3
 ·subst hn1 hn2 hc1 hc2 hd1 hd2;dsimp only[Ad];grind
 ·subst hn1 hn2 hc1 hc2 hd1 hd2;dsimp only[AA];grind
 ·refine rr hn1 (rr hn2 ?_);rfl
end
structure Ei(F S f g:Pt)(H:Int):Prop where
 hh:H=10000∨H=20000
 F1: -(H+2)≤F.1∧F.1≤H+2
 F2: -(H+2)≤F.2∧F.2≤H+2
 S1: -(H+2)≤S.1∧S.1≤H+2
 S2: -(H+2)≤S.2∧S.2≤H+2
 f1: -102≤f.1-100*F.1∧f.1-100*F.1≤102
 f2: -102≤f.2-100*F.2∧f.2-100*F.2≤102
 g1: -102≤g.1-100*S.1∧g.1-100*S.1≤102
 g2: -102≤g.2-100*S.2∧g.2-100*S.2≤102
 sg:180*H≤Ad F S
 sP: -(41000*H)≤Ad f g-10000*Ad F S∧Ad f g-10000*Ad F S≤41000*H
noncomputable def dl(f F:Pt):Pt:=Ae f (Bh 100 F)
theorem EX(x f F:Pt):Ad x f=100*Ad x F+Ad x (dl f F):=by dsimp only[Ad,dl,Ae,Bh];grind
theorem Iq(x f F:Pt):Ad f x=100*Ad F x+Ad (dl f F) x:=by dsimp only[Ad,dl,Ae,Bh];grind
theorem CY(x:Pt):Ad x x=0:=by dsimp only[Ad];grind
theorem Nrm.cr{x y:Pt}{K:Int}(n:Nrm x N)(k0:0≤K)(y1: -K≤y.1∧y.1≤K)(y2: -K≤y.2∧y.2≤K): -(2*(N*K))≤Ad x y∧Ad x y≤2*(N*K):=Br n.n0 k0 ⟨n.x1,n.x2⟩ ⟨n.y1,n.y2⟩ y1 y2
theorem Nrm.ps0{x:Pt}(n:Nrm x N){y:Pt}(h:Ad x y≠0):1≤N:=by
 have n0:=n.n0
 rcases Int.lt_or_eq_of_le n0 with q|q
 ·exact q
 ·have x1:x.1=0:=by have:=n.x1;have:=n.x2;lia
  have x2:x.2=0:=by have:=n.y1;have:=n.y2;lia
  exact absurd (by delta Ad;refine rr x1 (rr x2 ?_);refine rr (zero_mul ..) (rr (zero_mul ..) ?_);rfl) h
section
variable{S f g:Pt}
theorem Ei.d1(p:Ei F S f g H):(-102≤(dl f F).1∧(dl f F).1≤102)∧(-102≤(dl f F).2∧(dl f F).2≤102):=⟨p.f1,p.f2⟩
theorem Ei.d2(p:Ei F S f g H):(-102≤(dl g S).1∧(dl g S).1≤102)∧(-102≤(dl g S).2∧(dl g S).2≤102):=⟨p.g1,p.g2⟩
theorem Vy(A B:Pt):Ad (Ae B A) A= -Ad A B:=by dsimp only[Ad,Ae];grind
theorem Ye(A B:Pt):Ad (Ae B A) B= -Ad A B:=by dsimp only[Ad,Ae];grind
theorem Yf(A B:Pt):Ad A (Ae B A)=Ad A B:=by dsimp only[Ad,Ae];grind
theorem Ei.bevel(p:Ei F S f g H)(nA:Nrm F NA)(nG:Nrm (Ae S F) NG)(nB:Nrm S NB):IL F S f g NA NG NB:=by
 have sg:=p.sg
 have sP:=p.sP
 have hh:=p.hh
 have a1:=nA.cr (K:=102) (by decide) p.d1.1 p.d1.2
 have b1:=nB.cr (K:=102) (by decide) p.d2.1 p.d2.2
 have g1:=nG.cr (K:=102) (by decide) p.d1.1 p.d1.2
 have g2:=nG.cr (K:=102) (by decide) p.d2.1 p.d2.2
 have ww:=Br (x:=dl f F) (y:=dl g S) (N:=102) (K:=102) (by decide) (by decide) p.d1.1 p.d1.2 p.d2.1 p.d2.2
 have k1:=Br (x:=dl f F) (y:=S) (N:=102) (K:=H+2) (by decide) (by exact BU 82000 (aI sP.1 sP.2)) p.d1.1 p.d1.2 p.S1 p.S2
 have k2:=Br (x:=F) (y:=dl g S) (N:=H+2) (K:=102) (by exact BU 82000 (aI sP.1 sP.2)) (by decide) p.F1 p.F2 p.d2.1 p.d2.2
 have pG:=nG.ps0 (y:=F) (by refine rr (Vy ..) ?_;lia)
 have pA:=nA.n0
 have pB:=nB.n0
 have ea:=EX F f F
 have eb:=EX S g S
 have e1:=Iq S f F
 have e2:=EX F g S
 rw[CY]at ea eb
 refine⟨by lia,⟨by exact BU 102 (aI (mI 20051 a1.1) (aI (mI 19949 a1.2) (mI 102 (le_of_eq ea.symm)))),by exact BU 102 (aI (mI 19949 a1.1) (aI (mI 20051 a1.2) (mI 102 (le_of_eq ea))))⟩,?_,?_,⟨by exact BU 102 (aI (mI 20051 b1.1) (aI (mI 19949 b1.2) (mI 102 (le_of_eq eb.symm)))),by exact BU 102 (aI (mI 19949 b1.1) (aI (mI 20051 b1.2) (mI 102 (le_of_eq eb))))⟩,by exact BU 82 (aI (mI 82000 sg) (aI (mI 221 sP.1) (mI 139 sP.2))),by lia,by lia,?_⟩
 ·change _≤Ad _ (dl f F)∧Ad _ (dl f F)≤_;exact⟨BU 102 (aI (mI 17551 g1.1) (mI 17449 g1.2)),BU 102 (aI (mI 17449 g1.1) (mI 17551 g1.2))⟩
 ·change _≤Ad _ (dl g S)∧Ad _ (dl g S)≤_;exact⟨BU 102 (aI (mI 17449 g1.1) (aI (mI 17449 g1.2) (mI 102 g2.1))),BU 102 (aI (mI 17449 g1.1) (aI (mI 17449 g1.2) (mI 102 g2.2)))⟩
 ·change _≤Ad (dl f F) (dl g S)∧Ad (dl f F) (dl g S)≤_;exact⟨BU 51 (aI (mI 122399 g1.1) (aI (mI 122399 g1.2) (aI (mI 51 ww.1) (mI 1061208 pG)))),BU 51 (aI (mI 122399 g1.1) (aI (mI 122399 g1.2) (aI (mI 51 ww.2) (mI 1061208 pG))))⟩
end
structure Ds(F S f g T t:Pt)(H k u a b ξ:Int):Prop where
 pr:Ei F S f g H
 hk:(H=10000∧k=100000000)∨(H=20000∧k=400000000)
 a0:0<a
 b0:0<b
 ab:a≤50*b
 ba:b≤2*a
 u0:0<u
 u1:k≤52*u
 u2:u≤2*k+5*H
 xi: -(9*(H*a))≤2*ξ∧2*ξ≤9*(H*a)
 ua:u*a=k*b+ξ
 T1:0≤k*(F.1+S.1)-u*T.1∧k*(F.1+S.1)-u*T.1≤u
 T2:0≤k*(F.2+S.2)-u*T.2∧k*(F.2+S.2)-u*T.2≤u
 t1: -b≤2*(b*t.1-a*(f.1+g.1))∧2*(b*t.1-a*(f.1+g.1))≤b
 t2: -b≤2*(b*t.2-a*(f.2+g.2))∧2*(b*t.2-a*(f.2+g.2))≤b
theorem Yg{k:Int}{d T R:Pt}(h1:k*(b*d.1)=100*(ξ*T.1)+R.1)(h2:k*(b*d.2)=100*(ξ*T.2)+R.2)(x:Pt):k*(b*Ad x d)=100*(ξ*Ad x T)+Ad x R:=by
 dsimp only[Ad];grind
theorem Yh{k u:Int}{S T ρ:Pt}(h1:ρ.1=k*(F.1+S.1)-u*T.1)(h2:ρ.2=k*(F.2+S.2)-u*T.2)(x:Pt):u*Ad x T=k*Ad x F+k*Ad x S-Ad x ρ:=by
 dsimp only[Ad];grind
theorem Yi{f g t τ:Pt}(h1:τ.1=b*t.1-a*(f.1+g.1))(h2:τ.2=b*t.2-a*(f.2+g.2))(x:Pt):b*Ad x t=a*Ad x f+a*Ad x g+Ad x τ:=by
 dsimp only[Ad];grind
section
variable{S f g T t:Pt}{k u:Int}
structure FE(F S f g T t ρ τ R:Pt)(H k u a b ξ Θ:Int):Prop where
 uT:∀x,u*Ad x T=k*Ad x F+k*Ad x S-Ad x ρ
 bt:∀x,b*Ad x t=a*Ad x f+a*Ad x g+Ad x τ
 kb:∀x,k*(b*Ad x (dl t T))=100*(ξ*Ad x T)+Ad x R
 r1: -u≤ρ.1∧ρ.1≤u
 r2: -u≤ρ.2∧ρ.2≤u
 t1: -b≤τ.1∧τ.1≤b
 t2: -b≤τ.2∧τ.2≤b
 R1: -(205*(k*a)+101*(k*b))≤R.1∧R.1≤205*(k*a)+101*(k*b)
 R2: -(205*(k*a)+101*(k*b))≤R.2∧R.2≤205*(k*a)+101*(k*b)
 hT:Θ=Ad F T
 uth:175*(H*k)≤u*Θ
 uth2:u*Θ≤k*Ad F S+(2*H+4)*u∧k*Ad F S-(2*H+4)*u≤u*Θ
 th:87*H≤Θ
 bth:171*(H*a)≤b*Θ
theorem fH{F S f g T t k u:Int}(ua:u*a=k*b+ξ):k*(b*(t-100*T))=100*(ξ*T)+(k*(a*(f-100*F))+k*(a*(g-100*S))+k*(b*t-a*(f+g))+100*(a*(k*(F+S)-u*T))):=by grind
abbrev HK(H k:Int):Prop:=(H=10000∧k=100000000)∨(H=20000∧k=400000000)
theorem Vz{d:Int}(a0:0<a)(h: -102≤d∧d≤102): -(102*a)≤a*d∧a*d≤102*a:=by
 have h1:=mul_le_mul_of_nonneg_left h.1 (le_of_lt a0)
 have h2:=mul_le_mul_of_nonneg_left h.2 (le_of_lt a0)
 rw[mul_comm a (-102)]at h1
 rw[mul_comm a 102]at h2
 exact⟨by refine rl (neg_mul ..) ?_;exact h1,h2⟩
theorem gw{k x y z:Int}(hk:HK H k)(x1: -(102*a)≤x∧x≤102*a)(y1: -(102*a)≤y∧y≤102*a)(z1: -b≤2*z∧2*z≤b)(r0:0≤r)(r1:r≤k*b+ξ)(xi:2*ξ≤9*(H*a))(a0:0<a)(b0:0<b): -(205*(k*a)+101*(k*b))≤k*x+k*y+k*z+100*r∧k*x+k*y+k*z+100*r≤205*(k*a)+101*(k*b):=by
 rcases hk with⟨rfl,rfl⟩|⟨rfl,rfl⟩<;>constructor
 ·exact BU 204 (aI (mI 20495477500 x1.1) (aI (mI 95477500 x1.2) (aI (mI 20400000000 y1.1) (aI (mI 10200000000 z1.1) (aI (mI 40902 r0) (aI (mI 10251 xi) (mI 20502 r1)))))))
 ·exact BU 204 (aI (mI 95477500 x1.1) (aI (mI 20495477500 x1.2) (aI (mI 20400000000 y1.2) (aI (mI 10200000000 z1.2) (aI (mI 102 r0) (aI (mI 10251 xi) (mI 20502 r1)))))))
 ·exact BU 204 (aI (mI 81990955000 x1.1) (aI (mI 390955000 x1.2) (aI (mI 81600000000 y1.1) (aI (mI 40800000000 z1.1) (aI (mI 40902 r0) (aI (mI 10251 xi) (mI 20502 r1)))))))
 ·exact BU 204 (aI (mI 390955000 x1.1) (aI (mI 81990955000 x1.2) (aI (mI 81600000000 y1.2) (aI (mI 40800000000 z1.2) (aI (mI 102 r0) (aI (mI 10251 xi) (mI 20502 r1)))))))
theorem fJ{k u d e τ ρ:Int}(hk:HK H k)(a0:0<a)(b0:0<b)(ua:u*a=k*b+ξ)(xi:2*ξ≤9*(H*a))(hd: -102≤d∧d≤102)(he: -102≤e∧e≤102)(ht: -b≤2*τ∧2*τ≤b)(hr:0≤ρ∧ρ≤u):
 -(205*(k*a)+101*(k*b))≤k*(a*d)+k*(a*e)+k*τ+100*(a*ρ)∧k*(a*d)+k*(a*e)+k*τ+100*(a*ρ)≤205*(k*a)+101*(k*b):=by
 have r2:=mul_le_mul_of_nonneg_left hr.2 (le_of_lt a0)
 rw[mul_comm a u,ua]at r2
 exact gw hk (Vz a0 hd) (Vz a0 he) ht (mul_nonneg (le_of_lt a0) hr.1) r2 xi a0 b0
theorem Yj{k u σ Θu:Int}(hk:HK H k)(c:X≤(2*H+4)*u)(e:Θu=k*0+k*σ-X)(sg:180*H≤σ)(u2:u≤2*k+5*H):175*(H*k)≤Θu:=by
 rcases hk with⟨rfl,rfl⟩|⟨rfl,rfl⟩
 ·lia
 ·lia
theorem bE{k u Θ:Int}(hk:HK H k)(h:175*(H*k)≤u*Θ)(u0:0<u)(u2:u≤2*k+5*H):87*H≤Θ:=not_lt.mp fun q=>by
 have:=mul_le_mul_of_nonneg_left (show Θ≤87*H-1 by exact Af q) (le_of_lt u0)
 clear q
 rcases hk with⟨rfl,rfl⟩|⟨rfl,rfl⟩
 ·lia
 ·lia
theorem bF{k bΘ ξΘ aΘ:Int}(hk:HK H k)(m1:a*(175*(H*k))≤k*bΘ+ξΘ)(m3:2*ξΘ≤9*H*aΘ)(m4:aΘ≤50*bΘ)(a0:0<a):171*(H*a)≤bΘ:=by
 rcases hk with⟨rfl,rfl⟩|⟨rfl,rfl⟩
 ·lia
 ·lia
theorem Yk{k u Θ:Int}(hk:HK H k)(h:175*(H*k)≤u*Θ)(ua:u*a=k*b+ξ)(xi:2*ξ≤9*(H*a))(ab:a≤50*b)(a0:0<a)(t0:0≤Θ):171*(H*a)≤b*Θ:=by
 have m1:=mul_le_mul_of_nonneg_left h (le_of_lt a0)
 rw[←mul_assoc a u,mul_comm a u,ua,add_mul,mul_assoc k]at m1
 have m3:=mul_le_mul_of_nonneg_right xi t0
 have m4:=mul_le_mul_of_nonneg_right ab t0
 rw[mul_assoc,←mul_assoc 9,mul_assoc (9*H)]at m3
 rw[mul_assoc]at m4
 exact bF hk m1 m3 m4 a0
theorem RY{x:Int}(b0:0<b)(h: -b≤2*x∧2*x≤b): -b≤x∧x≤b:=⟨by exact BU 2 (aI b0 h.1),by exact BU 2 (aI b0 h.2)⟩
theorem Kt{u x:Int}(u0:0<u)(h:0≤x∧x≤u): -u≤x∧x≤u:=⟨by exact Aq u0 h.1,h.2⟩
theorem dF{x k σ y:Int}(e:x=k*0+k*σ-X)(c: -y≤X∧X≤y):x≤k*σ+y∧k*σ-y≤x:=⟨by exact Aq (le_of_eq e) c.1,by exact Aq (le_of_eq e.symm) c.2⟩
theorem Ds.num(q:Ds F S f g T t H k u a b ξ):∃ρ τ R Θ,FE F S f g T t ρ τ R H k u a b ξ Θ:=by
 obtain⟨pr,hk,a0,b0,ab,ba,u0,u1,u2,xi,ua,T1,T2,t1,t2⟩:=q
 obtain⟨ρ,r1,r2⟩:∃ρ:Pt,ρ.1=k*(F.1+S.1)-u*T.1∧ρ.2=k*(F.2+S.2)-u*T.2:=⟨(_,_),rfl,rfl⟩
 obtain⟨τ,s1,s2⟩:∃τ:Pt,τ.1=b*t.1-a*(f.1+g.1)∧τ.2=b*t.2-a*(f.2+g.2):=⟨(_,_),rfl,rfl⟩
 obtain⟨R,R1,R2⟩:∃R:Pt,R.1=k*(a*(dl f F).1)+k*(a*(dl g S).1)+k*τ.1+100*(a*ρ.1)∧R.2=k*(a*(dl f F).2)+k*(a*(dl g S).2)+k*τ.2+100*(a*ρ.2):=⟨(_,_),rfl,rfl⟩
 have uT:=Yh r1 r2
 have i1:=fH (F:=F.1) (S:=S.1) (f:=f.1) (g:=g.1) (T:=T.1) (t:=t.1) ua
 have i2:=fH (F:=F.2) (S:=S.2) (f:=f.2) (g:=g.2) (T:=T.2) (t:=t.2) ua
 rw[←r1]at T1 i1
 rw[←r2]at T2 i2
 rw[←s1]at t1 i1
 rw[←s2]at t2 i2
 have kb:=Yg (d:=dl t T) (R:=R) (i1.trans (congrArg _ R1.symm)) (i2.trans (congrArg _ R2.symm))
 have cr:=Br (x:=F) (y:=ρ) (N:=H+2) (K:=u) (by have:=pr.hh;lia) (le_of_lt u0) pr.F1 pr.F2 (Kt u0 T1) (Kt u0 T2)
 have e2:2*((H+2)*u)=(2*H+4)*u:=by refine rl (mul_assoc ..) (rr (mul_add ..) ?_);rfl
 rw[e2]at cr
 have uTF:=uT F
 rw[CY]at uTF
 have uth:=Yj hk cr.2 uTF pr.sg u2
 have th:=bE hk uth u0 u2
 exact⟨ρ,τ,R,_,uT,Yi s1 s2,kb,Kt u0 T1,Kt u0 T2,RY b0 t1,RY b0 t2,R1▸fJ hk a0 b0 ua xi.2 pr.d1.1 pr.d2.1 t1 T1,R2▸fJ hk a0 b0 ua xi.2 pr.d1.2 pr.d2.2 t2 T2,rfl,uth,dF uTF cr,th,Yk hk uth ua xi.2 ab a0 (by have:=pr.hh;lia)⟩
end
theorem EN{x y:Int}(b0:0<b)(h:b*x≤b*y):x≤y:=Int.le_of_mul_le_mul_left h b0
section
variable{S f g T t ρ τ R:Pt}{k u Θ:Int}
theorem FE.crR(q:FE F S f g T t ρ τ R H k u a b ξ Θ)(a0:0<a)(b0:0<b)(k0:0<k){x:Pt}(n0:0≤N)(x1: -N≤x.1∧x.1≤N)(x2: -N≤x.2∧x.2≤N):
 -(410*(k*(a*N))+202*(k*(b*N)))≤Ad x R∧Ad x R≤410*(k*(a*N))+202*(k*(b*N)):=by
 have c:=Br n0 (by have:=mul_pos k0 a0;have:=mul_pos k0 b0;lia) x1 x2 q.R1 q.R2
 have e:2*(N*(205*(k*a)+101*(k*b)))=410*(k*(a*N))+202*(k*(b*N)):=by grind
 rwa [e]at c
theorem VA{Z:Int}(xi: -(9*(H*a))≤2*ξ∧2*ξ≤9*(H*a))(h0:0≤9*(H*a))(hy: -Z≤X∧X≤Z)(hz:0≤Z): -(9*(H*(a*Z)))≤2*(ξ*X)∧2*(ξ*X)≤9*(H*(a*Z)):=by
 have s:=Hn xi hy h0 hz
 have e1:2*ξ*X=2*(ξ*X):=by grind
 have e2:9*(H*a)*Z=9*(H*(a*Z)):=by grind
 rwa [e1,e2]at s
section
variable{bY ξΘ aΘ aN bN Z Z1 Z2 Z3 bΘ uΘ uY aP aσ uξ uZ ua ub ubN ubY:Int}(hk:HK H k)
include hk
theorem dG(e:k*bY=100*ξΘ+Z)(r: -(410*(k*aN)+202*(k*bN))≤Z∧Z≤410*(k*aN)+202*(k*bN))(x: -(9*(H*aΘ))≤2*ξΘ∧2*ξΘ≤9*(H*aΘ))(t:aΘ≤(2*H+4)*aN)(ab:aN≤50*bN)(b0:0<bN): -(70000*bN)≤bY∧bY≤70000*bN:=by
 rcases hk with⟨rfl,rfl⟩|⟨rfl,rfl⟩<;>constructor
 ·lia
 ·lia
 ·lia
 ·lia
theorem dH(e:k*bY=Z)(r: -(410*(k*aN)+202*(k*bN))≤Z∧Z≤410*(k*aN)+202*(k*bN))(ab:aN≤50*bN)(b0:0≤bN): -(80000*bN)≤bY∧bY≤80000*bN:=by
 rcases hk with⟨rfl,rfl⟩|⟨rfl,rfl⟩<;>constructor
 ·exact BU 2070200000000 (aI (mI 3280000000000000 ab) (aI (mI 20702 (le_of_eq e.symm)) (aI (mI 50351 r.1) (mI 29649 r.2))))
 ·exact BU 2070200000000 (aI (mI 3280000000000000 ab) (aI (mI 20702 (le_of_eq e)) (aI (mI 29649 r.1) (mI 50351 r.2))))
 ·exact BU 8280800000000 (aI (mI 13120000000000000 ab) (aI (mI 20702 (le_of_eq e.symm)) (aI (mI 50351 r.1) (mI 29649 r.2))))
 ·exact BU 8280800000000 (aI (mI 13120000000000000 ab) (aI (mI 20702 (le_of_eq e)) (aI (mI 29649 r.1) (mI 50351 r.2))))
theorem dI(e:bY=aP+(100*Z1+Z2))(c1: -(2*((H+2)*b))≤Z1)(c2: -(2*(102*b))≤Z2)(up:k*bΘ+ξΘ≤k*aσ+((2*H+4)*k*b+(2*H+4)*ξ))(x: -(9*(H*aΘ))≤2*ξΘ)(xi:2*ξ≤9*(H*a))(ap: -(41000*(H*a))≤aP-10000*aσ)(bth:171*(H*a)≤bΘ)(abT:aΘ≤50*bΘ)(ba:b≤2*a)(a0:0<a):9000*bΘ≤bY:=by
 rcases hk with⟨rfl,rfl⟩|⟨rfl,rfl⟩
 ·lia
 ·lia
theorem dJ(e:uY=k*Z1+k*Z2-Z3)(c1: -(2*(102*(H+2)))≤Z1)(c2: -(2*(102*(H+2)))≤Z2)(c3:Z3≤2*(102*u))(uth:175*(H*k)≤uΘ)(u2:u≤2*k+5*H):90*uΘ≤100*uΘ+uY:=by
 rcases hk with⟨rfl,rfl⟩|⟨rfl,rfl⟩
 ·exact Af (aI c3 (aI (mI 100000000 c1) (aI (mI 100000000 c2) (aI (le_of_eq e.symm) (aI (mI 10 uth) (mI 204 u2))))))
 ·exact Af (aI c3 (aI (mI 400000000 c1) (aI (mI 400000000 c2) (aI (le_of_eq e.symm) (aI (mI 10 uth) (mI 204 u2))))))
theorem dK(e:k*bY=100*ξΘ+Z)(r: -(410*(k*(a*(H+2)))+202*(k*(b*(H+2))))≤Z)(x: -(9*(H*aΘ))≤2*ξΘ)(bth:171*(H*a)≤bΘ)(abT:aΘ≤50*bΘ)(ba:b≤2*a)(a0:0<a):90*bΘ≤100*bΘ+bY:=by
 rcases hk with⟨rfl,rfl⟩|⟨rfl,rfl⟩
 ·lia
 ·lia
theorem dL(e:uY=k*Z1+k*Z2-Z3)(c1: -(2*(102*(H+2)))≤Z1∧Z1≤2*(102*(H+2)))(c2: -(2*(102*(H+2)))≤Z2∧Z2≤2*(102*(H+2)))(c3: -(2*(102*u))≤Z3∧Z3≤2*(102*u))(u2:u≤2*k+5*H): -(410*(H*k))≤uY∧uY≤410*(H*k):=by
 rcases hk with⟨rfl,rfl⟩|⟨rfl,rfl⟩<;>constructor
 ·exact Af (aI c3.2 (aI (mI 100000000 c1.1) (aI (mI 100000000 c2.1) (aI (le_of_eq e.symm) (mI 204 u2)))))
 ·exact Af (aI c3.1 (aI (mI 100000000 c1.2) (aI (mI 100000000 c2.2) (aI (le_of_eq e) (mI 204 u2)))))
 ·exact Af (aI c3.2 (aI (mI 400000000 c1.1) (aI (mI 400000000 c2.1) (aI (le_of_eq e.symm) (mI 204 u2)))))
 ·exact Af (aI c3.1 (aI (mI 400000000 c1.2) (aI (mI 400000000 c2.2) (aI (le_of_eq e) (mI 204 u2)))))
theorem gy(e:k*ubY=100*uξ+uZ)(r: -(41820*(k*ua)+20604*(k*ub))≤uZ∧uZ≤41820*(k*ua)+20604*(k*ub))(x: -(3690*(H*(H*(k*a))))≤2*uξ∧2*uξ≤3690*(H*(H*(k*a))))(uab:ua≤50*ub)(ubb:ub≤2*k*b+5*H*b)(ng:80*(k*b)≤ubN)(ab:a≤50*b)(b0:0<b): -(1000000*ubN)≤ubY∧ubY≤1000000*ubN:=by
 rcases hk with⟨rfl,rfl⟩|⟨rfl,rfl⟩<;>constructor
 ·lia
 ·lia
 ·lia
 ·lia
theorem dM(h1:175*(H*k)≤uΘ)(h2:uΘ≤(2*H+4)*uY):80*k≤uY:=by
 rcases hk with⟨rfl,rfl⟩|⟨rfl,rfl⟩
 ·lia
 ·lia
end
theorem UF(b0:0<b)(h: -(c*(b*N))≤b*Z∧b*Z≤c*(b*N)): -(c*N)≤Z∧Z≤c*N:=
 ⟨EN b0 (by refine rr (mul_neg ..) (rr (mul_left_comm ..) ?_);exact h.1),EN b0 (by refine rr (mul_left_comm ..) ?_;exact h.2)⟩
structure gA(H k u a b ξ:Int):Prop where
 hk:HK H k
 a0:0<a
 b0:0<b
 u0:0<u
 k0:0<k
 h0:0<H
 ha:0≤9*(H*a)
theorem Ds.kA(K:Ds F S f g T t H k u a b ξ):gA H k u a b ξ:=by
 have a0:=K.a0
 have h0:0<H:=by rcases K.hk with⟨rfl,_⟩|⟨rfl,_⟩<;>decide
 exact⟨K.hk,a0,K.b0,K.u0,by rcases K.hk with⟨_,rfl⟩|⟨_,rfl⟩<;>decide,h0,mul_nonneg (by decide) (le_of_lt (mul_pos h0 a0))⟩
section
variable(qn:FE F S f g T t ρ τ R H k u a b ξ Θ)(KO:Ds F S f g T t H k u a b ξ)
include qn KO
theorem FE.th0:0<Θ:=Int.lt_of_lt_of_le (mul_pos (by decide) KO.kA.h0) qn.th
theorem FE.tN(nG:Nrm (Ae T F) N):Θ≤(2*H+4)*N:=by
 have h0:=KO.kA.h0
 have c:=(Br (x:=F) (y:=Ae T F) (N:=H+2) (K:=N) (by exact Af h0) nG.n0 KO.pr.F1 KO.pr.F2 ⟨nG.x1,nG.x2⟩ ⟨nG.y1,nG.y2⟩).2
 rw[Yf,←qn.hT]at c
 have e:2*((H+2)*N)=(2*H+4)*N:=by refine rl (mul_assoc ..) (rr (mul_add ..) ?_);rfl
 rwa [e]at c
theorem NX(n0:0≤N):a*N≤50*(b*N):=by
 have:=mul_le_mul_of_nonneg_right KO.ab n0
 rwa [mul_assoc]at this
theorem FE.xT: -(9*(H*(a*Θ)))≤2*(ξ*Θ)∧2*(ξ*Θ)≤9*(H*(a*Θ)):=by
 have t0:=qn.th0 KO
 exact VA KO.xi KO.kA.ha ⟨by exact Aq t0 t0,Int.le_refl _⟩ (le_of_lt t0)
theorem FE.g2(nG:Nrm (Ae T F) N)(n1:0<N): -(70000*N)≤Ad (Ae T F) (dl t T)∧Ad (Ae T F) (dl t T)≤70000*N:=by
 have A:=KO.kA
 have e:=qn.kb (Ae T F)
 rw[Ye,←qn.hT,mul_neg]at e
 have r:=qn.crR A.a0 A.b0 A.k0 (x:=Ae T F) nG.n0 ⟨nG.x1,nG.x2⟩ ⟨nG.y1,nG.y2⟩
 have t:=mul_le_mul_of_nonneg_left (qn.tN KO nG) (le_of_lt A.a0)
 rw[mul_left_comm]at t
 have x:=qn.xT KO
 exact UF A.b0 (dG A.hk e r ⟨by exact Af x.2,by exact Af x.1⟩ t (NX qn KO nG.n0) (mul_pos A.b0 n1))
theorem FE.b1(nB:Nrm T N): -(80000*N)≤Ad T t∧Ad T t≤80000*N:=by
 have A:=KO.kA
 have e:=qn.kb T
 have r:=qn.crR A.a0 A.b0 A.k0 (x:=T) nB.n0 ⟨nB.x1,nB.x2⟩ ⟨nB.y1,nB.y2⟩
 have ed:=EX T t T
 rw[CY,mul_zero,zero_add]at ed
 rw[CY,mul_zero,mul_zero,zero_add]at e
 refine rr ed ?_
 exact UF A.b0 (dH A.hk e r (NX qn KO nB.n0) (mul_nonneg (le_of_lt A.b0) nB.n0))
theorem FE.k0:9000*Θ≤Ad f t:=by
 have A:=KO.kA
 have p:=KO.pr
 have e:=qn.bt f
 rw[CY,mul_zero,zero_add,Iq τ f F]at e
 have h2:0≤H+2:=by have:=A.h0;exact Af this
 have c1:=(Br (x:=F) (y:=τ) (N:=H+2) (K:=b) h2 (le_of_lt A.b0) p.F1 p.F2 qn.t1 qn.t2).1
 have c2:=(Br (x:=dl f F) (y:=τ) (N:=102) (K:=b) (by decide) (le_of_lt A.b0) p.d1.1 p.d1.2 qn.t1 qn.t2).1
 have up:=mul_le_mul_of_nonneg_left qn.uth2.1 (le_of_lt A.a0)
 have e1:a*(u*Θ)=k*(b*Θ)+ξ*Θ:=by refine rl (mul_assoc ..) ?_;refine rr (mul_comm a u) (rr KO.ua ?_);refine rr (add_mul ..) (rr (mul_assoc ..) ?_);rfl
 have e2:a*(k*Ad F S+(2*H+4)*u)=k*(a*Ad F S)+((2*H+4)*k*b+(2*H+4)*ξ):=by
  refine rr (mul_assoc ..) (rl (mul_add ..) ?_);refine rl KO.ua (rr (mul_add ..) ?_);rewrite[mul_left_comm a k];rewrite[mul_left_comm a];refine rr (mul_comm a u) ?_;(with_reducible rfl)
 rw[e1,e2]at up
 have ap:=mul_le_mul_of_nonneg_left p.sP.1 (le_of_lt A.a0)
 have e3:a*(Ad f g-10000*Ad F S)=a*Ad f g-10000*(a*Ad F S):=by refine rr (mul_sub ..) (rr (mul_left_comm ..) ?_);rfl
 have e4:a* -(41000*H)= -(41000*(H*a)):=by refine rr (mul_neg ..) ?_;refine rr (mul_left_comm ..) (rr (mul_comm a H) ?_);rfl
 rw[e3,e4]at ap
 refine EN A.b0 ?_
 refine rr (mul_left_comm ..) ?_
 exact dI A.hk e c1 c2 up (qn.xT KO).1 KO.xi.2 ap qn.bth (NX qn KO (le_of_lt (qn.th0 KO))) KO.ba A.a0
theorem FE.cr3:(-(2*(102*(H+2)))≤Ad (dl f F) F∧Ad (dl f F) F≤2*(102*(H+2)))∧(-(2*(102*(H+2)))≤Ad (dl f F) S∧Ad (dl f F) S≤2*(102*(H+2)))∧(-(2*(102*u))≤Ad (dl f F) ρ∧Ad (dl f F) ρ≤2*(102*u)):=by
 have p:=KO.pr
 have h2:0≤H+2:=by have:=KO.kA.h0;exact Af this
 exact⟨Br (by decide) h2 p.d1.1 p.d1.2 p.F1 p.F2,Br (by decide) h2 p.d1.1 p.d1.2 p.S1 p.S2,Br (by decide) (le_of_lt KO.u0) p.d1.1 p.d1.2 qn.r1 qn.r2⟩
theorem FE.k1:90*Θ≤Ad f T:=by
 obtain⟨c1,c2,c3⟩:=qn.cr3 KO
 refine EN KO.u0 ?_
 refine rr (Iq T f F) (rl qn.hT ?_);refine rr (mul_add ..) (rr (mul_left_comm ..) ?_);rewrite[mul_left_comm u 100]
 exact dJ KO.hk (qn.uT (dl f F)) c1.1 c2.1 c3.2 qn.uth KO.u2
theorem FE.k2:90*Θ≤Ad F t:=by
 have A:=KO.kA
 have h2:0≤H+2:=by have:=A.h0;exact Af this
 have eu:=qn.kb F
 rw[←qn.hT]at eu
 refine EN A.b0 ?_
 refine rr (EX F t T) (rl qn.hT ?_);refine rr (mul_add ..) (rr (mul_left_comm ..) ?_);rewrite[mul_left_comm b 100]
 exact dK A.hk eu (qn.crR A.a0 A.b0 A.k0 (x:=F) h2 KO.pr.F1 KO.pr.F2).1 (qn.xT KO).1 qn.bth (NX qn KO (le_of_lt (qn.th0 KO))) KO.ba A.a0
theorem FE.wd(nG:Nrm (Ae T F) N): -(1000000*N)≤Ad (dl f F) (dl t T)∧Ad (dl f F) (dl t T)≤1000000*N:=by
 have A:=KO.kA
 have p:=KO.pr
 have u0:=le_of_lt A.u0
 have eu:=qn.kb (dl f F)
 have r:=qn.crR A.a0 A.b0 A.k0 (x:=dl f F) (N:=102) (by decide) p.d1.1 p.d1.2
 obtain⟨c1,c2,c3⟩:=qn.cr3 KO
 have cu:=dL A.hk (qn.uT (dl f F)) c1 c2 c3 KO.u2
 have ub:=mul_le_mul_of_nonneg_left (qn.tN KO nG) u0
 rw[mul_left_comm]at ub
 have x:=VA KO.xi A.ha cu (mul_nonneg (by decide) (le_of_lt (mul_pos A.h0 A.k0)))
 have e8:9*(H*(a*(410*(H*k))))=3690*(H*(H*(k*a))):=by grind
 rw[e8,mul_left_comm ξ u]at x
 have m0:k*(u*(b*Ad (dl f F) (dl t T)))=100*(u*(ξ*Ad (dl f F) T))+u*Ad (dl f F) R:=by rewrite[mul_left_comm k u];refine rr eu (rr (mul_add ..) ?_);rewrite[mul_left_comm u 100];(with_reducible rfl)
 have r1:=mul_le_mul_of_nonneg_left r.1 u0
 have r2:=mul_le_mul_of_nonneg_left r.2 u0
 have eA:u*(410*(k*(a*102))+202*(k*(b*102)))=41820*(k*(u*a))+20604*(k*(u*b)):=by grind
 rw[mul_neg,eA]at r1
 rw[eA]at r2
 have uab:=mul_le_mul_of_nonneg_left KO.ab u0
 rw[mul_left_comm]at uab
 have ubb:=mul_le_mul_of_nonneg_right KO.u2 (le_of_lt A.b0)
 rw[add_mul]at ubb
 have ng:=mul_le_mul_of_nonneg_right (dM A.hk qn.uth ub) (le_of_lt A.b0)
 have eF:u*N*b=u*(b*N):=by refine rr (mul_assoc ..) (rr (mul_comm N b) ?_);rfl
 rw[mul_assoc,eF]at ng
 have fin:=gy A.hk m0 ⟨r1,r2⟩ x uab ubb ng KO.ab A.b0
 exact UF A.b0 (UF A.u0 fin)
theorem FE.tri(nA:Nrm F NA)(nG:Nrm (Ae T F) NG)(nB:Nrm T NB):IL F T f t NA NG NB:=by
 have p:=KO.pr
 have t0:=qn.th0 KO
 have pG:=nG.ps0 (y:=F) (by refine rr (Vy ..) (rl qn.hT ?_);exact Int.ne_of_lt (Af t0))
 have a1:=nA.cr (K:=102) (by decide) p.d1.1 p.d1.2
 have g1:=nG.cr (K:=102) (by decide) p.d1.1 p.d1.2
 have ea:=EX F f F
 rw[CY]at ea
 have n0:=nA.n0
 refine⟨?_,?_,?_,qn.g2 KO nG pG,qn.b1 KO nB,?_,?_,?_,qn.wd KO nG⟩
 ·refine rl qn.hT ?_;exact t0
 ·clear qn KO p;exact⟨by exact BU 102 (aI (mI 20051 a1.1) (aI (mI 19949 a1.2) (mI 102 (le_of_eq ea.symm)))),by exact BU 102 (aI (mI 19949 a1.1) (aI (mI 20051 a1.2) (mI 102 (le_of_eq ea))))⟩
 ·change _≤Ad _ (dl f F)∧Ad _ (dl f F)≤_
  clear qn KO p;exact⟨by exact BU 102 (aI (mI 17551 g1.1) (mI 17449 g1.2)),by exact BU 102 (aI (mI 17449 g1.1) (mI 17551 g1.2))⟩
 ·refine rl qn.hT ?_;exact qn.k0 KO
 ·refine rl qn.hT ?_;exact qn.k1 KO
 ·refine rl qn.hT ?_;exact qn.k2 KO
end
end
theorem Ir{x:Int}(hb:0<b): -b≤2*(b*CM x b-x)∧2*(b*CM x b-x)≤b:=by
 have key:∀y:Int,-b≤2*(b*(2*y+b).fdiv (2*b)-y)∧2*(b*(2*y+b).fdiv (2*b)-y)≤b:=by
  intro y
  refine rr (fdiv_eq_ediv_of_nonneg _ (by exact Aq hb hb)) ?_
  have h1:=Int.mul_ediv_add_emod (2*y+b) (2*b)
  have h2:=Int.emod_nonneg (2*y+b) (show 2*b≠0 by exact ne_of_gt (Aq hb hb))
  have h3:=Int.emod_lt_of_pos (2*y+b) (show 0<2*b by exact Aq hb hb)
  have e:2*b*((2*y+b)/(2*b))=2*(b*((2*y+b)/(2*b))):=by grind
  rw[e]at h1
  constructor
  ·exact Aq (le_of_eq h1.symm) h3
  ·exact Aq (le_of_eq h1) h2
 have hb':¬b<0:=by exact not_lt.mpr (Af hb)
 delta CM
 dsimp only
 refine rr (if_neg hb') (rr (decide_eq_false hb') ?_)
 by_cases h:x<0
 ·refine rr (if_pos h) ?_;refine rr (decide_eq_true h) (rr (if_neg (by decide)) ?_)
  have k:=key (-x)
  refine rr (mul_neg ..) ?_
  constructor
  ·exact Af k.2
  ·exact Af k.1
 ·refine rr (if_neg h) ?_;refine rr (decide_eq_false h) (rr (if_pos (by decide)) ?_)
  exact key x
theorem LJ{x u:Int}(hu:0<u):0≤x-u*x.fdiv u∧x-u*x.fdiv u≤u:=by
 refine rr (fdiv_eq_ediv_of_nonneg _ (by exact le_of_lt hu)) ?_
 have h1:=Int.mul_ediv_add_emod x u
 have h2:=Int.emod_nonneg x (show u≠0 by exact ne_of_gt (hu))
 have h3:=Int.emod_lt_of_pos x hu
 constructor
 ·exact Aq (le_of_eq h1) h2
 ·exact Aq (le_of_eq h1.symm) h3
theorem Dl.bd{f:Pt}(h0:10≤H)(n:Dl f F H):(-(H+2)≤F.1∧F.1≤H+2)∧(-(H+2)≤F.2∧F.2≤H+2):=by
 have n2:=n.n2
 have a:=sq0 F.1
 have b:=sq0 F.2
 have e:(H+2)*(H+2)=H*H+4*H+4:=by grind
 have p:=DX (x:=F.1) (y:=H+2) (by exact Af h0) (by exact FG h0 n2 b (le_of_eq e.symm))
 have q:=DX (x:=F.2) (y:=H+2) (by exact Af h0) (by exact FG h0 n2 a (le_of_eq e.symm))
 exact⟨p,q⟩
theorem NY{f g S:Pt}(h0:600≤H)(N1:Dl f F H)(N2:Dl g S H):
 (-(41000*H)≤Ad f g-10000*Ad F S∧Ad f g-10000*Ad F S≤41000*H)∧(-(41000*H)≤AA f g-10000*AA F S∧AA f g-10000*AA F S≤41000*H):=by
 obtain⟨F1,F2⟩:=N1.bd (by exact Af h0)
 obtain⟨S1,S2⟩:=N2.bd (by exact Af h0)
 have d1:(-102≤(dl f F).1∧(dl f F).1≤102)∧(-102≤(dl f F).2∧(dl f F).2≤102):=⟨⟨N1.x1,N1.x2⟩,⟨N1.y1,N1.y2⟩⟩
 have d2:(-102≤(dl g S).1∧(dl g S).1≤102)∧(-102≤(dl g S).2∧(dl g S).2≤102):=⟨⟨N2.x1,N2.x2⟩,⟨N2.y1,N2.y2⟩⟩
 constructor
 ·have e:Ad f g-10000*Ad F S=100*Ad F (dl g S)+100*Ad (dl f F) S+Ad (dl f F) (dl g S):=by dsimp only[Ad,dl,Ae,Bh];grind
  have c1:=Br (x:=F) (y:=dl g S) (N:=H+2) (K:=102) (by exact Af h0) (by decide) F1 F2 d2.1 d2.2
  have c2:=Br (x:=dl f F) (y:=S) (N:=102) (K:=H+2) (by decide) (by exact Af h0) d1.1 d1.2 S1 S2
  have c3:=Br (x:=dl f F) (y:=dl g S) (N:=102) (K:=102) (by decide) (by decide) d1.1 d1.2 d2.1 d2.2
  constructor
  ·exact BU 10234 (aI (mI 1747736 h0) (aI (mI 10234 (le_of_eq e.symm)) (aI (mI 1024133 c1.1) (aI (mI 733 c1.2) (aI (mI 1023400 c2.1) (mI 10234 c3.1))))))
  ·exact BU 10234 (aI (mI 1747736 h0) (aI (mI 10234 (le_of_eq e)) (aI (mI 733 c1.1) (aI (mI 1024133 c1.2) (aI (mI 1023400 c2.2) (mI 10234 c3.2))))))
 ·have e:AA f g-10000*AA F S=100*AA F (dl g S)+100*AA (dl f F) S+AA (dl f F) (dl g S):=by dsimp only[AA,dl,Ae,Bh];grind
  have c1:=RV (x:=F) (y:=dl g S) (N:=H+2) (K:=102) (by exact Af h0) (by decide) F1 F2 d2.1 d2.2
  have c2:=RV (x:=dl f F) (y:=S) (N:=102) (K:=H+2) (by decide) (by exact Af h0) d1.1 d1.2 S1 S2
  have c3:=RV (x:=dl f F) (y:=dl g S) (N:=102) (K:=102) (by decide) (by decide) d1.1 d1.2 d2.1 d2.2
  constructor
  ·exact BU 10234 (aI (mI 1747736 h0) (aI (mI 10234 (le_of_eq e.symm)) (aI (mI 1024133 c1.1) (aI (mI 733 c1.2) (aI (mI 1023400 c2.1) (mI 10234 c3.1))))))
  ·exact BU 10234 (aI (mI 1747736 h0) (aI (mI 10234 (le_of_eq e)) (aI (mI 733 c1.1) (aI (mI 1024133 c1.2) (aI (mI 1023400 c2.2) (mI 10234 c3.2))))))
section
variable{h C D y z w:Int}
structure gB(h N C D X y z w:Int):Prop where
 C2:C≤54
 D2: -54≤D∧D≤54
 X3:N*((h-1)*(h-1))≤54*X
 X4:X≤54*((h+1)*(h+1))
 wC: -N≤w*C∧w*C≤N
 wD: -N≤w*D∧w*D≤N
 yD: -(N*(h+1))≤y*D∧y*D≤N*(h+1)
 zD: -(N*(h+1))≤z*D∧z*D≤N*(h+1)
 yC: -(N*(h+1))≤y*C∧y*C≤N*(h+1)
 zC: -(N*(h+1))≤z*C∧z*C≤N*(h+1)
theorem Gr.num(m:Gr h N C D X y z w):gB h N C D X y z w:=by
 obtain⟨N1,N2,C1,lag,X0,X1,X2,y2,z2,w2,hh⟩:=m
 have cc:=sq0 C
 have dd:=sq0 D
 have h0:0≤h-1:=by lia
 have hs:0≤(h-1)*(h-1):=mul_nonneg h0 h0
 have ht:0≤(h+1)*(h+1):=mul_nonneg (by exact Af h0) (by exact Af h0)
 have bdd:∀{p q:Int},p*p≤N*((h+1)*(h+1))→q*q≤N→ -(N*(h+1))≤p*q∧p*q≤N*(h+1):=fun{p q} h1 h2=>by
  refine DX (mul_nonneg (by exact le_of_lt N1) (by exact Af h0)) (Int.le_trans (Dm h1 h2) (le_of_eq ?_))
  grind
 have bd1:∀{p q:Int},p*p≤N→q*q≤N→ -N≤p*q∧p*q≤N:=fun{p q} h1 h2=>DX (by exact le_of_lt N1) (Dm h1 h2)
 refine⟨(DX (x:=C) (y:=54) (by decide) (by exact He N2 (le_of_eq lag) dd)).2,DX (x:=D) (y:=54) (by decide) (by exact He N2 (le_of_eq lag) cc),?_,?_,bd1 w2 (by exact Aq (le_of_eq lag) dd),bd1 w2 (by exact Aq (le_of_eq lag) cc),bdd y2 (by exact Aq (le_of_eq lag) cc),bdd z2 (by exact Aq (le_of_eq lag) cc),bdd y2 (by exact Aq (le_of_eq lag) dd),bdd z2 (by exact Aq (le_of_eq lag) dd)⟩
 ·refine(DX (x:=N*((h-1)*(h-1))) (y:=54*X) (by exact Af (mI 54 X0)) ?_).2
  have e1:N*((h-1)*(h-1))*(N*((h-1)*(h-1)))=N*(N*((h-1)*(h-1)*((h-1)*(h-1)))):=by grind
  have e2:54*X*(54*X)=2916*(X*X):=by grind
  refine rr e1 (rr e2 ?_)
  have a:=mul_le_mul_of_nonneg_left X1 (show 0≤N by exact le_of_lt N1)
  have b:=mul_le_mul_of_nonneg_right N2 (sq0 X)
  exact Int.le_trans a b
 ·refine(DX (x:=X) (y:=54*((h+1)*(h+1))) (by exact Af (mI 54 ht)) ?_).2
  have e2:54*((h+1)*(h+1))*(54*((h+1)*(h+1)))=2916*((h+1)*(h+1)*((h+1)*(h+1))):=by grind
  have b:=mul_le_mul_of_nonneg_right N2 (mul_nonneg ht ht)
  exact He X2 (le_of_eq e2.symm) b
theorem Gr.cr(m:Gr h N C D X y z w){P:Int}(e:N*P=(X+w)*C+(y-z)*D):(h-1)*(h-1)-108*h-3024≤54*P:=by
 have n:=m.num
 have N1:=m.N1
 have C1:=m.C1
 have e2:(X+w)*C+(y-z)*D=X*C+w*C+y*D-z*D:=by grind
 have xc:=mul_le_mul_of_nonneg_left C1 (le_of_lt m.X0)
 have X3:=n.X3
 have wC:=n.wC
 have yD:=n.yD
 have zD:=n.zD
 rw[e2]at e
 refine EN (b:=N) (by exact N1) ?_
 have e3:N*(54*P)=54*(N*P):=by grind
 have e4:N*((h-1)*(h-1)-108*h-3024)=N*((h-1)*(h-1))-108*(N*h)-3024*N:=by grind
 have e5:N*(h+1)=N*h+N:=by grind
 refine rr e3 (rr e4 ?_)
 rw[e5]at yD zD
 exact Af (aI (mI 54 (le_of_eq e.symm)) (aI (mI 54 xc) (aI X3 (aI (mI 1485 wC.1) (aI (mI 1431 wC.2) (aI (mI 54 yD.1) (mI 54 zD.2)))))))
structure VB(N D a:Int):Prop where
 a0:0<a
 a1:a*a≤81000000000000000000000000000000000000*N
 a2:81000000000000000000000000000000000000*N<(a+1)*(a+1)
theorem Gr.md(m:Gr h N C D X y z w)(r:VB N D a): -a≤9000000000000000000*D∧9000000000000000000*D≤a:=by
 have dd:D*D≤N:=by have:=m.lag;have:=sq0 C;omega
 have a0:=r.a0
 have a2:=r.a2
 have k:9000000000000000000*D*(9000000000000000000*D)<(a+1)*(a+1):=by
  have e:9000000000000000000*D*(9000000000000000000*D)=81000000000000000000000000000000000000*(D*D):=by grind
  exact He (mI 81000000000000000000000000000000000000 dd) a2 (le_of_eq e)
 have:=IK (by exact Af a0) k
 exact⟨Af this.1,Af this.2⟩
theorem Gr.ax(m:Gr h N C D X y z w)(r:VB N D a): -(9000000000000000000*(N*(2*h+1)))≤a*X-9000000000000000000*(N*(h*h))∧a*X-9000000000000000000*(N*(h*h))≤9000000000000000000*(N*(2*h+1)):=by
 have n:=m.num
 obtain⟨N1,N2,C1,lag,X0,X1,X2,y2,z2,w2,hh⟩:=m
 obtain⟨a0,a1,a2⟩:=r
 have h0:0≤h-1:=by lia
 have hs:0≤(h-1)*(h-1):=mul_nonneg h0 h0
 have ht:0≤(h+1)*(h+1):=mul_nonneg (by exact Af h0) (by exact Af h0)
 have up:a*X≤9000000000000000000*(N*((h+1)*(h+1))):=by
  refine(DX (x:=a*X) (y:=9000000000000000000*(N*((h+1)*(h+1)))) (mul_nonneg (by decide) (mul_nonneg (by exact le_of_lt N1) ht)) (Int.le_trans (Dm a1 X2) (le_of_eq ?_))).2
  grind
 have lo:9000000000000000000*(N*((h-1)*(h-1)))≤(a+1)*X:=by
  refine(DX (x:=9000000000000000000*(N*((h-1)*(h-1)))) (y:=(a+1)*X) (mul_nonneg (by exact Af a0) (by exact le_of_lt X0)) (Int.le_trans (le_of_eq ?_) (Kq (le_of_lt a2) X1 (by exact Af (mI 81000000000000000000000000000000000000 N1)) (mul_nonneg (by exact le_of_lt N1) (mul_nonneg hs hs))))).2
  grind
 have X4:=n.X4
 have e1:(a+1)*X=a*X+X:=by grind
 have e2:N*((h+1)*(h+1))=N*(h*h)+N*(2*h+1):=by grind
 have e3:N*((h-1)*(h-1))=N*(h*h)-N*(2*h+1)+2*N:=by grind
 rw[e2]at up
 rw[e1,e3]at lo
 have e4:(h+1)*(h+1)≤10000000000000:=by rcases hh with rfl|rfl<;>decide
 constructor
 ·exact FG (mI 18000000000000000000 N1) lo X4 (mI 54 e4)
 ·exact Af up
theorem Gr.aq(m:Gr h N C D X y z w){Q:Int}(r:VB N D a)(e:N*Q=(X+w)*D+(z-y)*C): -(5*(h*a))≤a*Q-9000000000000000000*(h*h*D)∧a*Q-9000000000000000000*(h*h*D)≤5*(h*a):=by
 have n:=m.num
 have N1:=m.N1
 have md:=m.md r
 have ax:=m.ax r
 have a0:=r.a0
 have h0:600≤h:=by have:=m.hh;lia
 have nh:0≤N*(2*h+1):=mul_nonneg (by exact le_of_lt N1) (by exact Aq h0 h0)
 --times D
 have s:=Hn (x:=a*X-9000000000000000000*(N*(h*h))) (y:=D) ax (show-54≤D∧D≤54 from n.D2) (mul_nonneg (by decide) nh) (by decide)
 have dN:∃d,0≤d∧ -d≤D∧D≤d∧9000000000000000000*d≤a:=by
  rcases Int.le_total 0 D with q|q
  ·exact⟨D,q,by exact Aq q q,by simp+arith only[*],md.2⟩
  ·exact⟨-D,by simp+arith only[*],by simp+arith only[*],by simp+arith only[*],by exact Af md.1⟩
 obtain⟨d,d0,d1,d2,d3⟩:=dN
 have s:=Hn (x:=a*X-9000000000000000000*(N*(h*h))) (y:=D) ax (show-d≤D∧D≤d from⟨d1,d2⟩) (mul_nonneg (by decide) nh) d0
 have t:=mul_le_mul_of_nonneg_left d3 nh
 have e1:9000000000000000000*(N*(2*h+1))*d=N*(2*h+1)*(9000000000000000000*d):=by grind
 rw[e1]at s
 have q:a*(N*Q)=a*X*D+a*(w*D)+a*(z*C)-a*(y*C):=by refine rr e ?_;grind
 have w1:=mul_le_mul_of_nonneg_left n.wD.1 (le_of_lt a0)
 have w2:=mul_le_mul_of_nonneg_left n.wD.2 (le_of_lt a0)
 have z1:=mul_le_mul_of_nonneg_left n.zC.1 (le_of_lt a0)
 have z2:=mul_le_mul_of_nonneg_left n.zC.2 (le_of_lt a0)
 have y1:=mul_le_mul_of_nonneg_left n.yC.1 (le_of_lt a0)
 have y2:=mul_le_mul_of_nonneg_left n.yC.2 (le_of_lt a0)
 have e2:(a*X-9000000000000000000*(N*(h*h)))*D=a*X*D-9000000000000000000*(N*(h*h*D)):=by grind
 rw[e2]at s
 have e3:a*(N*(h+1))=N*(h*a)+N*a:=by grind
 have e4:a* -(N*(h+1))= -(N*(h*a)+N*a):=by grind
 have e5:N*(2*h+1)*a=2*(N*(h*a))+N*a:=by grind
 have e6:a*N=N*a:=mul_comm ..
 have e7:a* -N= -(N*a):=by grind
 rw[e3]at z2 y2
 rw[e4]at z1 y1
 rw[e5]at t
 rw[e6]at w2
 rw[e7]at w1
 have f1:N*(5*(h*a))=5*(N*(h*a)):=by grind
 have f2:N*(a*Q-9000000000000000000*(h*h*D))=a*(N*Q)-9000000000000000000*(N*(h*h*D)):=by grind
 have f3:N* -(5*(h*a))= -(5*(N*(h*a))):=by grind
 have nha:600*(N*a)≤N*(h*a):=by
  have:=mul_le_mul_of_nonneg_right h0 (mul_nonneg (show 0≤N by exact le_of_lt N1) (le_of_lt a0))
  have e:h*(N*a)=N*(h*a):=by grind
  rwa [e]at this
 have na0:=mul_nonneg (show 0≤N by exact le_of_lt N1) (le_of_lt a0)
 constructor
 ·refine EN (b:=N) (by exact N1) ?_
  refine rr f2 (rr f3 ?_)
  lia
 ·refine EN (b:=N) (by exact N1) ?_
  refine rr f2 (rr f1 ?_)
  lia
end
theorem dO{C D:Int}(C1:1≤C)(C2:C≤54)(D2: -54≤D∧D≤54):99*(D*D)≠2401*(C*C):=by
 have k:∀c d:Fin 55,99*(d.val*d.val)=2401*(c.val*c.val)→c.val=0:=by decide+kernel
 intro e
 have k:=k ⟨C.natAbs,by grind⟩ ⟨D.natAbs,by omega⟩ (by
  dsimp only
  have e1:((99*(D.natAbs*D.natAbs):Nat):Int)=((2401*(C.natAbs*C.natAbs):Nat):Int):=by
   have p:=@Int.natAbs_mul_self D;have q:=@Int.natAbs_mul_self C;rw[natCast_mul]at p q;refine rr (natCast_mul ..) (rr (natCast_mul ..) ?_);refine rr (natCast_mul ..) (rr (natCast_mul ..) ?_);refine rr p (rr q ?_);exact e
  exact Int.ofNat.inj e1)
 dsimp only at k
 grind
section
variable{h C D y z w l:Int}
structure dP(a b l:Int)(lt:Bool):Prop where
 over:Dh a b l=!lt
 pos:lt=true→0<b∧a≤50*b
theorem Gr.lets(m:Gr h N C D X y z w)(r:VB N D a)(hl:l=1000000∨l=1500000∨l=10000000):
 dP a (a+9000000000000000000*D) l (Ap (l*l*(900*D)) (2*(10:Int)^(12:Int).toNat-l*l) (810000*N)):=by
 have md:=m.md r
 have n:=m.num
 have C1:=m.C1
 have cc:1≤C*C:=by have:=mul_le_mul C1 C1 (by decide) (by exact le_of_lt C1);exact this
 have lag:=m.lag
 have N2:=m.N2
 have D2:=n.D2
 have C2:=n.C2
 have a0:=r.1;have a1:=r.2;have a2:=r.3
 have aa:(a+1)*(a+1)=a*a+2*a+1:=by grind
 rw[aa]at a2
 have eM:∀p:Int,p*(9000000000000000000*D)*(p*(9000000000000000000*D))=81000000000000000000000000000000000000*(p*p*(D*D)):=fun p=>by grind
 have ax:a≤9000000000000000000*55:=not_lt.mp fun q=>by
  have:=mul_le_mul (le_of_lt q) (le_of_lt q) (by decide) (by exact le_of_lt a0)
  lia
 clear m n
 rcases hl with rfl|rfl|rfl
 ·generalize hr:Ap _ _ _=lt
  cases lt with
  |true=>
   obtain⟨h1,h2⟩:=Ih (by decide) hr
   have e:(1000000*1000000*(900*D))*(1000000*1000000*(900*D))=810000000000000000000000000000*(D*D):=by grind
   rw[e]at h2
   have e2:(2*(10:Int)^(12:Int).toNat-1000000*1000000)=1000000000000:=by decide
   rw[e2]at h2
   lia
  |false=>
   refine⟨?_,fun h=>Bool.noConfusion h⟩
   delta Dh
   refine rr Bool.not_false (rr (or_eq_true ..) ?_);refine rr decide_eq_true_eq (rr decide_eq_true_eq ?_)
   right
   have:9000000000000000000*D≠a:=fun q=>by
    have e:9000000000000000000*D*(9000000000000000000*D)=81000000000000000000000000000000000000*(D*D):=by grind
    rw[q]at e
    exact XW (aI (mI 81000000000000000000000000000000000000 cc) (aI (mI 81000000000000000000000000000000000000 (le_of_eq lag)) (aI (mI 18000000000000000000 D2.2) (aI a2 (aI (mI 2 (le_of_eq q.symm)) (le_of_eq e))))))
   lia
 ·generalize hr:Ap _ _ _=lt
  have e2:(2*(10:Int)^(12:Int).toNat-1500000*1500000)= -250000000000:=by decide
  have e:(1500000*1500000*(900*D))*(1500000*1500000*(900*D))=4100625000000000000000000000000*(D*D):=by grind
  rw[e2]at hr
  have e9:=eM 9
  cases lt with
  |true=>
   have h1:=Gq (by decide) hr
   rw[e]at h1
   have key: -a≤9*(9000000000000000000*D):=by
    rcases h1 with h1|h1
    ·lia
    ·have:=IK (x:=9*(9000000000000000000*D)) (y:=a+1) (by exact Af a0) (by lia)
     exact Af this.1
   refine⟨?_,fun V=>⟨by exact BU 80 (aI (mI 71 md.1) (aI (mI 8 a0) key)),by exact BU 8 (aI (mI 391 md.1) key)⟩⟩
   delta Dh
   refine rr (decide_eq_false (by exact not_le.mpr (BU 80 (aI (mI 71 md.1) (aI (mI 8 a0) key))))) (rr (decide_eq_false (by lia)) ?_)
   rfl
  |false=>
   obtain⟨h1,h2⟩:=DL (by decide) hr
   rw[e]at h2
   refine⟨?_,fun h=>Bool.noConfusion h⟩
   delta Dh
   refine rr Bool.not_false (rr (or_eq_true ..) ?_);refine rr decide_eq_true_eq (rr decide_eq_true_eq ?_)
   right
   have:¬ -(9*(9000000000000000000*D))≤a:=fun q=>by
    have s:=mul_le_mul q q (by lia) (by exact le_of_lt a0)
    rw[neg_mul_neg,e9]at s
    lia
   lia
 ·generalize hr:Ap _ _ _=lt
  have e2:(2*(10:Int)^(12:Int).toNat-10000000*10000000)= -98000000000000:=by decide
  have e:(10000000*10000000*(900*D))*(10000000*10000000*(900*D))=8100000000000000000000000000000000*(D*D):=by grind
  rw[e2]at hr
  have e50:=eM 50
  have ne:=dO C1 C2 D2
  cases lt with
  |true=>
   have h1:=Gq (by decide) hr
   rw[e]at h1
   have key: -(49*a)≤50*(9000000000000000000*D):=by
    rcases h1 with h1|h1
    ·lia
    ·refine not_lt.mp fun q=>?_
     have s:=mul_le_mul (show 49*a+1≤ -(50*(9000000000000000000*D))by exact Af q) (show 49*a+1≤ -(50*(9000000000000000000*D))by exact Af q) (by lia) (by exact BU 99 (aI (mI 2450 md.2) (mI 50 q)))
     have e3:(49*a+1)*(49*a+1)=2401*(a*a)+98*a+1:=by grind
     rw[neg_mul_neg,e50,e3]at s
     lia
   refine⟨?_,fun V=>⟨by lia,by exact Af key⟩⟩
   delta Dh
   refine rr (decide_eq_false (by lia)) (rr (decide_eq_false (by lia)) ?_)
   rfl
  |false=>
   obtain⟨h1,h2⟩:=DL (by decide) hr
   rw[e]at h2
   refine⟨?_,fun h=>Bool.noConfusion h⟩
   delta Dh
   refine rr Bool.not_false (rr (or_eq_true ..) ?_);refine rr decide_eq_true_eq (rr decide_eq_true_eq ?_)
   right
   have:¬ -(50*(9000000000000000000*D))≤49*a:=fun q=>by
    have s:=mul_le_mul q q (by lia) (by lia)
    have e3:49*a*(49*a)=2401*(a*a):=by grind
    rw[neg_mul_neg,e50,e3]at s
    grind
   lia
end
section
variable{a1 a2 h:Int}{s1 s2 S f g:Pt}
theorem bG{P σ:Int}(hH:H=10000∨H=20000)(h1:(100*H-1)*(100*H-1)-108*(100*H)-3024≤54*P)(h2: -(41000*H)≤P-10000*σ∧P-10000*σ≤41000*H):180*H≤σ:=by
 rcases hH with rfl|rfl
 ·lia
 ·lia
theorem RZ(T:RX a1 u1 a2 u2 (100*H) s1 s2)(hH:H=10000∨H=20000)(hf:Ad f g=Ad s1 s2)(N1:Dl f F H)(N2:Dl g S H):Ei F S f g H:=by
 obtain⟨N,C,D,X,y,z,w,m,e1,e2,hC,hD,hN⟩:=T.mix
 have b:=(NY (by lia) N1 N2).1
 have k:=m.cr e1
 rw[←hf]at k
 obtain⟨F1,F2⟩:=N1.bd (by lia)
 obtain⟨S1,S2⟩:=N2.bd (by lia)
 exact⟨hH,F1,F2,S1,S2,⟨N1.x1,N1.x2⟩,⟨N1.y1,N1.y2⟩,⟨N2.x1,N2.x2⟩,⟨N2.y1,N2.y2⟩,bG hH k b,b⟩
theorem asc(x y:Int):x=y+(x-y):=by simp+arith only[*]
theorem dQ{k M Q φ ha:Int}(hH:HK H k)(q: -(500*ha)≤a*Q-10000*(H*H)*M∧a*Q-10000*(H*H)*M≤500*ha)(x1: -(41000*ha)≤a*Q-10000*φ)(x2:a*Q-10000*φ≤41000*ha)(h0:0≤ha): -(9*ha)≤2*(φ-k*M)∧2*(φ-k*M)≤9*ha:=by
 rcases hH with⟨rfl,rfl⟩|⟨rfl,rfl⟩<;>constructor
 ·lia
 ·lia
 ·lia
 ·lia
theorem dR{k u:Int}(hH:HK H k)(ua:u*a=k*b+ξ)(xi:2*ξ≤9*(H*a))(ba:b≤2*a)(a0:0<a):u≤2*k+5*H:=not_lt.mp fun q=>by
 have:=mul_le_mul_of_nonneg_right (show 2*k+5*H+1≤u from q) (le_of_lt a0)
 clear q
 rcases hH with⟨rfl,rfl⟩|⟨rfl,rfl⟩
 ·lia
 ·lia
theorem dS{k u:Int}(hH:HK H k)(ua:u*a=k*b+ξ)(xi: -(9*(H*a))≤2*ξ)(ab:a≤50*b)(a0:0<a):k≤52*u:=not_lt.mp fun q=>by
 have:=mul_le_mul_of_nonneg_right (le_of_lt q) (le_of_lt a0)
 rw[mul_assoc,ua]at this
 clear q
 rcases hH with⟨rfl,rfl⟩|⟨rfl,rfl⟩
 ·exact XW (aI (mI 104000000 ab) (aI (mI 1660000 a0) (aI (mI 26 xi) this)))
 ·exact XW (aI (mI 416000000 ab) (aI (mI 11320000 a0) (aI (mI 26 xi) this)))
theorem dT{k u:Int}(hH:HK H k)(h:k≤52*u):0<u:=by rcases hH with⟨rfl,rfl⟩|⟨rfl,rfl⟩<;>exact BU 52 h
theorem Yl{k D C y z w:Int}(m:Gr (100*H) N C D X y z w)(hH:HK H k)(r:VB N D a)(e2:N*AA f g=(X+w)*D+(z-y)*C)(N1:Dl f F H)(N2:Dl g S H)(h0:600≤H): -(9*(H*a))≤2*(a*AA F S-k*(9000000000000000000*D))∧2*(a*AA F S-k*(9000000000000000000*D))≤9*(H*a):=by
 have q:=m.aq r e2
 have bb:=(NY h0 N1 N2).2
 have a0:=r.a0
 have x1:=mul_le_mul_of_nonneg_left bb.1 (le_of_lt a0)
 have x2:=mul_le_mul_of_nonneg_left bb.2 (le_of_lt a0)
 have c4:9000000000000000000*(100*H*(100*H)*D)=10000*(H*H)*(9000000000000000000*D):=by grind
 have c5:5*(100*H*a)=500*(H*a):=by rewrite[mul_assoc 100];refine rl (mul_assoc ..) ?_;rfl
 rw[c4,c5]at q
 rw[mul_sub,mul_left_comm a 10000,mul_neg,mul_left_comm,mul_comm a H]at x1
 rw[mul_sub,mul_left_comm a 10000,mul_left_comm a 41000,mul_comm a H]at x2
 exact dQ hH q x1 x2 (mul_nonneg (by exact Af h0) (le_of_lt a0))
theorem Ym{k:Int}{D:Int}(T:RX a1 u1 a2 u2 (100*H) s1 s2)(hH:(H=10000∧k=100000000)∨(H=20000∧k=400000000))(hf:Ad f g=Ad s1 s2)(hg:AA f g=AA s1 s2)(N1:Dl f F H)(N2:Dl g S H)
 (hD:D=a1*a2+u1*u2) (hN:N=(a1*a1+u1*u1)*(a2*a2+u2*u2)) (r:VB N D a) (hb:b=a+9000000000000000000*D) (b0:0<b) (ab:a≤50*b):
 Ds F S f g (((F.1+S.1)*k).fdiv (k+AA F S),((F.2+S.2)*k).fdiv (k+AA F S)) (CM ((f.1+g.1)*a) b,CM ((f.2+g.2)*a) b) H k (k+AA F S) a b ((k+AA F S)*a-k*b):=by
 obtain⟨N',C,D',X,y,z,w,m,e1,e2,_,hD',hN'⟩:=T.mix
 rw[←hD]at hD'
 rw[←hN]at hN'
 subst hD' hN'
 rw[←hg]at e2
 have hh:H=10000∨H=20000:=hH.imp (·.1) (·.1)
 have a0:=r.a0
 have hξ:=Yl m hH r e2 N1 N2 (by lia)
 have eξ:(k+AA F S)*a-k*b=a*AA F S-k*(9000000000000000000*D'):=by refine rr hb ?_;grind
 rw[←eξ]at hξ
 have ba:b≤2*a:=by have:=(m.md r).2;exact Aq (le_of_eq hb) this
 have ua:(k+AA F S)*a=k*b+((k+AA F S)*a-k*b):=asc ..
 have u2:=dR hH ua hξ.2 ba a0
 have u1:=dS hH ua hξ.1 ab a0
 have u0:=dT hH u1
 rewrite[mul_comm (F.1+S.1)];rewrite[mul_comm (F.2+S.2)];rewrite[mul_comm (f.1+g.1)];rewrite[mul_comm (f.2+g.2)]
 exact⟨RZ T hh hf N1 N2,hH,a0,b0,ab,ba,u0,u1,u2,hξ,ua,LJ u0,LJ u0,Ir b0,Ir b0⟩
end
noncomputable def Dt(p:Pt):Pt:=(p.2,p.1)
theorem LK(x y:Pt):Ad (Dt x) (Dt y)= -Ad x y:=by dsimp only[Ad,Dt];simp+arith only[*]
section
variable{S f g T t:Pt}{k u:Int}
theorem Ei.mir(p:Ei F S f g H):Ei (Dt S) (Dt F) (Dt g) (Dt f) H:=by
 obtain⟨hh,F1,F2,S1,S2,f1,f2,g1,g2,sg,sP⟩:=p
 have e1:Ad (Dt S) (Dt F)=Ad F S:=by refine rr (LK ..) ?_;refine rr (Ck ..) (rr (neg_neg ..) ?_);rfl
 have e2:Ad (Dt g) (Dt f)=Ad f g:=by refine rr (LK ..) ?_;refine rr (Ck ..) (rr (neg_neg ..) ?_);rfl
 exact⟨hh,S2,S1,F2,F1,g2,g1,f2,f1,by refine rr e1 ?_;exact sg,by refine rr e1 (rr e2 ?_);exact sP⟩
theorem Ds.mir(q:Ds F S f g T t H k u a b ξ):Ds (Dt S) (Dt F) (Dt g) (Dt f) (Dt T) (Dt t) H k u a b ξ:=by
 obtain⟨pr,hk,a0,b0,ab,ba,u0,u1,u2,xi,ua,T1,T2,t1,t2⟩:=q
 rw[add_comm]at T1 T2 t1 t2
 refine⟨pr.mir,hk,a0,b0,ab,ba,u0,u1,u2,xi,ua,?_,?_,?_,?_⟩<;>assumption
theorem Nrm.mir{x:Pt}(n:Nrm x N):Nrm (Dt x) N:=⟨n.n0,n.y1,n.y2,n.x1,n.x2,by have:=n.sq;dsimp only[AA,Dt]at*;exact Af this⟩
theorem Nrm.neg{x y:Pt}(n:Nrm (Ae x y) N):Nrm (Ae y x) N:=by
 obtain⟨n0,x1,x2,y1,y2,sq⟩:=n
 have e:AA (Ae y x) (Ae y x)=AA (Ae x y) (Ae x y):=by dsimp only[AA,Ae];grind
 dsimp only[Ae]at x1 x2 y1 y2
 exact⟨n0,by dsimp only[Ae];exact Af x2,by dsimp only[Ae];exact Af x1,by dsimp only[Ae];exact Af y2,by dsimp only[Ae];exact Af y1,by refine rr e ?_;exact sq⟩
theorem IL.mir{A B a b:Pt}(q:IL (Dt B) (Dt A) (Dt b) (Dt a) NB NG NA):IL A B a b NA NG NB:=by
 obtain⟨th,a1,g1,g2,b1,k0,k1,k2,w⟩:=q
 have e:∀x y:Pt,Ad (Dt y) (Dt x)=Ad x y:=fun x y=>by refine rr (LK ..) ?_;refine rr (Ck ..) (rr (neg_neg ..) ?_);rfl
 have e1:Ad (Dt A) (Dt a)= -Ad A a:=LK ..
 have e2:Ad (Dt B) (Dt b)= -Ad B b:=LK ..
 have e3:Ad (Ae (Dt A) (Dt B)) (Ae (Dt b) (Bh 100 (Dt B)))=Ad (Ae B A) (Ae b (Bh 100 B)):=by dsimp only[Ad,Dt,Ae,Bh];grind
 have e4:Ad (Ae (Dt A) (Dt B)) (Ae (Dt a) (Bh 100 (Dt A)))=Ad (Ae B A) (Ae a (Bh 100 A)):=by dsimp only[Ad,Dt,Ae,Bh];grind
 have e5:Ad (Ae (Dt b) (Bh 100 (Dt B))) (Ae (Dt a) (Bh 100 (Dt A)))=Ad (Ae a (Bh 100 A)) (Ae b (Bh 100 B)):=by dsimp only[Ad,Dt,Ae,Bh];grind
 rw[e]at th
 rw[e2]at a1
 rw[e1]at b1
 rw[e3]at g1
 rw[e4]at g2
 rw[e,e]at k0 k1 k2
 rw[e5]at w
 exact⟨th,by exact⟨Af b1.2,Af b1.1⟩,g2,g1,by exact⟨Af a1.2,Af a1.1⟩,k0,k2,k1,w⟩
theorem Ds.tri1(q:Ds F S f g T t H k u a b ξ)(nA:Nrm F NA)(nG:Nrm (Ae T F) NG)(nB:Nrm T NB):IL F T f t NA NG NB:=by
 obtain⟨_,_,_,_,n⟩:=q.num
 exact n.tri q nA nG nB
theorem Ds.tri2(q:Ds F S f g T t H k u a b ξ)(nA:Nrm T NA)(nG:Nrm (Ae S T) NG)(nB:Nrm S NB):IL T S t g NA NG NB:=
 (q.mir.tri1 nB.mir nG.neg.mir nA.mir).mir
set_option tactic.hygienic true in
theorem Kr.any2{v w:Option Bool}{k l:Int}(a:Kr v k)(b:Kr w l):Kr (IA [v,w]) (k+l):=by
 have an:=a.n
 have bn:=b.n
 refine⟨fun h=>?_,fun h=>?_,by exact add_le_add an bn⟩
 ·unfold IA at h
  split at h
  ·rename_i m
   rcases mem_cons.mp m with e|m
   ·have:=a.t e.symm;exact add_le_add this bn
   ·have:=b.t (mem_singleton.mp m).symm;exact add_le_add an this
  split at h<;>cases h
 ·unfold IA at h
  split at h
  ·cases h
  split at h
  ·cases h
  ·rename_i h1 h2
   have fv:∀{x:Option Bool},x∈[v,w]→x=some false:=fun{x} m=>by
    cases x with
    |none=>exact absurd m h2
    |some c=>cases c with
     |false=>rfl
     |true=>exact absurd m h1
   refine rr (a.f (fv (.head _))) (rr (b.f (fv (.tail _ (.head _)))) ?_);rfl
variable{O:Pt}{m:Mx}
theorem Sa(hm:Bs m≠0)(p:Ei F S f g H):Kr (AR (0,0) F S σ) (Bq m (Ag O (Bh 100 σ)) (Al (IB O f g))):=by
 obtain⟨_,nA⟩:=DM F
 obtain⟨_,nB⟩:=DM S
 obtain⟨_,nG⟩:=DM (Ae S F)
 exact MN hm (p.bevel nA nG nB) nA nG nB
noncomputable def Ho(O f t g:Pt):List Pt:=[O,Ag O f,Ag O t,Ag O g]
theorem UG(m:Mx)(p O f t g:Pt):Bq m p (Al (Ho O f t g))=Bq m p (Al (IB O f t))+Bq m p (Al (IB O t g)):=by
 have h:=Kp m p O (Ag O t)
 have z:Bq m p []=0:=rfl
 simp only[Ho,IB,Al,AL,EK]
 exact le_antisymm (Aq (le_of_eq h.symm) (le_of_eq z.symm)) (Aq (le_of_eq h) (le_of_eq z))
theorem UH(hm:Bs m≠0)(q:Ds F S f g T t H k u a b ξ):Kr (IA [AR (0,0) F T σ,AR (0,0) T S σ]) (Bq m (Ag O (Bh 100 σ)) (Al (Ho O f t g))):=by
 obtain⟨_,nA⟩:=DM F
 obtain⟨_,nT⟩:=DM T
 obtain⟨_,nB⟩:=DM S
 obtain⟨_,nG⟩:=DM (Ae T F)
 obtain⟨_,nE⟩:=DM (Ae S T)
 refine rr (UG ..) ?_
 exact(MN hm (q.tri1 nA nG nT) nA nG nT).any2 (MN hm (q.tri2 nT nE nB) nT nE nB)
end
noncomputable def mxS(s:Mx):Mx:=⟨s.a*10*100000,s.b*10*100000,s.c*10*100000,s.d*10*100000,s.e*10*100000,s.f*10*100000⟩
theorem NZ(k:Int):CM (1000000*k) 1000000=k:=by
 by_cases h:1000000*k<0
 ·have e:CM (1000000*k) 1000000= -((2* -(1000000*k)+1000000).fdiv (2*1000000)):=by
   delta CM;simp only[h,if_true];rfl
  refine rr e (rr (fdiv_eq_ediv_of_nonneg _ (by decide)) ?_);lia
 ·have e:CM (1000000*k) 1000000=(2*(1000000*k)+1000000).fdiv (2*1000000):=by
   delta CM;simp only[h,if_false];rfl
  refine rr e (rr (fdiv_eq_ediv_of_nonneg _ (by decide)) ?_);lia
theorem CF(s:Mx)(v:Pt):trans (mxS s) v=Cb s v:=by
 delta trans mxS Cb
 dsimp only
 have e1:s.a*10*100000*v.1+s.c*10*100000*v.2=1000000*(s.a*v.1+s.c*v.2):=by grind
 have e2:s.b*10*100000*v.1+s.d*10*100000*v.2=1000000*(s.b*v.1+s.d*v.2):=by grind
 refine rr e1 (rr e2 ?_);refine rr (NZ ..) (rr (NZ ..) ?_)
 congr 1<;>simp+arith only[*]
noncomputable def Pr(s:Mx)(v:Pt):Pt:=(s.a*v.1+s.c*v.2,s.b*v.1+s.d*v.2)
noncomputable def It(s:Mx):Mx:=⟨s.a,s.b,s.c,s.d,0,0⟩
theorem Pf(s:Mx)(v:Pt):Cb (It s) v=Pr s v:=by delta Cb Pr It;dsimp only;congr 1<;>simp+arith only[*]
theorem MO(s:Mx)(c k:Pt):Cb s (Ag c k)=Ag (Pr s k) (Cb s c):=by delta Cb Pr Ag;dsimp only;congr 1<;>grind
noncomputable def Pg(t:Pt):Row→Row
 | .m p=>.m (Ag p t)
 | .l p=>.l (Ag p t)
 | .c p q r=>.c (Ag p t) (Ag q t) (Ag r t)
 | .z=>.z
noncomputable def Ku(t:Pt)(e:Pt×Pt):Pt×Pt:=(Ag e.1 t,Ag e.2 t)
theorem Oa{k:KE}(hk:k.1+k.2.1+k.2.2.1+k.2.2.2=27)(h p q e t:Int):cvI k (h+t) (p+t) (q+t) (e+t)=cvI k h p q e+t:=by
 delta cvI
 simp only[sum_cons,sum_nil]
 have e1:k.1*(h+t)+(k.2.1*(p+t)+(k.2.2.1*(q+t)+(k.2.2.2*(e+t)+0)))=k.1*h+(k.2.1*p+(k.2.2.1*q+(k.2.2.2*e+0)))+t*27:=by
  have:(k.1+k.2.1+k.2.2.1+k.2.2.2)*t=27*t:=by refine rr hk ?_;rfl
  grind
 refine rr e1 (rr (Int.add_mul_fdiv_right _ _ (by decide)) ?_);rfl
theorem Kv{k:KE}(hk:k.1+k.2.1+k.2.2.1+k.2.2.2=27)(h p q e t:Pt):cvP k (Ag h t) (Ag p t) (Ag q t) (Ag e t)=Ag (cvP k h p q e) t:=by
 delta cvP Ag;dsimp only;rewrite[Oa hk];rewrite[Oa hk];(with_reducible rfl)
theorem Ph(t:Pt):∀(rows:List Row) (h f:Pt),AE (rows.map (Pg t)) (Ag h t) (Ag f t)=(AE rows h f).map (Ku t):=by
 intro rows
 induction rows with
 |nil=>intro h f;rfl
 |cons r rows ih=>
  intro h f
  cases r with
  |m p=>exact ih p p
  |l p=>exact congrArg ((Ag h t,Ag p t):: ·) (ih p f)
  |z=>exact congrArg ((Ag h t,Ag f t):: ·) (ih h f)
  |c a b e=>
   show(Ag h t,cvP kA (Ag h t) (Ag a t) (Ag b t) (Ag e t))::(cvP kA (Ag h t) (Ag a t) (Ag b t) (Ag e t),cvP kB (Ag h t) (Ag a t) (Ag b t) (Ag e t))::(cvP kB (Ag h t) (Ag a t) (Ag b t) (Ag e t),cvP kC (Ag h t) (Ag a t) (Ag b t) (Ag e t))::AE (rows.map (Pg t)) (cvP kC (Ag h t) (Ag a t) (Ag b t) (Ag e t)) (Ag f t)=_
   rewrite[Kv (k:=kA) rfl];rewrite[Kv (k:=kB) rfl];rewrite[Kv (k:=kC) rfl];refine rr (ih ..) ?_
   rfl
theorem Pi(p t:Pt)(e:Pt×Pt):AS (Ag p t) (Ku t e)=AS p e:=by
 have hs:Ar (Ag p t) (Ku t e)=Ar p e:=by delta Ar Ad Ae Ku Ag;dsimp only;grind
 delta AS
 refine rr hs ?_
 delta Ku Ag
 dsimp only
 rewrite[decide_eq_decide.mpr (show e.1.2+t.2≤p.2+t.2↔e.1.2≤p.2 by simp+arith only[*])];rewrite[decide_eq_decide.mpr (show e.2.2+t.2≤p.2+t.2↔e.2.2≤p.2 by simp+arith only[*])];rewrite[decide_eq_decide.mpr (show e.1.2+t.2<e.2.2+t.2↔e.1.2<e.2.2 by simp+arith only[*])];rewrite[decide_eq_decide.mpr (show e.2.2+t.2<e.1.2+t.2↔e.2.2<e.1.2 by simp+arith only[*])];(with_reducible rfl)
theorem Sb(p t:Pt)(es:List (Pt×Pt)):Fy (Ag p t) (es.map (Ku t))=Fy p es:=by
 delta Fy
 refine rr map_map ?_
 exact congrArg List.sum (map_congr_left fun e V=>Pi p t e)
theorem Sc:∀(rows r:List Row) (h f:Pt),∃h' f',AE (rows++r) h f=AE rows h f++AE r h' f':=by
 intro rows
 induction rows with
 |nil=>exact fun r h f=>⟨h,f,rfl⟩
 |cons x rows ih=>
  intro r h f
  cases x with
  |m p=>exact ih r p p
  |l p=>obtain⟨a,b,e⟩:=ih r p f;exact⟨a,b,congrArg ((h,p):: ·) e⟩
  |z=>obtain⟨a,b,e⟩:=ih r h f;exact⟨a,b,congrArg ((h,f):: ·) e⟩
  |c p q e=>
   obtain⟨a,b,e'⟩:=ih r (cvP kC h p q e) f
   exact⟨a,b,congrArg (fun l=>(h,cvP kA h p q e)::(cvP kA h p q e,cvP kB h p q e)::(cvP kB h p q e,cvP kC h p q e)::l) e'⟩
noncomputable def Pj(s:Mx)(half:Int):List (Pt×Pt):=AE (AP (mxS (It s)) (decide (Bs s<0)) half (0,0)) (0,0) (0,0)
theorem Pk(s:Mx)(hh:half≠0)(c:Pt)(r:List Row)(h f:Pt):∃h' f',AE (AP (mxS s) (decide (Bs s<0)) half c++r) h f=(Pj s half).map (Ku (Cb s c))++AE r h' f':=by
 have z:∀k:Pt,Cb (It s) (Ag (0,0) k)=Pr s k:=fun k=>by refine rr (show Ag (0,0) k=k by delta Ag;dsimp only;refine rr (zero_add ..) (rr (zero_add ..) ?_);rfl) (rr (Pf ..) ?_);rfl
 have q:∀one other:Pt,KD (mxS s) half (Au half) c one other=Pg (Cb s c) (KD (mxS (It s)) half (Au half) (0,0) one other):=fun one other=>by
  delta KD Pg
  simp only[CF,z,MO]
 have R:AP (mxS s) (decide (Bs s<0)) half c=(AP (mxS (It s)) (decide (Bs s<0)) half (0,0)).map (Pg (Cb s c)):=by
  delta AP
  refine rr (if_neg hh) (rr (if_neg hh) ?_)
  simp only[map_cons,map_nil,q,CF,z,MO,Pg]
 obtain⟨h',f',e⟩:=Sc (AP (mxS s) (decide (Bs s<0)) half c) r h f
 refine⟨h',f',e.trans (congrArg (· ++_) ?_)⟩
 delta Pj
 refine rl (Ph ..) (rr R ?_)
 generalize hg:AP (mxS (It s)) (decide (Bs s<0)) half (0,0)=rows
 delta AP at hg
 rw[if_neg hh]at hg
 subst hg
 rfl
noncomputable def Ob(s:Mx)(hf:Int):Bool:=
 let es:=Pj s (100000*hf)
 let ps:=(es.map (·.1)).take 12
 (es==Al ps++[((ps.headD (0,0)),(ps.headD (0,0)))])&&(ps.length==12)
  &&(Al ps).all (fun e=>decide (0<Ad e.1 e.2)&&decide (10000000000*(((e.2.1-e.1.1)*s.b-(e.2.2-e.1.2)*s.a)*((e.2.1-e.1.1)*s.b-(e.2.2-e.1.2)*s.a)+((e.2.1-e.1.1)*s.d-(e.2.2-e.1.2)*s.c)*((e.2.1-e.1.1)*s.d-(e.2.2-e.1.2)*s.c))*(81*(hf*hf))<100*(Ad e.1 e.2*Ad e.1 e.2)))
  &&ps.all (fun v=>decide (100*((s.d*v.1-s.c*v.2)*(s.d*v.1-s.c*v.2)+(s.a*v.2-s.b*v.1)*(s.a*v.2-s.b*v.1))<Bs s*Bs s*10000000000*(121*(hf*hf))))
  &&(Al ps).all (fun e=>ps.all fun v=>decide (0≤Ar v e))
theorem UI:([⟨1,0,0,1,0,0⟩,⟨0,1,-1,0,5,0⟩,⟨2,1,0,1,-3,4⟩,⟨1,1,-1,1,0,0⟩,⟨3,-1,1,-2,0,7⟩,⟨-1,0,2,1,1,1⟩]:List Mx).all (fun s=>Ob s 10&&Ob s 20)=true:=by decide+kernel
theorem VC(x y v w:Int):(x*v+y*w)*(x*v+y*w)≤(x*x+y*y)*(v*v+w*w):=by
 have:=sq0 (x*w-y*v)
 grind
theorem Sd(s:Mx)(v1 v2:Int)(e:Pt×Pt):Ar (Pr s (100000*v1,100000*v2)) e=100000*(((e.2.1-e.1.1)*s.b-(e.2.2-e.1.2)*s.a)*v1+((e.2.1-e.1.1)*s.d-(e.2.2-e.1.2)*s.c)*v2)+Ad e.1 e.2:=by
 delta Ar Ad Ae Pr;dsimp only;grind
theorem UJ(s:Mx)(v1 v2 k:Int)(V:Pt):lin (-(k*(v1*s.d-v2*s.b))) (-(k*(v2*s.a-v1*s.c))) (Pr s (100000*v1,100000*v2)) V=k*(100000*Bs s*(v1*v1+v2*v2))-k*((s.d*V.1-s.c*V.2)*v1+(s.a*V.2-s.b*V.1)*v2):=by
 delta lin Pr Bs;dsimp only;grind
theorem Se{g1 g2 v1 v2 K R Z:Int}(hK:0<K)(h1:Z*(g1*g1+g2*g2)*R<100*(K*K))(h2:100*(v1*v1+v2*v2)≤R)(hZ:Z=10000000000): -K<100000*(g1*v1+g2*v2):=by
 have c:=VC g1 g2 v1 v2
 have g0:0≤g1*g1+g2*g2:=add_nonneg (sq0 _) (sq0 _)
 have m:=mul_le_mul_of_nonneg_left h2 g0
 refine(IK (le_of_lt hK) ?_).1
 have e:100000*(g1*v1+g2*v2)*(100000*(g1*v1+g2*v2))=10000000000*((g1*v1+g2*v2)*(g1*v1+g2*v2)):=by grind
 have e2:(g1*g1+g2*g2)*(100*(v1*v1+v2*v2))=100*((g1*g1+g2*g2)*(v1*v1+v2*v2)):=by grind
 have e3:Z*(g1*g1+g2*g2)*R=10000000000*((g1*g1+g2*g2)*R):=by refine rr hZ (rr (mul_assoc ..) ?_);rfl
 refine rr e ?_;rw[e2]at m;rw[e3]at h1
 omega
theorem Pl{d1 d2 v1 v2 dt R:Int}(h1:100*(d1*d1+d2*d2)<dt*dt*10000000000*R)(h2:R≤100*(v1*v1+v2*v2))(hR:0<R)(hd:0<dt):d1*v1+d2*v2<100000*dt*(v1*v1+v2*v2):=by
 have c:=VC d1 d2 v1 v2
 have nv:0<v1*v1+v2*v2:=by lia
 have dd:0≤dt*dt*10000000000:=mul_nonneg (sq0 _) (by decide)
 have m:=mul_le_mul_of_nonneg_left h2 dd
 have y0:0≤100000*dt*(v1*v1+v2*v2):=mul_nonneg (by exact Af (mI 100000 hd)) (le_of_lt nv)
 refine(IK y0 ?_).2
 have k:(d1*d1+d2*d2)*(v1*v1+v2*v2)<dt*dt*10000000000*(v1*v1+v2*v2)*(v1*v1+v2*v2):=by
  refine Int.mul_lt_mul_of_pos_right ?_ nv
  have e:dt*dt*10000000000*(100*(v1*v1+v2*v2))=100*(dt*dt*10000000000*(v1*v1+v2*v2)):=by grind
  rw[e]at m
  omega
 have e:100000*dt*(v1*v1+v2*v2)*(100000*dt*(v1*v1+v2*v2))=dt*dt*10000000000*(v1*v1+v2*v2)*(v1*v1+v2*v2):=by grind
 refine rr e ?_;exact Int.lt_of_le_of_lt c k
set_option tactic.hygienic true in
theorem Kw{s:Mx}(hs:s∈spL)(two:hf=10∨hf=20)(m p:Pt):Kr (AZ m hf p) (Fy (Cb s (scP p)) ((Pj s (100000*hf)).map (Ku (Cb s (scP m))))):=by
 obtain⟨v1,h1⟩:∃v,v=p.1-m.1:=⟨_,rfl⟩
 obtain⟨v2,h2⟩:∃v,v=p.2-m.2:=⟨_,rfl⟩
 have ep:Cb s (scP p)=Ag (Pr s (100000*v1,100000*v2)) (Cb s (scP m)):=by
  refine rl (MO ..) ?_
  subst h1 h2
  delta scP Ag;dsimp only
  congr 2<;>simp+arith only[*]
 have ok:Ob s hf=true:=by
  have b:=all_eq_true.mp UI s hs
  rw[and_eq_true]at b
  rcases two with rfl|rfl
  ·exact b.1
  ·exact b.2
 have dt0:Bs s≠0:=by
  have:∀s∈spL,Bs s≠0:=by decide+kernel
  exact this s hs
 refine rr ep (rr (Sb ..) ?_)
 delta Ob at ok
 dsimp only at ok
 simp only[and_eq_true,beq_iff_eq]at ok
 obtain⟨⟨⟨⟨o1,o2⟩,o3⟩,o4⟩,o5⟩:=ok
 generalize((Pj s (100000*hf)).map (·.1)).take 12=ps at o1 o2 o3 o4 o5
 (with_reducible refine rr (o1 ..) ?_);(with_reducible refine rr (Hw ..) ?_);(with_reducible refine rr (CE ..) ?_);(with_reducible refine rr ((BJ Iff.rfl) ..) ?_);(with_reducible refine rr (Ur ..) ?_);(with_reducible refine rr (add_zero ..) ?_);(with_reducible refine rr (add_zero ..) ?_)
 clear o1
 have ed:AA (Ae p m) (Ae p m)=v1*v1+v2*v2:=by subst h1 h2;rfl
 have R0:0<121*(hf*hf):=by rcases two with rfl|rfl<;>decide
 have R1:81*hf*hf=81*(hf*hf):=mul_assoc ..
 have R2:121*hf*hf=121*(hf*hf):=mul_assoc ..
 delta AZ
 refine rr ed ?_;refine rr R1 (rr R2 ?_)
 clear ep ed h1 h2
 refine⟨fun ht=>?_,fun hF=>?_,Ie fun e he v hv=>of_decide_eq_true (all_eq_true.mp (all_eq_true.mp o5 e he) v hv)⟩
 ·split at ht
  ·rename_i hin
   cases ps with
   |nil=>cases o2
   |cons a r=>
    refine RA fun e he=>?_
    have k:=all_eq_true.mp o3 e he
    rw[and_eq_true,decide_eq_true_eq,decide_eq_true_eq]at k
    refine rr (Sd ..) ?_
    have:=Se k.1 k.2 hin rfl
    exact Af this
  split at ht<;>cases ht
 ·split at hF
  ·cases hF
  split at hF
  ·rename_i hin
   have key:∀k:Int,(k=1∨k= -1)→0<k*Bs s→Fy (Pr s (100000*v1,100000*v2)) (Al ps)=0:=fun k hk hpos=>by
    refine Gl (α:= -(k*(v1*s.d-v2*s.b))) (β:= -(k*(v2*s.a-v1*s.c))) (Hx ps) fun e he=>?_
    have each:∀v∈ps,0<lin (-(k*(v1*s.d-v2*s.b))) (-(k*(v2*s.a-v1*s.c))) (Pr s (100000*v1,100000*v2)) v:=fun v hv=>by
     have q:=of_decide_eq_true (all_eq_true.mp o4 v hv)
     refine rr (UJ ..) ?_
     have dd:k*Bs s*(k*Bs s)=Bs s*Bs s:=by
      rcases hk with rfl|rfl
      ·grind
      ·grind
     have kk:∀x y:Int,k*x*(k*x)+k*y*(k*y)=x*x+y*y:=fun x y=>by
      rcases hk with rfl|rfl
      ·grind
      ·grind
     have:=Pl (d1:=k*(s.d*v.1-s.c*v.2)) (d2:=k*(s.a*v.2-s.b*v.1)) (v1:=v1) (v2:=v2) (dt:=k*Bs s) (R:=121*(hf*hf)) (by refine rr dd (rr (kk ..) ?_);exact q) hin R0 hpos
     have e1:k*(s.d*v.1-s.c*v.2)*v1+k*(s.a*v.2-s.b*v.1)*v2=k*((s.d*v.1-s.c*v.2)*v1+(s.a*v.2-s.b*v.1)*v2):=by grind
     have e2:100000*(k*Bs s)*(v1*v1+v2*v2)=k*(100000*Bs s*(v1*v1+v2*v2)):=by grind
     rw[e1,e2]at this
     exact sub_pos.mpr this
    cases ps with
    |nil=>cases he
    |cons a r=>exact⟨each _ (Dk r a a e he).1,each _ (Dk r a a e he).2⟩
   rcases lt_or_gt_of_ne dt0 with q|q
   ·exact key (-1) (.inr rfl) (by exact Af q)
   ·exact key 1 (.inl rfl) (by exact Af q)
  ·cases hF
noncomputable def YW(ps:List Pt):List Pt:=if BB ps<0 then ps.reverse else ps
noncomputable def KG(s:Mx)(half:Int)(p:Pt):Fig→Int
 | .poly ps=>if BB ps=0 then 0 else Bq s p (Al (YW ps))
 | .circ c=>Fy (Cb s p) ((Pj s half).map (Ku (Cb s c)))
def Iu:Fig→Prop
 | .poly ps=>(∃a b c,ps=[a,b,c])∨∃a b c d,ps=[a,b,c,d]
 | .circ _=>True
theorem Yn(a b c:Pt):BB [a,b,c]=AJ a b+AJ b c+AJ c a:=by
 show 0+AJ a b+AJ b c+AJ c a=_;simp+arith only[*]
theorem UK(a b c d:Pt):BB [a,b,c,d]=AJ a b+AJ b c+AJ c d+AJ d a:=by
 show 0+AJ a b+AJ b c+AJ c d+AJ d a=_;simp+arith only[*]
theorem Oc(s:Mx)(h:Iu (.poly ps)):BB (ps.map (Cb s))=Bs s*BB ps:=by
 rcases h with⟨a,b,c,rfl⟩|⟨a,b,c,d,rfl⟩
 ·show BB [Cb s a,Cb s b,Cb s c]=_
  refine rr (Yn ..) (rr (Yn ..) ?_);delta AJ Cb Bs;dsimp only;grind
 ·show BB [Cb s a,Cb s b,Cb s c,Cb s d]=_
  refine rr (UK ..) (rr (UK ..) ?_);delta AJ Cb Bs;dsimp only;grind
theorem Yo:∀(ps:List Pt) (h f:Pt) (r:List Row),AE (ps.map .l++ .z::r) h f=AL h ps f++AE r ((h::ps).getLast?.getD h) f:=by
 intro ps
 induction ps with
 |nil=>intro h f r;rfl
 |cons p ps ih=>
  intro h f r
  show(h,p)::AE (ps.map .l++ .z::r) p f=(h,p)::(AL p ps f++_)
  refine rr (ih ..) ?_
  refine rr (List.getLast?_cons_cons) ?_
  cases hh:(p::ps).getLast? with
  |none=>exact absurd (List.getLast?_eq_none_iff.mp hh) (cons_ne_nil _ _)
  |some x=>rfl
theorem LL(ps:List Pt)(h f:Pt)(r:List Row):∃h' f',AE (BO ps++r) h f=Al ps++AE r h' f':=by
 cases ps with
 |nil=>exact⟨h,f,rfl⟩
 |cons p ps=>
  refine⟨(p::ps).getLast?.getD p,p,?_⟩
  show AE (.m p::(ps.map .l++[.z])++r) h f=_
  refine rr List.cons_append (rr (append_assoc ..) ?_)
  exact Yo ps p p r
theorem UL(s:Mx)(es:List (Pt×Pt))(h:¬0<Bs s):es.map (dvE s)=(es.map fun e=>(Cb s e.1,Cb s e.2)).map RB:=by
 refine rr map_map ?_
 exact map_congr_left fun e V=>by delta dvE;refine rr (if_neg h) ?_;rfl
theorem Sf{s:Mx}(hs:Bs s≠0)(ok:Iu (.poly ps))(h0:BB ps≠0)(q:Pt):Fy q (Al (AW (ps.map (Cb s))))=Fy q ((Al (YW ps)).map (dvE s)):=by
 have ad:=Oc s ok
 have keep:0<Bs s→∀vs:List Pt,(Al vs).map (dvE s)=Al (vs.map (Cb s)):=fun h vs=>by
  refine rr (Gm ..) ?_;exact map_congr_left fun e V=>by delta dvE;refine rr (if_pos h) ?_;rfl
 have turn:¬0<Bs s→∀vs:List Pt,Fy q ((Al vs).map (dvE s))=Fy q (Al (vs.map (Cb s)).reverse):=fun h vs=>by
  refine rr (UL s _ h) (rl (Gm ..) ?_);exact(Ig (NM _)).symm
 delta AW YW
 refine rr ad ?_
 rcases lt_or_gt_of_ne hs with d|d
 ·rewrite[turn (lt_asymm d)]
  rcases lt_or_gt_of_ne h0 with a|a
  ·refine rr (if_pos a) (rr (if_neg (lt_asymm (Int.mul_pos_of_neg_of_neg d a))) ?_);refine rr List.map_reverse (rr (List.reverse_reverse ..) ?_);rfl
  ·refine rr (if_neg (lt_asymm a)) (rr (if_pos (Int.mul_neg_of_neg_of_pos d a)) ?_);rfl
 ·rewrite[keep d]
  rcases lt_or_gt_of_ne h0 with a|a
  ·refine rr (if_pos a) ?_;refine rr (if_pos (Int.mul_neg_of_pos_of_neg d a)) (rr List.map_reverse ?_);rfl
  ·refine rr (if_neg (lt_asymm a)) (rr (if_neg (lt_asymm (mul_pos d a))) ?_);rfl
theorem Sg(s:Mx)(half cap join limit:Int):(CI.turned ⟨half,cap,join,limit,mxS s⟩)=decide (Bs s<0):=by
 delta CI.turned mxS Bs
 dsimp only
 refine decide_eq_decide.mpr ?_
 have e:s.a*10*100000*(s.d*10*100000)-s.b*10*100000*(s.c*10*100000)=1000000000000*(s.a*s.d-s.b*s.c):=by grind
 refine rr e ?_;simp+arith only[*]
section
variable{s:Mx}
theorem Sh(hs:Bs s≠0)(hh:half≠0)(p:Pt){f:Fig}(ok:Iu f)(r:List Row)(x y:Pt):∃x' y',Fy (Cb s p) (AE (Ak ⟨half,cap,join,limit,mxS s⟩ f++r) x y)=KG s half p f+Fy (Cb s p) (AE r x' y'):=by
 cases f with
 |circ c=>
  obtain⟨x',y',e⟩:=Pk s hh c r x y
  refine⟨x',y',?_⟩
  show Fy _ (AE (AP (mxS s) (CI.turned ⟨half,cap,join,limit,mxS s⟩) half c++r) x y)=_
  refine rr (Sg ..) ?_;refine rr e (rr (Hw ..) ?_);rfl
 |poly ps=>
  show∃x' y',Fy _ (AE (Ch (mxS s) ps++r) x y)=(if BB ps=0 then 0 else Bq s p (Al (YW ps)))+_
  have et:ps.map (trans (mxS s))=ps.map (Cb s):=map_congr_left fun v V=>CF s v
  delta Ch
  refine rr et (rr (Oc s ok) ?_)
  by_cases h0:BB ps=0
  ·refine rr h0 (rr (mul_zero ..) ?_);refine rr (if_pos rfl) (rr (if_pos rfl) ?_)
   exact⟨x,y,(zero_add _).symm⟩
  ·refine rr (if_neg h0) (rr (if_neg (fun q=>h0 ((Int.mul_eq_zero.mp q).resolve_left hs))) ?_)
   obtain⟨x',y',e⟩:=LL (AW (ps.map (Cb s))) x y r
   refine⟨x',y',?_⟩
   refine rr e (rr (Hw ..) ?_);rewrite[Sf hs ok h0];rfl
theorem Pm(hs:Bs s≠0)(hh:half≠0)(p:Pt):∀(fs:List Fig),(∀f∈fs,Iu f)→∀(x y:Pt),Fy (Cb s p) (AE (fs.flatMap (Ak ⟨half,cap,join,limit,mxS s⟩)) x y)=(fs.map (KG s half p)).sum:=by
 intro fs
 induction fs with
 |nil=>intro _ x y;rfl
 |cons f fs ih=>
  intro ok x y
  refine rr flatMap_cons ?_
  obtain⟨x',y',e⟩:=Sh hs hh p (ok f (.head _)) (cap:=cap) (join:=join) (limit:=limit) (fs.flatMap (Ak ⟨half,cap,join,limit,mxS s⟩)) x y
  refine rr e ?_;rewrite[ih (fun f m=>ok f (.tail _ m))];refine rr map_cons (rr sum_cons ?_);(with_reducible rfl)
theorem Kx(h:0<BB ps):KG s half p (.poly ps)=Bq s p (Al ps):=by
 delta KG YW
 dsimp only
 refine rr (if_neg (ne_of_gt h)) (rr (if_neg (lt_asymm h)) ?_);rfl
theorem Od(h:BB ps<0):KG s half p (.poly ps)=Bq s p (Al ps.reverse):=by
 delta KG YW
 dsimp only
 refine rr (if_neg (Int.ne_of_lt h)) (rr (if_pos h) ?_);rfl
theorem Si(x α β:Pt):BB (LW x α β)=2*Ad α β:=by
 delta LW;refine rr (UK ..) ?_;dsimp only[AJ,Ad,Ag];grind
theorem Oe(O f g:Pt):BB (IB O f g)=Ad f g:=by
 delta IB;refine rr (Yn ..) ?_;dsimp only[AJ,Ad,Ag];grind
theorem LM(O f t g:Pt):BB (Ho O f t g)=Ad f t+Ad t g:=by
 delta Ho;refine rr (UK ..) ?_;dsimp only[AJ,Ad,Ag];grind
theorem Iv{x α β:Pt}(h:0<Ad α β):KG s half p (.poly (LW x α β))=Bq s p (Al (LW x α β)):=Kx (by refine rr (Si ..) ?_;exact Aq h h)
theorem UM{O f g:Pt}(h:0<Ad f g):KG s half p (.poly (IB O f g))=Bq s p (Al (IB O f g)):=Kx (by refine rr (Oe ..) ?_;exact h)
theorem Sj{O f g:Pt}(h:0<Ad f g):KG s half p (.poly (IB O g f))=Bq s p (Al (IB O f g)):=by
 have z:Bq s p []=0:=rfl
 refine rr (Od (by refine rr (Oe ..) (rr (Ck ..) ?_);lia)) ?_
 show Bq s p (Al [Ag O f,Ag O g,O])=Bq s p (Al [O,Ag O f,Ag O g])
 simp only[Al,AL,EK]
 simp+arith only[*]
theorem Sk{O f t g:Pt}(h:0<Ad f t)(h2:0<Ad t g):KG s half p (.poly (Ho O f t g))=Bq s p (Al (Ho O f t g)):=Kx (by refine rr (LM ..) ?_;exact Aq h h2)
theorem Pn{O f t g:Pt}(h:0<Ad f t)(h2:0<Ad t g):KG s half p (.poly (Ho O g t f))=Bq s p (Al (Ho O f t g)):=by
 have z:Bq s p []=0:=rfl
 refine rr (Od (by rw[LM,Ck t f,Ck g t,Ck f t,Ck t g]at*;lia)) ?_
 show Bq s p (Al [Ag O f,Ag O t,Ag O g,O])=Bq s p (Al [O,Ag O f,Ag O t,Ag O g])
 simp only[Al,AL,EK]
 simp+arith only[*]
end
theorem Iw(t:Bool)(p a b:Pt):GM t p (a,b)=GM (!t) p (b,a):=by
 have h:Cv t a b p=Cv (!t) b a p:=by
  delta Cv
  cases t<;>(simp only[Bool.not_false,Bool.not_true,if_true,if_false,false_eq_true];dsimp only[Ad,Ae];grind)
 have d:AA (Ae b a) (Ae b a)=AA (Ae a b) (Ae a b):=by dsimp only[AA,Ae];grind
 delta GM
 dsimp only
 refine rr h (rr d ?_);rfl
theorem Yp(l:List (Option Bool)):OX l.reverse=OX l:=by delta OX;simp only[mem_reverse]
theorem Yq(l:List (Option Bool)):IA l.reverse=IA l:=by delta IA;simp only[mem_reverse]
theorem Ky(A B σ:Pt):AR (0,0) A B σ=AR (0,0) B A σ:=by
 have et:∀A B,Di (0,0) A B=Ad A B:=fun A B=>by delta Di;refine rr (LI ..) (rr (LI ..) ?_);rfl
 delta AR
 refine rr (et ..) ?_;refine rr (et ..) (rr (Ck A B) ?_)
 by_cases h:Ad A B=0
 ·(with_reducible refine rr (h ..) ?_);(with_reducible refine rr ((if_pos rfl) ..) ?_);(with_reducible refine rr ((if_pos (show-(0:Int)=0 by decide)) ..) ?_);(with_reducible rfl)
 ·refine rr (if_neg h) (rr (if_neg (by lia)) ?_)
  have ed:decide (0< -Ad A B)=!decide (0<Ad A B):=by
   rcases lt_or_gt_of_ne h with q|q
   ·refine rr (decide_eq_false (lt_asymm q)) (rr (decide_eq_true (by lia)) ?_);rfl
   ·refine rr (decide_eq_true q) (rr (decide_eq_false (by exact not_lt.mpr (Af q))) ?_);rfl
  refine rr ed (rl (Yp ..) ?_)
  simp only[map_cons,map_nil]
  refine rr (Iw _ _ (0,0) A) ?_;refine rr (Iw _ _ A B) (rr (Iw _ _ B (0,0)) ?_)
  rfl
theorem UN(half:Int)(f s:Pt):Kn half f s=Kn half s f:=by
 have e:AA f s=AA s f:=by dsimp only[AA];grind
 delta Kn
 refine rr e ?_;rewrite[add_comm f.1];rewrite[add_comm f.2];(with_reducible rfl)
theorem UO(x y:Option Bool):IA [x,y]=IA [y,x]:=Yq [y,x]
theorem dU{D:Int}(h:1≤N):VB N D (BN (81000000000000000000000000000000000000*N)):=by
 obtain⟨a,b,c⟩:=(AU (81000000000000000000000000000000000000*N)).2 (by exact Af (mI 81000000000000000000000000000000000000 h))
 exact⟨a,b,c⟩
theorem GR{u:Int}(h:¬(a=0∧u=0)):1≤a*a+u*u:=not_lt.mp fun q=>h (by
 have qa:=sq0 a
 have qu:=sq0 u
 exact⟨Ks (by exact le_antisymm (Aq q qu) (qa)),Ks (by exact le_antisymm (Aq q qa) (qu))⟩)
structure Way(a u:Int):Prop where
 a1: -9≤a∧a≤9
 u1: -9≤u∧u≤9
 ne:¬(a=0∧u=0)
noncomputable def goP(p:Pt)(a u:Int):Pt:=(p.1+30*a,p.2+30*u)
theorem Sl(p:Pt)(a u:Int):Ae (goP p a u) p=(30*a,30*u):=by delta Ae goP;dsimp only;congr 1<;>simp+arith only[*]
theorem GS(p:Pt)(a u:Int):Ae (scP (goP p a u)) (scP p)=(3000000*a,3000000*u):=by delta Ae goP scP;dsimp only;congr 1<;>simp+arith only[*]
section
variable{a1 a2:Int}
noncomputable abbrev sdP(un a u:Int):Pt:=An (1000000*un) (3000000*a,3000000*u)
noncomputable abbrev ouP(un a u:Int)(l:Bool):Pt:=Hc (30*a,30*u) (10*un) l
noncomputable abbrev rtJ(a1 u1 a2 u2:Int):Int:=BN (81000000000000000000000000000000000000*((a1*a1+u1*u1)*(a2*a2+u2*u2)))
theorem bH(hu:un=1∨un=2)(w1:Way a1 u1)(w2:Way a2 u2)(nn:(a1*a1+u1*u1)*(a2*a2+u2*u2)≤2916)(turn:1≤a1*u2-u1*a2):RX a1 u1 a2 u2 (100*(10000*un)) (sdP un a1 u1) (sdP un a2 u2):=by
 have e:100*(10000*un)=1000000*un:=by simp+arith only[*]
 refine rr e ?_
 exact⟨(Hd hu w1.a1.1 w1.a1.2 w1.u1.1 w1.u1.2 w1.ne).side,(Hd hu w2.a1.1 w2.a1.2 w2.u1.1 w2.u1.2 w2.ne).side,GR w1.ne,GR w2.ne,nn,turn,by simp+arith only[*]⟩
theorem Og(a1 u1 a2 u2:Int):AQ (3000000*a1,3000000*u1) (3000000*a2,3000000*u2)=rtJ a1 u1 a2 u2:=by
 delta AQ rtJ
 dsimp only
 congr 1
 grind
theorem Yr(a1 u1 a2 u2:Int):BI (3000000*a1,3000000*u1) (3000000*a2,3000000*u2)=rtJ a1 u1 a2 u2+9000000000000000000*(a1*a2+u1*u2):=by
 delta BI
 refine rr (Og ..) ?_
 dsimp only
 grind
structure MP(un a1 u1 a2 u2:Int)(f g F S:Pt):Prop where
 hf:Ad f g=Ad (sdP un a1 u1) (sdP un a2 u2)
 hg:AA f g=AA (sdP un a1 u1) (sdP un a2 u2)
 N1:Dl f F (10000*un)
 N2:Dl g S (10000*un)
theorem Jq(hu:un=1∨un=2)(w1:Way a1 u1)(w2:Way a2 u2):MP un a1 u1 a2 u2 (Eh (sdP un a1 u1)) (Eh (sdP un a2 u2)) (ouP un a1 u1 true) (ouP un a2 u2 true):=
 ⟨by dsimp only[Ad,Eh];grind,by dsimp only[AA,Eh];grind,(Hd hu w1.a1.1 w1.a1.2 w1.u1.1 w1.u1.2 w1.ne).left,(Hd hu w2.a1.1 w2.a1.2 w2.u1.1 w2.u1.2 w2.ne).left⟩
theorem Ix(hu:un=1∨un=2)(w1:Way a1 u1)(w2:Way a2 u2):MP un a1 u1 a2 u2 (sdP un a1 u1) (sdP un a2 u2) (ouP un a1 u1 false) (ouP un a2 u2 false):=
 ⟨rfl,rfl,(Hd hu w1.a1.1 w1.a1.2 w1.u1.1 w1.u1.2 w1.ne).right,(Hd hu w2.a1.1 w2.a1.2 w2.u1.1 w2.u1.2 w2.ne).right⟩
noncomputable def UP(a b:Int)(f g:Pt):Pt:=(CM ((f.1+g.1)*a) b,CM ((f.2+g.2)*a) b)
theorem Sm(a b:Int)(f g:Pt):UP a b f g=UP a b g f:=by delta UP;rewrite[add_comm f.1];rewrite[add_comm f.2];(with_reducible rfl)
noncomputable def Oh(a1 u1 a2 u2 l:Int):Bool:=Ap (l*l*(900*(a1*a2+u1*u2))) (2*(10:Int)^(12:Int).toNat-l*l) (810000*((a1*a1+u1*u1)*(a2*a2+u2*u2)))
structure JoinG(un a1 u1 a2 u2 l:Int)(f g F S:Pt):Prop where
 over:Dh (rtJ a1 u1 a2 u2) (rtJ a1 u1 a2 u2+9000000000000000000*(a1*a2+u1*u2)) l=!Oh a1 u1 a2 u2 l
 fg:0<Ad f g
 bevel:∀{m:Mx} (O σ:Pt),Bs m≠0→Kr (AR (0,0) F S σ) (Bq m (Ag O (Bh 100 σ)) (Al (IB O f g)))
 under:Oh a1 u1 a2 u2 l=true→BT (10*un)+AA F S≠0
 kite:Oh a1 u1 a2 u2 l=true→0<Ad f (UP (rtJ a1 u1 a2 u2) (rtJ a1 u1 a2 u2+9000000000000000000*(a1*a2+u1*u2)) f g)∧0<Ad (UP (rtJ a1 u1 a2 u2) (rtJ a1 u1 a2 u2+9000000000000000000*(a1*a2+u1*u2)) f g) g∧
  ∀{m:Mx} (O σ:Pt),Bs m≠0→Kr (IA [AR (0,0) F (Kn (10*un) F S) σ,AR (0,0) (Kn (10*un) F S) S σ]) (Bq m (Ag O (Bh 100 σ)) (Al (Ho O f (UP (rtJ a1 u1 a2 u2) (rtJ a1 u1 a2 u2+9000000000000000000*(a1*a2+u1*u2)) f g) g)))
theorem Oi{l:Int}{f g S:Pt}(hu:un=1∨un=2)(w1:Way a1 u1)(w2:Way a2 u2)(nn:(a1*a1+u1*u1)*(a2*a2+u2*u2)≤2916)(turn:1≤a1*u2-u1*a2)(hl:l=1000000∨l=1500000∨l=10000000)(X:MP un a1 u1 a2 u2 f g F S):
 JoinG un a1 u1 a2 u2 l f g F S:=by
 have T:=bH hu w1 w2 nn turn
 have hH:10000*un=10000∨10000*un=20000:=by simp+arith only[*]
 have p:=RZ T hH X.hf X.N1 X.N2
 obtain⟨N,C,D,_,_,_,_,m,e1,e2,hC,hD,hN⟩:=T.mix
 have r:VB N D (rtJ a1 u1 a2 u2):=by delta rtJ;refine rl hN ?_;exact dU m.N1
 have q:=m.lets (l:=l) r hl
 have p2:=p.sP
 have p1:=p.sg
 have hk:(10000*un=10000∧BT (10*un)=100000000)∨(10000*un=20000∧BT (10*un)=400000000):=by
  rcases hu with rfl|rfl
  ·exact .inl ⟨rfl,rfl⟩
  ·exact .inr ⟨rfl,rfl⟩
 have kt:=fun h=>Ym (k:=BT (10*un)) T hk X.hf X.hg X.N1 X.N2 hD hN r rfl (q.pos h).1 (q.pos h).2
 rw[hD,hN]at q kt
 refine⟨q.over,by lia,fun O σ hm=>Sa hm p,fun h=>?_,fun h=>?_⟩
 ·exact ne_of_gt (kt h).u0
 ·have K:=kt h
  obtain⟨_,nA⟩:=DM F
  obtain⟨_,nT⟩:=DM (Kn (10*un) F S)
  obtain⟨_,nB⟩:=DM S
  obtain⟨_,nG⟩:=DM (Ae (Kn (10*un) F S) F)
  obtain⟨_,nE⟩:=DM (Ae S (Kn (10*un) F S))
  have t1:=K.tri1 nA nG nT
  have t2:=K.tri2 nT nE nB
  have a1:=t1.k0
  have a2:=t1.th
  have b1:=t2.k0
  have b2:=t2.th
  exact⟨by delta UP;exact Aq a1 (mI 9000 a2),by delta UP;exact Aq b1 (mI 9000 b2),fun O σ hm=>UH hm K⟩
end
section
variable{a1 a2:Int}
theorem Iy{l:Int}{m:Mx}(B:Pt)(A C:Pt)(hA:Ae (scP B) (scP A)=(3000000*a1,3000000*u1))(hC:Ae (scP C) (scP B)=(3000000*a2,3000000*u2)):
 Az ⟨1000000*un,cap,join,l,m⟩ (scP A) (scP B) (scP C)=
  if join=1 then[.circ (scP B)]else if a1*u2-u1*a2=0 then[]else
  if join=0∧Dh (rtJ a1 u1 a2 u2) (rtJ a1 u1 a2 u2+9000000000000000000*(a1*a2+u1*u2)) l=false then
   [.poly (Ho (scP B) (if 0<a1*u2-u1*a2 then Eh (sdP un a1 u1)else sdP un a1 u1) (UP (rtJ a1 u1 a2 u2) (rtJ a1 u1 a2 u2+9000000000000000000*(a1*a2+u1*u2)) (if 0<a1*u2-u1*a2 then Eh (sdP un a1 u1)else sdP un a1 u1) (if 0<a1*u2-u1*a2 then Eh (sdP un a2 u2)else sdP un a2 u2)) (if 0<a1*u2-u1*a2 then Eh (sdP un a2 u2)else sdP un a2 u2))]
  else[.poly (IB (scP B) (if 0<a1*u2-u1*a2 then Eh (sdP un a1 u1)else sdP un a1 u1) (if 0<a1*u2-u1*a2 then Eh (sdP un a2 u2)else sdP un a2 u2))]:=by
 have ec:AJ (3000000*a1,3000000*u1) (3000000*a2,3000000*u2)=9000000000000*(a1*u2-u1*a2):=by dsimp only[AJ];grind
 delta Az
 dsimp only
 refine rr hA ?_;refine rr hC (rr ec ?_);refine rr (Og ..) (rr (Yr ..) ?_)
 generalize a1*u2-u1*a2=c
 by_cases hj:join=1
 ·refine rr (if_pos hj) (rr (if_pos hj) ?_);rfl
 refine rr (if_neg hj) (rr (if_neg hj) ?_)
 by_cases h0:c=0
 ·refine rr (if_pos h0) (rr (if_pos (by simp+arith only[*])) ?_);rfl
 refine rr (if_neg h0) (rr (if_neg (by lia)) ?_)
 by_cases h:0<c
 ·refine rr (if_pos h) ?_;refine rr (if_pos h) (rr (if_pos (show 0<9000000000000*c by lia)) ?_)
  simp only[neg_one_mul]
  rfl
 ·refine rr (if_neg h) ?_;refine rr (if_neg h) (rr (if_neg (show¬0<9000000000000*c by exact not_lt.mpr (Af (mI 9000000000000 (not_lt.mp h))))) ?_)
  simp only[one_mul]
  rfl
structure dW(s:Mx)(half cap:Int)(q:Fv)(A B C p:Pt):Prop where
 ok:∀f∈Az ⟨half,cap,q.join,q.limit,mxS s⟩ (scP A) (scP B) (scP C),Iu f
 rel:Kr (BA (A,B) (B,C) q p) ((Az ⟨half,cap,q.join,q.limit,mxS s⟩ (scP A) (scP B) (scP C)).map (KG s half (scP p))).sum
 under:Bz (A,B) (B,C)≠0→SG (A,B) (B,C) q.limit=true→BT q.half+AA (Gv (A,B) q.half (Bz (A,B) (B,C))) (Gv (B,C) q.half (Bz (A,B) (B,C)))≠0
theorem UQ:Kr (some false) 0:=⟨fun h=>Bool.noConfusion (Option.some.inj h),fun V=>rfl,Int.le_refl _⟩
theorem Iz(k:Int):[k].sum=k:=by refine rr sum_cons ?_;refine rr sum_nil (rr (add_zero ..) ?_);rfl
noncomputable abbrev jV1(un a1 u1 a2 u2:Int)(σ:Pt)(b:Bool):Option Bool:=AR (0,0) (ouP un a1 u1 b) (ouP un a2 u2 b) σ
noncomputable abbrev jV2(un a1 u1 a2 u2:Int)(σ:Pt)(b:Bool):Option Bool:=IA [AR (0,0) (ouP un a1 u1 b) (Kn (10*un) (ouP un a1 u1 b) (ouP un a2 u2 b)) σ,AR (0,0) (Kn (10*un) (ouP un a1 u1 b) (ouP un a2 u2 b)) (ouP un a2 u2 b) σ]
theorem Sn(x y:Pt):AA x y=AA y x:=by dsimp only[AA];rewrite[mul_comm x.1];rewrite[mul_comm x.2];(with_reducible rfl)
theorem UR{s:Mx}(hj:join=0∨join=1∨join=2)(h1:¬join=1){T K:List Pt}{V1 V2:Option Bool}(hT:∃k,KG s half p (.poly T)=k∧Kr V1 k)(oT:Iu (.poly T))(hK:lt=true→∃k,KG s half p (.poly K)=k∧Kr V2 k)(oK:Iu (.poly K)):
 (∀f∈(if join=0∧(!lt)=false then[.poly K]else[.poly T]:List Fig),Iu f)∧Kr (if join=2∨lt=false then V1 else V2) ((if join=0∧(!lt)=false then[.poly K]else[.poly T]:List Fig).map (KG s half p)).sum:=by
 obtain⟨_,rfl,r1⟩:=hT
 by_cases h:join=2∨lt=false
 ·refine rr (if_pos h) (rr (if_neg (by rintro⟨q,e⟩;rcases h with h|h;lia;rw[h]at e;exact Bool.noConfusion e)) ?_)
  exact⟨alc oT Cc,by refine rr map_singleton (rr (Iz ..) ?_);exact r1⟩
 ·have e:lt=true:=by
   cases lt
   ·exact absurd (.inr rfl) h
   ·rfl
  subst e
  obtain⟨_,rfl,r2⟩:=hK rfl
  refine rr (if_neg h) (rr (if_pos ⟨by lia,rfl⟩) ?_)
  exact⟨alc oK Cc,by refine rr map_singleton (rr (Iz ..) ?_);exact r2⟩
theorem VD{s:Mx}(hs:s∈spL)(h0:Bs s≠0){q:Fv}{A:Pt}(hu:un=1∨un=2)(hq:q.half=10*un)(hj:q.join=0∨q.join=1∨q.join=2)(hl:q.limit=1000000∨q.limit=1500000∨q.limit=10000000)(w1:Way a1 u1)(w2:Way a2 u2)(nn:(a1*a1+u1*u1)*(a2*a2+u2*u2)≤2916):
 dW s (1000000*un) cap q A (goP A a1 u1) (goP (goP A a1 u1) a2 u2) p:=by
 obtain⟨half,qc,join,l⟩:=q
 dsimp only at hq hj hl
 subst hq
 have hB:=Sl A a1 u1
 have hC:=Sl (goP A a1 u1) a2 u2
 have hB':=GS A a1 u1
 have hC':=GS (goP A a1 u1) a2 u2
 generalize goP A a1 u1=B at*
 generalize goP B a2 u2=C at*
 have ej:=Iy (un:=un) (cap:=cap) (join:=join) (l:=l) (m:=mxS s) B A C hB' hC'
 have et:Bz (A,B) (B,C)=900*(a1*u2-u1*a2):=by delta Bz;dsimp only;refine rr hB (rr hC ?_);dsimp only[Ad];grind
 have el:SG (A,B) (B,C) l=Oh a1 u1 a2 u2 l:=by
  delta SG Oh;dsimp only;refine rr hB (rr hC ?_)
  have e1:AA (30*a1,30*u1) (30*a2,30*u2)=900*(a1*a2+u1*u2):=by dsimp only[AA];grind
  have e2:AA (30*a1,30*u1) (30*a1,30*u1)*AA (30*a2,30*u2) (30*a2,30*u2)=810000*((a1*a1+u1*u1)*(a2*a2+u2*u2)):=by dsimp only[AA];grind
  refine rr e1 (rr e2 ?_);rfl
 have eF:∀t,Gv (A,B) (10*un) t=ouP un a1 u1 (decide (0<t)):=fun t=>by delta Gv;dsimp only;refine rr hB ?_;rfl
 have eS:∀t,Gv (B,C) (10*un) t=ouP un a2 u2 (decide (0<t)):=fun t=>by delta Gv;dsimp only;refine rr hC ?_;rfl
 have ep:Ag (scP B) (Bh 100 (CO p B))=scP p:=by delta Ag scP Bh CO Ae;dsimp only;congr 1<;>simp+arith only[*]
 have hf2:(10*un=10∨10*un=20):=by simp+arith only[*]
 by_cases h1:join=1
 ·rw[if_pos h1]at ej
  refine⟨by dsimp only;refine rr ej ?_;intro f hf;refine rr (mem_singleton.mp hf) ?_;trivial,?_,?_⟩
  ·dsimp only
   refine rr ej ?_
   delta BA
   refine rr (if_pos h1) ?_;refine rr map_singleton (rr (Iz ..) ?_)
   have:=Kw hs hf2 B p
   have e:100000*(10*un)=1000000*un:=by simp+arith only[*]
   rw[e]at this
   exact this
  ·intro ht hlt
   rw[el]at hlt
   rw[et]at ht⊢
   refine rr (eF ..) (rr (eS ..) ?_)
   have ht:a1*u2-u1*a2≠0:=by lia
   rcases lt_or_gt_of_ne ht with c|c
   ·have J:=Oi (l:=l) hu w2 w1 (by refine rr (mul_comm ..) ?_;exact nn) (by rewrite[mul_comm a2];rewrite[mul_comm u2];exact Af c) hl (Ix hu w2 w1)
    refine rr (decide_eq_false (by exact not_lt.mpr (Af (mI 900 c)))) ?_
    have e:AA (ouP un a1 u1 false) (ouP un a2 u2 false)=AA (ouP un a2 u2 false) (ouP un a1 u1 false):=by dsimp only[AA];grind
    refine rr e ?_
    refine J.under ?_
    have:Oh a2 u2 a1 u1 l=Oh a1 u1 a2 u2 l:=by delta Oh;refine rr (mul_comm a2 a1) (rr (mul_comm u2 u1) ?_);rewrite[mul_comm (a2*a2+u2*u2)];(with_reducible rfl)
    refine rr this ?_;exact hlt
   ·have J:=Oi (l:=l) hu w1 w2 nn (by exact c) hl (Jq hu w1 w2)
    refine rr (decide_eq_true (by grind)) ?_
    exact J.under hlt
 rw[if_neg h1]at ej
 by_cases h2:a1*u2-u1*a2=0
 ·rw[if_pos h2]at ej
  have et0:Bz (A,B) (B,C)=0:=by simp+arith only[*]
  refine⟨by dsimp only;refine rr ej ?_;exact fun f hf=>(nomatch hf),?_,fun ht=>absurd et0 ht⟩
  dsimp only
  refine rr ej ?_
  delta BA
  refine rr (if_neg h1) (rr (if_pos et0) ?_)
  exact UQ
 rw[if_neg h2]at ej
 have eX:BA (A,B) (B,C) ⟨10*un,qc,join,l⟩ p=if join=2∨Oh a1 u1 a2 u2 l=false then jV1 un a1 u1 a2 u2 (CO p B) (decide (0<900*(a1*u2-u1*a2)))else jV2 un a1 u1 a2 u2 (CO p B) (decide (0<900*(a1*u2-u1*a2))):=by
  delta BA
  refine rr (if_neg h1) (rr (if_neg (by lia)) ?_)
  dsimp only
  refine rr el (rr et ?_);refine rr (eF ..) (rr (eS ..) ?_);rfl
 have und:(Oh a1 u1 a2 u2 l=true→BT (10*un)+AA (ouP un a1 u1 (decide (0<900*(a1*u2-u1*a2)))) (ouP un a2 u2 (decide (0<900*(a1*u2-u1*a2))))≠0)→Bz (A,B) (B,C)≠0→SG (A,B) (B,C) l=true→BT (10*un)+AA (Gv (A,B) (10*un) (Bz (A,B) (B,C))) (Gv (B,C) (10*un) (Bz (A,B) (B,C)))≠0:=fun h V q=>by
  rw[el]at q
  refine rr (eF ..) ?_;refine rr (eS ..) (rr et ?_);exact h q
 have fin:=fun b T K=>UR (s:=s) (half:=1000000*un) (p:=scP p) (T:=T) (K:=K) (V1:=jV1 un a1 u1 a2 u2 (CO p B) b) (V2:=jV2 un a1 u1 a2 u2 (CO p B) b) hj h1 (lt:=Oh a1 u1 a2 u2 l)
 rcases lt_or_gt_of_ne h2 with c|c
 · --to the right
  have J:=Oi (l:=l) hu w2 w1 (by refine rr (mul_comm ..) ?_;exact nn) (by rewrite[mul_comm a2];rewrite[mul_comm u2];exact Af c) hl (Ix hu w2 w1)
  have e1:Oh a2 u2 a1 u1 l=Oh a1 u1 a2 u2 l:=by delta Oh;refine rr (mul_comm a2 a1) (rr (mul_comm u2 u1) ?_);rewrite[mul_comm (a2*a2+u2*u2)];(with_reducible rfl)
  have e2:rtJ a2 u2 a1 u1=rtJ a1 u1 a2 u2:=by delta rtJ;rewrite[mul_comm (a2*a2+u2*u2)];(with_reducible rfl)
  have e3:a2*a1+u2*u1=a1*a2+u1*u2:=by refine rr (mul_comm a2 a1) (rr (mul_comm u2 u1) ?_);rfl
  obtain⟨j1,j2,j3,j4,j5⟩:=J
  rw[e1,e2,e3]at j1 j5
  rw[e1]at j4
  rw[j1,if_neg (lt_asymm c),if_neg (lt_asymm c)]at ej
  rw[decide_eq_false (by exact not_lt.mpr (Af (mI 900 c)))]at eX und
  obtain⟨f1,f2⟩:=fin false _ _ ⟨_,Sj (O:=scP B) j2,by delta jV1;refine rr (Ky ..) (rl ep ?_);exact j3 _ _ h0⟩ (.inl ⟨_,_,_,rfl⟩) (fun h=>⟨_,Pn (O:=scP B) (j5 h).1 (j5 h).2.1,by delta jV2;refine rr (UN ..) ?_;rewrite[Ky (ouP un a1 u1 false)];rewrite[Ky _ (ouP un a2 u2 false)];refine rr (UO ..) (rl ep ?_);exact(j5 h).2.2 _ _ h0⟩) (.inr ⟨_,_,_,_,rfl⟩)
  rw[Sm]at ej
  exact⟨by refine rr ej ?_;exact f1,by refine rr ej (rr eX ?_);exact f2,und fun h=>by refine rr (Sn ..) ?_;exact j4 h⟩
 · --to the left
  obtain⟨j1,j2,j3,j4,j5⟩:=Oi (l:=l) hu w1 w2 nn (by exact c) hl (Jq hu w1 w2)
  rw[j1,if_pos c,if_pos c]at ej
  rw[decide_eq_true (by exact Af (mI 900 c))]at eX und
  obtain⟨f1,f2⟩:=fin true _ _ ⟨_,UM (O:=scP B) j2,by delta jV1;refine rl ep ?_;exact j3 _ _ h0⟩ (.inl ⟨_,_,_,rfl⟩) (fun h=>⟨_,Sk (O:=scP B) (j5 h).1 (j5 h).2.1,by delta jV2;refine rl ep ?_;exact(j5 h).2.2 _ _ h0⟩) (.inr ⟨_,_,_,_,rfl⟩)
  exact⟨by refine rr ej ?_;exact f1,by refine rr ej (rr eX ?_);exact f2,und j4⟩
end
structure FF(vs:List (Option Bool))(k:Int):Prop where
 t:some true∈vs→1≤k
 f:(∀v∈vs,v=some false)→k=0
 n:0≤k
theorem FF.nil:FF [] 0:=⟨fun h=>(nomatch h),fun V=>rfl,Int.le_refl _⟩
theorem FF.app{vs ws:List (Option Bool)}{k l:Int}(a:FF vs k)(b:FF ws l):FF (vs++ws) (k+l):=by
 have an:=a.n
 have bn:=b.n
 refine⟨fun h=>?_,fun h=>?_,by exact add_le_add an bn⟩
 ·rcases mem_append.mp h with h|h
  ·have:=a.t h;exact add_le_add this bn
  ·have:=b.t h;exact add_le_add an this
 ·have:=a.f fun v m=>h v (mem_append.mpr (.inl m))
  have:=b.f fun v m=>h v (mem_append.mpr (.inr m))
  simp+arith only[*]
theorem FF.one{v:Option Bool}{k:Int}(a:Kr v k):FF [v] k:=⟨fun h=>a.t (mem_singleton.mp h).symm,fun h=>a.f (h v (.head _)),a.n⟩
theorem FF.cons{v:Option Bool}{vs:List (Option Bool)}{k l:Int}(a:Kr v k)(b:FF vs l):FF (v::vs) (k+l):=(FF.one a).app b
set_option tactic.hygienic true in
theorem FF.due{vs:List (Option Bool)}{k:Int}(a:FF vs k){due:Bool}(h:IA vs=some due):decide (k≠0)=due:=by
 delta IA at h
 split at h
 ·have:=a.t ‹_›
  cases h
  exact decide_eq_true (by exact ne_of_gt (this))
 split at h
 ·cases h
 ·rename_i h1 h2
  cases h
  have:=a.f fun v m=>by
   cases v with
   |none=>exact absurd m h2
   |some c=>cases c with
    |false=>rfl
    |true=>exact absurd m h1
  refine rr this ?_;rfl
def EdW(e:Pt×Pt):Prop:=∃a u,Way a u∧e.2=goP e.1 a u
def MQ(x:(Pt×Pt)×(Pt×Pt)):Prop:=∃a1 u1 a2 u2,Way a1 u1∧Way a2 u2∧(a1*a1+u1*u1)*(a2*a2+u2*u2)≤2916∧x.1.2=goP x.1.1 a1 u1∧x.2.1=x.1.2∧x.2.2=goP x.2.1 a2 u2
theorem Oj(hb:0<b):CM (-a) b= -CM a b:=by
 have hb':¬b<0:=by exact not_lt.mpr (Af hb)
 rcases Int.lt_trichotomy a 0 with h|h|h
 ·have h2:¬ -a<0:=by exact not_lt.mpr (Af h)
  delta CM
  dsimp only
  refine rr (if_neg hb') ?_;refine rr (decide_eq_false hb') (rr (if_neg h2) ?_);refine rr (if_pos h) (rr (decide_eq_false h2) ?_);refine rr (decide_eq_true h) (rr (if_pos (show(false==false)=true from rfl)) ?_);refine rr (if_neg (show¬(true==false)=true by decide)) (rr (neg_neg ..) ?_);rfl
 ·subst h
  have z:CM 0 b=0:=by
   delta CM
   dsimp only
   refine rr (if_neg hb') (rr (decide_eq_false hb') ?_);rewrite[if_neg (show¬(0:Int)<0 by decide)];refine rr (decide_eq_false (show¬(0:Int)<0 by decide)) ?_;refine rr (if_pos (show(false==false)=true from rfl)) (rr (fdiv_eq_ediv_of_nonneg _ (by exact Aq hb hb)) ?_)
   exact Int.ediv_eq_zero_of_lt (by exact Af hb) (by exact Af hb)
  refine rr Int.neg_zero (rr z ?_);rfl
 ·have h2:¬a<0:=by exact not_lt.mpr (Af h)
  have h3: -a<0:=by exact Af h
  delta CM
  dsimp only
  refine rr (if_neg hb') (rr (decide_eq_false hb') ?_);refine rr (if_neg h2) (rr (if_pos h3) ?_);refine rr (decide_eq_false h2) (rr (decide_eq_true h3) ?_);rewrite[if_pos (show(false==false)=true from rfl)];refine rr (if_neg (show¬(true==false)=true by decide)) (rr (neg_neg ..) ?_);(with_reducible rfl)
section
variable{u:Int}{s:Mx}{q:Fv}
theorem So(w:Way a u):An (1000000*un) (-(3000000*a),-(3000000*u))=Eh (sdP un a u):=by
 have h0:=GR w.ne
 have e: -(3000000*a)*1000000*(-(3000000*a)*1000000)+ -(3000000*u)*1000000*(-(3000000*u)*1000000)=3000000*a*1000000*(3000000*a*1000000)+3000000*u*1000000*(3000000*u*1000000):=by grind
 have L:0<BN (3000000*a*1000000*(3000000*a*1000000)+3000000*u*1000000*(3000000*u*1000000)):=by
  refine HX ?_
  have e:3000000*a*1000000*(3000000*a*1000000)+3000000*u*1000000*(3000000*u*1000000)=9000000000000000000000000*(a*a+u*u):=by grind
  exact Aq (mI 9000000000000000000000000 h0) (le_of_eq e.symm)
 delta sdP An Eh
 dsimp only
 refine rr e ?_
 have e1: -(-(3000000*u))*(1000000*un)*1000000= -(-(3000000*u)*(1000000*un)*1000000):=by refine rr (neg_mul ..) (rr (neg_mul ..) ?_);rfl
 have e2: -(3000000*a)*(1000000*un)*1000000= -(3000000*a*(1000000*un)*1000000):=by refine rr (neg_mul ..) (rr (neg_mul ..) ?_);rfl
 refine rr e1 (rr e2 ?_);refine rr (Oj L) (rr (Oj L) ?_);rfl
noncomputable abbrev KH(un:Int)(q:Fv)(s:Mx):CI:=⟨1000000*un,q.cap,q.join,q.limit,mxS s⟩
noncomputable def DO(s:Mx)(un:Int)(p:Pt)(fs:List Fig):Int:=(fs.map (KG s (1000000*un) (scP p))).sum
theorem Gs(fs gs:List Fig):DO s un p (fs++gs)=DO s un p fs+DO s un p gs:=by delta DO;refine rr map_append (rr sum_append ?_);rfl
theorem Ys(P:Pt)(a u:Int):Ae (scP P) (scP (goP P a u))=(-(3000000*a),-(3000000*u)):=by delta Ae goP scP;dsimp only;congr 1<;>simp+arith only[*]
theorem bI(P:Pt)(a u:Int):scP (goP P a u)=Ag (scP P) (DK a u):=by delta Ag goP scP;dsimp only;congr 1<;>simp+arith only[*]
theorem Jr(P:Pt)(a u:Int):Ci (1000000*un) (scP P) (scP (goP P a u))=.poly (Gn (scP P) (DK a u) (sdP un a u)):=by
 delta Ci
 dsimp only
 refine rr (GS ..) (rr (bI ..) ?_)
 delta Gn LW
 change Fig.poly [Ag _ (sdP un a u),Ae _ (sdP un a u),Ae _ (sdP un a u),Ag _ (sdP un a u)]=_
 generalize sdP un a u=t
 generalize scP P=P
 generalize DK a u=w
 have e1:Ag (Ag P t) (Bh (-2) t)=Ae P t:=by delta Ag Bh Ae;dsimp only;congr 1<;>simp+arith only[*]
 have e2:Ag (Ae P t) w=Ae (Ag P w) t:=by delta Ag Ae;dsimp only;congr 1<;>simp+arith only[*]
 have e3:Ag (Ag P t) w=Ag (Ag P w) t:=by delta Ag;dsimp only;congr 1<;>simp+arith only[*]
 refine rr e1 ?_;refine rr e2 (rr e3 ?_);rfl
theorem Sp(hc:q.cap=2)(w:Way a u)(P:Pt):AI (KH un q s) (scP (goP P a u)) (scP P)=[.poly (Go (scP P) (sdP un a u))]:=by
 delta AI
 dsimp only
 refine rr (if_neg (by lia)) (rr (if_pos hc) ?_);refine rr (Ys ..) (rr (So w) ?_)
 delta Go LW
 generalize sdP un a u=t
 generalize scP P=P
 have e0:Ag P (Eh t)=Ae P t:=by delta Ag Ae Eh;dsimp only;congr 1
 have e1:Ae P (Eh t)=Ag P t:=by delta Ag Ae Eh;dsimp only;congr 1<;>simp+arith only[*]
 have e2:Ag (Ae P t) (Bh 2 t)=Ag P t:=by delta Ag Bh Ae;dsimp only;congr 1<;>simp+arith only[*]
 have e3:(((Eh t).2,-(Eh t).1):Pt)=EL t:=by delta Eh EL;dsimp only;congr 1;simp+arith only[*]
 refine rr e0 (rr e1 ?_);refine rr e2 (rr e3 ?_);rfl
theorem Sq(hc:q.cap=2)(P:Pt):AI (KH un q s) (scP P) (scP (goP P a u))=[.poly (Gp (Ag (scP P) (DK a u)) (sdP un a u))]:=by
 delta AI
 dsimp only
 refine rr (if_neg (by lia)) (rr (if_pos hc) ?_);refine rr (GS ..) (rr (bI ..) ?_)
 delta Gp LW
 change [Fig.poly [Ag _ (sdP un a u),Ae _ (sdP un a u),Ag (Ae _ (sdP un a u)) ((sdP un a u).2,-(sdP un a u).1),Ag (Ag _ (sdP un a u)) ((sdP un a u).2,-(sdP un a u).1)]]=_
 generalize sdP un a u=t
 generalize Ag (scP P) (DK a u)=P
 have e2:Ag (Ag P t) (Bh (-2) t)=Ae P t:=by delta Ag Bh Ae;dsimp only;congr 1<;>simp+arith only[*]
 have e3:((t.2,-t.1):Pt)=Eh (EL t):=by delta Eh EL;dsimp only;congr 1;simp+arith only[*]
 refine rr e2 (rr e3 ?_);rfl
theorem bJ(h0:Bs s≠0)(hu:un=1∨un=2)(w:Way a u){P:Pt}(h1: -600≤p.1-P.1∧p.1-P.1≤600)(h2: -600≤p.2-P.2∧p.2-P.2≤600){b1:Bool}(c1:b1=true→q.cap=2)(c2:b2=true→q.cap=2):
 Kr (GK P (goP P a u) (if b1 then 10*un else 0) (if b2 then 10*un else 0) (10*un) p)
  (DO s un p [Ci (1000000*un) (scP P) (scP (goP P a u))]+DN b1 (DO s un p (AI (KH un q s) (scP (goP P a u)) (scP P)))+DN b2 (DO s un p (AI (KH un q s) (scP P) (scP (goP P a u))))):=by
 have D:=(Hd hu w.a1.1 w.a1.2 w.u1.1 w.u1.2 w.ne).side
 have k:=UA (hf:=10*un) (h:=1000000*un) (s:=sdP un a u) (Pp:=P) h0 (b1:=b1) (b2:=b2) (by lia) D w.a1 w.u1 w.ne (v1:=p.1-P.1) (v2:=p.2-P.2) h1 h2
 have ep:(P.1+(p.1-P.1),P.2+(p.2-P.2))=p:=by refine rr (show P.1+(p.1-P.1)=p.1 by simp+arith only[*]) (rr (show P.2+(p.2-P.2)=p.2 by simp+arith only[*]) ?_);rfl
 have eq:En (scP P) (p.1-P.1) (p.2-P.2)=scP p:=by delta En scP;dsimp only;congr 1<;>simp+arith only[*]
 rw[ep,eq]at k
 have c0:=D.c0
 have q1:=D.s1
 have one:∀f,DO s un p [f]=KG s (1000000*un) (scP p) f:=fun f=>by delta DO;refine rr map_singleton (rr (Iz ..) ?_);rfl
 have a0:DO s un p [Ci (1000000*un) (scP P) (scP (goP P a u))]=Bq s (scP p) (Al (Gn (scP P) (DK a u) (sdP un a u))):=by
  refine rr (one ..) (rr (Jr ..) ?_)
  exact Iv (by dsimp only[Ad,Bh];lia)
 have sp:0<(sdP un a u).1*(sdP un a u).1+(sdP un a u).2*(sdP un a u).2:=by
  refine Int.lt_of_lt_of_le ?_ q1
  exact mul_pos (by lia) (by lia)
 have a1:b1=true→DO s un p (AI (KH un q s) (scP (goP P a u)) (scP P))=Bq s (scP p) (Al (Go (scP P) (sdP un a u))):=fun h=>by
  rewrite[Sp (c1 h) w];refine rr (one ..) ?_
  exact Iv (by dsimp only[Ad,Bh,EL];lia)
 have a2:b2=true→DO s un p (AI (KH un q s) (scP P) (scP (goP P a u)))=Bq s (scP p) (Al (Gp (Ag (scP P) (DK a u)) (sdP un a u))):=fun h=>by
  rewrite[Sq (c2 h)];refine rr (one ..) ?_
  exact Iv (by dsimp only[Ad,Bh,EL,Eh];lia)
 refine rr a0 ?_
 cases b1 with
 |false=>cases b2 with
  |false=>exact k
  |true=>refine rr (a2 rfl) ?_;exact k
 |true=>cases b2 with
  |false=>refine rr (a1 rfl) ?_;exact k
  |true=>refine rr (a1 rfl) (rr (a2 rfl) ?_);exact k
end
section
variable{s:Mx}{q:Fv}
noncomputable def c0F(s:Mx)(un:Int)(q:Fv)(e:Pt×Pt):List Fig:=AI (KH un q s) (scP e.2) (scP e.1)
noncomputable def c1F(s:Mx)(un:Int)(q:Fv)(e:Pt×Pt):List Fig:=AI (KH un q s) (scP e.1) (scP e.2)
noncomputable def lnF(un:Int)(e:Pt×Pt):Fig:=Ci (1000000*un) (scP e.1) (scP e.2)
noncomputable def joF(s:Mx)(un:Int)(q:Fv)(x:(Pt×Pt)×(Pt×Pt)):List Fig:=Az (KH un q s) (scP x.1.1) (scP x.2.1) (scP x.2.2)
noncomputable def sqB(q:Fv)(cl:Bool):Bool:=decide (q.cap=2∧cl=false)
noncomputable def GT(s:Mx)(un:Int)(q:Fv)(p:Pt)(cl:Bool)(many:Nat):Nat→List (Pt×Pt)→Int
 |_,[]=>0
 |k,e::es=>(DO s un p [lnF un e]+DN (decide (k=0)&&sqB q cl) (DO s un p (c0F s un q e))+DN (decide (k+1=many)&&sqB q cl) (DO s un p (c1F s un q e)))+GT s un q p cl many (k+1) es
def Yt(p:Pt)(e:Pt×Pt):Prop:=(-600≤p.1-e.1.1∧p.1-e.1.1≤600)∧(-600≤p.2-e.1.2∧p.2-e.1.2≤600)
structure Sr(un:Int)(q:Fv):Prop where
 hu:un=1∨un=2
 hq:q.half=10*un
 hc:q.cap=0∨q.cap=1∨q.cap=2
 hj:q.join=0∨q.join=1∨q.join=2
 hl:q.limit=1000000∨q.limit=1500000∨q.limit=10000000
theorem dY(h0:Bs s≠0)(K:Sr un q)(many:Nat):∀(es:List (Pt×Pt)) (k:Nat),(∀e∈es,EdW e∧Yt p e)→FF (CC q cl p many k es) (GT s un q p cl many k es):=by
 intro es
 induction es with
 |nil=>exact fun V V=>FF.nil
 |cons e es ih=>
  intro k h
  refine FF.cons ?_ (ih (k+1) fun e m=>h e (.tail _ m))
  obtain⟨⟨a,u,w,he⟩,n1,n2⟩:=h e (.head _)
  obtain⟨A,B⟩:=e
  dsimp only at he n1 n2
  subst he
  have hs:∀b:Bool,(b&&sqB q cl)=true→q.cap=2:=fun b h=>by
   rw[and_eq_true]at h;exact(of_decide_eq_true h.2).1
  have r:=bJ (q:=q) h0 K.hu w n1 n2 (b1:=decide (k=0)&&sqB q cl) (b2:=decide (k+1=many)&&sqB q cl) (hs _) (hs _)
  have long:∀b:Prop,[Decidable b]→(if b then Fw q cl else 0)=if(decide b&&sqB q cl)=true then 10*un else 0:=fun b V=>by
   delta Fw sqB
   by_cases h1:b
   ·refine rr (if_pos h1) ?_;refine rr (decide_eq_true h1) (rr (Bool.true_and ..) ?_)
    by_cases h2:q.cap=2∧cl=false
    ·refine rr (if_pos h2) ?_;refine rr (if_pos (decide_eq_true h2)) (rr K.hq ?_);rfl
    ·refine rr (if_neg h2) (rr (if_neg (fun q=>h2 (of_decide_eq_true q))) ?_);rfl
   ·refine rr (if_neg h1) (rr (decide_eq_false h1) ?_);refine rr (Bool.false_and ..) (rr (if_neg Bool.false_ne_true) ?_);rfl
  delta Gi
  refine rr (long ..) ?_;refine rr (long ..) (rr K.hq ?_)
  exact r
noncomputable def YX(s:Mx)(un:Int)(p:Pt)(es:List (Pt×Pt)):Int:=DO s un p (es.map (lnF un))
theorem LN(f:Fig)(fs:List Fig):DO s un p (f::fs)=DO s un p [f]+DO s un p fs:=Gs [f] fs
theorem Ff(k:Int):DN false k=0:=rfl
theorem LO:∀(es:List (Pt×Pt)) (e:Pt×Pt) (k:Nat),1≤k→GT s un q p cl (k+(e::es).length) k (e::es)=YX s un p (e::es)+DN (sqB q cl) (DO s un p (c1F s un q ((e::es).getLast?.getD ((0,0),(0,0))))):=by
 intro es
 induction es with
 |nil=>
  intro e k hk
  show(_+DN (decide (k=0)&&sqB q cl) _+DN (decide (k+1=k+1)&&sqB q cl) _)+0=_
  refine rr (decide_eq_false (by lia)) ?_;refine rr (decide_eq_true rfl) (rr (Bool.false_and ..) ?_);refine rr (Bool.true_and ..) (rr (Ff ..) ?_)
  delta YX
  refine rr map_singleton ?_
  show _=_+DN _ (DO s un p (c1F s un q e))
  simp+arith only[*]
 |cons e2 es ih=>
  intro e k hk
  have i:=ih e2 (k+1) (by simp+arith only[*])
  rw[show k+1+(e2::es).length=k+(e::e2::es).length by simp only[length_cons];simp+arith only[*]]at i
  show(_+DN (decide (k=0)&&sqB q cl) _+DN (decide (k+1=k+(e::e2::es).length)&&sqB q cl) _)+GT s un q p cl _ (k+1) (e2::es)=_
  (with_reducible refine rr ((decide_eq_false (by lia)) ..) ?_);(with_reducible refine rr ((decide_eq_false (by simp only[length_cons];lia)) ..) ?_);(with_reducible refine rr (Bool.false_and ..) ?_);(with_reducible refine rr (Ff ..) ?_);(with_reducible refine rr (Ff ..) ?_);(with_reducible refine rr (i ..) ?_)
  have hL:DO s un p ((e::e2::es).map (lnF un))=DO s un p [lnF un e]+DO s un p ((e2::es).map (lnF un)):=LN _ _
  delta YX
  refine rr (List.getLast?_cons_cons) (rr hL ?_)
  simp+arith only[*]
theorem MR(es:List (Pt×Pt))(e:Pt×Pt):GT s un q p cl (e::es).length 0 (e::es)=YX s un p (e::es)+DN (sqB q cl) (DO s un p (c0F s un q e))+DN (sqB q cl) (DO s un p (c1F s un q ((e::es).getLast?.getD ((0,0),(0,0))))):=by
 cases es with
 |nil=>
  show(_+DN (decide (0=0)&&sqB q cl) _+DN (decide (0+1=[e].length)&&sqB q cl) _)+0=_
  refine rr (decide_eq_true rfl) ?_;refine rr (decide_eq_true (show 0+1=[e].length from rfl)) (rr (Bool.true_and ..) ?_)
  delta YX
  refine rr map_singleton ?_
  show _=_+_+DN _ (DO s un p (c1F s un q e))
  simp+arith only[*]
 |cons e2 es=>
  have i:=LO (s:=s) (un:=un) (q:=q) (p:=p) (cl:=cl) es e2 1 (by simp+arith only[*])
  rw[show 1+(e2::es).length=(e::e2::es).length by simp only[length_cons];simp+arith only[*]]at i
  show(_+DN (decide (0=0)&&sqB q cl) _+DN (decide (0+1=(e::e2::es).length)&&sqB q cl) _)+GT s un q p cl _ (0+1) (e2::es)=_
  refine rr (decide_eq_true rfl) ?_;refine rr (decide_eq_false (by simp only[length_cons];lia)) (rr (Bool.false_and ..) ?_);refine rr (Bool.true_and ..) (rr (Ff ..) ?_);refine rr (Nat.zero_add ..) (rr i ?_)
  have hL:DO s un p ((e::e2::es).map (lnF un))=DO s un p [lnF un e]+DO s un p ((e2::es).map (lnF un)):=LN _ _
  delta YX
  refine rr (List.getLast?_cons_cons) (rr hL ?_)
  simp+arith only[*]
noncomputable def IM(s:Mx)(un:Int)(q:Fv)(cl:Bool)(es:List (Pt×Pt)):List Fig:=
 es.map (lnF un)++(es.zip (Em cl es)).flatMap (joF s un q)++if cl then[]else c0F s un q (es.head?.getD ((0,0),(0,0)))++c1F s un q (es.getLast?.getD ((0,0),(0,0)))
theorem dZ(hs:s∈spL)(h0:Bs s≠0)(K:Sr un q):∀(xs:List ((Pt×Pt)×(Pt×Pt))),(∀x∈xs,MQ x)→FF (xs.map fun x=>BA x.1 x.2 q p) (DO s un p (xs.flatMap (joF s un q)))∧(∀f∈xs.flatMap (joF s un q),Iu f):=by
 intro xs
 induction xs with
 |nil=>exact fun V=>⟨FF.nil,fun f h=>(nomatch h)⟩
 |cons x xs ih=>
  intro h
  obtain⟨i1,i2⟩:=ih fun x m=>h x (.tail _ m)
  obtain⟨⟨A,B⟩,B',C⟩:=x
  obtain⟨a1,u1,a2,u2,w1,w2,nn,e1,e2,e3⟩:=h _ (.head _)
  dsimp only at e1 e2 e3
  subst e1
  subst e2
  subst e3
  have r:=VD (cap:=q.cap) (A:=A) (p:=p) hs h0 K.hu K.hq K.hj K.hl w1 w2 nn
  refine rr flatMap_cons ?_
  refine⟨?_,fun f m=>?_⟩
  ·refine rr (Gs ..) ?_;exact FF.cons r.rel i1
  ·rcases mem_append.mp m with m|m
   ·exact r.ok f m
   ·exact i2 f m
theorem VE(a h:Pt):∀f∈AI (KH un q s) a h,Iu f:=by
 intro f m
 delta AI at m
 dsimp only at m
 split at m
 ·refine rr (mem_singleton.mp m) ?_;trivial
 split at m
 ·refine rr (mem_singleton.mp m) ?_;exact .inr ⟨_,_,_,_,rfl⟩
 ·cases m
theorem Yu(hs:s∈spL)(h0:Bs s≠0)(K:Sr un q){es:List (Pt×Pt)}(ne:es≠[])(he:∀e∈es,EdW e∧Yt p e)(hx:∀x∈es.zip (Em cl es),MQ x):
 (∀due,Jj q cl p es=some due→decide (DO s un p (IM s un q cl es)≠0)=due)∧∀f∈IM s un q cl es,Iu f:=by
 have l:=dY (cl:=cl) h0 K es.length es 0 he
 obtain⟨j,jo⟩:=dZ (p:=p) hs h0 K _ hx
 constructor
 ·intro due hd
  refine FF.due ?_ hd
  cases es with
  |nil=>exact absurd rfl ne
  |cons e es=>
   rw[MR]at l
   delta IM
   refine rr (Gs ..) (rr (Gs ..) ?_)
   show FF (CC q cl p (e::es).length 0 (e::es)++Dr q cl p (e::es)++((e::es).zip (Em cl (e::es))).map fun x=>BA x.1 x.2 q p) _
   have eL:(e::es).head?.getD ((0,0),(0,0))=e:=rfl
   refine rr eL ?_
   have hc2:FF (Dr q cl p (e::es)) (DO s un p (if cl then[]else c0F s un q e++c1F s un q ((e::es).getLast?.getD ((0,0),(0,0))))-DN (sqB q cl) (DO s un p (c0F s un q e))-DN (sqB q cl) (DO s un p (c1F s un q ((e::es).getLast?.getD ((0,0),(0,0)))))):=by
    have ecp:Dr q cl p (e::es)=if q.cap=1∧cl=false then[AZ e.1 q.half p,AZ ((e::es).getLast?.getD ((0,0),(0,0))).2 q.half p]else[]:=rfl
    refine rr ecp ?_
    generalize(e::es).getLast?.getD ((0,0),(0,0))=z at*
    delta sqB
    cases cl with
    |true=>
     (first|(with_reducible refine rr ((if_neg (fun h=>Bool.noConfusion h.2)) ..) ?_)|rewrite[if_neg (fun h=>Bool.noConfusion h.2)]);(first|(with_reducible refine rr ((decide_eq_false (fun h=>Bool.noConfusion h.2)) ..) ?_)|rewrite[decide_eq_false (fun h=>Bool.noConfusion h.2)]);(with_reducible refine rr (Ff ..) ?_);(with_reducible refine rr (Ff ..) ?_)
     exact FF.nil
    |false=>
     rewrite[if_neg Bool.false_ne_true];refine rr (Gs ..) ?_
     have o:(10*un=10∨10*un=20):=by have:=K.hu;simp+arith only[*]
     have e5:100000*(10*un)=1000000*un:=by simp+arith only[*]
     rcases K.hc with c|c|c
     ·(first|(with_reducible refine rr ((if_neg (by rintro⟨h,_⟩;exact absurd (le_of_eq c) (not_le.mpr (le_of_eq h.symm)))) ..) ?_)|rewrite[if_neg (by rintro⟨h,_⟩;exact absurd (le_of_eq c) (not_le.mpr (le_of_eq h.symm)))]);(first|(with_reducible refine rr ((decide_eq_false (by rintro⟨h,_⟩;lia)) ..) ?_)|rewrite[decide_eq_false (by rintro⟨h,_⟩;lia)]);(with_reducible refine rr (Ff ..) ?_);(with_reducible refine rr (Ff ..) ?_)
      have z0:∀a h,AI (KH un q s) a h=[]:=fun a h=>by delta AI;dsimp only;refine rr (if_neg (by lia)) (rr (if_neg (by lia)) ?_);rfl
      delta c0F c1F
      refine rr (z0 ..) (rr (z0 ..) ?_)
      exact FF.nil
     ·(with_reducible refine rr ((if_pos ⟨c,rfl⟩) ..) ?_);(first|(with_reducible refine rr ((decide_eq_false (by rintro⟨h,_⟩;exact absurd (le_of_eq c) (not_le.mpr (le_of_eq h.symm)))) ..) ?_)|rewrite[decide_eq_false (by rintro⟨h,_⟩;exact absurd (le_of_eq c) (not_le.mpr (le_of_eq h.symm)))]);(with_reducible refine rr (Ff ..) ?_);(with_reducible refine rr (Ff ..) ?_)
      have z0:∀a h,AI (KH un q s) a h=[.circ h]:=fun a h=>by delta AI;dsimp only;refine rr (if_pos c) ?_;rfl
      delta c0F c1F
      refine rr (z0 ..) ?_;refine rr (z0 ..) (rr K.hq ?_)
      have one:∀f,DO s un p [f]=KG s (1000000*un) (scP p) f:=fun f=>by delta DO;refine rr map_singleton (rr (Iz ..) ?_);rfl
      refine rr (one ..) (rr (one ..) ?_)
      have r1:=Kw hs o e.1 p
      have r2:=Kw hs o z.2 p
      rw[e5]at r1 r2
      have r:=FF.cons r1 (FF.one r2)
      refine rr (sub_zero ..) (rr (sub_zero ..) ?_)
      exact r
     ·refine rr (if_neg (by rintro⟨h,_⟩;exact absurd (le_of_eq h) (not_le.mpr (le_of_eq c.symm)))) (rr (decide_eq_true ⟨c,rfl⟩) ?_)
      show FF [] (_-_-_)
      have:∀x y:Int,x+y-x-y=0:=fun x y=>by simp+arith only[*]
      show FF [] (_+_-DO s un p (c0F s un q e)-DO s un p (c1F s un q z))
      refine rr (this ..) ?_;exact FF.nil
   have r:=(l.app hc2).app j
   have e6:∀a b c d f:Int,a+b+c+(d-b-c)+f=a+f+d:=fun a b c d f=>by simp+arith only[*]
   rw[e6]at r
   exact r
 ·intro f m
  delta IM at m
  rcases mem_append.mp m with m|m
  ·rcases mem_append.mp m with m|m
   ·obtain⟨e,_,rfl⟩:=mem_map.mp m
    exact .inr ⟨_,_,_,_,rfl⟩
   ·exact jo f m
  ·split at m
   ·cases m
   ·rcases mem_append.mp m with m|m
    ·exact VE _ _ f m
    ·exact VE _ _ f m
end
def LP:Row→Prop
 | .m p=>BdP 380 p
 | .l p=>BdP 380 p
 | .c p q r=>BdP 380 p∧BdP 380 q∧BdP 380 r
 | .z=>True
theorem bK(h p q e:Int):cvI kC h p q e=e:=by
 show([0*h,0*p,0*q,27*e]:List Int).sum.fdiv 27=e
 simp only[sum_cons,sum_nil]
 refine rr (show 0*h+(0*p+(0*q+(27*e+0)))=e*27 by simp+arith only[*]) ?_
 exact Int.mul_fdiv_cancel _ (by decide)
theorem eh(h p q e:Pt):cvP kC h p q e=e:=by delta cvP;refine rr (bK ..) (rr (bK ..) ?_);rfl
theorem Ol{k:KE}(h1:Bd 5 k.1)(h2:Bd 5 k.2.1)(h3:Bd 5 k.2.2.1)(h4:Bd 5 k.2.2.2){h p q e:Int}(b1:Bd 380 h)(b2:Bd 380 p)(b3:Bd 380 q)(b4:Bd 380 e):Bd 400 (cvI k h p q e):=by
 delta cvI
 simp only[sum_cons,sum_nil]
 exact Bd.up (Bd.fdiv (Bd.add (Bd.mul h1 b1) (Bd.add (Bd.mul h2 b2) (Bd.add (Bd.mul h3 b3) (Bd.add (Bd.mul h4 b4) (Bd.of (b:=0) (k:=1) (by decide) (by decide)))))))
theorem LX{x:Int}(h:autoParam (decide (x.natAbs<2^5)=true) au.a4._auto_1):Bd 5 x:=(of_decide_eq_true h:x.natAbs<2^5)
theorem bL{h e:Pt}(b1:BdP 380 h)(b2:BdP 380 p)(b3:BdP 380 q)(b4:BdP 380 e):BdP 400 (cvP kA h p q e):=
 ⟨Ol LX LX LX LX b1.1 b2.1 b3.1 b4.1,Ol LX LX LX LX b1.2 b2.2 b3.2 b4.2⟩
theorem bM{h e:Pt}(b1:BdP 380 h)(b2:BdP 380 p)(b3:BdP 380 q)(b4:BdP 380 e):BdP 400 (cvP kB h p q e):=
 ⟨Ol LX LX LX LX b1.1 b2.1 b3.1 b4.1,Ol LX LX LX LX b1.2 b2.2 b3.2 b4.2⟩
theorem US:∀(rows:List Row) (h f:Pt),(∀r∈rows,LP r)→BdP 380 h→BdP 380 f→∀e∈AE rows h f,BdP 400 e.1∧BdP 400 e.2:=by
 intro rows
 induction rows with
 |nil=>intro h f _ _ _ e m;cases m
 |cons r rows ih=>
  intro h f hr hh hf e m
  have h1:=hr r (.head _)
  have hr':=fun r m=>hr r (.tail _ m)
  cases r with
  |m p=>exact ih p p hr' h1 h1 e m
  |l p=>
   rcases mem_cons.mp m with rfl|m
   ·exact⟨hh.up,BdP.up h1⟩
   ·exact ih p f hr' h1 hf e m
  |z=>
   rcases mem_cons.mp m with rfl|m
   ·exact⟨hh.up,hf.up⟩
   ·exact ih h f hr' hh hf e m
  |c a b x=>
   have ba:=h1.1;have bb:=h1.2.1;have bx:=h1.2.2
   have c1:=bL hh ba bb bx
   have c2:=bM hh ba bb bx
   have c3:=eh h a b x
   have m:e∈(h,cvP kA h a b x)::(cvP kA h a b x,cvP kB h a b x)::(cvP kB h a b x,cvP kC h a b x)::AE rows (cvP kC h a b x) f:=m
   rw[c3]at m
   rcases mem_cons.mp m with rfl|m
   ·exact⟨hh.up,c1⟩
   rcases mem_cons.mp m with rfl|m
   ·exact⟨c1,c2⟩
   rcases mem_cons.mp m with rfl|m
   ·exact⟨c2,bx.up⟩
   ·exact ih x f hr' bx hf e m
def Kz:Fig→Prop
 | .poly ps=>∀v∈ps,BdP 200 v
 | .circ c=>BdP 200 c
theorem LQ{s:Mx}(hs:Gh s){v:Pt}(hv:BdP 300 v):BdP 380 (Cb s v):=by
 obtain⟨a,b,c,d,e,f⟩:=hs
 have bm:Bd 64 (1000000:Int):=Bd.num
 exact⟨Bd.up (Bd.add (Bd.add (Bd.mul a hv.1) (Bd.mul c hv.2)) (Bd.mul e bm)),Bd.up (Bd.add (Bd.add (Bd.mul b hv.1) (Bd.mul d hv.2)) (Bd.mul f bm))⟩
theorem Su(h:∀v∈ps,BdP 380 v):∀r∈BO ps,LP r:=by
 cases ps with
 |nil=>exact fun r m=>(nomatch m)
 |cons p ps=>
  intro r m
  rcases mem_cons.mp m with rfl|m
  ·exact h p (.head _)
  rcases mem_append.mp m with m|m
  ·obtain⟨v,hv,rfl⟩:=mem_map.mp m
   exact h v (.tail _ hv)
  ·refine rr (mem_singleton.mp m) ?_;trivial
theorem Sv(hh:Bd 40 half)(t:Bool):BdP 40 (EE t half).1∧BdP 40 (EE t half).2.1∧BdP 40 (EE t half).2.2.1∧BdP 40 (EE t half).2.2.2:=by
 have z:Bd 40 (0:Int):=Bd.of (b:=0) (by decide) (by decide)
 cases t
 ·exact⟨⟨hh,z⟩,⟨z,hh⟩,⟨hh.neg,z⟩,⟨z,hh.neg⟩⟩
 ·exact⟨⟨hh,z⟩,⟨z,hh.neg⟩,⟨hh.neg,z⟩,⟨z,hh⟩⟩
theorem UT(hh:Bd 40 half):Bd 104 (Au half):=Bd.up (Bd.divI (Bd.mul hh (Bd.num (x:=552285))))
theorem Sw(hr:Bd 104 r){a b:Pt}(ha:BdP 40 a)(hb:BdP 40 b):BdP 150 (Cn half r a b):=
 ⟨Bd.up (Bd.add ha.1 (Bd.divI (Bd.mul hb.1 hr))),Bd.up (Bd.add ha.2 (Bd.divI (Bd.mul hb.2 hr)))⟩
theorem BdP.add'{l:Nat}(hp:BdP k p)(hq:BdP l q):BdP (max k l+1) (Ag p q):=⟨Bd.add hp.1 hq.1,Bd.add hp.2 hq.2⟩
theorem Yv{s:Mx}(hs:Gh s)(hh:Bd 40 half)(t:Bool){c:Pt}(hc:BdP 200 c):∀r∈AP (mxS s) t half c,LP r:=by
 intro r m
 delta AP at m
 split at m
 ·cases m
 obtain⟨k1,k2,k3,k4⟩:=Sv hh t
 have rb:=UT hh
 have cor:∀{v:Pt},BdP 40 v→BdP 380 (trans (mxS s) (Ag c v)):=fun h=>by refine rr (CF ..) ?_;exact LQ hs (BdP.up (BdP.add' hc h))
 have q:∀{a b:Pt},BdP 40 a→BdP 40 b→LP (KD (mxS s) half (Au half) c a b):=fun{a b} ha hb=>by
  have n1:=Sw (half:=half) rb ha hb
  have n2:=Sw (half:=half) rb hb ha
  delta KD
  refine rr (CF ..) ?_;refine rr (CF ..) (rr (CF ..) ?_)
  exact⟨LQ hs (BdP.up (BdP.add' hc n1)),LQ hs (BdP.up (BdP.add' hc n2)),LQ hs (BdP.up (BdP.add' hc hb))⟩
 exact alc (p:=LP) (show LP (.m _)from cor k1) (alc (q k1 k2) (alc (q k2 k3) (alc (q k3 k4) (alc (q k4 k1) (alc (show LP .z from trivial) Cc))))) _ m
theorem LR{v:Pt}(h:v∈AW ps):v∈ps:=by
 delta AW at h
 split at h
 ·exact mem_reverse.mp h
 ·exact h
theorem bO{s:Mx}(hs:Gh s){l:Int}(hh:Bd 40 half){f:Fig}(hf:Kz f):∀r∈Ak ⟨half,cap,join,l,mxS s⟩ f,LP r:=by
 cases f with
 |circ c=>exact Yv hs hh _ hf
 |poly ps=>
  intro r m
  have m:r∈Ch (mxS s) ps:=m
  delta Ch at m
  split at m
  ·cases m
  ·refine Su (fun v hv=>?_) r m
   obtain⟨w,hw,rfl⟩:=mem_map.mp (LR hv)
   refine rr (CF ..) ?_;exact LQ hs (BdP.up (hf w hw))
theorem Yw(m:Mx)(ps:List Pt)(r:List Row)(h:DI r false):DI (Ch m ps++r) false:=by
 delta Ch
 split
 ·exact h
 ·cases AW (ps.map (trans m))with
  |nil=>exact h
  |cons p ps=>
   refine⟨rfl,?_⟩
   show DI (ps.map .l++[.z]++r) true
   refine rr (append_assoc ..) ?_
   induction ps with
   |nil=>exact⟨rfl,h⟩
   |cons q qs ih=>exact⟨rfl,ih⟩
theorem Yx(p:CI):∀fs:List Fig,DI (fs.flatMap (Ak p)) false:=by
 intro fs
 induction fs with
 |nil=>exact rfl
 |cons f fs ih=>
  refine rr flatMap_cons ?_
  cases f with
  |poly ps=>exact Yw _ _ _ ih
  |circ c=>
   show DI (AP p.m p.turned p.half c++_) false
   delta AP
   split
   ·exact ih
   ·exact⟨rfl,rfl,rfl,rfl,rfl,rfl,ih⟩
section
variable{s:Mx}{q:Fv}
theorem UU{u:Int}(hu:un=1∨un=2)(w:Way a u):BdP 30 (sdP un a u):=by
 have D:=(Hd hu w.a1.1 w.a1.2 w.u1.1 w.u1.2 w.ne).side
 have s2:=D.s2
 change _≤(1000000*un+1)*(1000000*un+1)at s2
 have a1:=sq0 (sdP un a u).1
 have a2:=sq0 (sdP un a u).2
 have b1:=DX (x:=(sdP un a u).1) (y:=1000000*un+1) (by lia) (by delta sdP;delta sdP at a2;exact Aq s2 a2)
 have b2:=DX (x:=(sdP un a u).2) (y:=1000000*un+1) (by exact BU 2 (aI b1.1 b1.2)) (by delta sdP;delta sdP at a1;exact Aq s2 a1)
 exact⟨Bd.of (b:=2000001) (by lia) (by lia),Bd.of (b:=2000001) (by lia) (by lia)⟩
theorem UV{P:Pt}(h:BdP 10 P):BdP 80 (scP P):=⟨Bd.up (Bd.mul (Bd.num (x:=100000)) h.1),Bd.up (Bd.mul (Bd.num (x:=100000)) h.2)⟩
theorem VF{u:Int}(w:Way a u):BdP 80 (DK a u):=by
 obtain⟨a1,u1,_⟩:=w
 exact⟨Bd.of (b:=27000000) (by dsimp only;lia) (by dsimp only;lia),Bd.of (b:=27000000) (by dsimp only;lia) (by dsimp only;lia)⟩
theorem Sy{k:Int}{l:Nat}(hk:Bd 64 k){v:Pt}(h:BdP l v):BdP (64+l) (Bh k v):=⟨Bd.mul hk h.1,Bd.mul hk h.2⟩
theorem Sz{l:Nat}{v:Pt}(h:BdP l v):BdP l (Eh v):=⟨h.1.neg,h.2.neg⟩
theorem VG{l:Nat}{v:Pt}(h:BdP l v):BdP l (EL v):=⟨h.2.neg,h.1⟩
theorem Yy{l:Nat}{q:Pt}(hp:BdP k p)(hq:BdP l q):BdP (max k l+1) (Ae p q):=⟨Bd.sub hp.1 hq.1,Bd.sub hp.2 hq.2⟩
theorem MS{x α β:Pt}(hx:BdP 100 x)(ha:BdP 100 α)(hb:BdP 100 β):Kz (.poly (LW x α β)):=by
 exact alc hx.up (alc (BdP.up (BdP.add' hx ha)) (alc (BdP.up (BdP.add' (BdP.add' hx ha) hb)) (alc (BdP.up (BdP.add' hx hb)) Cc)))
theorem ew(hu:un=1∨un=2){e:Pt×Pt}(he:EdW e)(hb:BdP 10 e.1):Kz (lnF un e):=by
 obtain⟨A,B⟩:=e
 obtain⟨a,u,w,h⟩:=he
 dsimp only at h hb
 subst h
 have sb:=UU hu w
 delta lnF
 dsimp only
 refine rr (Jr ..) ?_
 exact MS (BdP.up (BdP.add' (UV hb) sb)) (BdP.up (Sy (Bd.num (x:= -2)) sb)) (VF w).up
theorem VH(hu:un=1∨un=2){e:Pt×Pt}(he:EdW e)(hb:BdP 10 e.1)(hb2:BdP 10 e.2):∀f∈c0F s un q e++c1F s un q e,Kz f:=by
 obtain⟨A,B⟩:=e
 obtain⟨a,u,w,h⟩:=he
 dsimp only at h hb hb2
 subst h
 have sb:=UU hu w
 have s1:=UV hb
 have s2:=UV hb2
 intro f m
 delta c0F c1F at m
 dsimp only at m
 by_cases c2:q.cap=2
 ·rw[Sp c2 w,Sq c2]at m
  rcases mem_append.mp m with m|m
  ·refine rr (mem_singleton.mp m) ?_
   exact MS (BdP.up (Yy s1 sb)) (BdP.up (Sy (Bd.num (x:=2)) sb)) (VG sb).up
  ·refine rr (mem_singleton.mp m) ?_
   exact MS (BdP.up (BdP.add' (BdP.add' s1 (VF w)) sb)) (BdP.up (Sy (Bd.num (x:= -2)) sb)) (Sz (VG sb)).up
 ·have z:∀a h,BdP 80 h→f∈AI (KH un q s) a h→Kz f:=fun a h hh m=>by
   delta AI at m
   dsimp only at m
   split at m
   ·refine rr (mem_singleton.mp m) ?_;exact BdP.up hh
   cases m
  rcases mem_append.mp m with m|m
  ·exact z _ _ s1 m
  ·exact z _ _ s2 m
theorem bP{O f g:Pt}(hO:BdP 100 O)(hf:BdP 180 f)(hg:BdP 180 g):Kz (.poly (IB O f g)):=by
 exact alc hO.up (alc (BdP.up (BdP.add' hO hf)) (alc (BdP.up (BdP.add' hO hg)) Cc))
theorem Yz{O f t g:Pt}(hO:BdP 100 O)(hf:BdP 180 f)(ht:BdP 180 t)(hg:BdP 180 g):Kz (.poly (Ho O f t g)):=by
 exact alc hO.up (alc (BdP.up (BdP.add' hO hf)) (alc (BdP.up (BdP.add' hO ht)) (alc (BdP.up (BdP.add' hO hg)) Cc)))
theorem eC{a1 a2:Int}(h:(a1*a1+u1*u1)*(a2*a2+u2*u2)≤2916):Bd 139 (rtJ a1 u1 a2 u2):=by
 have h0:0≤(a1*a1+u1*u1)*(a2*a2+u2*u2):=mul_nonneg (add_nonneg (sq0 _) (sq0 _)) (add_nonneg (sq0 _) (sq0 _))
 refine Bd.rootI ?_
 exact Bd.of (b:=236196000000000000000000000000000000000000) (by grind) (by omega)
theorem YA(hu:un=1∨un=2){x:(Pt×Pt)×(Pt×Pt)}(hx:MQ x)(hb:BdP 10 x.2.1):∀f∈joF s un q x,Kz f:=by
 obtain⟨⟨A,B⟩,B',C⟩:=x
 obtain⟨a1,u1,a2,u2,w1,w2,nn,e1,e2,e3⟩:=hx
 dsimp only at e1 e2 e3 hb
 subst e1
 subst e2
 subst e3
 have s1:=UU hu w1
 have s2:=UU hu w2
 have sO:=UV hb
 have rb:=eC nn
 have bf:BdP 30 (if 0<a1*u2-u1*a2 then Eh (sdP un a1 u1)else sdP un a1 u1):=by split;exact Sz s1;exact s1
 have bg:BdP 30 (if 0<a1*u2-u1*a2 then Eh (sdP un a2 u2)else sdP un a2 u2):=by split;exact Sz s2;exact s2
 intro f m
 delta joF at m
 dsimp only at m
 rw[Iy (un:=un) (cap:=q.cap) (join:=q.join) (l:=q.limit) (m:=mxS s) (goP A a1 u1) A (goP (goP A a1 u1) a2 u2) (GS A a1 u1) (GS (goP A a1 u1) a2 u2)]at m
 generalize(if 0<a1*u2-u1*a2 then Eh (sdP un a1 u1)else sdP un a1 u1)=f1 at*
 generalize(if 0<a1*u2-u1*a2 then Eh (sdP un a2 u2)else sdP un a2 u2)=g1 at*
 split at m
 ·refine rr (mem_singleton.mp m) ?_;exact sO.up
 split at m
 ·cases m
 split at m
 ·refine rr (mem_singleton.mp m) ?_
  refine Yz sO.up bf.up ?_ bg.up
  exact⟨Bd.up (Bd.divI (Bd.mul (Bd.add bf.1 bg.1) rb)),Bd.up (Bd.divI (Bd.mul (Bd.add bf.2 bg.2) rb))⟩
 ·refine rr (mem_singleton.mp m) ?_
  exact bP sO.up bf.up bg.up
theorem UW(hu:un=1∨un=2){es:List (Pt×Pt)}(ne:es≠[])(he:∀e∈es,EdW e∧BdP 10 e.1∧BdP 10 e.2)(hx:∀x∈es.zip (Em cl es),MQ x):∀f∈IM s un q cl es,Kz f:=by
 intro f m
 delta IM at m
 rcases mem_append.mp m with m|m
 ·rcases mem_append.mp m with m|m
  ·obtain⟨e,me,rfl⟩:=mem_map.mp m
   exact ew hu (he e me).1 (he e me).2.1
  ·obtain⟨x,mx,m⟩:=mem_flatMap.mp m
   have h2:=Lw (of_mem_zip mx).2
   exact YA hu (hx x mx) (he _ h2).2.1 f m
 ·split at m
  ·cases m
  ·have hd:es.head?.getD ((0,0),(0,0))∈es:=by
    cases es with
    |nil=>exact absurd rfl ne
    |cons e es=>exact .head _
   have hl:es.getLast?.getD ((0,0),(0,0))∈es:=by
    cases h:es.getLast? with
    |none=>exact absurd (List.getLast?_eq_none_iff.mp h) ne
    |some x=>exact List.mem_of_getLast? h
   rcases mem_append.mp m with m|m
   ·have k:=he _ hd
    exact VH hu k.1 k.2.1 k.2.2 f (mem_append.mpr (.inl m))
   ·have k:=he _ hl
    exact VH hu k.1 k.2.1 k.2.2 f (mem_append.mpr (.inr m))
theorem YB(hs:s∈spL)(h0:Bs s≠0)(K:Sr un q){x:(Pt×Pt)×(Pt×Pt)}(hx:MQ x):Bz x.1 x.2≠0→SG x.1 x.2 q.limit=true→BT q.half+AA (Gv x.1 q.half (Bz x.1 x.2)) (Gv x.2 q.half (Bz x.1 x.2))≠0:=by
 obtain⟨⟨A,B⟩,B',C⟩:=x
 obtain⟨a1,u1,a2,u2,w1,w2,nn,e1,e2,e3⟩:=hx
 dsimp only at e1 e2 e3
 subst e1
 subst e2
 subst e3
 exact(VD (cap:=q.cap) (A:=A) (p:=A) hs h0 K.hu K.hq K.hj K.hl w1 w2 nn).under
end
noncomputable abbrev O0:Pt:=(0,0)
theorem Js{k:Int}(hb:0<b):CM (k*b) b=k:=by
 have h:=Ir (x:=k*b) hb
 have e:b*CM (k*b) b-k*b=b*(CM (k*b) b-k):=by grind
 rw[e]at h
 have z:CM (k*b) b-k=0:=by
  generalize CM (k*b) b-k=d at h
  rcases Int.lt_trichotomy d 0 with q|q|q
  ·have:=mul_le_mul_of_nonneg_left (show d≤ -1 by exact Int.le_of_lt_add_one q) (le_of_lt hb)
   lia
  ·exact q
  ·have:=mul_le_mul_of_nonneg_left (show 1≤d by exact q) (le_of_lt hb)
   lia
 exact le_antisymm (Af (le_of_eq z)) (Af (le_of_eq z.symm))
theorem LS{k:Int}(hb:b≠0):Pq (k*b) b=k:=by
 delta Pq
 rcases lt_or_gt_of_ne hb with h|h
 ·refine rr (decide_eq_true h) ?_;refine rr (if_pos rfl) (rl (mul_neg ..) ?_);exact Js (by exact Af h)
 ·refine rr (decide_eq_false (lt_asymm h)) (rr (if_neg Bool.false_ne_true) ?_);exact Js h
theorem MT{s:Mx}(hs:Bs s≠0)(p:Pt):MD (mxS s) (Dj s p)=scP p:=by
 delta Bs at hs
 have hd:(mxS s).a*(mxS s).d-(mxS s).b*(mxS s).c=1000000000000*(s.a*s.d-s.b*s.c):=by delta mxS;dsimp only;grind
 have h0:1000000000000*(s.a*s.d-s.b*s.c)≠0:=by lia
 delta MD
 refine rr hd ?_
 have e1:((mxS s).d*((Dj s p).1-(mxS s).e)-(mxS s).c*((Dj s p).2-(mxS s).f))*1000000=100000*p.1*(1000000000000*(s.a*s.d-s.b*s.c)):=by delta mxS Dj;dsimp only;grind
 have e2:((mxS s).a*((Dj s p).2-(mxS s).f)-(mxS s).b*((Dj s p).1-(mxS s).e))*1000000=100000*p.2*(1000000000000*(s.a*s.d-s.b*s.c)):=by delta mxS Dj;dsimp only;grind
 refine rr e1 (rr e2 ?_);refine rr (LS h0) (rr (LS h0) ?_)
 rfl
theorem Om(h:scP p=scP q):p=q:=by
 delta scP at h
 have h1:=congrArg Prod.fst h
 have h2:=congrArg Prod.snd h
 dsimp only at h1 h2
 exact Prod.ext (by exact le_antisymm (BU 100000 (le_of_eq h1)) (BU 100000 (le_of_eq h1.symm))) (by exact le_antisymm (BU 100000 (le_of_eq h2)) (BU 100000 (le_of_eq h2.symm)))
theorem YC{s:Mx}(hs:Bs s≠0)(h:Dj s p=Dj s q):p=q:=by
 have:=congrArg (MD (mxS s)) h
 rw[MT hs,MT hs]at this
 exact Om this
theorem KA(h:EJ p (q::qs)):q≠p:=by
 cases h with
 |cons a u ha hu h0 h=>
  intro e
  have h1:=congrArg Prod.fst e
  have h2:=congrArg Prod.snd e
  dsimp only at h1 h2
  exact h0 ⟨by exact le_antisymm (BU 30 (le_of_eq h1)) (BU 30 (le_of_eq h1.symm)),by exact le_antisymm (BU 30 (le_of_eq h2)) (BU 30 (le_of_eq h2.symm))⟩
theorem LT{f:Pt→Pt}(hf:∀{x y},f x=f y→x=y):∀{ps:List Pt}{p:Pt},EJ p ps→BH (f p) (ps.map f)=ps.map f:=by
 intro ps
 induction ps with
 |nil=>intro p _;rfl
 |cons q qs ih=>
  intro p h
  have ne:=KA h
  show(if f q=f p then BH (f p) (qs.map f)else f q::BH (f q) (qs.map f))=_
  refine rr (if_neg (fun e=>ne (hf e))) ?_
  cases h with
  |cons a u ha hu h0 h=>refine rr (ih h) ?_;rfl
theorem On{f:Pt→Pt}(hf:∀{x y},f x=f y→x=y)(ps:List Pt):Lk (ps.map f)=(Lk ps).map f:=by
 have e:(1<(ps.map f).length∧(ps.map f).getLast?=(ps.map f).head?)↔(1<ps.length∧ps.getLast? =ps.head?):=by
  refine rr (length_map ..) ?_;refine rr (List.getLast?_map) (rr (List.head?_map) ?_)
  refine and_congr_right fun V=>⟨fun h=>?_,fun h=>by refine rr h ?_;rfl⟩
  cases h1:ps.getLast? with
  |none=>rw[h1]at h;cases h2:ps.head? with
   |none=>rfl
   |some y=>rw[h2]at h;cases h
  |some x=>rw[h1]at h;cases h2:ps.head? with
   |none=>rw[h2]at h;cases h
   |some y=>rw[h2]at h;refine rr (hf (Option.some.inj h)) ?_;rfl
 delta Lk
 by_cases h:1<ps.length∧ps.getLast? =ps.head?
 ·refine rr (if_pos h) ?_;refine rr (if_pos (e.mpr h)) (rr List.map_dropLast ?_);rfl
 ·refine rr (if_neg h) (rr (if_neg (fun q=>h (e.mp q))) ?_);rfl
theorem YD:∀(xs:List Pt) (tl:List Row) (f:List (Option Ln)) (ps:List Pt),DA (xs.map .l++tl) f ps=DA tl f (ps++xs):=by
 intro xs
 induction xs with
 |nil=>intro tl f ps;refine rr (append_nil ..) ?_;rfl
 |cons x xs ih=>
  intro tl f ps
  show DA (xs.map .l++tl) f (ps++[x])=_
  refine rr (ih ..) (rr (append_assoc ..) ?_);rfl
theorem Po{xs:List Pt}{x:Pt}(hx:xs≠[])(cl:Bool):Bg (ptR (x::xs)++if cl then[.z]else[])=Hk [some (if cl then Lk (II (x::xs))else II (x::xs),cl)]:=by
 have l2:¬(x::xs).length<2:=by
  cases xs with
  |nil=>exact absurd rfl hx
  |cons y ys=>simp only[length_cons];lia
 delta Bg
 show Hk (DA (xs.map .l++_) [none] [x])=_
 refine rr (YD ..) ?_
 cases cl with
 |false=>
  show Hk ([none]++[Bk (x::xs) false])=_
  delta Bk
  refine rr (if_neg (fun h=>l2 h.1)) ?_
  rfl
 |true=>
  show Hk (([none]++[Bk (x::xs) true])++[Bk [x] false])=_
  delta Bk
  refine rr (if_neg (fun h=>l2 h.1)) ?_;rewrite[if_pos (show([x]:List Pt).length<2∧false=false from⟨show 1<2 by decide,rfl⟩)]
  rfl
structure QOk(pts:List Pt)(cl:Bool)(qs:List Pt):Prop where
 n1:1≤qs.length
 n3:qs.length≤3
 st:EJ O0 qs
 last:cl=true→Fx (O0::qs)≠O0
 ends:GP pts cl=O0::qs++if cl then[O0]else[]
 mem:∀m∈pts,m∈O0::qs
 tr:(if cl then Lk pts else pts)=O0::qs
theorem gE(h:EJ O0 ps)(h1:1≤ps.length)(h3:ps.length≤3)(cl:Bool):∃qs,QOk (O0::ps) cl qs:=by
 cases cl with
 |false=>exact⟨ps,h1,h3,h,fun h=>Bool.noConfusion h,rfl,fun m h=>h,rfl⟩
 |true=>
  by_cases e:Fx (O0::ps)=O0
  · --the last point is the first:it is trimmed
   have ek:GP (O0::ps) true=O0::ps:=by
    unfold GP
    refine rr (if_neg (fun q=>q.2 e.symm)) (rr (append_nil ..) ?_);rfl
   have tk:(if true=true then Lk (O0::ps)else O0::ps)=(O0::ps).dropLast:=by
    refine rr (if_pos rfl) ?_
    unfold Lk
    refine if_pos ⟨by simp only[length_cons];simp+arith only[*],?_⟩
    unfold Fx at e
    cases hh:(O0::ps).getLast? with
    |none=>exact absurd (List.getLast?_eq_none_iff.mp hh) (cons_ne_nil _ _)
    |some x=>rw[hh]at e;refine rr (show x=O0 from e) ?_;rfl
   match ps,h with
   |[],_=>cases h1
   |[a],h=>exact absurd e (KA h)
   |[a,b],h=>
    have e:b=O0:=e
    subst e
    cases h with
    |cons x y hx hy h0 h=>
     exact⟨[_],show 1≤1 by decide,show 1≤3 by decide,EJ.cons x y hx hy h0 (.nil _),fun V q=>KA h q.symm,ek,by
      exact alc (.head _) (alc (.tail _ (.head _)) (alc (.head _) Cc)),tk⟩
   |[a,b,c],h=>
    have e:c=O0:=e
    subst e
    cases h with
    |cons x y hx hy h0 h=>
     cases h with
     |cons x2 y2 hx2 hy2 h02 h=>
      exact⟨[_,_],show 1≤2 by decide,show 2≤3 by decide,EJ.cons x y hx hy h0 (.cons x2 y2 hx2 hy2 h02 (.nil _)),fun V q=>KA h q.symm,ek,by
       exact alc (.head _) (alc (.tail _ (.head _)) (alc (.tail _ (.tail _ (.head _))) (alc (.head _) Cc))),tk⟩
   |a::b::c::d::r,_=>exact absurd h3 (by simp only[length_cons];lia)
  ·refine⟨ps,h1,h3,h,fun V=>e,?_,fun m h=>h,?_⟩
   ·unfold GP
    refine rr (if_pos (show true=true∧Hm (O0::ps)≠Fx (O0::ps)from⟨rfl,fun q=>e q.symm⟩)) ?_;rfl
   ·refine rr (if_pos rfl) ?_
    unfold Lk
    refine if_neg fun q=>e ?_
    unfold Fx
    refine rr q.2 ?_;rfl
theorem YE{f:Pt→Pt}(hf:∀{x y},f x=f y→x=y)(h:EJ O0 ps)(h1:1≤ps.length)(q:QOk (O0::ps) cl qs):
 Bg (ptR ((O0::ps).map f)++if cl then[.z]else[])=[((O0::qs).map f,cl)]:=by
 have hn:ps.map f≠[]:=by
  intro e
  rw[map_eq_nil_iff.mp e]at h1
  cases h1
 have dd:II ((O0::ps).map f)=(O0::ps).map f:=congrArg (f O0:: ·) (LT hf h)
 have k:=Po (x:=f O0) hn cl
 have dd':II (f O0::ps.map f)=(O0::ps).map f:=dd
 rw[dd']at k
 refine k.trans ?_
 have e:(if cl=true then Lk ((O0::ps).map f)else(O0::ps).map f)=(O0::qs).map f:=by
  refine rl q.tr ?_
  cases cl with
  |false=>rfl
  |true=>refine rr (if_pos rfl) (rr (if_pos rfl) ?_);rewrite[On hf];(with_reducible rfl)
 refine rr e ?_;rfl
theorem VI{s:Mx}(hs:Bs s≠0){pts:List Pt}(q:QOk pts cl qs):BQ (mxS s) ((O0::qs).map (Dj s),cl)=((O0::qs).map scP,cl):=by
 have e:((O0::qs).map (Dj s)).map (MD (mxS s))=(O0::qs).map scP:=by
  refine rr map_map ?_;exact map_congr_left fun p V=>MT hs p
 have dd:II ((O0::qs).map scP)=(O0::qs).map scP:=congrArg (scP O0:: ·) (LT Om q.st)
 have n1:=q.n1
 delta BQ
 dsimp only
 refine rr e ?_
 delta Bk
 refine rr (if_neg (fun h=>by have:=h.1;rw[length_map,length_cons]at this;exact cw n1 this)) (rr dd ?_)
 cases cl with
 |false=>rfl
 |true=>
  have:Lk ((O0::qs).map scP)=(O0::qs).map scP:=by
   rewrite[On Om]
   refine congrArg (List.map scP) ?_
   delta Lk
   refine if_neg fun k=>q.last rfl ?_
   delta Fx
   refine rr k.2 ?_;rfl
  refine rr (if_pos rfl) (rr this ?_);rfl
noncomputable def Fg(qs:List Pt)(cl:Bool):List (Pt×Pt):=(O0::qs++if cl then[O0]else[]).zip ((O0::qs++if cl then[O0]else[]).drop 1)
def EdV(n:Int)(e:Pt×Pt):Prop:=∃a u,Way a u∧e.2=goP e.1 a u∧a*a+u*u≤n
structure Net(k:Int)(P:Pt)(a u:Int):Prop where
 e:P=(30*a,30*u)
 a1: -(3*k)≤a
 a2:a≤3*k
 u1: -(3*k)≤u
 u2:u≤3*k
def LU(P:Pt):Prop:=∃a u,Net 3 P a u
structure fK(qs:List Pt)(cl:Bool):Prop where
 ne:Fg qs cl≠[]
 few:(Fg qs cl).length≤10
 ed:∀e∈Fg qs cl,EdW e∧LU e.1∧LU e.2
 pr:∀x∈(Fg qs cl).zip (Em cl (Fg qs cl)),MQ x
 draw:∀un s q,Bo (KH un q s) ((O0::qs).map scP,cl)=IM s un q cl (Fg qs cl)
 net:∀m∈O0::qs,LU m
 apart:∀e∈BW ((O0::qs).map scP,cl),e.1≠e.2
theorem EdV.pair{n k:Int}{A B C:Pt}(h1:EdV n (A,B))(h2:EdV k (B,C))(nk:n*k≤2916):MQ ((A,B),(B,C)):=by
 obtain⟨a,u,w,k1,l1⟩:=h1
 obtain⟨a2,u2,w2,k2,l2⟩:=h2
 have p1:=GR w.ne
 have p2:=GR w2.ne
 exact⟨a,u,a2,u2,w,w2,Int.le_trans (mul_le_mul l1 l2 (by exact le_of_lt p2) (by exact Aq l1 p1)) nk,k1,rfl,k2⟩
theorem EdV.apart{n:Int}{A B:Pt}(h:EdV n (A,B)):scP A≠scP B:=by
 obtain⟨a,u,w,k,_⟩:=h
 intro e
 have e:=Om e
 have h1:=congrArg Prod.fst (e.trans k)
 have h2:=congrArg Prod.snd (e.trans k)
 unfold goP at h1 h2
 dsimp only at h1 h2
 exact w.ne ⟨by exact le_antisymm (BU 30 (le_of_eq h1.symm)) (BU 30 (le_of_eq h1)),by exact le_antisymm (BU 30 (le_of_eq h2.symm)) (BU 30 (le_of_eq h2))⟩
theorem EdV.ed{n:Int}{A B:Pt}(h:EdV n (A,B))(hA:LU A)(hB:LU B):EdW (A,B)∧LU A∧LU B:=by
 obtain⟨a,u,w,k,_⟩:=h
 exact⟨⟨a,u,w,k⟩,hA,hB⟩
theorem Oo{k:Int}(h1: -k≤a)(h2:a≤k)(k0:0≤k):a*a≤k*k:=(Hn ⟨h1,h2⟩ ⟨h1,h2⟩ k0 k0).2
structure Stp(A B:Pt):Prop where
 go:EdV 18 (A,B)
 back:EdV 18 (B,A)
 net:∀{k a u},Net k A a u→∃a' u',Net (k+1) B a' u'
theorem stp{A:Pt}{u:Int}(ha: -3≤a∧a≤3)(hu: -3≤u∧u≤3)(h0:¬(a=0∧u=0)):Stp A (A.1+30*a,A.2+30*u):=by
 have q1:=Oo ha.1 ha.2 (by decide)
 have q2:=Oo hu.1 hu.2 (by decide)
 refine⟨⟨a,u,⟨⟨by exact Af ha.1,by exact Af ha.2⟩,⟨by exact Af hu.1,by exact Af hu.2⟩,h0⟩,rfl,by exact add_le_add q1 q2⟩,⟨-a,-u,⟨⟨by exact Af ha.2,by exact Af ha.1⟩,⟨by exact Af hu.2,by exact Af hu.1⟩,by lia⟩,?_,by refine rr (neg_mul_neg ..) (rr (neg_mul_neg ..) ?_);exact add_le_add q1 q2⟩,?_⟩
 ·delta goP
  exact Prod.ext (by dsimp only;simp+arith only[*]) (by dsimp only;simp+arith only[*])
 ·rintro k b v ⟨rfl,b1,b2,v1,v2⟩
  exact⟨b+a,v+u,Prod.ext (by dsimp only;simp+arith only[*]) (by dsimp only;simp+arith only[*]),by exact Aq ha.1 b1,by exact Aq ha.2 b2,by exact Aq hu.1 v1,by exact Aq hu.2 v2⟩
theorem Net.close{P:Pt}{u:Int}(h:Net 3 P a u)(ne:P≠O0):EdV 162 (P,O0):=by
 obtain⟨rfl,a1,a2,u1,u2⟩:=h
 have q1:=Oo a1 a2 (by decide)
 have q2:=Oo u1 u2 (by decide)
 refine⟨-a,-u,⟨⟨by exact neg_le_neg a2,by exact neg_le_neg a1⟩,⟨by exact neg_le_neg u2,by exact neg_le_neg u1⟩,?_⟩,?_,by refine rr (neg_mul_neg ..) (rr (neg_mul_neg ..) ?_);exact add_le_add q1 q2⟩
 ·rintro⟨h1,h2⟩
  exact ne (Prod.ext (by dsimp only;exact le_antisymm (Af (mI 30 (le_of_eq h1.symm))) (Af (mI 30 (le_of_eq h1)))) (by dsimp only;exact le_antisymm (Af (mI 30 (le_of_eq h2.symm))) (Af (mI 30 (le_of_eq h2)))))
 ·delta goP
  exact Prod.ext (by dsimp only;simp+arith only[*]) (by dsimp only;simp+arith only[*])
theorem Net.up{P:Pt}{u k:Int}(h:Net k P a u)(hk:k≤3):LU P:=by
 obtain⟨e,a1,a2,u1,u2⟩:=h
 exact⟨a,u,e,by exact FG hk hk hk a1,by exact FG hk hk hk a2,by exact FG hk hk hk u1,by exact FG hk hk hk u2⟩
theorem LU.close{P:Pt}(h:LU P)(ne:P≠O0):EdV 162 (P,O0):=by
 obtain⟨a,u,h⟩:=h
 exact h.close ne
theorem LU.bx{P:Pt}(h:LU P):(-270≤P.1∧P.1≤270)∧(-270≤P.2∧P.2≤270):=by
 obtain⟨a,u,rfl,a1,a2,u1,u2⟩:=h
 exact⟨⟨by dsimp only;exact Af (mI 30 a1),by dsimp only;exact Af (mI 30 a2)⟩,⟨by dsimp only;exact Af (mI 30 u1),by dsimp only;exact Af (mI 30 u2)⟩⟩
theorem LU.bd{P:Pt}(h:LU P):BdP 10 P:=by
 obtain⟨⟨a,b⟩,c,d⟩:=h.bx
 exact⟨Bd.of a b,Bd.of c d⟩
theorem LU.near{m:Pt}{e:Pt×Pt}(h:LU m)(k:LU e.1){x y:Int}(x1: -30≤x)(x2:x≤30)(y1: -30≤y)(y2:y≤30):Yt (m.1+x,m.2+y) e:=by
 obtain⟨⟨_,_⟩,_,_⟩:=h.bx
 obtain⟨⟨_,_⟩,_,_⟩:=k.bx
 exact⟨⟨by dsimp only;lia,by dsimp only;lia⟩,⟨by dsimp only;lia,by dsimp only;lia⟩⟩
theorem gF(L J1 J2:List Fig):L++[]++(J1++J2)=L++(J1++(J2++[]))++[]:=by simp only[append_nil]
theorem gG(L J1 J2 J3:List Fig):L++(J1++[])++(J2++J3)=L++(J1++(J2++(J3++[])))++[]:=by simp only[append_nil,append_assoc]
theorem gH(L J1 J2 J3 J4:List Fig):L++(J1++(J2++[]))++(J3++J4)=L++(J1++(J2++(J3++(J4++[]))))++[]:=by simp only[append_nil,append_assoc]
theorem eD{pts:List Pt}(q:QOk pts cl qs):fK qs cl:=by
 obtain⟨n1,n3,st,last,_,_,_⟩:=q
 have z0:Net 0 O0 0 0:=⟨rfl,by decide,by decide,by decide,by decide⟩
 have o0:=z0.up (by decide)
 cases st with
 |nil=>cases n1
 |cons a1 u1 ha1 hu1 h01 st=>
 have s1:=stp (A:=O0) ha1 hu1 h01
 generalize((O0.1+30*a1,O0.2+30*u1):Pt)=P1 at*
 obtain⟨_,_,z1⟩:=s1.net z0
 have o1:=z1.up (by decide)
 cases st with
 |nil=>
  cases cl with
  |false=>exact⟨cons_ne_nil _ _,show 1≤10 by decide,alc (s1.go.ed o0 o1) Cc,Cc,fun un s q=>rfl,alc o0 (alc o1 Cc),alc s1.go.apart Cc⟩
  |true=>exact⟨cons_ne_nil _ _,show 2≤10 by decide,alc (s1.go.ed o0 o1) (alc (s1.back.ed o1 o0) Cc),alc (s1.go.pair s1.back (by decide)) (alc (s1.back.pair s1.go (by decide)) Cc),fun un s q=>gF [lnF un (O0,P1),lnF un (P1,O0)] (joF s un q ((O0,P1),(P1,O0))) (joF s un q ((P1,O0),(O0,P1))),alc o0 (alc o1 Cc),alc s1.go.apart (alc s1.back.apart Cc)⟩
 |cons a2 u2 ha2 hu2 h02 st=>
 have s2:=stp (A:=P1) ha2 hu2 h02
 generalize((P1.1+30*a2,P1.2+30*u2):Pt)=P2 at*
 obtain⟨_,_,z2⟩:=s2.net z1
 have o2:=z2.up (by decide)
 cases st with
 |nil=>
  cases cl with
  |false=>exact⟨cons_ne_nil _ _,show 2≤10 by decide,alc (s1.go.ed o0 o1) (alc (s2.go.ed o1 o2) Cc),alc (s1.go.pair s2.go (by decide)) Cc,fun un s q=>rfl,alc o0 (alc o1 (alc o2 Cc)),alc s1.go.apart (alc s2.go.apart Cc)⟩
  |true=>
   have k:=o2.close (last rfl)
   exact⟨cons_ne_nil _ _,show 3≤10 by decide,alc (s1.go.ed o0 o1) (alc (s2.go.ed o1 o2) (alc (k.ed o2 o0) Cc)),alc (s1.go.pair s2.go (by decide)) (alc (s2.go.pair k (by decide)) (alc (k.pair s1.go (by decide)) Cc)),fun un s q=>gG [lnF un (O0,P1),lnF un (P1,P2),lnF un (P2,O0)] (joF s un q ((O0,P1),(P1,P2))) (joF s un q ((P1,P2),(P2,O0))) (joF s un q ((P2,O0),(O0,P1))),alc o0 (alc o1 (alc o2 Cc)),alc s1.go.apart (alc s2.go.apart (alc k.apart Cc))⟩
 |cons a3 u3 ha3 hu3 h03 st=>
 have s3:=stp (A:=P2) ha3 hu3 h03
 generalize((P2.1+30*a3,P2.2+30*u3):Pt)=P3 at*
 obtain⟨_,_,z3⟩:=s3.net z2
 have o3:=z3.up (by decide)
 cases st with
 |cons a4 u4 ha4 hu4 h04 st=>exact absurd n3 (Nat.not_le.mpr (Nat.le_add_left 4 _))
 |nil=>
  cases cl with
  |false=>exact⟨cons_ne_nil _ _,show 3≤10 by decide,alc (s1.go.ed o0 o1) (alc (s2.go.ed o1 o2) (alc (s3.go.ed o2 o3) Cc)),alc (s1.go.pair s2.go (by decide)) (alc (s2.go.pair s3.go (by decide)) Cc),fun un s q=>rfl,alc o0 (alc o1 (alc o2 (alc o3 Cc))),alc s1.go.apart (alc s2.go.apart (alc s3.go.apart Cc))⟩
  |true=>
   have k:=o3.close (last rfl)
   exact⟨cons_ne_nil _ _,show 4≤10 by decide,alc (s1.go.ed o0 o1) (alc (s2.go.ed o1 o2) (alc (s3.go.ed o2 o3) (alc (k.ed o3 o0) Cc))),alc (s1.go.pair s2.go (by decide)) (alc (s2.go.pair s3.go (by decide)) (alc (s3.go.pair k (by decide)) (alc (k.pair s1.go (by decide)) Cc))),fun un s q=>gH [lnF un (O0,P1),lnF un (P1,P2),lnF un (P2,P3),lnF un (P3,O0)] (joF s un q ((O0,P1),(P1,P2))) (joF s un q ((P1,P2),(P2,P3))) (joF s un q ((P2,P3),(P3,O0))) (joF s un q ((P3,O0),(O0,P1))),alc o0 (alc o1 (alc o2 (alc o3 Cc))),alc s1.go.apart (alc s2.go.apart (alc s3.go.apart (alc k.apart Cc)))⟩
theorem bQ:∀s∈spL,Gh s∧Gh (mxS s):=by delta Gh Bd;decide+kernel
theorem VJ:∀s∈spL,Bs s≠0:=by decide+kernel
theorem YF(hu:un=1∨un=2):Co (20*un*100000)=1000000*un:=by rcases hu with rfl|rfl<;>decide+kernel
theorem UX:∀(xs:List Pt) (tl:List Row) (ps:List Pt),Ha tl (ps++xs)→Ha (xs.map .l++tl) ps:=by
 intro xs
 induction xs with
 |nil=>intro tl ps h;rwa [append_nil]at h
 |cons x xs ih=>intro tl ps h;exact ih tl (ps++[x]) (by refine rr (append_assoc ..) ?_;exact h)
theorem bS{P:Pt}(h:BdP 10 P):BdP 60 (scP P):=⟨Bd.up (Bd.mul (Bd.of (b:=100000) (k:=17) (by decide) (by decide)) h.1),Bd.up (Bd.mul (Bd.of (b:=100000) (k:=17) (by decide) (by decide)) h.2)⟩
theorem bT{s:Mx}(hs:Gh s)(hm:Gh (mxS s)){v:Pt}(hv:BdP 10 v):Bd 1000 ((Dj s v).1-(mxS s).e)∧Bd 1000 ((Dj s v).2-(mxS s).f):=by
 have a:=hs.1;have b:=hs.2.1;have c:=hs.2.2.1;have d:=hs.2.2.2.1;have e:=hs.2.2.2.2.1;have f:=hs.2.2.2.2.2
 have e2:=hm.2.2.2.2.1;have f2:=hm.2.2.2.2.2
 have k:Bd 64 (100000:Int):=Bd.num
 have x:=Bd.mul hv.1 k
 have y:=Bd.mul hv.2 k
 exact⟨Bd.up (Bd.sub (Bd.add (Bd.add (Bd.mul a x) (Bd.mul c y)) e2) e2),Bd.up (Bd.sub (Bd.add (Bd.add (Bd.mul b x) (Bd.mul d y)) f2) f2)⟩
theorem YG(s:Mx)(p:Pt):Dj s p=Cb s (scP p):=by
 delta Dj Cb scP
 dsimp only
 congr 1
 ·grind
 ·grind
section
variable{a:LwB}
theorem eE(hp:a.pts=O0::ps)(st:EJ O0 ps)(h1:1≤ps.length)(h3:ps.length≤3)(hs:a.s∈spL)(q:QOk (O0::ps) a.cl qs)(E:fK qs a.cl):
 cp (CV a) (mxR a.s)∧Bg (CV a)=[((O0::qs).map (Dj a.s),a.cl)]:=by
 have h0:=VJ _ hs
 obtain⟨ms,mm⟩:=bQ _ hs
 have L:Bg (CV a)=[((O0::qs).map (Dj a.s),a.cl)]:=by
  delta CV
  refine rr hp ?_
  exact YE (fun h=>YC h0 h) st h1 q
 have er:CV a=.m (Dj a.s O0)::((ps.map (Dj a.s)).map .l++if a.cl then[.z]else[]):=by delta CV;refine rr hp ?_;rfl
 have n1:=q.n1
 have n3:=q.n3
 refine⟨⟨?_,?_,mm,?_,?_,?_,?_⟩,L⟩
 ·refine rr er ?_
  have:(if a.cl=true then[Row.z]else[]).length≤1:=by split<;>decide
  simp only[length_cons,length_append,length_map]
  exact Gu h3 this
 ·refine rr er ?_
  refine UX _ _ [Dj a.s O0] ?_
  cases a.cl
  ·trivial
  ·exact⟨cons_ne_nil _ _,trivial⟩
 ·intro e
  have hd:(mxR a.s).a*(mxR a.s).d-(mxR a.s).b*(mxR a.s).c=1000000000000*Bs a.s:=by delta mxR Bs;dsimp only;grind
  rw[hd]at e
  exact h0 (by lia)
 ·refine rr L ?_;exact show 1≤10 by decide
 ·intro l hl
  rw[L]at hl
  obtain rfl:=mem_singleton.mp hl
  refine⟨cons_ne_nil _ _,by refine rr (length_map ..) (rr length_cons ?_);exact Ay n3,fun p m=>?_⟩
  obtain⟨v,hv,rfl⟩:=mem_map.mp m
  exact bT ms mm (E.net v hv).bd
 ·intro l hl
  rw[L,map_singleton]at hl
  obtain rfl:=mem_singleton.mp hl
  have e:BQ (mxR a.s) ((O0::qs).map (Dj a.s),a.cl)=((O0::qs).map scP,a.cl):=VI h0 q
  refine rr e ?_
  refine⟨by refine rr (length_map ..) (rr length_cons ?_);simp+arith only[*],by refine rr (length_map ..) (rr length_cons ?_);exact Ay n3,fun p m=>?_,fun V=>E.apart⟩
  obtain⟨v,hv,rfl⟩:=mem_map.mp m
  exact bS (E.net v hv).bd
theorem Aa6:LwF:=by
 intro a pre
 obtain⟨⟨ps,hp,h1,h3,st⟩,he,hl,hu,hh,hc,hj,hlim,hs⟩:=pre
 obtain⟨qs,q⟩:=gE st h1 h3 a.cl
 have E:=eD q
 obtain⟨sq,L⟩:=eE hp st h1 h3 hs q E
 have h0:=VJ _ hs
 obtain⟨ms,mm⟩:=bQ _ hs
 have hu':a.units=1∨a.units=2:=by lia
 have K:Sr a.units a.q:=⟨hu',hh,hc,hj,hlim⟩
 have el:a.lines=Fg qs a.cl:=by refine rr hl (rr he ?_);refine rr hp (rr q.ends ?_);rfl
 have epen:aV a=KH a.units a.q a.s:=by delta aV;refine rr (YF hu') ?_;rfl
 have ef:Rh (aV a) (CV a)=IM a.s a.units a.q a.cl (Fg qs a.cl):=by
  delta Rh
  refine rr L (rr map_singleton ?_);refine rr (List.flatMap_singleton ..) (rr epen ?_)
  have e:BQ (KH a.units a.q a.s).m ((O0::qs).map (Dj a.s),a.cl)=((O0::qs).map scP,a.cl):=VI h0 q
  refine rr e ?_
  exact E.draw _ _ _
 have efo:Gj a=(IM a.s a.units a.q a.cl (Fg qs a.cl)).flatMap (Ak (KH a.units a.q a.s)):=by delta Gj;refine rr ef (rr epen ?_);rfl
 have n3:=q.n3
 refine⟨sq,?_,?_,⟨?_,ms,?_,?_,?_⟩,hu,hc,hj,?_⟩
 ·exact Yx _ _
 ·refine rr efo (rl (E.draw ..) ?_)
  exact le_trans (NI (KH a.units a.q a.s) (l:=((O0::qs).map scP,a.cl)) (by dsimp only;refine rr (length_map ..) (rr length_cons ?_);exact Ay n3)) (by decide)
 ·show Uk a.q a.cl a.lines
  refine rr el ?_
  refine⟨E.ne,E.few,fun e m=>?_,?_,?_,fun x m=>YB hs h0 K (E.pr x m)⟩
  ·obtain⟨⟨x,u,w,k⟩,b1,b2⟩:=E.ed e m
   refine⟨b1.bd.up,b2.bd.up,?_⟩
   have:=GR w.ne
   refine rr k (rr (Sl ..) ?_)
   have e:AA (30*x,30*u) (30*x,30*u)=900*(x*x+u*u):=by dsimp only[AA];grind
   refine rr e ?_;exact Af (mI 900 this)
  ·refine rr hh ?_;exact Bd.of (b:=20) (by lia) (by lia)
  ·exact Bd.of (b:=10000000) (by lia) (by lia)
 ·show a.pts≠[]∧a.pts.length≤10∧∀p∈a.pts,BdP 10 p
  refine rr hp ?_
  exact⟨cons_ne_nil _ _,by refine rr length_cons ?_;lia,fun p m=>(E.net p (q.mem p m)).bd⟩
 ·show∀e∈AE (Gj a) (0,0) (0,0),_
  have bz:BdP 380 ((0,0):Pt):=⟨Bd.of (b:=0) (by decide) (by decide),Bd.of (b:=0) (by decide) (by decide)⟩
  refine US _ _ _ (fun r m=>?_) bz bz
  rw[efo]at m
  obtain⟨f,mf,m⟩:=mem_flatMap.mp m
  exact bO ms (Bd.of (b:=2000000) (by lia) (by lia)) (UW hu' E.ne (fun e m=>⟨(E.ed e m).1,(E.ed e m).2.1.bd,(E.ed e m).2.2.bd⟩) E.pr f mf) r m
 ·show∀m∈a.pts,∀x y:Int,-30≤x→x≤30→ -30≤y→y≤30→∀due,Jj a.q a.cl (m.1+x,m.2+y) a.lines=some due→decide (((AE (Gj a) (0,0) (0,0)).map (AS (Dj a.s (m.1+x,m.2+y)))).sum≠0)=due
  intro m hm x y x1 x2 y1 y2 due hd
  rw[hp]at hm
  rw[el]at hd
  have c:=Yu (q:=a.q) (cl:=a.cl) (p:=(m.1+x,m.2+y)) hs h0 K E.ne (fun e me=>⟨(E.ed e me).1,(E.net m (q.mem m hm)).near (E.ed e me).2.1 x1 x2 y1 y2⟩) E.pr
  have k:=Pm (cap:=a.q.cap) (join:=a.q.join) (limit:=a.q.limit) (half:=1000000*a.units) h0 (by exact ne_of_gt (Af (mI 1000000 hu.1))) (scP (m.1+x,m.2+y)) _ c.2 (0,0) (0,0)
  have k2:((AE (Gj a) (0,0) (0,0)).map (AS (Dj a.s (m.1+x,m.2+y)))).sum=DO a.s a.units (m.1+x,m.2+y) (IM a.s a.units a.q a.cl (Fg qs a.cl)):=by
   refine rr efo (rr (YG ..) ?_);exact k
  refine rr k2 ?_
  exact c.1 due hd
 ·lia
end
noncomputable def eG(K:Frag)(f:Addr):Bool:=match K.lookup f with
 |some ⟨_,_,.func _,_⟩=>true
 |_=>false
set_option tactic.hygienic true in
theorem YH(h:eG K f=true):∃o,K.lookup f=some o∧o.data=.func (IY K f):=by
 delta eG at h
 delta IY
 split at h
 ·rename_i e
  refine rr e ?_
  exact⟨_,rfl,rfl⟩
 ·cases h
noncomputable def YI(K:Frag)(f:Addr)(ps:List Str):Bool:=eG K f&&codeIn K (IY K f).code (IY K f).qualname&&(IY K f).closure.isEmpty&&Nat.beq (IY K f).globals mainGlobals&&Nat.beq (IY K f).builtins builtinsNs
 &&ps.all (fun x=>(scC f).names.lookup x==some .local||(scC f).names.lookup x==some .cell)&&decide ps.Nodup&&(scC f).names.all (fun p=>(p.2 != .cell&&p.2 != .free)||((cellsFrom 0 (scC f).names []).lookup p.1).isSome)
 &&!(scC f).isCoroutine&&!(scC f).isGenerator&&((scC f).kind== .function)
theorem YQ.of{ps:List Str}(h:YI K f ps=true)(hb:(IY K f).body=.stmts (AY f))(hs:(IY K f).scope=scC f)(hv:∀vs:List Value,vs.length=ps.length→∀s:Shared,K.In s.heap→BindsTo s (IY K f) ⟨vs,[]⟩ (ps.zip vs)):YQ K f ps:=by
 delta YI at h
 rw[←hs]at h
 obtain⟨h,h11⟩:=BX h
 obtain⟨h,h10⟩:=BX h
 obtain⟨h,h9⟩:=BX h
 obtain⟨h,h8⟩:=BX h
 obtain⟨h,h7⟩:=BX h
 obtain⟨h,h6⟩:=BX h
 obtain⟨h,h5⟩:=BX h
 obtain⟨h,h4⟩:=BX h
 obtain⟨h,h3⟩:=BX h
 obtain⟨h1,h2⟩:=BX h
 exact⟨⟨YH h1,h2,hb,List.isEmpty_iff.mp h3,eq_of_beq_eq_true h4,eq_of_beq_eq_true h5,hv,Tb h6,of_decide_eq_true h7,Ta h8,Cf h9,Cf h10,eq_of_beq h11⟩,hs⟩
theorem MU{k:Addr}{f:Str}{fs:List Str}(h:(Nat.beq C k&&List.elem f fs)=true):C=k∧f∈fs:=
 have e:=BX h
 ⟨eq_of_beq_eq_true e.1,List.elem_iff.mp e.2⟩
def Op(K:Frag)(C:Addr)(fs:List Str):Prop:=CU K C∧∀f∈fs,BP K C f
theorem YJ(h1:Op K 141 ["points","is_closed"])(h2:Op K 194 ["lengths","number","left"])(h3:Op K 301 ["half","cap","join","limit","matrix","is_turned","rows"]):∀C f,ZG C f=true→CU K C∧BP K C f:=by
 intro C f h
 rcases Bool.or_eq_true_iff.mp h with h|h
 ·obtain⟨rfl,hf⟩:=MU h
  exact⟨h1.1,h1.2 f hf⟩
 ·rcases Bool.or_eq_true_iff.mp h with h|h
  ·obtain⟨rfl,hf⟩:=MU h
   exact⟨h2.1,h2.2 f hf⟩
  ·obtain⟨rfl,hf⟩:=MU h
   exact⟨h3.1,h3.2 f hf⟩
noncomputable def tk:Nat→(Nat→Value)→List Value
 |0,_=>[]
 |n+1,g=>g 0::tk n fun i=>g (i+1)
theorem bU:∀(vs:List Value),vs=tk vs.length fun i=>vs.getD i .none:=by
 intro vs
 induction vs with
 |nil=>
  exact rfl
 |cons v vs ih=>
  exact congrArg (v:: ·) (ih)
noncomputable def bV(fd:FuncData)(vs:List Value):{k:Option (Array Value)→Sem (List (Str×Value))//bindArgs fd ⟨vs,[]⟩=seqItems? fd.defaults>>=k}:=⟨_,rfl⟩
theorem Aa5{T:Addr}{ps:List Str}{m:Nat}(hd:(IY K f).defaults=.ref T)(ho:K.lookup T=some o)(hs:o.data=.seq items m)(hn:ps.length=n)(h:∀g:Nat→Value,(bV (IY K f) (tk n g)).1 (some items)=pure (ps.zip (tk n g))):∀vs:List Value,vs.length=ps.length→∀s:Shared,K.In s.heap→BindsTo s (IY K f) ⟨vs,[]⟩ (ps.zip vs):=by
 intro vs e s X
 have h:=h fun i=>vs.getD i .none
 rw[←hn,←e,←bU]at h
 exact binds_K X hd ho hs (bV _ vs).2 h
noncomputable def SA(f:Addr):Bool:=f==170||f==213
noncomputable def eH:Option (Option Value)→Tok
 |some (some (.int _ t))=>t
 |_=>0
noncomputable def gv1(K:Frag)(x:Str):GV→Option (Option Value)×Bool×Bool×Option (Option Value)×Option Value
 | .fn f=>(nsIn K mainGlobals x,keepIn K (.ref f),true,none,none)
 | .lend f=>(nsIn K mainGlobals x,keepIn K (.ref f),true,none,none)
 | .cls C fI=>(nsIn K mainGlobals x,keepIn K (.ref C),makesIn K C,findIn K (.ref C) "__init__",typeIn K (.ref fI))
 | .dat _=>(nsIn K mainGlobals x,true,true,none,none)
 | .bi=>(nsIn K mainGlobals x,!(x=="__name__"),true,none,none)
noncomputable def gv2(K:Frag)(x:Str):GV→Option (Option Value)×Bool×Bool×Option (Option Value)×Option Value
 | .fn f=>(some (some (.ref f)),true,true,none,none)
 | .lend f=>(some (some (.ref f)),true,true,none,none)
 | .cls C fI=>(some (some (.ref C)),true,true,some (some (.ref fI)),some (.type "function"))
 | .dat d=>(some (some (.int d (eH (nsIn K mainGlobals x)))),true,true,none,none)
 | .bi=>(some none,true,true,none,none)
structure ct(K:Frag):Prop where
 chk:(fnL.all fun p=>YI K p.1 p.2.1)=true
 body:(fnL.map fun p=>((IY K p.1).body,(IY K p.1).scope))=fnL.map fun p=>(.stmts (AY p.1),scC p.1)
 bind:∀g:Nat→Value,(fnL.map fun p=>bif SA p.1 then none else some (bindArgs (IY K p.1) ⟨tk p.2.1.length g,[]⟩))=fnL.map fun p=>bif SA p.1 then none else some (pure (p.2.1.zip (tk p.2.1.length g)))
 b1:∀vs:List Value,vs.length=3→∀s:Shared,K.In s.heap→BindsTo s (IY K 170) ⟨vs,[]⟩ ((["self","lengths","offset"]:List Str).zip vs)
 b2:∀vs:List Value,vs.length=4→∀s:Shared,K.In s.heap→BindsTo s (IY K 213) ⟨vs,[]⟩ ((["line","lengths","offset","most"]:List Str).zip vs)
 cls:([141,194,301].map fun C=>(findIn K (.ref C) "__getattribute__",findIn K (.ref C) "__getattr__",findIn K (.ref C) "__setattr__",plainOver K C,hasDictIn K C))=[141,194,301].map fun V=>(some (some (.builtin "object.__getattribute__")),some none,some (some (.builtin "object.__setattr__")),true,true)
 f1:((["points","is_closed"]:List Str).map fun f=>findIn K (.ref 141) f)=[some none,some none]
 f2:((["lengths","number","left"]:List Str).map fun f=>findIn K (.ref 194) f)=[some none,some none,some none]
 f3:((["half","cap","join","limit","matrix","is_turned","rows"]:List Str).map fun f=>findIn K (.ref 301) f)=[some none,some none,some none,some none,some none,some none,some none]
 meth:(Td.map fun p=>(findIn K (.ref p.2.1) p.1,typeIn K (.ref p.2.2),keepIn K (.ref p.2.2),List.elem p.2.1 [141,194,301]))=Td.map fun p=>(some (some (.ref p.2.2)),some (.type "function"),true,true)
 glo:(Ml.map fun p=>gv1 K p.1 p.2)=Ml.map fun p=>gv2 K p.1 p.2
 bi:(biL.map fun x=>nsIn K mainGlobals x)=biL.map fun V=>some none
 spa:nsIn K mainGlobals "_law_spaces"=some (some (.ref 322))
 fsp:Fz (fun b o=>K.lookup b=some o) (.ref 322) (.tuple [.list [.int 1,.int 0,.int 0,.int 1,.int 0,.int 0],.list [.int 0,.int 1,.int (-1),.int 0,.int 5,.int 0],.list [.int 2,.int 1,.int 0,.int 1,.int (-3),.int 4],.list [.int 1,.int 1,.int (-1),.int 1,.int 0,.int 0],.list [.int 3,.int (-1),.int 1,.int (-2),.int 0,.int 7],.list [.int (-1),.int 0,.int 2,.int 1,.int 1,.int 1]])
theorem bW:(fnL.filterMap fun p=>bif SA p.1 then some p else none)=[fp 170 ["self","lengths","offset"] 27 1,fp 213 ["line","lengths","offset","most"] 29 0]:=by kernel_rfl
theorem eI(F:ct K):∀p∈fnL,YQ K p.1 p.2.1:=by
 intro p hp
 have hb:=map_inj_left.mp F.body p hp
 refine YQ.of (all_eq_true.mp F.chk p hp) (congrArg Prod.fst hb) (congrArg Prod.snd hb) ?_
 by_cases hd:SA p.1=true
 ·have hq:p∈(fnL.filterMap fun p=>bif SA p.1 then some p else none):=List.mem_filterMap.mpr ⟨p,hp,by refine rr hd ?_;rfl⟩
  rw[bW]at hq
  rcases mem_cons.mp hq with rfl|hq
  ·exact F.b1
  ·cases mem_singleton.mp hq
   exact F.b2
 ·refine Wk fun vs e=>?_
  have h:=map_inj_left.mp (F.bind fun i=>vs.getD i .none) p hp
  rw[eq_false_iff.mpr hd]at h
  have h:=Option.some.inj h
  rw[←e,←bU]at h
  exact h
theorem VK{l:List α}{f g:α→β}(e:l.map f=l.map g){x:α}(h:x∈l):f x=g x:=map_inj_left.mp e x h
theorem eJ(h:(findIn K (.ref C) "__getattribute__",findIn K (.ref C) "__getattr__",findIn K (.ref C) "__setattr__",plainOver K C,hasDictIn K C)=(some (some (.builtin "object.__getattribute__")),some none,some (some (.builtin "object.__setattr__")),true,true)):CU K C:=
 ⟨congrArg (·.1) h,congrArg (·.2.1) h,congrArg (·.2.2.1) h,congrArg (·.2.2.2.1) h,congrArg (·.2.2.2.2) h⟩
theorem SB{fs:List Str}(h:CU K C)(e:(fs.map fun f=>findIn K (.ref C) f)=fs.map fun V=>some none):Op K C fs:=⟨h,fun f hf=>map_inj_left.mp e f hf⟩
theorem Oq(F:ct K):∀C∈[141,194,301],CU K C:=fun C hC=>eJ (VK F.cls hC)
theorem eK:∀{g:GV},gv1 K x g=gv2 K x g→ce K x g
 | .fn _,h=>⟨congrArg (·.1) h,congrArg (·.2.1) h⟩
 | .lend _,h=>⟨congrArg (·.1) h,congrArg (·.2.1) h⟩
 | .cls _ _,h=>⟨congrArg (·.1) h,congrArg (·.2.1) h,congrArg (·.2.2.1) h,congrArg (·.2.2.2.1) h,congrArg (·.2.2.2.2) h⟩
 | .dat _,h=>⟨_,congrArg (·.1) h⟩
 | .bi,h=>⟨congrArg (·.1) h,fun e=>nomatch (Cf (congrArg (·.2.1) h)).symm.trans (beq_iff_eq.mpr e)⟩
theorem gI(F:ct K):Cy K where
 fld:=YJ (SB (Oq F _ (List.mem_cons_self ..)) F.f1) (SB (Oq F _ (.tail _ (.head _))) F.f2) (SB (Oq F _ (.tail _ (.tail _ (.head _)))) F.f3)
 meth p hp:=have h:=map_inj_left.mp F.meth p hp;⟨Oq F _ (List.elem_iff.mp (congrArg (·.2.2.2) h)),congrArg (·.1) h,congrArg (·.2.1) h,congrArg (·.2.2.1) h⟩
 glo p hp:=eK (map_inj_left.mp F.glo p hp)
theorem bX(h:∀x∈biL,nsIn K mainGlobals x=some none):∀x,biL.contains x=true→nsIn K mainGlobals x=some none:=fun x e=>h x (contains_iff_mem.mp e)
noncomputable def kfG(F:ct K):KF where
 K:=K
 tab:=gI F
 fn:=fun V V V V h=>eI F _ (ET h)
 bi:=bX (fun x hx=>VK (f:=fun x=>nsIn K mainGlobals x) (g:=fun V=>some none) F.bi hx)
 spa:=F.spa
 fsp:=F.fsp
theorem bZ{ps:List Str}(S:Ao O K U)(ok:YN K f fd body ps){Q:Value→Shared→Prop}(hD:A.depth<recursionLimit)(hl:vs.length=ps.length)
 (hb:∀b o,U.get? b=some o→s.heap.get? b=some o)
 (h:∀Y h' tk,AN fd.scope Y→(∀b o,s.heap.get? b=some o→h'.get? b=some o)→(s.heap.get? Y.locals=none∧∃m,h'.Ns Y.locals m)→(∀x c,Y.cells.lookup x=some c→s.heap.get? c=none∧∃v,h'.IsCell c v)→
  (∀x v,(x,v)∈ps.zip vs→AB h' Y x v)→wpAny (model O w) (A.deeper Y) (execs body Y) (fun f s'=>Q (flV f) s') (fun V V=>False) {s with heap:=h',toks:=tk}):
 codeAny (model O w) A (.call (.ref f) ⟨vs,[]⟩) (KQ Q E) s:=by
 obtain⟨o,ho,hd⟩:=ok.look
 have X:=S.X.keeps hb
 have names:∀k x,((cellsFrom k fd.scope.names []).lookup x).isSome=((cellsFrom 0 fd.scope.names []).lookup x).isSome:=fun k x=>CQ (cellsFrom_names _ _ _ _ _ rfl) x
 have hmem:∀x∈ps.zip vs,x.1∈ps:=fun x hx=>(of_mem_zip (a:=x.1) (b:=x.2) hx).1
 have hnd:((ps.zip vs).map (·.1)).Nodup:=by
  refine rr (List.map_fst_zip (by exact Ay (Nat.le_of_eq hl.symm))) ?_;exact ok.nodup
 refine(IU hD (X _ _ ho) hd (S.lim.keeps hb) (codeRec_of X ok.code) ok.body (ok.binds vs hl s X) ok.clo (fun x hx=>?_) (fun s1 ic=>?_) ok.co ok.gen ok.kind)
 ·rcases ok.kinds x.1 (hmem x hx)with q|q
  ·exact .inl q
  ·exact .inr ⟨q,by refine rr (names ..) ?_;exact ok.cells _ (.inl q)⟩
 ·obtain⟨h',tk,rfl,hk⟩:=ic.done
  have hL:(callEnvC fd s.heap.objs.size f).locals=s.heap.objs.size:=rfl
  refine wpAny_mono (h (callEnvC fd s.heap.objs.size f) h' tk ⟨rfl,ok.kind,ok.glob,ok.blt,fun x c e q=>?_,fun x y c e1 e2=>?_,fun x hx=>?_⟩ hk ⟨AH _ (le_refl _),_,ic.toInCall.ns⟩ (fun x c e=>⟨AH _ ?_,_,ic.cell x c e⟩) fun x v hx=>?_) (fun f s' q=>q) fun V V q=>q.elim
  ·have:=ic.above x c (mem_of_lookup e)
   rw[q]at this;exact lt_irrefl _ this
  ·exact name_of_addr ic.apart (mem_of_lookup e1) (mem_of_lookup e2)
  ·have:=ok.cells x hx
   rw[←names (s.heap.objs.size+1)]at this
   exact isSome_iff_exists.mp this
  ·exact Nat.le_of_lt (ic.above x c (mem_of_lookup e))
  ·have hx1:(callEnvC fd s.heap.objs.size f).kindOf x=fd.scope.names.lookup x:=rfl
   rcases ok.kinds x (hmem _ hx)with q|q
   ·exact .inl ⟨hx1.trans q,_,ic.toInCall.ns,Nb _ _ x v hnd hx (hx1.trans q)⟩
   ·have hs:=ok.cells x (.inl q)
    rw[←names (s.heap.objs.size+1)]at hs
    obtain⟨c,hc⟩:=isSome_iff_exists.mp hs
    have:=ic.cell x c hc
    rw[Nc _ _ x v hnd hx (by refine rr hx1 (rr q ?_);decide)]at this
    exact .inr ⟨.inl (hx1.trans q),c,hc,this⟩
theorem eN(S:Ao O K U){ps:List Str}{Q:Dat→Prop}(ok:YN K f fd body ps)(hlen:ds.length=ps.length)
 (h:Ss O w U fd.scope n body (BE ps ds) (fun fl V=>Q (flD fl)))  (hh:A.handled=none) (hd:A.depth+3*n+111<recursionLimit) (hu:A.units+20*n+103<cLine) (hf:A.frames=some [])
 (base:∀b o,U.get? b=some o→s.heap.get? b=some o) (fz:FzL (fun b o=>s.heap.get? b=some o) vs ds):
 codeAny (model O w) A (.call (.ref f) ⟨vs,[]⟩) (KQ (fun r s'=>∃d h' tk',s'={s with heap:=h',toks:=tk'}∧(∀b o,s.heap.get? b=some o→h'.get? b=some o)∧Fz (fun b o=>h'.get? b=some o) r d∧Q d) (fun V V=>False)) s:=by
 have hvl:vs.length=ds.length:=fz.length
 have fzv:FzL (vis [] [] s.heap) vs ds:=fz.mono fun b o e=>⟨not_mem_nil,not_mem_nil,e⟩
 refine bZ S ok (by exact Ay hd) (by simp[hvl,hlen]) base fun Y h' tk hE hk hl hc hv=>?_
 have rows:∀x b,(x,b)∈BE ps ds→∃u,AB h' Y x u∧Cp (vis [] [] s.heap) s.heap u b []∧∀c∈([]:List Addr),c∈([]:List Addr):=fun x b hx=>by
  obtain⟨k,d,h1,h2,rfl⟩:=GB hx
  obtain⟨u,hu,fu⟩:∃u,vs[k]?=some u∧Fz (vis [] [] s.heap) u d:=fzv.get h2
  exact⟨u,hv x u (GC h1 hu),.dat fu,fun V h=>h⟩
 obtain⟨r,kv⟩:=Wd (U:=U) (st:=BE ps ds) (fun b o e=>⟨not_mem_nil,not_mem_nil,base b o e⟩) (fun V h=>absurd h not_mem_nil) (fun V h=>absurd h not_mem_nil) (fun V h=>absurd h not_mem_nil) hk hl hc (Ey ok.nodup) (fun V=>[]) rows (fun x y ne c hc1=>nomatch hc1)
 have room:CG (A.deeper Y) n:=by
  refine⟨hh,?_,?_,Y,[],?_,?_,?_,hE.blt,hE.glob⟩
  ·show A.depth+1+3*n+110<recursionLimit
   exact Ay hd
  ·show A.units+3+20*n+100<cLine
   exact Ay hu
  ·show A.frames.map (Y:: ·)=_
   refine rr hf ?_;rfl
  ·refine rr hE.isSc ?_;exact ok.gen
  ·refine rr hE.isSc ?_;exact ok.co
 refine wpAny_mono (h (A.deeper Y) Y _ [] {s with heap:=h',toks:=tk} room hE r) ?_ fun V V x=>x
 rintro fl s2 ⟨fl',st',as',h2,t2,rfl,S2,r2,fo,q⟩
 refine⟨flD fl',h2,t2,rfl,fun b o e=>?_,fo.val.mono fun b o x=>x.2.2,q⟩
 exact S2.keep b o (fun z=>by rw[z,hl.1]at e;cases e) (fun x V z=>by rw[(hc x b z).1]at e;cases e) not_mem_nil (hk b o e)
theorem Aa3(S:Ao O P.K U){ps:List Str}{Q:Dat→Prop}(ok:OkF P f ps)(hlen:ds.length=ps.length)
 (h:Ss O w U (scC f) n (AY f) (BE ps ds) (fun fl V=>Q (flD fl)))  (hh:A.handled=none) (hd:A.depth+3*n+111<recursionLimit) (hu:A.units+20*n+103<cLine) (hf:A.frames=some [])
 (base:∀b o,U.get? b=some o→s.heap.get? b=some o) (fz:FzL (fun b o=>s.heap.get? b=some o) vs ds):
 codeAny (model O w) A (.call (.ref f) ⟨vs,[]⟩) (KQ (fun r s'=>∃d h' tk',s'={s with heap:=h',toks:=tk'}∧(∀b o,s.heap.get? b=some o→h'.get? b=some o)∧Fz (fun b o=>h'.get? b=some o) r d∧Q d) (fun V V=>False)) s:=
 eN S ok.1 hlen (ok.2▸h) hh hd hu hf base fz
set_option tactic.hygienic true in
theorem Aa1(hI:IntsAre vs ns):FzL (fun b o=>h.get? b=some o) vs (ns.map .int):=by
 induction hI with
 |nil=>exact .nil
 |cons=>rename_i ih;exact .cons (.int _ _) ih
set_option tactic.hygienic true in
theorem UY{P:Params}{l:Addr}{x:WData}(w:Well P h (.ref l) x):∃o,h.get? l=some o∧∀vs n,o.cls=.type "list"→o.data=.seq vs n→o=seqObj "list" vs n:=by
 cases w<;>(rename_i ho;refine⟨_,ho,fun vs n c d=>?_⟩;first|(cases d;rfl)|(cases d;done)|(cases d;simp at c;done)|(cases c;done))
theorem Aa0{P:Params}{l:Addr}{x:WData}(w:Well P h (.ref l) x)(hL:h.IsList l vs.toArray):∃n,h.get? l=some (seqObj "list" vs.toArray n):=by
 obtain⟨o,e,c,n,d⟩:=hL
 obtain⟨o',e',k⟩:=UY w
 obtain rfl:=Option.some.inj (e.symm.trans e')
 exact⟨n,k _ _ c d▸e⟩
end Mine.Internal
open PySem PySem.W PyProof.Rows
namespace Mine.hd
theorem tw17311223219408574766:0=0:=rfl
theorem tw17087091549796120035:0=0:=rfl
theorem tw6924109203229866365:0=0:=rfl
theorem tw15616948245753086127:0=0:=rfl
theorem tw13047593935725612058:0=0:=rfl
theorem tw7519716089354478335:0=0:=rfl
theorem tw611909796895871117:0=0:=rfl
theorem tw14892549342360969540:0=0:=rfl
theorem tw978945382295711627:0=0:=rfl
theorem tw4065347644161347641:0=0:=rfl
theorem tw6293948785866598258:0=0:=rfl
theorem tw5961118342813265553:0=0:=rfl
theorem tw9641152695372364146:0=0:=rfl
theorem tw18185175575083235020:0=0:=rfl
theorem tw11128854368766332075:0=0:=rfl
theorem tw4377701919642642989:0=0:=rfl
theorem tw8068729725432388964:0=0:=rfl
theorem tw10216474801634566288:0=0:=rfl
theorem tw5148922909946612681:0=0:=rfl
theorem tw5781342201191254626:0=0:=rfl
theorem tw17711083657039698284:0=0:=rfl
theorem tw1452849714261714991:0=0:=rfl
theorem tw16302227732802510677:0=0:=rfl
theorem tw14620637471214046174:0=0:=rfl
theorem tw12631932088317031055:0=0:=rfl
theorem tw14176624398918483544:0=0:=rfl
theorem tw15043168886218598503:0=0:=rfl
theorem tw2867327485932766208:0=0:=rfl
theorem tw6990203504111849199:0=0:=rfl
theorem tw15103106377680225435:0=0:=rfl
theorem tw11652457597714270106:0=0:=rfl
theorem tw16649331688326792143:0=0:=rfl
theorem tw4856431653887292112:0=0:=rfl
theorem tw307737655149646647:0=0:=rfl
theorem tw3953601041324332601:0=0:=rfl
theorem tw11117797201346649052:0=0:=rfl
theorem tw2216850387143573719:0=0:=rfl
theorem tw8684328023851190084:0=0:=rfl
theorem tw461538923250603899:0=0:=rfl
theorem tw6838551448383532254:0=0:=rfl
theorem tw18241275227582772068:0=0:=rfl
theorem tw1847840615245081061:0=0:=rfl
theorem tw7822882547125802209:0=0:=rfl
theorem tw8047900516022102942:0=0:=rfl
theorem tw8671608845466749128:0=0:=rfl
theorem tw14896477498954680388:0=0:=rfl
theorem tw3418944747029953165:0=0:=rfl
theorem tw8343274005884668182:0=0:=rfl
theorem tw16772102934027710169:0=0:=rfl
theorem tw13330244855972007585:0=0:=rfl
theorem tw17599816209265215132:0=0:=rfl
theorem tw2114630138375439770:0=0:=rfl
theorem tw7752767780024739350:0=0:=rfl
theorem tw17650839729002327288:0=0:=rfl
theorem tw12092154237167983948:0=0:=rfl
theorem tw6528754448969337418:0=0:=rfl
theorem tw14598272352848978880:0=0:=rfl
theorem tw5373601922739893978:0=0:=rfl
theorem tw8770205317985620760:0=0:=rfl
theorem tw7540655947842036084:0=0:=rfl
theorem tw12373568994912964417:0=0:=rfl
theorem tw14353793391729792155:0=0:=rfl
theorem tw7746578258024575070:0=0:=rfl
theorem tw12588582704262371052:0=0:=rfl
theorem tw5282504435634884242:0=0:=rfl
theorem tw11893437276241958245:0=0:=rfl
theorem tw11953376511379268794:0=0:=rfl
theorem tw1382963296337349011:0=0:=rfl
theorem tw3182187488490625086:0=0:=rfl
theorem tw18300207936620678264:0=0:=rfl
theorem tw15368132723985388332:0=0:=rfl
theorem tw13518370688599389936:0=0:=rfl
theorem tw5363564295841288755:0=0:=rfl
theorem tw5562173858411828344:0=0:=rfl
theorem tw13919464512627920130:0=0:=rfl
theorem tw7891253978561527248:0=0:=rfl
theorem tw5278057926702712004:0=0:=rfl
theorem tw13903934854276604550:0=0:=rfl
theorem tw3443669649825651883:0=0:=rfl
theorem tw3915529967508079626:0=0:=rfl
theorem tw6545403380812914513:0=0:=rfl
theorem tw12173100003817136821:0=0:=rfl
theorem tw7082855905992002993:0=0:=rfl
theorem tw11631869004601391166:0=0:=rfl
theorem tw4478964076566166474:0=0:=rfl
theorem tw6982297934935202809:0=0:=rfl
theorem tw7721951785955056133:0=0:=rfl
theorem tw14294001040229213422:0=0:=rfl
theorem tw10525666975642140466:0=0:=rfl
theorem tw7510230149288206974:0=0:=rfl
theorem tw8493152586797012548:0=0:=rfl
theorem tw2502866573005156581:0=0:=rfl
theorem tw12901994302517312135:0=0:=rfl
theorem tw6819123309680001836:0=0:=rfl
theorem tw5987830557187376847:0=0:=rfl
theorem tw17901334829092211166:0=0:=rfl
theorem tw2195365466389143174:0=0:=rfl
theorem tw13225837485096350037:0=0:=rfl
theorem tw7628703163842673926:0=0:=rfl
theorem tw16037735763661986305:0=0:=rfl
theorem tw6598312636042714100:0=0:=rfl
theorem tw3759623122121258479:0=0:=rfl
theorem tw1865391376527767206:0=0:=rfl
theorem tw16155205043701107222:0=0:=rfl
theorem tw8117029840178788049:0=0:=rfl
theorem tw8545014587354053640:0=0:=rfl
theorem tw9427301549700849589:0=0:=rfl
theorem tw7610815399733428385:0=0:=rfl
theorem tw1882180444382439491:0=0:=rfl
theorem tw701787995468756871:0=0:=rfl
theorem tw12050417470231563642:0=0:=rfl
theorem tw10655696196156170337:0=0:=rfl
theorem tw190519026028168232:0=0:=rfl
theorem tw9277588360372424766:0=0:=rfl
theorem tw17047115858639842297:0=0:=rfl
theorem tw8153272752920879585:0=0:=rfl
theorem tw17420951861521290806:0=0:=rfl
theorem tw5978321128707920903:0=0:=rfl
theorem tw6060742912462422084:0=0:=rfl
theorem tw9783614193127449063:0=0:=rfl
theorem tw5635641802508607975:0=0:=rfl
theorem tw13483081372092288885:0=0:=rfl
theorem tw8977307856219701671:0=0:=rfl
theorem tw4706079058837389440:0=0:=rfl
theorem tw8727321023445011275:0=0:=rfl
theorem tw2274498078352570744:0=0:=rfl
theorem tw9244321171653502345:0=0:=rfl
theorem tw4993660671451451078:0=0:=rfl
theorem tw3085183777334472315:0=0:=rfl
theorem tw1129884963351977449:0=0:=rfl
theorem tw5716766192118558609:0=0:=rfl
theorem tw7085514621470718492:0=0:=rfl
theorem tw6830512106363814048:0=0:=rfl
theorem tw13855946660403688772:0=0:=rfl
theorem tw5245234834050458271:0=0:=rfl
theorem tw10258999931320997221:0=0:=rfl
theorem tw10170382586518783626:0=0:=rfl
theorem tw15166520500009309586:0=0:=rfl
theorem tw17574625026820762457:0=0:=rfl
theorem tw16412773359747925120:0=0:=rfl
theorem tw16794629799341752650:0=0:=rfl
theorem tw17673860158736603733:0=0:=rfl
theorem tw10403243965636340961:0=0:=rfl
theorem tw4225703048834024713:0=0:=rfl
theorem tw9557236495431379559:0=0:=rfl
theorem tw4172343393113369950:0=0:=rfl
theorem tw4015398097383911347:0=0:=rfl
theorem tw16945582573551092051:0=0:=rfl
theorem tw9430268157657104642:0=0:=rfl
theorem tw3828038474966422129:0=0:=rfl
theorem tw18433733373944582078:0=0:=rfl
theorem tw8004679753235328684:0=0:=rfl
theorem tw16853341256802265648:0=0:=rfl
theorem tw13217225542625558698:0=0:=rfl
theorem tw15527848837575444561:0=0:=rfl
theorem tw13638418597567726942:0=0:=rfl
theorem tw1292937080889116121:0=0:=rfl
theorem tw3381375190539634487:0=0:=rfl
theorem tw17986969038992634876:0=0:=rfl
theorem tw13828106393651249627:0=0:=rfl
theorem tw17588044629489971554:0=0:=rfl
theorem tw10727248033764811480:0=0:=rfl
theorem tw4851647983119433812:0=0:=rfl
theorem tw16473244170626142550:0=0:=rfl
theorem tw226724450230711188:0=0:=rfl
theorem tw10743916045514856203:0=0:=rfl
theorem tw10784824025267889561:0=0:=rfl
theorem tw14705683404202351889:0=0:=rfl
theorem tw15508949281206285077:0=0:=rfl
theorem tw4272726840584523970:0=0:=rfl
theorem tw3109861748172591687:0=0:=rfl
theorem tw16828841361933241965:0=0:=rfl
theorem tw15595854959937240912:0=0:=rfl
theorem tw15083628210047938546:0=0:=rfl
theorem tw6196171512934965099:0=0:=rfl
theorem tw10458740792067480800:0=0:=rfl
theorem tw3219085151875037572:0=0:=rfl
theorem tw1506431575118746342:0=0:=rfl
theorem tw17183224562656869120:0=0:=rfl
theorem tw13866372431405929976:0=0:=rfl
theorem tw15833661619300960221:0=0:=rfl
theorem tw12112201142124510154:0=0:=rfl
theorem tw17213754286329925777:0=0:=rfl
theorem tw3530705653197291679:0=0:=rfl
theorem tw6820862383352777685:0=0:=rfl
theorem tw11161378853769524075:0=0:=rfl
theorem tw402640490398009360:0=0:=rfl
theorem tw8716120427605611371:0=0:=rfl
theorem tw15837987909243819085:0=0:=rfl
theorem tw7120233287515763914:0=0:=rfl
theorem tw7763873220885509757:0=0:=rfl
theorem tw6882427118574961969:0=0:=rfl
theorem tw15642763164714097627:0=0:=rfl
theorem tw2845679848157327705:0=0:=rfl
theorem tw6276725880618359904:0=0:=rfl
theorem tw991583007596301734:0=0:=rfl
theorem tw18293851220164018083:0=0:=rfl
theorem tw4478166936697009375:0=0:=rfl
theorem tw1589133516308662214:0=0:=rfl
theorem tw15643275761693703936:0=0:=rfl
theorem tw13431754692932380062:0=0:=rfl
theorem tw1610171440888473627:0=0:=rfl
theorem tw18103342009636024947:0=0:=rfl
theorem tw16194383521188589630:0=0:=rfl
theorem tw432457690288141553:0=0:=rfl
theorem tw189712035060473897:0=0:=rfl
theorem tw11210553801493137410:0=0:=rfl
theorem tw17387473266821786944:0=0:=rfl
theorem tw13220430256171166289:0=0:=rfl
theorem tw6123773746684550334:0=0:=rfl
theorem tw13285133528070534704:0=0:=rfl
theorem tw1413172679324656950:0=0:=rfl
theorem tw9719896912496429819:0=0:=rfl
theorem tw5902613922787404954:0=0:=rfl
theorem tw5920070799505406782:0=0:=rfl
theorem tw8428860471423672150:0=0:=rfl
theorem tw1580110805410547442:0=0:=rfl
theorem tw10583446816852156582:0=0:=rfl
theorem tw10030107230732127627:0=0:=rfl
theorem tw12949589719889679912:0=0:=rfl
theorem tw8879563391730754479:0=0:=rfl
theorem tw8268277133935991078:0=0:=rfl
theorem tw14955159897011116063:0=0:=rfl
theorem tw10024716035694756283:0=0:=rfl
theorem tw10246146449241189800:0=0:=rfl
theorem tw5130813555471234732:0=0:=rfl
theorem tw7512474625130614241:0=0:=rfl
theorem tw16259696140248634718:0=0:=rfl
theorem tw15089522573102190283:0=0:=rfl
theorem tw11917015161858427179:0=0:=rfl
theorem tw18166333605607142505:0=0:=rfl
theorem tw11513968764499736323:0=0:=rfl
theorem tw212345690472687942:0=0:=rfl
theorem tw16299908979028503884:0=0:=rfl
theorem tw11054480109507316185:0=0:=rfl
theorem tw11631947586910100387:0=0:=rfl
theorem tw2327210489368252092:0=0:=rfl
theorem tw14560493823538711346:0=0:=rfl
theorem tw5480042469492414594:0=0:=rfl
theorem tw16634568088961857937:0=0:=rfl
theorem tw10715940730921527339:0=0:=rfl
theorem tw5629675986466331604:0=0:=rfl
theorem tw13790719812936386609:0=0:=rfl
theorem tw6164396464334811476:0=0:=rfl
theorem tw18245042118932799458:0=0:=rfl
theorem tw2315301623876862497:0=0:=rfl
theorem tw9702936160620672325:0=0:=rfl
theorem tw8934143017859847078:0=0:=rfl
theorem tw8025032847418708242:0=0:=rfl
theorem tw4846842124234013525:0=0:=rfl
theorem tw15422856539912107476:0=0:=rfl
theorem tw464777395874653626:0=0:=rfl
theorem tw1836080755315867724:0=0:=rfl
theorem tw17330945745186091897:0=0:=rfl
theorem tw16970440968685349367:0=0:=rfl
theorem tw1409312971732116557:0=0:=rfl
theorem tw4870687313549177768:0=0:=rfl
theorem tw1011335219593555734:0=0:=rfl
theorem tw5292301768408028288:0=0:=rfl
theorem tw162610821266807592:0=0:=rfl
theorem tw18093812233618175256:0=0:=rfl
theorem tw12399718760709695909:0=0:=rfl
theorem tw5054737718236178183:0=0:=rfl
theorem tw13409441903868389331:0=0:=rfl
theorem tw9763420282994701918:0=0:=rfl
theorem tw4360684699965382250:0=0:=rfl
theorem tw17672654358674132775:0=0:=rfl
theorem tw8735263284916673568:0=0:=rfl
theorem tw17893044597097874663:0=0:=rfl
theorem tw13267510147771200024:0=0:=rfl
theorem tw11032806212648032379:0=0:=rfl
theorem tw14906377314874228009:0=0:=rfl
theorem tw15042006015671813226:0=0:=rfl
theorem tw6931407450589930559:0=0:=rfl
theorem tw16640546478005224243:0=0:=rfl
theorem tw18343703819029505601:0=0:=rfl
theorem tw17552017554478351026:0=0:=rfl
theorem tw17681399029576232318:0=0:=rfl
theorem tw8959176491354863721:0=0:=rfl
theorem tw2930668341846507884:0=0:=rfl
theorem tw13277076834127875243:0=0:=rfl
theorem tw7023726343779634624:0=0:=rfl
theorem tw5511420028821071320:0=0:=rfl
theorem tw13315533130655954831:0=0:=rfl
theorem tw3309697970292668127:0=0:=rfl
theorem tw7270182246851987180:0=0:=rfl
theorem tw12614811148066621264:0=0:=rfl
theorem tw13289513938125300765:0=0:=rfl
theorem tw9741134391959003819:0=0:=rfl
theorem tw14553816603554493358:0=0:=rfl
theorem tw17234923516513369237:0=0:=rfl
theorem tw10949625832625181284:0=0:=rfl
theorem tw11709330566771433103:0=0:=rfl
theorem tw16722109127936396110:0=0:=rfl
theorem tw5657824000916062451:0=0:=rfl
theorem tw11402939732021071671:0=0:=rfl
theorem tw5608270528595127837:0=0:=rfl
theorem tw6555240042291301478:0=0:=rfl
theorem tw6411954120941647267:0=0:=rfl
theorem tw11784021949795303011:0=0:=rfl
theorem tw922143313871775805:0=0:=rfl
theorem tw10792051664901133789:0=0:=rfl
theorem tw17258206423299326598:0=0:=rfl
theorem tw3442329435671937591:0=0:=rfl
theorem tw12070051907170230399:0=0:=rfl
theorem tw11232374478483605306:0=0:=rfl
theorem tw9345676750909349944:0=0:=rfl
theorem tw2442259710966052079:0=0:=rfl
theorem tw16211521421427940678:0=0:=rfl
theorem tw2999033326186475339:0=0:=rfl
theorem tw17714235663813219645:0=0:=rfl
theorem tw5366084841770067474:0=0:=rfl
theorem tw8789358453043137523:0=0:=rfl
theorem tw10614716105012338702:0=0:=rfl
theorem tw4315991029959535628:0=0:=rfl
theorem tw1800889605409440832:0=0:=rfl
theorem tw9960721518486171458:0=0:=rfl
theorem tw16007149819294483003:0=0:=rfl
theorem tw5036846961687405229:0=0:=rfl
theorem tw1997569388931296116:0=0:=rfl
theorem tw1888629882248256335:0=0:=rfl
theorem tw5416991563250132298:0=0:=rfl
theorem tw11389486352061984695:0=0:=rfl
theorem tw3008623586974134963:0=0:=rfl
theorem tw16920754564084929960:0=0:=rfl
theorem tw519851828213033955:0=0:=rfl
theorem tw17975533764899295144:0=0:=rfl
theorem tw16868993833207775613:0=0:=rfl
theorem tw13893168526513508166:0=0:=rfl
theorem tw1848646778235469078:0=0:=rfl
theorem tw4402725079659364252:0=0:=rfl
theorem tw1600037746751723098:0=0:=rfl
theorem tw17739348878880393726:0=0:=rfl
theorem tw11319892378374348655:0=0:=rfl
theorem tw728884934406724761:0=0:=rfl
theorem tw13368278939475635651:0=0:=rfl
theorem tw11465210709893060100:0=0:=rfl
theorem tw16029623286316568529:0=0:=rfl
theorem tw3451239065008710300:0=0:=rfl
theorem tw12307468782608717224:0=0:=rfl
theorem tw18291419657060728153:0=0:=rfl
theorem tw11319097763535126812:0=0:=rfl
theorem tw8585376936270615527:0=0:=rfl
theorem tw15759970867653108152:0=0:=rfl
theorem tw6407587892757256292:0=0:=rfl
theorem tw10957212852122400357:0=0:=rfl
theorem tw8457440626546761165:0=0:=rfl
theorem tw9566141503761928105:0=0:=rfl
theorem tw16157073509204512506:0=0:=rfl
theorem tw15529170255622000948:0=0:=rfl
theorem tw13181700845877081190:0=0:=rfl
theorem tw12647368939536790636:0=0:=rfl
theorem tw16240987189780228909:0=0:=rfl
theorem tw7754304195085646258:0=0:=rfl
theorem tw15673258824015622330:0=0:=rfl
theorem tw11754176132448286083:0=0:=rfl
theorem tw3493717111155160527:0=0:=rfl
theorem tw22551697357593593:0=0:=rfl
theorem tw6291416237084387574:0=0:=rfl
theorem tw3795277891434052102:0=0:=rfl
theorem tw6868836192036940282:0=0:=rfl
theorem tw7355570028127101125:0=0:=rfl
theorem tw6767318904944593275:0=0:=rfl
theorem tw10601615944963115059:0=0:=rfl
theorem tw10678649693572172417:0=0:=rfl
theorem tw14478148883734587675:0=0:=rfl
theorem tw12271959270614036898:0=0:=rfl
theorem tw2608437505485318709:0=0:=rfl
theorem tw15852365999677673905:0=0:=rfl
theorem tw3646829019195819677:0=0:=rfl
theorem tw18264374347568628810:0=0:=rfl
theorem tw4971549296188076032:0=0:=rfl
theorem tw17177331786930743035:0=0:=rfl
theorem tw758273949599710562:0=0:=rfl
theorem tw7289634563603522867:0=0:=rfl
theorem tw17542962492245011380:0=0:=rfl
theorem tw14463523764311415789:0=0:=rfl
theorem tw17252143746492648416:0=0:=rfl
theorem tw17001982702790524580:0=0:=rfl
theorem tw6184460063843016694:0=0:=rfl
theorem tw14457593812595234344:0=0:=rfl
theorem tw5343241284826551009:0=0:=rfl
theorem tw2323474266016966308:0=0:=rfl
theorem tw11162318198679636149:0=0:=rfl
theorem tw921402611603131450:0=0:=rfl
theorem tw6264232113106981867:0=0:=rfl
theorem tw18219297243305740317:0=0:=rfl
theorem tw4702841417184801058:0=0:=rfl
theorem tw11136197038861592535:0=0:=rfl
theorem tw18293732401869909652:0=0:=rfl
theorem tw11660266114150955751:0=0:=rfl
theorem tw6442067068224118133:0=0:=rfl
theorem tw3229955645248102723:0=0:=rfl
theorem tw10603584201595350602:0=0:=rfl
theorem tw15948780112781908787:0=0:=rfl
theorem tw14980023328507725902:0=0:=rfl
theorem tw12602439190401603521:0=0:=rfl
theorem tw2887051446865420828:0=0:=rfl
theorem tw9657781627882305391:0=0:=rfl
theorem tw2068664650715991707:0=0:=rfl
theorem tw1241404454085649124:0=0:=rfl
theorem tw2329189449893159454:0=0:=rfl
theorem tw5035495667387967832:0=0:=rfl
theorem tw5190246844813560578:0=0:=rfl
theorem tw18385348092688986762:0=0:=rfl
theorem tw14103535550066685397:0=0:=rfl
theorem tw8356816923877370021:0=0:=rfl
theorem tw26425463804135960:0=0:=rfl
theorem tw3350844169311001129:0=0:=rfl
theorem tw16432713993328977331:0=0:=rfl
theorem tw4297731678662094536:0=0:=rfl
theorem tw12629568148972539762:0=0:=rfl
theorem tw7028611270464810887:0=0:=rfl
theorem tw16011055738799735888:0=0:=rfl
theorem tw1194904439430580092:0=0:=rfl
theorem tw12113243949977362033:0=0:=rfl
theorem tw8228950375871286339:0=0:=rfl
theorem tw10879034167726328663:0=0:=rfl
theorem tw6394381022753523788:0=0:=rfl
theorem tw17062030032774818151:0=0:=rfl
theorem tw6305734824756694309:0=0:=rfl
theorem tw2252305205657439004:0=0:=rfl
theorem tw2708950531961675432:0=0:=rfl
theorem tw1439246655266547700:0=0:=rfl
theorem tw6438293893037913957:0=0:=rfl
theorem tw3429492842335990350:0=0:=rfl
theorem tw12023040214023829324:0=0:=rfl
end Mine.hd
set_option Elab.async true
set_option maxHeartbeats 80000000 in
theorem Mine.hd:PySem.Challenge.rw_rh0180_01.Holds:=by
 w_on;o_law;k_head;(case hw=>w_witness2)
 k_fill
 intro w s₀ s₁ mg mb G Y fa o pm cd doc dV kV ho hd hcd hD hmg hg args vals as hpre hlay hrd hwl hlo
 have KX:=kIn_of Y
 have X:=(Ground.X G).1
 have V:=(Ground.X G).2
 try w_nolog (first|(have GL:=glob_more (Ground.glob G (by first|k_qdec|decide+kernel) (by first|k_qdec|decide+kernel)) V)|(have GL:=glob_more (Ground.glob G (by decide+kernel)) V))
 refine Ground.open G ?_
 intro T B D TE TW
 clear D TE TW
 wrow_args hpre hlay hrd hwl hlo
 rename_i ns hs hlay0 hL1 hr1 hl2 as1 as2 l vs as3 hL ra w1 r0 hI hr hcond hcond2
 refine enter_call ?_
 w_top on
 refine codeAny_mono ?_ (fun _ _ g=>GoodW.toG g)
 have hfa:fa=458:=by
  have:=mg_of KX T.g (show nsIn _ mainGlobals (PySem.Str.ofString "law")=some (some (Value.ref 458))from rfl)
  rw[show mg (PySem.Str.ofString "law")=some (Value.ref fa)from hmg]at this
  simpa using this
 subst hfa
 have F:Mine.Internal.ct (Mine.hd.heap_1_39 w.params):=⟨by kernel_rfl,by kernel_rfl,fun g=>by kernel_rfl,Mine.Internal.Aa5 (ps:=["self","lengths","offset"]) rfl rfl rfl rfl (fun g=>by kernel_rfl),Mine.Internal.Aa5 (ps:=["line","lengths","offset","most"]) rfl rfl rfl rfl (fun g=>by kernel_rfl),by kernel_rfl,by kernel_rfl,by kernel_rfl,by kernel_rfl,by kernel_rfl,by kernel_rfl,by kernel_rfl,by kernel_rfl,
  .tuple (vs:=[.ref 316,.ref 317,.ref 318,.ref 319,.ref 320,.ref 321]) (n:=0) (by kernel_rfl) (.cons (.list (vs:=[.int 1 649,.int 0 650,.int 0 651,.int 1 652,.int 0 653,.int 0 654]) (n:=0) (by kernel_rfl) (.cons (.int _ _) (.cons (.int _ _) (.cons (.int _ _) (.cons (.int _ _) (.cons (.int _ _) (.cons (.int _ _) .nil))))))) (.cons (.list (vs:=[.int 0 655,.int 1 656,.int (-1) 658,.int 0 659,.int 5 660,.int 0 661]) (n:=0) (by kernel_rfl) (.cons (.int _ _) (.cons (.int _ _) (.cons (.int _ _) (.cons (.int _ _) (.cons (.int _ _) (.cons (.int _ _) .nil))))))) (.cons (.list (vs:=[.int 2 662,.int 1 663,.int 0 664,.int 1 665,.int (-3) 667,.int 4 668]) (n:=0) (by kernel_rfl) (.cons (.int _ _) (.cons (.int _ _) (.cons (.int _ _) (.cons (.int _ _) (.cons (.int _ _) (.cons (.int _ _) .nil))))))) (.cons (.list (vs:=[.int 1 669,.int 1 670,.int (-1) 672,.int 1 673,.int 0 674,.int 0 675]) (n:=0) (by kernel_rfl) (.cons (.int _ _) (.cons (.int _ _) (.cons (.int _ _) (.cons (.int _ _) (.cons (.int _ _) (.cons (.int _ _) .nil))))))) (.cons (.list (vs:=[.int 3 676,.int (-1) 678,.int 1 679,.int (-2) 681,.int 0 682,.int 7 683]) (n:=0) (by kernel_rfl) (.cons (.int _ _) (.cons (.int _ _) (.cons (.int _ _) (.cons (.int _ _) (.cons (.int _ _) (.cons (.int _ _) .nil))))))) (.cons (.list (vs:=[.int (-1) 685,.int 0 686,.int 2 687,.int 1 688,.int 1 689,.int 1 690]) (n:=0) (by kernel_rfl) (.cons (.int _ _) (.cons (.int _ _) (.cons (.int _ _) (.cons (.int _ _) (.cons (.int _ _) (.cons (.int _ _) .nil))))))) .nil))))))⟩
 have S:Mine.Internal.Ao PySem.Challenge.rw_rh0180_01.row.prog (Mine.Internal.kfG F).K s₁.heap:=⟨KX,⟨mg,mb,T.g,T.b,T.builtins⟩,T.nolimit,T.seer (by kernel_rfl),by kernel_rfl⟩
 obtain⟨nl,ho2⟩:=Mine.Internal.Aa0 w1 hL
 have hz:ns.length≤63:=by exact(Mine.Internal.Ay (Int.ofNat_le.mp (Int.not_lt.mp hcond)))
 refine codeAny_mono (Mine.Internal.Aa3 (n:=12) (ds:=[.list (ns.map .int)]) (Q:=fun d=>d=.bool true) S (Mine.Internal.Aa2 (Mine.Internal.kfG F)) rfl (Mine.Internal.Aa4 (n:=0) S hz Mine.Internal.Aa6) rfl (by decide) (by decide) rfl (fun _ _ e=>e) (.cons (.list ho2 (Mine.Internal.Aa1 hI)) .nil)) ?_
 intro r s' hr
 rcases r with e|(v|_|_|_)<;>first|exact hr.elim|skip
 obtain⟨d,h',tk',rfl,keep,fz,rfl⟩:=hr
 cases fz
 refine⟨.inl ⟨_,.bool true,[],rfl,fun _=>rfl,.bool true,?_,fun _=>⟨.nil,fun a ha=>absurd ha List.not_mem_nil⟩⟩,keep,rfl,hg⟩
 first|rfl|kernel_rfl
theorem PySem.Challenge.cw_rh0180_01_holds : PySem.Challenge.rw_rh0180_01.Holds :=
 Mine.hd