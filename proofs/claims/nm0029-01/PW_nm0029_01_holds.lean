import PyProof.Rows.All
import Wide.All
import OpenK.AllK
import Wide.FinOn
import Lean
import PySem.Challenge.RW_nm0029_01
open PySem PySem.W PyProof.Rows PySem.Calls
set_option Elab.async false
set_option maxRecDepth 100000
set_option tactic.hygienic false
set_option linter.unusedVariables false
set_option linter.unusedSimpArgs false
set_option linter.unusedSectionVars false
set_option inductive.autoPromoteIndices false
set_option bootstrap.genMatcherCode false
section
namespace Mine
section
local macro_rules | `(tactic| o_head $_)=>`(tactic| contradiction)
private theorem frag (h:False):PySem.Challenge.rw_nm0029_01.Holds:=by
 refine holds_law h.elim λsaid=>?_
 k_head
end
end Mine
end
section
local macro_rules | `(tactic| omega)=>`(tactic| lia)
section
namespace Mine
private theorem noS {α:Type} {c:α} {P:Prop} (e:(none:Option α) = some c):P:=nomatch e
private theorem rY {a j:Nat} (h:j < a):a - j = a - (j + 1) + 1:=(Nat.succ_pred_eq_of_pos (Nat.sub_pos_of_lt h)).symm
private theorem wn {a j:Nat} (h:j < a):a - (j + 1) < a - j:=Nat.sub_lt_sub_left h (Nat.lt_succ_self j)
private theorem wEq {n a t:Nat} (h:n + a = t) (ha:a < t):n - 1 + (a + 1) = t:=by
 rw [← Nat.add_assoc,Nat.add_right_comm,Nat.sub_add_cancel (Nat.pos_of_ne_zero λe=>Nat.ne_of_lt ha (by rw [e,Nat.zero_add] at h;exact h))];exact h
private theorem zy {n a t:Nat} (h:n + a = t) (ha:a < t):n - 1 < n:=Nat.sub_lt (Nat.pos_of_ne_zero λz=>Nat.ne_of_lt ha (by rw [z,Nat.zero_add] at h;exact h)) Nat.one_pos
private theorem lh {j n k:Nat} (h:n≤k):min j n≤k:=Nat.le_trans (Nat.min_le_right j n) h
private theorem leI {n b:Nat} (h:n≤b):(n:Int)≤(b:Int):=Int.ofNat_le.mpr h
private theorem neN {a b:Nat} {P:Prop} (h:a = b) (e:Nat.beq a b = false):P:=absurd h (Nat.ne_of_beq_eq_false e)
private theorem kT {α:Type} {o:Option α} {x:α} (e:o = some x):o≠none:=λz=>noS (z.symm.trans e)
private theorem mO {h:Heap} {a:Addr} {o:Obj} {k:String} (e:h.get? a = some o) (c:o.cls = .type k) (n:(k == "tuple") = false):∀ items,¬ h.IsTuple a items:=λitems ⟨o',e',c',_⟩=>by
 obtain rfl:=Option.some.inj (e.symm.trans e')
 exact absurd (Value.type.inj (c.symm.trans c')) (beq_eq_false_iff_ne.mp n)
inductive MV where
 | none
 | bool (b:Bool)
 | int (i:Int)
 | sym (n:Nat)
 | text (k:Nat)
 | tup (l:List MV)
 | ref (i:Nat)
 | tab (i:Nat)
 | arg (a:Nat)
inductive MObj where
 | list (l:List MV)
 | dict (l:List (Int×Int))
 | set (l:List Int)
 | full
 | inst (c:Nat) (f:List (Nat×MV))
noncomputable abbrev MH:=List MObj
noncomputable abbrev Phi:=List (Addr×Option Addr)
noncomputable def symTab:List Str:=["r","k","const","copy","call","sub","store","load","jump","branch","table","give","see","f","value","steps"," block ","move","slot","name","callreg"]
noncomputable def cJ:List Str:=["op","dst","args","more","is_volatile","line","number","steps","end","name","params","is_static","slots","blocks","registers","has_value"]
noncomputable def bo:Nat→Addr
 | 0=>54
 | 1=>75
 | _=>96
noncomputable def db:Nat→Addr
 | 0=>35
 | 1=>36
 | _=>37
noncomputable def own (O:Phi):List Addr:=O.flatMap λp=>p.1 :: p.2.toList
mutual
noncomputable def RV (O:Phi) (h:Heap):MV→Value→Prop
 | .none,v=>v = .none
 | .bool b,v=>v = .bool b
 | .int i,v=>∃ t,v = .int i t
 | .sym n,v=>∃ x t,symTab[n]? = some x∧v = .str x t
 | .text k,v=>∃ x t,v = .str x t∧x.length≤k
 | .tup l,v=>∃ a items,v = .ref a∧h.IsTuple a items∧items.size≤sizeLine∧RVs O h l items.toList
 | .ref i,v=>∃ p,O[i]? = some p∧v = .ref p.1
 | .tab i,v=>v = .ref (db i)
 | .arg a,v=>v = .ref a
noncomputable def RVs (O:Phi) (h:Heap):List MV→List Value→Prop
 | [],vs=>vs = []
 | m :: ms,vs=>∃ v r,vs = v :: r∧RV O h m v∧RVs O h ms r
end
noncomputable def yz (w:World) (O:Phi) (h:Heap) (f:Nat×MV) (e:DictEntry):Prop :=
 ∃ x t,cJ[f.1]? = some x∧e.key = .str x t∧RV O h f.2 e.val
noncomputable def EntsOk (w:World) (O:Phi) (h:Heap):List (Nat×MV)→List DictEntry→Prop
 | [],es=>es = []
 | f :: fs,es=>∃ e r,es = e :: r∧yz w O h f e∧EntsOk w O h fs r
noncomputable abbrev PW:Program:=PySem.Challenge.pw_nm0029_01
noncomputable abbrev KK (w:World):Frag:=frag.heap_1 w.params
noncomputable def ez:List (Int×Int)→List (Int×Value)→Prop
 | [],vs=>vs = []
 | p :: ps,vs=>∃ t r,vs = (p.1,.int p.2 t) :: r∧ez ps r
noncomputable def RObj (w:World) (O:Phi) (h:Heap):MObj→Addr×Option Addr→Prop
 | .list l,p=>p.2 = none∧∃ vs n,vs.size≤sizeLine + 1∧h.get? p.1 = some (listOf vs n)∧RVs O h l vs.toList
 | .dict l,p=>p.2 = none∧l.length≤2000000∧∃ kvs,Heap.DictOf (intKind PW w) h p.1 kvs∧ez l kvs
 | .set l,p=>p.2 = none∧l.Nodup∧Heap.SetOf (intKind PW w) h p.1 (λk=>decide (k∈l)) l.length
 | .full,p=>p.2 = none∧∃ es ep t,h.get? p.1 = some { cls:=.type "set",dict:=none,data:=.set es ep t }∧ElemsOf (intKind PW w) es.toList∧(∀ k:Int,(0≤k∧k < 4)↔∃ e∈es.toList,(intKind PW w).is k e.2 = true)∧es.size = 4∧t.fits 4 = true
 | .inst c f,p=>∃ dx es n,p.2 = some dx∧h.get? p.1 = some (instObj (bo c) dx)∧h.get? dx = some (dictOf es n)∧EntsOk w O h f es
structure Inv (w:World) (hB:Heap) (O:Phi) (H:MH) (h:Heap):Prop where
 len:O.length = H.length
 nodup:(own O).Nodup
 base:∀ b o,hB.get? b = some o→h.get? b = some o
 sep:∀ a∈own O,hB.get? a = none
 obj:∀ (i:Nat) m p,H[i]? = some m→O[i]? = some p→RObj w O h m p
structure Ext (W:List Addr) (O:Phi) (h:Heap) (O':Phi) (h':Heap):Prop where
 pre:O <+: O'
 new:∀ a∈own O',a∈own O∨h.get? a = none
 keep:∀ b o,h.get? b = some o→b∉own O→b∉W→h'.get? b = some o
 there:∀ b,h.get? b≠none→h'.get? b≠none
private theorem dh (O ψ:Phi):own (O++ψ) = own O++own ψ:=by simp [own]
private theorem ey {O:Phi} {i:Nat} {p:Addr×Option Addr} (e:O[i]? = some p):p.1∈own O:=by
 unfold own
 exact List.mem_flatMap.mpr ⟨p,List.mem_of_getElem? e,.head _⟩
private theorem jH {O:Phi} {i:Nat} {p:Addr×Option Addr} {d:Addr} (e:O[i]? = some p) (hd:p.2 = some d):d∈own O:=by
 unfold own
 exact List.mem_flatMap.mpr ⟨p,List.mem_of_getElem? e,by rw [hd];simp⟩
private theorem Ext.refl (W:List Addr) (O:Phi) (h:Heap):Ext W O h O h:=⟨List.prefix_refl _,λU ha=>.inl ha,λU U e U U=>e,λU e=>e⟩
private theorem Ext.weaken {W W':List Addr} {O O':Phi} {h h':Heap} (x:Ext W O h O' h') (hw:∀ a∈W,a∈W'):Ext W' O h O' h' :=
 ⟨x.pre,x.new,λb o e n1 n2=>x.keep b o e n1 λq=>n2 (hw b q),x.there⟩
private theorem Ext.trans {W:List Addr} {O O' O'':Phi} {h h' h'':Heap} (x:Ext W O h O' h') (y:Ext W O' h' O'' h''):Ext W O h O'' h'':=by
 refine ⟨x.pre.trans y.pre,λa ha=>?_,λb o e n1 n2=>?_,λb e=>y.there b (x.there b e)⟩
 ·rcases y.new a ha with q | q
  ·exact x.new a q
  ·by_cases z:h.get? a = none
   ·exact .inr z
   ·exact absurd q (x.there a z)
 ·refine y.keep b o (x.keep b o e n1 n2) (λq=>?_) n2
  rcases x.new b q with z | z
  ·exact n1 z
  ·rw [e] at z;cases z
mutual
private theorem RV.mono {O O':Phi} {h h':Heap} (p:O <+: O') (k:∀ a items,h.IsTuple a items→h'.IsTuple a items):∀ {m:MV} {v:Value},RV O h m v→RV O' h' m v
 | .none,_,r=>r
 | .bool _,_,r=>r
 | .int _,_,r=>r
 | .sym _,_,r=>r
 | .text _,_,r=>r
 | .tab _,_,r=>r
 | .arg _,_,r=>r
 | .tup _,_,r=>Exists.elim r λa r=>Exists.elim r λitems r=>Exists.intro a ⟨items,r.1,k a items r.2.1,r.2.2.1,RVs.mono p k r.2.2.2⟩
 | .ref _,_,r=>Exists.elim r λq r=>Exists.intro q ⟨by obtain ⟨ψ,rfl⟩:=p;rw [List.getElem?_append_left (List.getElem?_eq_some_iff.mp r.1).1];exact r.1,r.2⟩
private theorem RVs.mono {O O':Phi} {h h':Heap} (p:O <+: O') (k:∀ a items,h.IsTuple a items→h'.IsTuple a items):∀ {ms:List MV} {vs:List Value},RVs O h ms vs→RVs O' h' ms vs
 | [],_,r=>r
 | _ :: _,_,r=>Exists.elim r λv r=>Exists.elim r λq r=>Exists.intro v ⟨q,r.1,RV.mono p k r.2.1,RVs.mono p k r.2.2⟩
end
private theorem EntsOk.mono {w:World} {O O':Phi} {h h':Heap} (p:O <+: O') (k:∀ a items,h.IsTuple a items→h'.IsTuple a items):∀ {fs:List (Nat×MV)} {es:List DictEntry},EntsOk w O h fs es→EntsOk w O' h' fs es
 | [],_,r=>r
 | _ :: _,_,r=>Exists.elim r λe r=>Exists.elim r λq r=>Exists.intro e ⟨q,r.1,Exists.elim r.2.1 λx r=>Exists.elim r λt r=>⟨x,t,r.1,r.2.1,r.2.2.mono p k⟩,r.2.2.mono p k⟩
private theorem RObj.mono {w:World} {O O':Phi} {h h':Heap} (p:O <+: O') (k:∀ a items,h.IsTuple a items→h'.IsTuple a items) {m:MObj} {q:Addr×Option Addr}
  (k1:h'.get? q.1 = h.get? q.1) (k2:∀ d,q.2 = some d→h'.get? d = h.get? d) (r:RObj w O h m q):RObj w O' h' m q:=by
 cases m with
 | list l =>
  obtain ⟨a,vs,n,sz,e,z⟩:=r
  exact ⟨a,vs,n,sz,k1.trans e,z.mono p k⟩
 | dict l =>
  obtain ⟨a,hl,kvs,⟨o,es,ep,e,rest⟩,z⟩:=r
  exact ⟨a,hl,kvs,⟨o,es,ep,k1.trans e,rest⟩,z⟩
 | set l =>
  obtain ⟨a,hn,⟨o,es,ep,t,e,rest⟩⟩:=r
  exact ⟨a,hn,⟨o,es,ep,t,k1.trans e,rest⟩⟩
 | full =>
  obtain ⟨a,es,ep,t,e,rest⟩:=r
  exact ⟨a,es,ep,t,k1.trans e,rest⟩
 | inst c f =>
  obtain ⟨dx,es,n,a,b,c',z⟩:=r
  exact ⟨dx,es,n,a,k1.trans b,(k2 dx a).trans c',z.mono p k⟩
noncomputable def jx (o:Obj):Prop:=o.cls = .type "list"∨o.cls = .type "dict"∨o.cls = .type "set"∨∃ a,o.cls = .ref a
private theorem RObj.there {w:World} {O:Phi} {h:Heap} {m:MObj} {q:Addr×Option Addr} (r:RObj w O h m q):∃ o,h.get? q.1 = some o∧jx o:=by
 cases m with
 | list l=>obtain ⟨a,vs,n,sz,e,z⟩:=r;exact ⟨_,e,.inl rfl⟩
 | dict l=>obtain ⟨a,hl,kvs,⟨o,es,ep,e,⟨c,_⟩,rest⟩,z⟩:=r;exact ⟨_,e,.inr (.inl c)⟩
 | set l=>obtain ⟨a,hn,⟨o,es,ep,t,e,⟨c,_⟩,rest⟩⟩:=r;exact ⟨_,e,.inr (.inr (.inl c))⟩
 | full=>obtain ⟨a,es,ep,t,e,rest⟩:=r;exact ⟨_,e,.inr (.inr (.inl rfl))⟩
 | inst c f=>obtain ⟨dx,es,n,a,b,c',z⟩:=r;exact ⟨_,b,.inr (.inr (.inr ⟨_,rfl⟩))⟩
private theorem RObj.there2 {w:World} {O:Phi} {h:Heap} {m:MObj} {q:Addr×Option Addr} {d:Addr} (r:RObj w O h m q) (hd:q.2 = some d):∃ o,h.get? d = some o∧jx o:=by
 cases m with
 | list l=>obtain ⟨a,_⟩:=r;rw [hd] at a;cases a
 | dict l=>obtain ⟨a,_⟩:=r;rw [hd] at a;cases a
 | set l=>obtain ⟨a,_⟩:=r;rw [hd] at a;cases a
 | full=>obtain ⟨a,_⟩:=r;rw [hd] at a;cases a
 | inst c f=>obtain ⟨dx,es,n,a,b,c',z⟩:=r;rw [hd] at a;cases a;exact ⟨_,c',.inr (.inl rfl)⟩
private theorem Inv.ownThere {w:World} {hB h:Heap} {O:Phi} {H:MH} (I:Inv w hB O H h) {a:Addr} (ha:a∈own O):∃ o,h.get? a = some o∧jx o:=by
 unfold own at ha
 obtain ⟨p,hp,hm⟩:=List.mem_flatMap.mp ha
 obtain ⟨i,hi⟩:=List.mem_iff_getElem?.mp hp
 have hlt:i < H.length:=by rw [← I.len];exact (List.getElem?_eq_some_iff.mp hi).1
 have R:=I.obj i _ p (List.getElem?_eq_getElem hlt) hi
 rcases List.mem_cons.mp hm with rfl | hm
 ·exact R.there
 ·cases hd:p.2 with
  | none=>rw [hd] at hm;cases hm
  | some d =>
   rw [hd] at hm
   obtain rfl:=List.mem_singleton.mp hm
   exact R.there2 hd
private theorem Inv.notOwn {w:World} {hB h:Heap} {O:Phi} {H:MH} (I:Inv w hB O H h) {a:Addr} {o:Obj} (e:h.get? a = some o) (n:¬ jx o):a∉own O:=by
 intro ha
 obtain ⟨o',e',k⟩:=I.ownThere ha
 rw [e] at e';cases e';exact n k
private theorem ud {h:Heap} {a:Addr} {items:Array Value} (t:h.IsTuple a items):∃ o,h.get? a = some o∧¬ jx o:=by
 obtain ⟨o,e,c,_⟩:=t
 refine ⟨o,e,?_⟩
 rintro (q | q | q | ⟨_,q⟩) <;> rw [c] at q <;> simp at q
private theorem Ext.tup {w:World} {hB:Heap} {W:List Addr} {O O':Phi} {h h':Heap} {H:MH} (x:Ext W O h O' h') (I:Inv w hB O H h) (hW:∀ a∈W,∀ items,¬ h.IsTuple a items):∀ a items,h.IsTuple a items→h'.IsTuple a items:=by
 intro a items t
 obtain ⟨o,e,n⟩:=ud t
 have k:=x.keep a o e (I.notOwn e n) λq=>hW a q items t
 obtain ⟨o',e',c,r⟩:=t
 rw [e] at e';cases e'
 exact ⟨o,k,c,r⟩
private theorem Ext.tup0 {w:World} {hB:Heap} {O O':Phi} {h h':Heap} {H:MH} (x:Ext [] O h O' h') (I:Inv w hB O H h):∀ a items,h.IsTuple a items→h'.IsTuple a items :=
 x.tup I (λU h=>nomatch h)
end Mine
end
section
namespace Mine
noncomputable abbrev MM (w:World):Model:=model PW w
noncomputable abbrev Loc:=List (Option MV)
structure Ctx where
 names:List (Str×Bool)
 globs:List Str
 code:Bool:=false
 cellsOwn:Bool:=true
structure EnvOk (w:World) (Γ:Ctx) (env:Env):Prop where
 kind:env.scope.kind = .function
 vars:∀ x∈Γ.names,env.kindOf x.1 = some (if x.2 then .cell else .local)
 globs:∀ x∈Γ.globs,env.kindOf x = some .globalImplicit
 globals:env.globals = mainGlobals
 builtins:env.builtins = builtinsNs
 code:Γ.code = true→kdsCode (KK w) env.code = true
 nd:(Γ.names.map (·.1)).Nodup
 fn:Γ.cellsOwn = true→env.func.isSome = true
private theorem EnvOk.notInt {w:World} {Γ:Ctx} {env:Env} (e:EnvOk w Γ env):interactive env = false:=by
 unfold interactive
 rw [e.kind];rfl
noncomputable def VarOk (O:Phi) (h:Heap) (env:Env) (m:Str→Option Value) (x:Str×Bool) (mv:Option MV):Prop :=
 match x.2 with
 | false=>∀ a,mv = some a→∃ v,m x.1 = some v∧RV O h a v
 | true=>∃ c ov,env.cells.lookup x.1 = some c∧h.IsCell c ov∧∀ a,mv = some a→∃ v,ov = some v∧RV O h a v
structure LocRep (O:Phi) (h:Heap) (Γ:Ctx) (env:Env) (L:Loc):Prop where
 len:L.length = Γ.names.length
 ns:∃ m,h.Ns env.locals m∧∀ (i:Nat) x mv,Γ.names[i]? = some x→L[i]? = some mv→VarOk O h env m x mv
 outL:env.locals∉own O
 outC:∀ x c,env.cells.lookup x = some c→c∉own O
 apart:env.cells.Pairwise λx y=>x.2≠y.2
 cells:∀ y c,env.cells.lookup y = some c→∃ ov,h.IsCell c ov
structure Room (k:Nat) (A:Around):Prop where
 handled:A.handled = none
 depth:A.depth + 4 * k≤900
 units:A.units + 40 * k≤9000
structure Base (w:World) (hB:Heap):Prop where
 K:(KK w).In hB
 gn:∃ mg,hB.Ns mainGlobals mg
 bn:∃ mb,hB.Ns builtinsNs mb∧∀ x:Str,x≠"__name__"→mb x = bootBuiltins x
 nolimit:hB.NoLimit
 mods:hB.get? sysModules≠none
noncomputable def Al (env:Env):List Addr:=env.locals :: (env.cells.filter λp=>env.cells.lookup p.1 == some p.2).map (·.2)
private theorem cU {α:Type}:∀ {l:List (Str×α)} {x:Str} {c:α},l.lookup x = some c→(x,c)∈l
 | (y,d) :: r,x,c,e=>by
  rw [List.lookup_cons] at e
  by_cases q:(x == y) = true
  ·rw [q] at e;cases e;rw [beq_iff_eq.mp q];exact .head _
  ·rw [Bool.not_eq_true] at q;rw [q] at e;exact .tail _ (cU e)
private theorem mem_Al {env:Env} {a:Addr}:a∈Al env↔a = env.locals∨∃ x,env.cells.lookup x = some a:=by
 unfold Al
 rw [List.mem_cons,List.mem_map]
 refine or_congr Iff.rfl ⟨λ⟨z,hz,e⟩=>?_,λ⟨x,hx⟩=>⟨(x,a),List.mem_filter.mpr ⟨cU hx,by simpa using hx⟩,rfl⟩⟩
 subst e
 exact ⟨z.1,by simpa using (List.mem_filter.mp hz).2⟩
noncomputable def Wr (env:Env):List Addr:=match env.func with
 | some _=>Al env
 | none=>[env.locals]
private theorem j8 {env:Env} {a:Addr} (h:a∈Wr env):a∈Al env:=by
 unfold Wr at h
 split at h
 ·exact h
 ·obtain rfl:=List.mem_singleton.mp h
  exact .head _
private theorem vp (env:Env):env.locals∈Wr env:=by
 unfold Wr
 split
 ·exact .head _
 ·exact .head _
set_option tactic.hygienic true in
private theorem Aa {env:Env} (h:env.func.isSome = true):Wr env = Al env:=by
 unfold Wr
 split
 ·rfl
 ·rename_i e;rw [e] at h;cases h
structure Sit (w:World) (hB:Heap) (k:Nat) (Γ:Ctx) (A:Around) (env:Env) (O:Phi) (H:MH) (L:Loc) (s:Shared):Prop where
 base:Base w hB
 room:Room k A
 eok:EnvOk w Γ env
 inv:Inv w hB O H s.heap
 loc:LocRep O s.heap Γ env L
 out:∀ a∈Al env,hB.get? a = none
structure Sm (s s':Shared):Prop where
 gens:s'.gens = s.gens
 os:s'.os = s.os
private theorem Sm.refl (s:Shared):Sm s s:=⟨rfl,rfl⟩
private theorem Sm.trans {s s' s'':Shared} (x:Sm s s') (y:Sm s' s''):Sm s s'':=⟨y.gens.trans x.gens,y.os.trans x.os⟩
noncomputable def th2 {α β:Type} (f:α→β→Prop) (x:α) (y:β):Unit→Prop:=λU=>f x y
noncomputable def th3 {α β γ:Type} (f:α→β→γ→Prop) (x:α) (y:β) (z:γ):Unit→Prop:=λU=>f x y z
noncomputable def ifV (c:Bool) (p q:Unit→Prop):Prop:=match c with | true=>p () | false=>q ()
noncomputable def sF (o:Option Bool) (p q:Unit→Prop):Prop:=match o with | some c=>ifV c p q | none=>False
section
variable (w:World) (hB:Heap)
inductive EPost (O:Phi) (s:Shared) (Q:MV→MH→Prop) (v:Value) (s':Shared):Prop where
 | mk (O':Phi) (H':MH) (mv:MV) (x:Ext [] O s.heap O' s'.heap) (i:Inv w hB O' H' s'.heap) (r:RV O' s'.heap mv v) (m:Sm s s') (q:Q mv H')
inductive EsPost (O:Phi) (s:Shared) (Q:List MV→MH→Prop) (vs:List Value) (s':Shared):Prop where
 | mk (O':Phi) (H':MH) (ms:List MV) (x:Ext [] O s.heap O' s'.heap) (i:Inv w hB O' H' s'.heap) (r:RVs O' s'.heap ms vs) (m:Sm s s') (q:Q ms H')
inductive BPost (O:Phi) (s:Shared) (Q:Bool→MH→Prop) (b:Bool) (s':Shared):Prop where
 | mk (O':Phi) (H':MH) (x:Ext [] O s.heap O' s'.heap) (i:Inv w hB O' H' s'.heap) (m:Sm s s') (q:Q b H')
noncomputable def Fls:Value→Shared→Prop:=λU U=>False
noncomputable abbrev ET:=Loc→MH→(MV→MH→Prop)→Prop
noncomputable abbrev EsT:=Loc→MH→(List MV→MH→Prop)→Prop
noncomputable abbrev BoT:=Loc→MH→(Bool→MH→Prop)→Prop
noncomputable def SE (k:Nat) (Γ:Ctx) (e:Expr) (T:ET):Prop :=
 (∀ A env O H L s Q,Sit w hB k Γ A env O H L s→T L H Q→wpAny (MM w) A (eval e env) (EPost w hB O s Q) Fls s)∧True
noncomputable def SEs (k:Nat) (Γ:Ctx) (es:List Expr) (T:EsT):Prop :=
 (∀ (pos:Pos) A env O H L s Q,Sit w hB k Γ A env O H L s→T L H Q→wpAny (MM w) A (spliced (backTo pos (starEach es env))) (EsPost w hB O s Q) Fls s)
 ∧ ∀ env,(starEach es env).any (·.1) = false
noncomputable def SB (k:Nat) (Γ:Ctx) (e:Expr) (T:BoT):Prop :=
 (∀ A env O H L s Q,Sit w hB k Γ A env O H L s→T L H Q→wpAny (MM w) A (PySem.isTrue e env (eval e env)) (BPost w hB O s Q) Fls s)∧True
end
section
variable {w:World} {hB:Heap} {k:Nat} {Γ:Ctx}
set_option tactic.hygienic true in
private theorem VarOk.mono {O O':Phi} {h h':Heap} {env:Env} {m:Str→Option Value} {x:Str×Bool} {mv:Option MV} (p:O <+: O') (kt:∀ a items,h.IsTuple a items→h'.IsTuple a items)
  (kc:∀ c ov,env.cells.lookup x.1 = some c→h.IsCell c ov→h'.IsCell c ov) (v:VarOk O h env m x mv):VarOk O' h' env m x mv:=by
 unfold VarOk at v ⊢
 split
 ·rename_i e
  rw [e] at v
  intro a ha
  obtain ⟨u,h1,h2⟩:=v a ha
  exact ⟨u,h1,h2.mono p kt⟩
 ·rename_i e
  rw [e] at v
  obtain ⟨c,ov,h1,h2,h3⟩:=v
  exact ⟨c,ov,h1,kc c ov h1 h2,λa ha=>let ⟨u,q1,q2⟩:=h3 a ha;⟨u,q1,q2.mono p kt⟩⟩
private theorem dE {W:List Addr} {O O':Phi} {h h':Heap} (x:Ext W O h O' h') {a:Addr} {o:Obj} (e:h.get? a = some o) (n:a∉own O):a∉own O':=λq=>by
 rcases x.new a q with z | z
 ·exact n z
 ·rw [e] at z;cases z
private theorem LocRep.next {O O':Phi} {h h':Heap} {env:Env} {L:Loc} {H:MH} (l:LocRep O h Γ env L) (I:Inv w hB O H h) (x:Ext [] O h O' h'):LocRep O' h' Γ env L:=by
 obtain ⟨m,hn,hv⟩:=l.ns
 have hL:=hn
 obtain ⟨o,es,ep,eo,ed,er⟩:=hL
 have kc:∀ y c ov,env.cells.lookup y = some c→h.IsCell c ov→h'.IsCell c ov:=λy c ov e z=>by
  obtain ⟨oc,e1,e2⟩:=z
  exact ⟨oc,x.keep _ _ e1 (l.outC _ _ e) (by simp),e2⟩
 refine ⟨l.len,⟨m,?_,λi y mv h1 h2=>(hv i y mv h1 h2).mono x.pre (x.tup0 I) λc ov e z=>kc _ c ov e z⟩,dE x eo l.outL,λy c e=>?_,l.apart,λy c e=>?_⟩
 ·exact ⟨o,es,ep,x.keep _ _ eo l.outL (by simp),ed,er⟩
 ·obtain ⟨ov,oc,e1,e2⟩:=l.cells y c e
  exact dE x e1 (l.outC _ _ e)
 ·obtain ⟨ov,z⟩:=l.cells y c e
  exact ⟨ov,kc y c ov e z⟩
private theorem Sit.next {A:Around} {env:Env} {O O':Phi} {H H':MH} {L:Loc} {s s':Shared} (S:Sit w hB k Γ A env O H L s) (x:Ext [] O s.heap O' s'.heap) (I:Inv w hB O' H' s'.heap) :
  Sit w hB k Γ A env O' H' L s':=⟨S.base,S.room,S.eok,I,S.loc.next S.inv x,S.out⟩
private theorem Sit.toks {A:Around} {env:Env} {O:Phi} {H:MH} {L:Loc} {s:Shared} (S:Sit w hB k Γ A env O H L s) (t:Nat):Sit w hB k Γ A env O H L { s with toks:=t }:=⟨S.base,S.room,S.eok,S.inv,S.loc,S.out⟩
private theorem cV {O:Phi} {H:MH} {s:Shared} {Q:MV→MH→Prop} {mv:MV} {v:Value} {t:Nat} (I:Inv w hB O H s.heap) (r:RV O s.heap mv v) (q:Q mv H) :
  EPost w hB O s Q v { s with toks:=t }:=⟨O,H,mv,Ext.refl _ _ _,I,r,⟨rfl,rfl⟩,q⟩
private theorem EPost.after {O O':Phi} {s s':Shared} {Q:MV→MH→Prop} {v:Value} {s'':Shared} (x:Ext [] O s.heap O' s'.heap) (sm:Sm s s') (p:EPost w hB O' s' Q v s''):EPost w hB O s Q v s'':=by
 obtain ⟨O2,H2,mv,a,b,c,d,e⟩:=p
 exact ⟨O2,H2,mv,x.trans a,b,c,sm.trans d,e⟩
private theorem BPost.after {O O':Phi} {s s':Shared} {Q:Bool→MH→Prop} {v:Bool} {s'':Shared} (x:Ext [] O s.heap O' s'.heap) (sm:Sm s s') (p:BPost w hB O' s' Q v s''):BPost w hB O s Q v s'':=by
 obtain ⟨O2,H2,a,b,d,e⟩:=p
 exact ⟨O2,H2,x.trans a,b,sm.trans d,e⟩
private theorem cG {O:Phi} {h:Heap} {i:Int} {t:Tok}:RV O h (.int i) (.int i t):=Exists.intro _ rfl
private theorem lS {O:Phi} {h:Heap} {b:Bool}:RV O h (.bool b) (.bool b):=Eq.refl _
private theorem jI {O:Phi} {h:Heap}:RV O h .none .none:=Eq.refl _
private theorem zu {O:Phi} {h:Heap} {n:Nat} {x:Str} {t:Tok} (hx:symTab[n]? = some x):RV O h (.sym n) (.str x t):=Exists.intro _ ⟨_,hx,rfl⟩
private theorem ug {O:Phi} {h:Heap} {n:Nat} {x:Str} {t:Tok} (hx:x.length≤n):RV O h (.text n) (.str x t):=Exists.intro _ ⟨_,rfl,hx⟩
private theorem ze {O:Phi} {h:Heap} {n:Nat}:RV O h (.tab n) (.ref (db n)):=Eq.refl _
private theorem gm {O:Phi} {h:Heap} {n:Nat} {p:Addr×Option Addr} (hx:O[n]? = some p):RV O h (.ref n) (.ref p.1):=Exists.intro _ ⟨hx,rfl⟩
private theorem wP {O:Phi} {h:Heap} {l:List MV} {a:Addr} {items:Array Value} (t:h.IsTuple a items) (sz:items.size≤sizeLine) (r:RVs O h l items.toList):RV O h (.tup l) (.ref a):=Exists.intro _ ⟨_,rfl,t,sz,r⟩
noncomputable def az (i:Int):ET:=λU H Q=>Q (.int i) H
noncomputable def aQ (n:Nat):ET:=λU H Q=>Q (.sym n) H
noncomputable def b6 (b:Bool):ET:=λU H Q=>Q (.bool b) H
noncomputable def gY:ET:=λU H Q=>Q .none H
noncomputable def zZ (o:Option (Option MV)) (K:MV→Prop):Prop:=Option.rec (motive:=λU=>Prop) False (λo=>Option.rec (motive:=λU=>Prop) False K o) o
private theorem uL {o:Option (Option MV)} {K:MV→Prop} (h:zZ o K):∃ v,o = some (some v)∧K v:=by
 cases o with
 | none=>exact h.elim
 | some o=>cases o with
  | none=>exact h.elim
  | some v=>exact ⟨v,rfl,h⟩
noncomputable def ai (i:Nat):ET:=λL H Q=>zZ L[i]? λv=>Q v H
private theorem ap {i:Int} {kd:Nat} {pos:Pos}:SE w hB k Γ (.Constant (.int i) kd pos) (az i):=by
 refine ⟨?_,trivial⟩
 intro A env O H L s Q S q
 exact wpAny_Constant_int (cV S.inv cG q)
private theorem aG {x:Str} {n kd:Nat} {pos:Pos} (hx:symTab[n]? = some x):SE w hB k Γ (.Constant (.str x) kd pos) (aQ n):=by
 refine ⟨?_,trivial⟩
 intro A env O H L s Q S q
 exact Constant_str (cV S.inv (zu hx) q)
private theorem bz {b:Bool} {kd:Nat} {pos:Pos}:SE w hB k Γ (.Constant (.bool b) kd pos) (b6 b):=by
 refine ⟨?_,trivial⟩
 intro A env O H L s Q S q
 exact wpAny_pure (cV (t:=s.toks) S.inv lS q)
private theorem eW {kd:Nat} {pos:Pos}:SE w hB k Γ (.Constant .none kd pos) gY:=by
 refine ⟨?_,trivial⟩
 intro A env O H L s Q S q
 exact wpAny_pure (cV (t:=s.toks) S.inv jI q)
private theorem af {x:Str} {b:Bool} {i:Nat} {pos:Pos} (hx:Γ.names[i]? = some (x,b)) (hd:(x == ("__debug__":Str)) = false):SE w hB k Γ (.Name x pos) (ai i):=by
 refine ⟨?_,trivial⟩
 intro A env O H L s Q S q
 obtain ⟨v,hv,q⟩:=uL q
 obtain ⟨m,hn,hm⟩:=S.loc.ns
 have z:=hm i _ _ hx hv
 have kd:=S.eok.vars _ (List.mem_of_getElem? hx)
 refine wpAny_Name ?_ hd
 cases b with
 | false =>
  obtain ⟨u,h1,h2⟩:=z v rfl
  exact wpAny_loadName_local S.eok.kind kd hn h1 (cV (t:=s.toks) S.inv h2 q)
 | true =>
  obtain ⟨c,ov,h1,h2,h3⟩:=z
  obtain ⟨u,rfl,h4⟩:=h3 v rfl
  exact wpAny_loadName_cell S.eok.kind kd h1 h2 (cV (t:=s.toks) S.inv h4 q)
private theorem Inv.keepK {O:Phi} {H:MH} {h:Heap} (I:Inv w hB O H h) (B:Base w hB):(KK w).In h:=B.K.keeps I.base
private theorem qq {A:Around} {env:Env} {O:Phi} {H:MH} {L:Loc} {s:Shared} {x:Str} {pos:Pos} {v:Value} {P:Value→Shared→Prop} (S:Sit w hB k Γ A env O H L s) (hx:x∈Γ.globs) (hv:nsIn (KK w) mainGlobals x = some (some v))
  (p:P v s) (hd:(x == ("__debug__":Str)) = false):wpAny (MM w) A (eval (.Name x pos) env) P Fls s:=by
 obtain ⟨mg,hg⟩:=S.base.gn
 refine Name_function_global S.eok.kind (S.eok.globs x hx) (loadGlobal_global (mg:=mg) ?_ (mg_of S.base.K hg hv) p) hd
 rw [S.eok.globals];exact hg.keeps S.inv.base
private theorem sX {A:Around} {env:Env} {O:Phi} {H:MH} {L:Loc} {s:Shared} {x:Str} {pos:Pos} {v:Value} {P:Value→Shared→Prop} (S:Sit w hB k Γ A env O H L s) (hx:x∈Γ.globs) (hv:nsIn (KK w) mainGlobals x = some none)
  (hb:bootBuiltins x = some v) (p:P v s) (hne:x≠"__name__") (hd:(x == ("__debug__":Str)) = false):wpAny (MM w) A (eval (.Name x pos) env) P Fls s:=by
 obtain ⟨mg,hg⟩:=S.base.gn
 obtain ⟨mb,hm,hbt⟩:=S.base.bn
 refine Name_function_global S.eok.kind (S.eok.globs x hx) (loadGlobal_builtin (mg:=mg) (mb:=mb) ?_ (mg_none_of S.base.K hg hv) ?_ ((hbt x hne).trans hb) p) hd
 ·rw [S.eok.globals];exact hg.keeps S.inv.base
 ·rw [S.eok.builtins];exact hm.keeps S.inv.base
private theorem d8 {x:Str} {n:Int} {t:Tok} {pos:Pos} (hx:x∈Γ.globs) (hv:∀ w,nsIn (KK w) mainGlobals x = some (some (.int n t))) (hd:(x == ("__debug__":Str)) = false):SE w hB k Γ (.Name x pos) (az n):=by
 refine ⟨?_,trivial⟩
 intro A env O H L s Q S q
 exact qq S hx (hv w) (cV (t:=s.toks) S.inv cG q) hd
end
end Mine
end
section
namespace Mine
section
variable {O:Phi} {h:Heap}
private theorem RVs_nil {vs:List Value}:RVs O h [] vs↔vs = []:=Iff.rfl
private theorem RVs_cons {m:MV} {ms:List MV} {vs:List Value}:RVs O h (m :: ms) vs↔∃ v r,vs = v :: r∧RV O h m v∧RVs O h ms r:=Iff.rfl
private theorem RVs.mk {m:MV} {ms:List MV} {v:Value} {vs:List Value} (a:RV O h m v) (b:RVs O h ms vs):RVs O h (m :: ms) (v :: vs):=RVs_cons.mpr ⟨v,vs,rfl,a,b⟩
private theorem RVs.length:∀ {l:List MV} {vs:List Value},RVs O h l vs→vs.length = l.length
 | [],_,r=>by rw [RVs_nil.mp r];rfl
 | _ :: _,_,r=>by obtain ⟨v,q,rfl,_,b⟩:=RVs_cons.mp r;rw [List.length_cons,b.length];rfl
private theorem RVs.get:∀ {l:List MV} {vs:List Value},RVs O h l vs→∀ {i:Nat} {m:MV},l[i]? = some m→∃ v,vs[i]? = some v∧RV O h m v
 | [],_,_,_,_,e=>by simp at e
 | m0 :: _,_,r,i,m,e=>by
  obtain ⟨v,q,rfl,a,b⟩:=RVs_cons.mp r
  cases i with
  | zero =>
   have e':m0 = m:=by simpa using e
   subst e';exact ⟨v,rfl,a⟩
  | succ i=>obtain ⟨u,e1,e2⟩:=b.get (i:=i) (m:=m) (by simpa using e);exact ⟨u,by simpa using e1,e2⟩
private theorem RVs.append:∀ {l l':List MV} {vs vs':List Value},RVs O h l vs→RVs O h l' vs'→RVs O h (l++l') (vs++vs')
 | [],_,_,_,r,r'=>by rw [RVs_nil.mp r];exact r'
 | _ :: _,_,_,_,r,r'=>by obtain ⟨v,q,rfl,a,b⟩:=RVs_cons.mp r;exact .mk a (b.append r')
private theorem RVs.set:∀ {l:List MV} {vs:List Value},RVs O h l vs→∀ (i:Nat) {m:MV} {v:Value},RV O h m v→RVs O h (l.set i m) (vs.set i v)
 | [],_,r,i,_,_,_=>by rw [RVs_nil.mp r];exact RVs_nil.mpr rfl
 | _ :: _,_,r,i,m,u,z=>by
  obtain ⟨v,q,rfl,a,b⟩:=RVs_cons.mp r
  cases i with
  | zero=>exact .mk z b
  | succ i=>exact .mk a (b.set i z)
private theorem RVs.reverse {l:List MV} {vs:List Value} (r:RVs O h l vs):RVs O h l.reverse vs.reverse:=by
 induction l generalizing vs with
 | nil=>rw [RVs_nil.mp r];exact RVs_nil.mpr rfl
 | cons m ms ih =>
  obtain ⟨v,q,rfl,a,b⟩:=RVs_cons.mp r
  rw [List.reverse_cons,List.reverse_cons]
  exact (ih b).append (.mk a (RVs_nil.mpr rfl))
private theorem RV.int_of {i:Int} {v:Value} (r:RV O h (.int i) v):∃ t,v = .int i t:=r
private theorem RV.bool_of {b:Bool} {v:Value} (r:RV O h (.bool b) v):v = .bool b:=r
private theorem RV.none_of {v:Value} (r:RV O h .none v):v = .none:=r
private theorem RV.sym_of {n:Nat} {v:Value} (r:RV O h (.sym n) v):∃ x t,symTab[n]? = some x∧v = .str x t:=r
private theorem RV.text_of {n:Nat} {v:Value} (r:RV O h (.text n) v):∃ x t,v = .str x t∧x.length≤n:=r
private theorem RV.tup_of {l:List MV} {v:Value} (r:RV O h (.tup l) v):∃ a items,v = .ref a∧h.IsTuple a items∧items.size≤sizeLine∧RVs O h l items.toList:=r
private theorem RV.tab_of {n:Nat} {v:Value} (r:RV O h (.tab n) v):v = .ref (db n):=r
private theorem RV.arg_of {n:Nat} {v:Value} (r:RV O h (.arg n) v):v = .ref n:=r
private theorem RV.ref_of {i:Nat} {v:Value} (r:RV O h (.ref i) v):∃ p,O[i]? = some p∧v = .ref p.1:=r
end
noncomputable def atO (o:Option MObj) (f:Nat):Option MV:=match o with
 | some (.inst _ fs)=>fs.lookup f
 | _=>none
noncomputable def md (H:MH) (v:MV) (f:Nat):Option MV:=match v with
 | .ref i=>atO H[i]? f
 | _=>none
noncomputable def oV (o:Option MV) (Q:MV→MH→Prop) (H:MH):Prop:=match o with
 | some r=>Q r H
 | none=>False
private theorem ul {o:Option MV} {Q:MV→MH→Prop} {H:MH} (q:oV o Q H):∃ r,o = some r∧Q r H:=by
 cases o with
 | none=>exact False.elim q
 | some r=>exact ⟨r,rfl,q⟩
noncomputable def eL (m:MV) (K:Nat→Prop):Prop:=match m with
 | .ref i=>K i
 | _=>False
noncomputable def cT (m:MV) (K:Int→Prop):Prop:=match m with
 | .int i=>K i
 | _=>False
noncomputable def dO (o:Option MObj) (K:List MV→Prop):Prop:=match o with
 | some (.list l)=>K l
 | _=>False
private theorem bP {m:MV} {K:Nat→Prop} (q:eL m K):∃ i,m = .ref i∧K i:=by
 cases m with
 | ref i=>exact ⟨i,rfl,q⟩
 | _=>exact False.elim q
private theorem bm {m:MV} {K:Int→Prop} (q:cT m K):∃ i,m = .int i∧K i:=by
 cases m with
 | int i=>exact ⟨i,rfl,q⟩
 | _=>exact False.elim q
private theorem cK {o:Option MObj} {K:List MV→Prop} (q:dO o K):∃ l,o = some (.list l)∧K l:=by
 cases o with
 | none=>exact False.elim q
 | some o =>
  cases o with
  | list l=>exact ⟨l,rfl,q⟩
  | _=>exact False.elim q
noncomputable def ce (k:Int) (n:Nat):Option Nat:=if 0≤k then (if k < n then some k.toNat else none) else if -(n:Int)≤k then some (k + n).toNat else none
noncomputable def itO (o:Option MObj) (k:Int):Option MV:=match o with
 | some (.list l)=>(ce k l.length).bind λj=>l[j]?
 | some (.dict d)=>(d.lookup k).map .int
 | _=>none
noncomputable def cy (H:MH) (v i:MV):Option MV:=match v with
 | .tup l=>(match i with | .int k=>(ce k l.length).bind λj=>l[j]? | _=>none)
 | .ref a=>(match i with | .int k=>itO H[a]? k | _=>none)
 | _=>none
section
variable {w:World} {hB:Heap} {k:Nat} {Γ:Ctx}
noncomputable def nf (K:Frag) (c f:Nat):Bool:=match cJ[f]? with
 | some x=>findIn K (.ref (bo c)) x == some none && takerIn K (bo c) x == some none
 | none=>true
private theorem nX (w:World):((List.range 3).all λc=>(List.range 16).all λf=>nf (KK w) c f) = true:=by kernel_rfl!
private theorem qi (w:World):((List.range 3).all λc=>plainGet (KK w) (bo c) "x" && hasDictIn (KK w) (bo c) && plainOver (KK w) (bo c) && makesIn (KK w) (bo c) && (findIn (KK w) (.ref (bo c)) "__setattr__" == some (some (.builtin "object.__setattr__")))) = true:=by kernel_rfl!
private theorem lv (c:Nat):bo c = bo (min c 2):=by
 match c with
 | 0=>rfl
 | 1=>rfl
 | n + 2=>rw [show min (n + 2) 2 = 2 by omega];rfl
private theorem pN (w:World) {c f:Nat} {x:Str} (hx:cJ[f]? = some x):findIn (KK w) (.ref (bo c)) x = some none∧takerIn (KK w) (bo c) x = some none:=by
 have hf:f < 16:=(List.getElem?_eq_some_iff.mp hx).1
 have z:=List.all_eq_true.mp (List.all_eq_true.mp (nX w) (min c 2) (List.mem_range.mpr (Nat.lt_succ_of_le (Nat.min_le_right c 2)))) f (List.mem_range.mpr hf)
 unfold nf at z
 rw [hx,← lv,Bool.and_eq_true_iff,beq_iff_eq,beq_iff_eq] at z
 exact z
private theorem nJ (w:World) (c:Nat):plainGet (KK w) (bo c) "x" = true∧hasDictIn (KK w) (bo c) = true∧plainOver (KK w) (bo c) = true∧makesIn (KK w) (bo c) = true∧findIn (KK w) (.ref (bo c)) "__setattr__" = some (some (.builtin "object.__setattr__")):=by
 have z:=List.all_eq_true.mp (qi w) (min c 2) (List.mem_range.mpr (Nat.lt_succ_of_le (Nat.min_le_right c 2)))
 rw [← lv,Bool.and_eq_true_iff,Bool.and_eq_true_iff,Bool.and_eq_true_iff,Bool.and_eq_true_iff,beq_iff_eq] at z
 exact ⟨z.1.1.1.1,z.1.1.1.2,z.1.1.2,z.1.2,z.2⟩
private theorem kN {α:Type} {l:List α} (nd:l.Nodup) {f g:Nat} {x:α} (hf:l[f]? = some x) (hg:l[g]? = some x):f = g:=by
 obtain ⟨h1,e1⟩:=List.getElem?_eq_some_iff.mp hf
 obtain ⟨h2,e2⟩:=List.getElem?_eq_some_iff.mp hg
 have z:=List.pairwise_iff_getElem.mp nd
 rcases Nat.lt_trichotomy f g with q | q | q
 ·exact absurd (e1.trans e2.symm) (z f g h1 h2 q)
 ·exact q
 ·exact absurd (e2.trans e1.symm) (z g f h2 h1 q)
private theorem rp {f g:Nat} {x:Str} (hf:cJ[f]? = some x) (hg:cJ[g]? = some x):f = g:=by
 exact kN (by decide +kernel) hf hg
private theorem tH {f g:Nat} {x:Str} (hf:symTab[f]? = some x) (hg:symTab[g]? = some x):f = g:=by
 exact kN (by decide +kernel) hf hg
private theorem ss {O:Phi} {h:Heap} {f:Nat×MV} {e:DictEntry} {g:Nat} {x:Str} (he:yz w O h f e) (hx:cJ[g]? = some x):e.key.isStr x = decide (f.1 = g):=by
 obtain ⟨y,t,h1,h2,_⟩:=he
 rw [h2]
 show (y == x) = _
 by_cases q:f.1 = g
 ·rw [q,hx] at h1;cases h1;simp [q]
 ·have:y≠x:=λz=>q (rp (z ▸ h1) hx)
  simp [q,this]
private theorem EntsOk.getL {O:Phi} {h:Heap} {g:Nat} {x:Str} (hx:cJ[g]? = some x):∀ {fs:List (Nat×MV)} {es:List DictEntry},EntsOk w O h fs es →
  (∀ r,fs.lookup g = some r→∃ v,W.getL x es = some (some v)∧RV O h r v)∧(W.getL x es).isSome = true
 | [],es,e=>by
  obtain rfl:es = []:=e
  exact ⟨λr q=>(by cases q),rfl⟩
 | f :: fs,_,h0=>by
  obtain ⟨e,es,rfl,he,hr⟩:=h0
  obtain ⟨i1,i2⟩:=EntsOk.getL hx hr
  have hs:=ss he hx
  obtain ⟨y,t,h1,h2,h3⟩:=id he
  have hrk:e.refKey = false:=by unfold DictEntry.refKey;rw [h2]
  by_cases q:f.1 = g
  ·have hk:e.key.isStr x = true:=by rw [hs];simp [q]
   have e1:W.getL x (e :: es) = some (some e.val):=by unfold W.getL;simp only [List.find?_cons,hk]
   refine ⟨λr z=>⟨e.val,e1,?_⟩,by rw [e1];rfl⟩
   obtain ⟨g',r'⟩:=f
   obtain rfl:g' = g:=q
   simp only [List.lookup_cons,beq_self_eq_true,Option.some.injEq] at z
   rw [← z];exact h3
  ·have hk:¬ e.key.isStr x = true:=by rw [hs];simp [q]
   have e1:W.getL x (e :: es) = W.getL x es:=by
    unfold W.getL
    rw [Bool.not_eq_true] at hk
    simp only [List.find?_cons,hk,List.any_cons,hrk,Bool.false_or]
   rw [e1]
   refine ⟨λr z=>i1 r ?_,i2⟩
   obtain ⟨g',r'⟩:=f
   have:(g == g') = false:=by simpa using λz=>q z.symm
   simpa [List.lookup_cons,this] using z
private theorem uc {O:Phi} {h:Heap} {c:Nat} {fs:List (Nat×MV)} {p:Addr×Option Addr} (r:RObj w O h (.inst c fs) p) :
  ∃ dx es n,p.2 = some dx∧W.InstAt h p.1 (instObj (bo c) dx) (bo c) (some (dictOf es n))∧EntsOk w O h fs es:=by
 obtain ⟨dx,es,n,a,b,c',d⟩:=r
 exact ⟨dx,es,n,a,⟨b,rfl,rfl,c'⟩,d⟩
private theorem uV {O:Phi} {h:Heap} {m:MV} {v:Value} (r:RV O h m v):handedIn v = true:=by
 cases m with
 | none=>rw [r.none_of];rfl
 | bool b=>rw [r.bool_of];rfl
 | int i=>obtain ⟨t,rfl⟩:=r.int_of;rfl
 | sym n=>obtain ⟨x,t,_,rfl⟩:=r.sym_of;rfl
 | text n=>obtain ⟨x,t,rfl,_⟩:=r.text_of;rfl
 | tup l=>obtain ⟨a,items,rfl,_⟩:=r.tup_of;rfl
 | ref i=>obtain ⟨p,_,rfl⟩:=r.ref_of;rfl
 | tab i=>rw [r.tab_of];rfl
 | arg i=>rw [r.arg_of];rfl
private theorem tN {A:Around} {O:Phi} {H:MH} {s:Shared} {m r:MV} {v:Value} {f:Nat} {x:Str} {expr:Bool} {P:Value→Shared→Prop} (B:Base w hB) (I:Inv w hB O H s.heap) (rv:RV O s.heap m v) (hx:cJ[f]? = some x)
  (hr:md H m f = some r) (p:∀ u,RV O s.heap r u→P u { s with toks:=s.toks + 1 }):wpAny (MM w) A (getAttr v x expr) P Fls s:=by
 cases m with
 | ref i =>
  obtain ⟨q,hq,rfl⟩:=rv.ref_of
  replace hr:atO H[i]? f = some r:=hr
  cases hi:H[i]? with
  | none=>rw [hi] at hr;exact noS hr
  | some o =>
   rw [hi] at hr
   cases o with
   | inst c fs =>
    obtain ⟨dx,es,n,a,IA,E⟩:=uc (I.obj i _ q hi hq)
    obtain ⟨u,h1,h2⟩:=(E.getL hx).1 r hr
    obtain ⟨f1,f2,f3,f4,f5⟩:=nJ w c
    obtain ⟨g1,g2⟩:=pN w (c:=c) hx
    exact get_value (I.keepK B) IA (plainGet_of f1).1 (findObj_own f2 g1 rfl h1) (uV h2) (p u h2)
   | _=>exact noS hr
 | _=>exact noS hr
noncomputable def aD (e:ET) (f:Nat):ET:=λL H Q=>e L H λv H'=>oV (md H' v f) Q H'
private theorem ax {e:Expr} {T:ET} {f:Nat} {x:Str} {pos:Pos} (he:SE w hB k Γ e T) (hx:cJ[f]? = some x)
  (hsh:∀ env,eval (e.Attribute x pos) env = (do let o ← eval e env;standAt pos.atName;let r ← holding [o] (getAttr o x true);letTemporaryGo e o r;pure r)):SE w hB k Γ (.Attribute e x pos) (aD T f):=by
 refine ⟨?_,trivial⟩
 intro A env O H L s Q S q
 refine Attribute_any_ (wpAny_mono (he.1 A env O H L s _ S q) (λv s' z=>?_) λU U z=>z) (hsh env)
 obtain ⟨O',H',mv,x1,I',rv,sm,q'⟩:=z
 obtain ⟨r,hr,q'⟩:=ul q'
 exact tN S.base I' rv hx hr λu hu=>⟨O',H',r,x1,I',hu,⟨sm.gens,sm.os⟩,q'⟩
end
end Mine
end
section
namespace Mine
section
variable {w:World} {hB:Heap} {k:Nat} {Γ:Ctx}
private theorem bx (p:Addr×Option Addr):own [p] = p.1 :: p.2.toList:=by simp [own]
private theorem ct {h h':Heap} (keep:∀ b o,h.get? b = some o→h'.get? b = some o):∀ a items,h.IsTuple a items→h'.IsTuple a items:=λa items ⟨o,e,r⟩=>⟨o,keep a o e,r⟩
private theorem Inv.robj_keeps {O O':Phi} {H:MH} {h h':Heap} (I:Inv w hB O H h) (pre:O <+: O') (keep:∀ b o,h.get? b = some o→h'.get? b = some o) {i:Nat} {m:MObj} {p:Addr×Option Addr} (hi:H[i]? = some m) (hp:O[i]? = some p):RObj w O' h' m p:=by
 have R:=I.obj i m p hi hp
 obtain ⟨o,e,_⟩:=R.there
 refine R.mono pre (ct keep) ((keep _ _ e).trans e.symm) λd hd=>?_
 obtain ⟨o2,e2,_⟩:=R.there2 hd
 exact (keep _ _ e2).trans e2.symm
private theorem Inv.grow {O:Phi} {H:MH} {h h':Heap} (I:Inv w hB O H h) (keep:∀ b o,h.get? b = some o→h'.get? b = some o):Inv w hB O H h'∧Ext [] O h O h' :=
 ⟨⟨I.len,I.nodup,λb o e=>keep b o (I.base b o e),I.sep,λU U U hi hp=>I.robj_keeps (List.prefix_refl _) keep hi hp⟩,
  ⟨List.prefix_refl _,λU ha=>.inl ha,λb o e U U=>keep b o e,λb e=>by
   cases q:h.get? b with
   | none=>exact absurd q e
   | some o=>rw [keep b o q];simp⟩⟩
private theorem Inv.alloc {O:Phi} {H:MH} {h h':Heap} {m:MObj} {p:Addr×Option Addr} (I:Inv w hB O H h) (keep:∀ b o,h.get? b = some o→h'.get? b = some o) (fresh:∀ a∈own [p],h.get? a = none) (nd:(own [p]).Nodup)
  (r:RObj w (O++[p]) h' m p):Inv w hB (O++[p]) (H++[m]) h'∧Ext [] O h (O++[p]) h':=by
 have pre:O <+: O++[p]:=⟨[p],rfl⟩
 refine ⟨⟨by simp [I.len],?_,λb o e=>keep b o (I.base b o e),λa ha=>?_,λi m' q hi hp=>?_⟩,⟨pre,λa ha=>?_,λb o e U U=>keep b o e,λb e=>?_⟩⟩
 ·rw [dh]
  refine List.nodup_append.mpr ⟨I.nodup,nd,λa ha b hb e=>?_⟩
  subst e
  obtain ⟨o,eo,_⟩:=I.ownThere ha
  rw [fresh a hb] at eo;cases eo
 ·rw [dh] at ha
  rcases List.mem_append.mp ha with ha | ha
  ·exact I.sep a ha
  ·cases q:hB.get? a with
   | none=>rfl
   | some o=>have:=I.base a o q;rw [fresh a ha] at this;cases this
 ·by_cases hlt:i < H.length
  ·rw [List.getElem?_append_left hlt] at hi
   rw [List.getElem?_append_left (by rw [I.len];exact hlt)] at hp
   exact I.robj_keeps pre keep hi hp
  ·have hl:H.length≤i:=Nat.le_of_not_lt hlt
   rw [List.getElem?_append_right hl] at hi
   rw [List.getElem?_append_right (by rw [I.len];exact hl),I.len] at hp
   have z:i - H.length = 0:=by
    have:=(List.getElem?_eq_some_iff.mp hi).1
    simp at this;exact ‹_›
   rw [z] at hi hp
   simp only [List.getElem?_cons_zero,Option.some.injEq] at hi hp
   subst hi hp
   exact r
 ·rw [dh] at ha
  rcases List.mem_append.mp ha with ha | ha
  ·exact .inl ha
  ·exact .inr (fresh a ha)
 ·cases q:h.get? b with
  | none=>exact absurd q e
  | some o=>rw [keep b o q];simp
private theorem pL {O:Phi} {i j:Nat} {p q:Addr×Option Addr} {a:Addr} (nd:(own O).Nodup) (hi:O[i]? = some p) (hj:O[j]? = some q) (ne:i≠j) (ha:a∈own [p]) (hb:a∈own [q]):False:=by
 induction O generalizing i j with
 | nil=>simp at hi
 | cons x O ih =>
  have e:own (x :: O) = own [x]++own O:=dh [x] O
  rw [e] at nd
  obtain ⟨_,n2,n3⟩:=List.nodup_append.mp nd
  have inn:∀ {n:Nat} {r:Addr×Option Addr},O[n]? = some r→a∈own [r]→a∈own O:=λ{n r} hn hr=>by
   unfold own at hr ⊢
   obtain ⟨y,hy,hm⟩:=List.mem_flatMap.mp hr
   obtain rfl:=List.mem_singleton.mp hy
   exact List.mem_flatMap.mpr ⟨y,List.mem_of_getElem? hn,hm⟩
  cases i with
  | zero =>
   obtain rfl:x = p:=by simpa using hi
   cases j with
   | zero=>exact ne rfl
   | succ j=>exact n3 a ha a (inn (by simpa using hj) hb) rfl
  | succ i =>
   cases j with
   | zero =>
    obtain rfl:x = q:=by simpa using hj
    exact n3 a hb a (inn (by simpa using hi) ha) rfl
   | succ j=>exact ih n2 (by simpa using hi) (by simpa using hj) (λz=>ne (by rw [z]))
private theorem Inv.upd {O:Phi} {H:MH} {h h':Heap} {m:MObj} {p:Addr×Option Addr} {i:Nat} {a:Addr} (I:Inv w hB O H h) (hp:O[i]? = some p) (ha:a∈own [p]) (same:∀ b,b≠a→h'.get? b = h.get? b)
  (r:RObj w O h' m p):Inv w hB O (H.set i m) h'∧Ext [] O h O h':=by
 have hown:a∈own O:=by
  unfold own at ha ⊢
  obtain ⟨y,hy,hm⟩:=List.mem_flatMap.mp ha
  obtain rfl:=List.mem_singleton.mp hy
  exact List.mem_flatMap.mpr ⟨y,List.mem_of_getElem? hp,hm⟩
 have keep:∀ b o,h.get? b = some o→b∉own O→h'.get? b = some o:=λb o e n=>(same b λz=>n (z ▸ hown)).trans e
 have kt:∀ b items,h.IsTuple b items→h'.IsTuple b items:=λb items t=>by
  obtain ⟨o,e,n⟩:=ud t
  have z:=keep b o e (I.notOwn e n)
  obtain ⟨o',e',r⟩:=t
  rw [e] at e';cases e'
  exact ⟨o,z,r⟩
 refine ⟨⟨by simp [I.len],I.nodup,λb o e=>?_,I.sep,λj m' q hj hq=>?_⟩,⟨List.prefix_refl _,λU ha=>.inl ha,λb o e n U=>keep b o e n,λb e=>?_⟩⟩
 ·refine (same b λz=>?_).trans (I.base b o e)
  subst z
  have:=I.sep b hown
  rw [e] at this;cases this
 ·by_cases ne:i = j
  ·subst ne
   have hlt:i < H.length:=by
    have:=(List.getElem?_eq_some_iff.mp hj).1
    simpa using this
   rw [List.getElem?_set_self hlt] at hj
   cases hj
   rw [hp] at hq;cases hq
   exact r
  ·rw [List.getElem?_set_ne ne] at hj
   have R:=I.obj j m' q hj hq
   have no:∀ b,b∈own [q]→h'.get? b = h.get? b:=λb hb=>same b λz=>pL I.nodup hp hq ne (z ▸ ha:b∈own [p]) hb
   exact R.mono (List.prefix_refl _) kt (no _ (by rw [bx];exact .head _)) λd hd=>no d (by rw [bx,hd];simp)
 ·by_cases z:b = a
  ·subst z
   rw [bx] at ha
   rcases List.mem_cons.mp ha with rfl | ha
   ·obtain ⟨o,e,_⟩:=r.there;rw [e];simp
   ·cases hd:p.2 with
    | none=>rw [hd] at ha;simp at ha
    | some d =>
     rw [hd] at ha
     obtain rfl:=List.mem_singleton.mp ha
     obtain ⟨o,e,_⟩:=r.there2 hd;rw [e];simp
  ·rw [same b z];exact e
private theorem bR (h:Heap) (o:Obj):∀ b x,h.get? b = some x→(h.push o).get? b = some x:=λU U e=>Heap.get?_push_of_some _ e
private theorem bF (h:Heap):h.get? h.objs.size = none:=by
 cases q:h.get? h.objs.size with
 | none=>rfl
 | some o=>exact absurd (Heap.lt_size q) (Nat.lt_irrefl _)
private theorem sI {A:Around} {O:Phi} {H:MH} {s:Shared} {l:List MV} {vs:List Value} {P:Value→Shared→Prop} (I:Inv w hB O H s.heap) (r:RVs O s.heap l vs) (hz:l.length≤1000)
  (p:∀ (v:Value) (s':Shared),Ext [] O s.heap O s'.heap→Inv w hB O H s'.heap→RV O s'.heap (.tup l) v→Sm s s'→P v s'):wpAny (MM w) A (newTuple vs) P Fls s:=by
 have hl:=r.length
 have hz':vs.toArray.size≤sizeLine:=by rw [List.size_toArray,sizeLine_eq];exact Nat.le_trans (Nat.le_of_eq ‹_›) (Nat.le_trans ‹_› (by decide))
 refine wpAny_newObj_type (p _ _ ?_ ?_ ?_ ⟨rfl,rfl⟩) hz'
 ·exact (I.grow (bR _ _)).2
 ·exact (I.grow (bR _ _)).1
 ·exact wP ⟨_,Heap.get?_push_size _ rfl,rfl,0,rfl⟩ hz' (RVs.mono (List.prefix_refl _) (ct (bR _ _)) (by simpa using r))
private theorem tz {A:Around} {O:Phi} {H:MH} {s:Shared} {l:List MV} {vs:List Value} {P:Value→Shared→Prop} (I:Inv w hB O H s.heap) (r:RVs O s.heap l vs) (hz:l.length≤1000000)
  (p:∀ (O':Phi) (v:Value) (s':Shared),Ext [] O s.heap O' s'.heap→Inv w hB O' (H++[.list l]) s'.heap→RV O' s'.heap (.ref H.length) v→Sm s s'→P v s'):wpAny (MM w) A (newList vs) P Fls s:=by
 have hl:=r.length
 have hz':vs.toArray.size≤sizeLine:=by rw [List.size_toArray,sizeLine_eq];exact Nat.le_trans (Nat.le_of_eq ‹_›) (Nat.le_trans ‹_› (by decide))
 have z:=I.alloc (h':=s.heap.push { cls:=.type "list",data:=.seq vs.toArray }) (m:=.list l) (p:=(s.heap.objs.size,none)) (bR _ _) (λa ha=>by
   rw [bx] at ha
   obtain rfl:=List.mem_singleton.mp ha
   exact bF _) (by rw [bx];simp)
  ⟨rfl,vs.toArray,0,Nat.le_succ_of_le hz',Heap.get?_push_size _ rfl,RVs.mono ⟨_,rfl⟩ (ct (bR _ _)) (by simpa using r)⟩
 refine wpAny_newObj_type (p _ _ _ z.2 z.1 ?_ ⟨rfl,rfl⟩) hz'
 exact gm (p:=(s.heap.objs.size,none)) (by rw [← I.len];simp)
noncomputable def am:EsT:=λU H Q=>Q [] H
noncomputable def ae (e:ET) (es:EsT):EsT:=λL H Q=>e L H λv H'=>es L H' λvs H''=>Q (v :: vs) H''
noncomputable def kG (e:Expr):Bool:=!(starEach [e] default).any (·.1)
private theorem fQ {e:Expr} (h:kG e = true) (es:List Expr) (env:Env):starEach (e :: es) env = (false,eval e env) :: starEach es env:=by
 cases e <;> first | rfl | cases h
set_option tactic.hygienic true in
private theorem dm {e:Expr} {rest:List Expr} {env:Env} (h:(starEach (e :: rest) env).any (·.1) = false):starEach (e :: rest) env = (false,eval e env) :: starEach rest env∧(starEach rest env).any (·.1) = false:=by
 by_cases hp:kG e = true
 ·have z:=fQ hp rest env
  rw [z] at h
  exact ⟨z,by simpa using h⟩
 ·cases e <;> first | exact absurd rfl hp | skip
  rename_i t p
  have:starEach (Expr.Starred t p :: rest) env = (true,eval t env) :: starEach rest env:=rfl
  rw [this] at h
  simp at h
private theorem gh (pos:Pos) (l:List (Bool×Sem Value)):(backTo pos l).any (·.1) = l.any (·.1):=by
 unfold backTo
 rw [List.any_map];rfl
private theorem ak:SEs w hB k Γ [] am :=
 ⟨λpos A env O H L s Q S q=>spliced_nil ⟨O,H,[],Ext.refl _ _ _,S.inv,RVs_nil.mpr rfl,Sm.refl _,q⟩,λU=>rfl⟩
private theorem ac {e:Expr} {es:List Expr} {T:ET} {Ts:EsT} (he:SE w hB k Γ e T) (hs:SEs w hB k Γ es Ts) (hpl:kG e = true):SEs w hB k Γ (e :: es) (ae T Ts):=by
 have hst:=fQ hpl es
 refine ⟨λpos A env O H L s Q S q=>?_,λenv=>by rw [hst];exact hs.2 env⟩
 rw [hst]
 refine spliced_cons (wpAny_mono (he.1 A env O H L s _ S q) (λv s' z=>?_) λU U z=>z)
 obtain ⟨O',H',mv,x1,I',rv,sm,q'⟩:=z
 have S':=S.next x1 I'
 refine wpAny_mono (hs.1 pos A env O' H' L s' _ S' q') (λvs s'' z'=>?_) λU U z=>z
 obtain ⟨O2,H2,ms,x2,I2,rvs,sm2,q2⟩:=z'
 exact ⟨O2,H2,mv :: ms,x1.trans x2,I2,.mk (rv.mono x2.pre (x2.tup0 I')) rvs,sm.trans sm2,q2⟩
noncomputable def aY (es:EsT):ET:=λL H Q=>es L H λvs H'=>vs.length≤1000∧Q (.tup vs) H'
noncomputable def aW (es:EsT):ET:=λL H Q=>es L H λvs H'=>vs.length≤1000000∧Q (.ref H'.length) (H'++[.list vs])
private theorem aN {es:List Expr} {T:EsT} {kd:Nat} {pos:Pos} (h:SEs w hB k Γ es T):SE w hB k Γ (.Tuple es kd pos) (aY T):=by
 refine ⟨?_,trivial⟩
 intro A env O H L s Q S q
 refine Tuple_ (wpAny_mono (h.1 pos A env O H L s _ S q) (λvs s' z=>?_) λU U z=>z)
 obtain ⟨O',H',ms,x1,I',rv,sm,q1,q2⟩:=z
 exact sI I' rv q1 λv s'' x2 I2 r2 sm2=>⟨O',H',_,x1.trans x2,I2,r2,sm.trans sm2,q2⟩
private theorem aO {es:List Expr} {T:EsT} {pos:Pos} (h:SEs w hB k Γ es T):SE w hB k Γ (.List es pos) (aW T):=by
 refine ⟨?_,trivial⟩
 intro A env O H L s Q S q
 refine List_ (wpAny_mono (h.1 pos A env O H L s _ S q) (λvs s' z=>?_) λU U z=>z)
 obtain ⟨O',H',ms,x1,I',rv,sm,q1,q2⟩:=z
 exact tz I' rv q1 λO2 v s'' x2 I2 r2 sm2=>⟨O2,_,_,x1.trans x2,I2,r2,sm.trans sm2,q2⟩
private theorem lG {k:Int} {n j:Nat} (e:ce k n = some j):seqIndex? k n = some j∧-(n:Int)≤k∧k < n∧j < n∧(0≤k→j = k.toNat)∧(k < 0→j = (k + n).toNat):=by
 unfold ce at e
 by_cases h0:0≤k
 ·rw [if_pos h0] at e
  by_cases h1:k < n
  ·rw [if_pos h1] at e;cases e
   exact ⟨seqIndex_of h0 h1,Int.le_trans (Int.neg_nonpos_of_nonneg (Int.natCast_nonneg n)) h0,h1,(Int.toNat_lt h0).mpr h1,λU=>rfl,λz=>absurd h0 (Int.not_le.mpr z)⟩
  ·rw [if_neg h1] at e;exact noS e
 ·rw [if_neg h0] at e
  have hn:=Int.not_le.mp h0
  by_cases h1:-(n:Int)≤k
  ·rw [if_pos h1] at e;cases e
   have z:0≤k + n:=by have:=Int.add_le_add_right h1 (n:Int);rwa [Int.add_left_neg] at this
   exact ⟨seqIndex_neg hn h1,h1,Int.lt_of_lt_of_le hn (Int.natCast_nonneg n),(Int.toNat_lt z).mpr (by have:=Int.add_lt_add_right hn (n:Int);rwa [Int.zero_add] at this),λz=>absurd z h0,λU=>rfl⟩
  ·rw [if_neg h1] at e;exact noS e
private theorem fe:∀ {d:List (Int×Int)} {kvs:List (Int×Value)} {k x:Int},ez d kvs→d.lookup k = some x→∃ t,valueAt kvs k = some (.int x t)
 | [],_,_,_,_,e=>by cases e
 | p :: d,_,k,x,h0,e=>by
  obtain ⟨t,r,rfl,hr⟩:=h0
  obtain ⟨a,b⟩:=p
  unfold valueAt
  rw [List.lookup_cons] at e
  by_cases q:a = k
  ·subst q
   simp only [beq_self_eq_true,Option.some.injEq] at e
   subst e
   exact ⟨t,by simp⟩
  ·have:(k == a) = false:=by simpa using λz=>q z.symm
   rw [this] at e
   obtain ⟨u,hu⟩:=fe hr e
   exact ⟨u,by simpa [q,valueAt] using hu⟩
private theorem rM {A:Around} {O:Phi} {H:MH} {s:Shared} {a:Nat} {l:List MV} {q:Addr×Option Addr} {kk:Int} {t:Tok} {r:MV} {P:Value→Shared→Prop} (I:Inv w hB O H s.heap) (hq:O[a]? = some q) (hi:H[a]? = some (.list l))
  (hr:((ce kk l.length).bind λj=>l[j]?) = some r) (p:∀ u t,RV O s.heap r u→P u { s with toks:=t }):(∃ vs,s.heap.IsList q.1 vs)∧wpAny (MM w) A (getItem (.ref q.1) (.int kk t)) P Fls s:=by
 obtain ⟨_,vs,n,hz,hg,hrv⟩:=I.obj a _ q hi hq
 obtain ⟨j,hj,hl⟩:=Option.bind_eq_some_iff.mp hr
 obtain ⟨u,h1,h2⟩:=hrv.get hl
 have hlen:=hrv.length
 obtain ⟨e1,e2,e3,e4,e5,e6⟩:=lG hj
 have hsz:vs.size = l.length:=hlen
 have hz':l.length≤16777217:=by rw [sizeLine_eq] at hz;rw [← hsz];exact hz
 have hL:s.heap.IsList q.1 vs:=⟨_,hg,rfl,n,rfl⟩
 have h1':vs[j]? = some u:=by simpa using h1
 refine ⟨⟨vs,hL⟩,?_⟩
 by_cases h0:0≤kk
 ·refine wpAny_getItem_list hL h0 (by omega) ?_ (p u s.toks h2)
  rw [← e5 h0];exact h1'
 ·have hn:=Int.not_le.mp h0
  refine wpAny_getItem_list_neg hL hn (by omega) (by omega) ?_ (p u s.toks h2)
  rw [hsz,← e6 hn];exact h1'
private theorem xN {A:Around} {O:Phi} {H:MH} {s:Shared} {m i r:MV} {v iv:Value} {value slice:Expr} {P:Value→Shared→Prop} (I:Inv w hB O H s.heap) (rv:RV O s.heap m v) (ri:RV O s.heap i iv)
  (hr:cy H m i = some r) (p:∀ u t,RV O s.heap r u→P u { s with toks:=t }) (hs:∀ o i,subscripted slice false o i = operate [o,i] (getItem o i)):wpAny (MM w) A (subscriptTail value slice v iv) P Fls s:=by
 cases m with
 | tup l =>
  cases i with
  | int kk =>
   obtain ⟨t,rfl⟩:=ri.int_of
   obtain ⟨a,items,rfl,ht,hz,hrv⟩:=rv.tup_of
   obtain ⟨j,hj,hl⟩:=Option.bind_eq_some_iff.mp hr
   obtain ⟨u,h1,h2⟩:=hrv.get hl
   have hlen:=hrv.length
   obtain ⟨e1,e2,e3,e4,_⟩:=lG hj
   have hz':l.length≤16777216:=by rw [sizeLine_eq] at hz;rw [← hlen];simpa using hz
   refine item_tupleT (l:=items.toList) (j:=j) (x:=u) ?_ ?_ ?_ ?_ h1 (p u s.toks h2) (hs _ _)
   ·exact ht
   ·omega
   ·omega
   ·rw [hlen];exact e1
  | _=>exact noS hr
 | ref a =>
  cases i with
  | int kk =>
   obtain ⟨t,rfl⟩:=ri.int_of
   obtain ⟨q,hq,rfl⟩:=rv.ref_of
   replace hr:itO H[a]? kk = some r:=hr
   cases hi:H[a]? with
   | none=>rw [hi] at hr;exact noS hr
   | some o =>
    rw [hi] at hr
    cases o with
    | list l =>
     obtain ⟨⟨vs,hL⟩,z⟩:=rM I hq hi hr p
     exact tail_any hL.typeIs list_getitem_lookup z (hs _ _)
    | dict d =>
     obtain ⟨_,_,kvs,hd,hp⟩:=I.obj a _ q hi hq
     obtain ⟨x,hx,rfl⟩:=Option.map_eq_some_iff.mp hr
     obtain ⟨u,hu⟩:=fe hp hx
     exact tail_any hd.typeIs slot_dict_getitem.lookup (wpAny_getItem_of (intKind_is PW w kk t) hd.mapOf hu (p _ _ cG)) (hs _ _)
    | _=>exact noS hr
  | _=>exact noS hr
 | _=>exact noS hr
noncomputable def aP (e i:ET):ET:=λL H Q=>e L H λv H'=>i L H' λu H''=>oV (cy H'' v u) Q H''
private theorem aK {e i:Expr} {T Ti:ET} {pos:Pos} (he:SE w hB k Γ e T) (hi:SE w hB k Γ i Ti) (hs:∀ a b,subscripted i false a b = operate [a,b] (getItem a b)):SE w hB k Γ (.Subscript e i pos) (aP T Ti):=by
 refine ⟨?_,trivial⟩
 intro A env O H L s Q S q
 refine Subscript_ (wpAny_mono (he.1 A env O H L s _ S q) (λv s' z=>?_) λU U z=>z)
 obtain ⟨O',H',mv,x1,I',rv,sm,q'⟩:=z
 have S':=S.next x1 I'
 refine wpAny_mono (hi.1 A env O' H' L s' _ S' q') (λu s'' z'=>?_) λU U z=>z
 obtain ⟨O2,H2,mi,x2,I2,ri,sm2,q2⟩:=z'
 obtain ⟨r,hr,q2⟩:=ul q2
 ·exact xN I2 (rv.mono x2.pre (x2.tup0 I')) ri hr (λu t hu=>⟨O2,H2,r,x1.trans x2,I2,hu,⟨(sm.trans sm2).gens,(sm.trans sm2).os⟩,q2⟩) hs
end
end Mine
end
section
namespace Mine
section
variable {w:World} {hB:Heap} {k:Nat} {Γ:Ctx}
private theorem lV {O:Phi} {h:Heap} {p:Addr×Option Addr} (r:RObj w O h .full p):Heap.SetOf (intKind PW w) h p.1 (λk=>decide (0≤k∧k < 4)) 4:=by
 obtain ⟨_,es,ep,t,e,h1,h2,h3,h4⟩:=r
 refine ⟨_,es,ep,t,e,⟨rfl,rfl,rfl⟩,rfl,h1,λk=>?_,?_,?_,h3⟩
 ·rw [decide_eq_true_eq];exact h2 k
 ·rw [h3];decide
 ·rw [h3];exact h4
private theorem qC:entryFor table "set.__le__" = some Builtin.«frozenset.__le__» :=
 entryFor_alias (id':="frozenset.__le__") (by kernel_rfl) rfl (by decide +kernel) (by kernel_rfl)
private theorem yp {t:SetTable} {es:Array (Int×Value)} (h4:t.fits 4 = true) (h3:es.size = 4):(t.place.size != es.size || decide (t.fill > t.mask)) = false:=by
 simp only [SetTable.fits,Bool.and_eq_true,beq_iff_eq,decide_eq_true_eq] at h4
 simp [h4.1,Nat.not_lt.mpr h4.2,h3]
private theorem i4 {A:Around} {s:Shared} {a:Addr} {es:Array (Int×Value)} {ep:Nat} {t:SetTable} {Q:Array (Int×Value)→Shared→Prop} (e:s.heap.get? a = some { cls:=.type "set",dict:=none,data:=.set es ep t }) (h4:t.fits 4 = true) (h3:es.size = 4) (h:Q es s) :
  wpAny (MM w) A (setEntries a) Q Fls s:=wpAny_setEntries_of e rfl (by rw [h3];exact h4) h
private theorem kU {A:Around} {s:Shared} {a:Addr} {es:Array (Int×Value)} {ep:Nat} {t:SetTable} {Q:Nat→Shared→Prop} (e:s.heap.get? a = some { cls:=.type "set",dict:=none,data:=.set es ep t }) (h4:t.fits 4 = true) (h3:es.size = 4) (h:Q 4 s) :
  wpAny (MM w) A (Builtin.Frozenset.sizeOf a) Q Fls s:=by
 unfold Builtin.Frozenset.sizeOf
 refine wpAny_bind (i4 e h4 h3 (wpAny_pure ?_))
 rw [h3];exact h
private theorem hV {es:Array (Int×Value)} (h1:ElemsOf (intKind PW w) es.toList):∀ e∈es.toList,∃ k t,e.2 = .int k t∧e.1 = (intKind PW w).hash k:=λe he=>by
 obtain ⟨⟨k,hk,hh⟩,_⟩:=h1 e he
 obtain ⟨t,ht⟩:=Value.isInt_shape hk
 exact ⟨k,t,ht,hh⟩
private theorem jf {α β:Type} {A:Around} {s:Shared} {f:α→β→Sem (ForInStep β)} {b:β} {Q:β→Shared→Prop}:∀ (l:List α),(∀ x∈l,∀ Q':ForInStep β→Shared→Prop,Q' (.yield b) s→wpAny (MM w) A (f x b) Q' Fls s)→Q b s→wpAny (MM w) A (forIn l b f) Q Fls s
 | [],_,q=>by rw [List.forIn_nil];exact wpAny_pure q
 | x :: l,h,q=>by
  rw [List.forIn_cons]
  exact wpAny_bind (h x (.head _) _ (jf l (λy hy=>h y (.tail _ hy)) q))
private theorem oP {A:Around} {s:Shared} {a b:Addr} {es es':Array (Int×Value)} {ep ep':Nat} {t t':SetTable} {Q:List (Int×Value)→Shared→Prop} (e:s.heap.get? a = some { cls:=.type "set",dict:=none,data:=.set es ep t }) (h4:t.fits 4 = true) (h3:es.size = 4)
  (e':s.heap.get? b = some { cls:=.type "set",dict:=none,data:=.set es' ep' t' }) (h4':t'.fits 4 = true) (h3':es'.size = 4) (h1:ElemsOf (intKind PW w) es.toList) (h1':ElemsOf (intKind PW w) es'.toList) (h:Q es.toList s) :
  wpAny (MM w) A (Builtin.Frozenset.walkUnseen a b) Q Fls s:=by
 unfold Builtin.Frozenset.walkUnseen
 refine wpAny_bind (i4 e h4 h3 ?_)
 refine wpAny_bind (i4 e' h4' h3' ?_)
 refine wpAny_bind (jf _ (λx hx Q' q=>?_) (wpAny_pure h))
 have hv:∃ k t,x.2 = .int k t:=by
  rcases List.mem_append.mp hx with hx | hx
  ·obtain ⟨k,t,a,_⟩:=hV h1 x hx;exact ⟨k,t,a⟩
  ·obtain ⟨k,t,a,_⟩:=hV h1' x hx;exact ⟨k,t,a⟩
 obtain ⟨hh,v⟩:=x
 obtain ⟨kk,tk,rfl⟩:=hv
 show wpAny (MM w) A (Builtin.Frozenset.quietEq (.int kk tk) >>= _) _ _ _
 refine wpAny_bind (m:=Builtin.Frozenset.quietEq (.int kk tk)) (wpAny_of_eq (show Builtin.Frozenset.quietEq (.int kk tk) = pure true from rfl) ?_)
 exact wpAny_pure q
private theorem uW {A:Around} {s:Shared} {a b:Addr} {id:String} {es es':Array (Int×Value)} {ep ep':Nat} {t t':SetTable} {Q:Bool→Shared→Prop} (e:s.heap.get? a = some { cls:=.type "set",dict:=none,data:=.set es ep t }) (h4:t.fits 4 = true) (h3:es.size = 4)
  (e':s.heap.get? b = some { cls:=.type "set",dict:=none,data:=.set es' ep' t' }) (h4':t'.fits 4 = true) (h3':es'.size = 4) (h1:ElemsOf (intKind PW w) es.toList) (h1':ElemsOf (intKind PW w) es'.toList)
  (S2:Heap.SetOf (intKind PW w) s.heap b (λk=>decide (0≤k∧k < 4)) 4) (h2:∀ k:Int,(0≤k∧k < 4)↔∃ e∈es.toList,(intKind PW w).is k e.2 = true) (h:Q true s) :
  wpAny (MM w) A (Builtin.Frozenset.subsetOf id a b) Q Fls s:=by
 unfold Builtin.Frozenset.subsetOf
 refine wpAny_bind (kU e h4 h3 ?_)
 refine wpAny_bind (kU e' h4' h3' ?_)
 rw [if_neg (Nat.lt_irrefl 4)]
 refine wpAny_bind (wpAny_setEpoch_of e rfl (by rw [h3];exact h4) ?_)
 refine wpAny_bind (oP e h4 h3 e' h4' h3' h1 h1' ?_)
 refine wpAny_bind (jf _ (λx hx Q' q=>?_) (wpAny_pure h))
 obtain ⟨kk,tk,hv,hh⟩:=hV h1 x hx
 obtain ⟨hx1,v⟩:=x
 dsimp only at hv hh
 subst hv hh
 have hin:=(h2 kk).mpr ⟨_,hx,intKind_is PW w kk tk⟩
 refine wpAny_bind (m:=holding [Value.int kk tk] (setFind b (.int kk tk) ((intKind PW w).hash kk))) (wpAny_holding (wpAny_setFind_of (intKind_is PW w kk tk) rfl S2 λr hr=>?_))
 have hr':r.isNone = false:=by
  rw [decide_eq_true hin] at hr
  cases r with
  | none=>cases hr
  | some _=>rfl
 rw [hr']
 simp only [Bool.false_eq_true,if_false]
 unfold Builtin.Frozenset.unchanged
 refine wpAny_bind (wpAny_bind (wpAny_setEpoch_of e rfl (by rw [h3];exact h4) ?_))
 rw [show (ep != ep) = false by simp]
 exact wpAny_pure (wpAny_pure q)
set_option maxHeartbeats 3200000 in
private theorem yk {A:Around} {s:Shared} {O:Phi} {p q:Addr×Option Addr} {P:Value→Shared→Prop} (f1:RObj w O s.heap .full p) (f2:RObj w O s.heap .full q) (hu:A.units < cLine) (hp:P (.bool true) s) :
  wpAny (MM w) A (compareOp .LtE (.ref p.1) (.ref q.1)) P Fls s:=by
 have S1:=lV f1
 have S2:=lV f2
 have T1:=S1.typeIs
 have T2:=S2.typeIs
 refine cmp_ofLtE (wpAny_richCompare_same_room T1 T2 F.slot_set_le (wpAny_call_entry F.slot_set_le T1 qC ?_ (F.args_set_le_2 _ _)) hu)
 have hss:=sub_set_self
 obtain ⟨_,es,ep,t,e,h1,h2,h3,h4⟩:=f1
 obtain ⟨_,es',ep',t',e',h1',h2',h3',h4'⟩:=f2
 unfold Builtin.«frozenset.__le__»
 wp_walk
 rw [yp h4 h3]
 simp only [Bool.false_eq_true,↓reduceIte]
 refine wpAny_pure (wpAny_pure (wpAny_pure ?_))
 refine wpAny_bind (kU e' h4' h3' ?_)
 refine wpAny_bind (uW e h4 h3 e' h4' h3' h1 h1' S2 h2 ?_)
 exact wpAny_pure ⟨_,rfl,nofun,hp⟩
end
end Mine
end
section
namespace Mine
inductive COp where
 | eq | ne | lt | le | gt | ge | is_ | isNot | in_ | notIn
noncomputable def COp.py:COp→CmpOp
 | .eq=>.Eq | .ne=>.NotEq | .lt=>.Lt | .le=>.LtE | .gt=>.Gt | .ge=>.GtE | .is_=>.Is | .isNot=>.IsNot | .in_=>.In | .notIn=>.NotIn
noncomputable def eqS (x y:MV):Option Bool:=match x with
 | .int a=>(match y with | .int b=>some (a == b) | _=>none)
 | .sym a=>(match y with | .sym b=>some (a == b) | _=>none)
 | .bool a=>(match y with | .bool b=>some (a == b) | _=>none)
 | _=>none
private theorem nN {P:MV→MV→Bool→Prop} (h1:∀ i j,P (.int i) (.int j) (i == j)) (h2:∀ m n,P (.sym m) (.sym n) (m == n)) (h3:∀ x y,P (.bool x) (.bool y) (x == y)) {a b:MV} {c:Bool} (e:eqS a b = some c):P a b c:=by
 cases a with
 | int i =>
  cases b with
  | int j=>cases e;exact h1 i j
  | _=>exact noS e
 | sym i =>
  cases b with
  | sym j=>cases e;exact h2 i j
  | _=>exact noS e
 | bool i =>
  cases b with
  | bool j=>cases e;exact h3 i j
  | _=>exact noS e
 | _=>exact noS e
inductive DV where
 | int (i:Int)
 | sym (n:Nat)
 | bool (b:Bool)
 | lst (l:List DV)
 | tup (l:List DV)
mutual
noncomputable def eqD:DV→DV→Bool
 | .int i,d=>(match d with | .int j=>i == j | .bool b=>i == (if b then 1 else 0) | _=>false)
 | .sym i,d=>(match d with | .sym j=>i == j | _=>false)
 | .bool a,d=>(match d with | .bool b=>a == b | .int j=>(if a then 1 else 0) == j | _=>false)
 | .lst a,d=>(match d with | .lst b=>nR a b | _=>false)
 | .tup a,d=>(match d with | .tup b=>nR a b | _=>false)
noncomputable def nR:List DV→List DV→Bool
 | [],[]=>true
 | a :: r,b :: q=>eqD a b && nR r q
 | [],_ :: _=>false
 | _ :: _,[]=>false
end
private theorem mN {a b:DV} {r q:List DV}:nR (a :: r) (b :: q) = (eqD a b && nR r q):=rfl
private theorem uX {i j:Int}:eqD (.int i) (.int j) = (i == j):=rfl
private theorem xI {i j:Nat}:eqD (.sym i) (.sym j) = (i == j):=rfl
private theorem Ao {i j:Bool}:eqD (.bool i) (.bool j) = (i == j):=rfl
private theorem xL {r q:List DV}:eqD (.lst r) (.lst q) = nR r q:=rfl
private theorem uG {r q:List DV}:eqD (.tup r) (.tup q) = nR r q:=rfl
private theorem wj:nR [] [] = true:=rfl
noncomputable def ui {α:Type} (a:Option α) (b:Option (List α)):Option (List α):=match a with
 | some d=>(match b with | some ds=>some (d :: ds) | none=>none)
 | none=>none
private theorem dR {α:Type} {a:α} {b:List α}:ui (some a) (some b) = some (a :: b):=rfl
private theorem te {α:Type} {a:Option α} {b:Option (List α)} {l:List α} (e:ui a b = some l):∃ x y,a = some x∧b = some y∧l = x :: y:=by
 cases a with
 | none=>exact noS e
 | some x =>
  cases b with
  | none=>exact noS e
  | some y=>cases e;exact ⟨x,y,rfl,rfl,rfl⟩
noncomputable def e9 (g:MV→Option DV):List MV→Option (List DV)
 | []=>some []
 | m :: r=>ui (g m) (e9 g r)
private theorem de {g:MV→Option DV}:e9 g [] = some []:=rfl
private theorem cF {g:MV→Option DV} {m:MV} {r:List MV}:e9 g (m :: r) = ui (g m) (e9 g r):=rfl
noncomputable def yU (g:MV→Option DV) (o:Option MObj):Option DV:=match o with
 | some (.list l)=>(e9 g l).map .lst
 | _=>none
noncomputable def zR (g:MV→Option DV) (H:MH) (m:MV):Option DV:=match m with
 | .int i=>some (.int i)
 | .sym n=>if n < 21 then some (.sym n) else none
 | .bool b=>some (.bool b)
 | .tup l=>(e9 g l).map .tup
 | .ref i=>yU g H[i]?
 | _=>none
noncomputable def deep (f:Nat) (H:MH):MV→Option DV:=match f with
 | 0=>λU=>none
 | f + 1=>zR (deep f H) H
private theorem eF {f:Nat} {H:MH} {l:List MV}:deep (f + 1) H (.tup l) = (e9 (deep f H) l).map .tup:=rfl
private theorem jt {f n:Nat} {H:MH}:deep (f + 1) H (.sym n) = if n < 21 then some (.sym n) else none:=rfl
private theorem sq {f i:Nat} {H:MH}:deep (f + 1) H (.ref i) = yU (deep f H) H[i]?:=rfl
noncomputable def eqO (a b:Option DV):Option Bool:=match a with
 | some x=>(match b with | some y=>some (eqD x y) | none=>none)
 | none=>none
private theorem wd {a b:Option DV} {c:Bool} (e:eqO a b = some c):∃ x y,a = some x∧b = some y∧eqD x y = c:=by
 cases a with
 | none=>exact noS e
 | some x =>
  cases b with
  | none=>exact noS e
  | some y=>cases e;exact ⟨x,y,rfl,rfl,rfl⟩
noncomputable def eqX (H:MH) (a b:MV):Option Bool:=eqO (deep 8 H a) (deep 8 H b)
noncomputable def eqL (i j:Nat) (l l':List MV) (o:Option Bool):Option Bool:=if i≠j∧(l.isEmpty || l'.isEmpty) = true then some (l.isEmpty && l'.isEmpty) else o
noncomputable def eqR (i j:Nat) (a b:Option MObj) (o:Option Bool):Option Bool:=match a with
 | some (.list l)=>(match b with | some (.list l')=>eqL i j l l' o | _=>none)
 | _=>none
private theorem vY {i j:Nat} {a b:Option MObj} {o:Option Bool} {c:Bool} (e:eqR i j a b o = some c):∃ l l',a = some (.list l)∧b = some (.list l')∧eqL i j l l' o = some c:=by
 cases a with
 | none=>exact noS e
 | some a =>
  cases a with
  | list l =>
   cases b with
   | none=>exact noS e
   | some b =>
    cases b with
    | list l'=>exact ⟨l,l',rfl,rfl,e⟩
    | _=>exact noS e
  | _=>exact noS e
noncomputable def eqE (H:MH) (a b:MV) (o:Option Bool):Option Bool:=match o with
 | some c=>some c
 | none=>eqX H a b
noncomputable def eqV (H:MH) (a b:MV):Option Bool:=match a with
 | .ref i=>(match b with | .ref j=>eqR i j H[i]? H[j]? (eqX H (.ref i) (.ref j)) | _=>eqX H (.ref i) b)
 | _=>eqE H a b (eqS a b)
private theorem pZ {H:MH} {i j:Nat}:eqV H (.ref i) (.ref j) = eqR i j H[i]? H[j]? (eqX H (.ref i) (.ref j)):=rfl
noncomputable def isV (x y:MV):Option Bool:=match x with
 | .none=>(match y with | .none=>some true | .int _=>some false | .ref _=>some false | _=>none)
 | .int _=>(match y with | .none=>some false | _=>none)
 | .ref i=>(match y with | .none=>some false | .ref j=>some (i == j) | _=>none)
 | _=>none
noncomputable def xV (a b:Option Bool):Option Bool:=match a with
 | some a=>(match b with | some b=>some (a || b) | none=>none)
 | none=>none
noncomputable def fx (x:MV):List MV→Option Bool
 | []=>some false
 | y :: r=>xV (eqS y x) (fx x r)
noncomputable def dZ (t n:Nat):Bool:=match t with
 | 0=>n == 5
 | 1=>n == 3
 | _=>n == 8 || n == 9 || n == 10 || n == 11
noncomputable def inO (o:Option MObj) (x:MV):Option Bool:=match o with
 | some (.list l)=>fx x l
 | some (.dict d)=>(match x with | .int k=>some (d.lookup k).isSome | _=>none)
 | some (.set l)=>(match x with | .int k=>some (decide (k∈l)) | _=>none)
 | some .full=>(match x with | .int k=>some (decide (0≤k∧k < 4)) | _=>none)
 | _=>none
noncomputable def inV (H:MH) (x y:MV):Option Bool:=match y with
 | .tup l=>fx x l
 | .ref i=>inO H[i]? x
 | .tab t=>match x with
  | .sym n=>if n < 21 then some (dZ t n) else none
  | _=>none
 | _=>none
noncomputable def ltV (f:Int→Int→Bool) (x y:MV):Option Bool:=match x with
 | .int a=>(match y with | .int b=>some (f a b) | _=>none)
 | _=>none
noncomputable def leF (a b:Option MObj):Option Bool:=match a with | some .full=>(match b with | some .full=>some true | _=>none) | _=>none
private theorem vO {a b:Option MObj} {c:Bool} (e:leF a b = some c):a = some .full∧b = some .full∧c = true:=by
 cases a with
 | none=>exact noS e
 | some o =>
  cases o with
  | full =>
   cases b with
   | none=>exact noS e
   | some o' =>
    cases o' with
    | full=>cases e;exact ⟨rfl,rfl,rfl⟩
    | _=>exact noS e
  | _=>exact noS e
noncomputable def yN (H:MH) (x y:MV):Option Bool:=match x with
 | .ref i=>(match y with
  | .ref j=>leF H[i]? H[j]?
  | _=>none)
 | .int a=>(match y with | .int b=>some (decide (a≤b)) | _=>none)
 | _=>none
noncomputable def cp (H:MH):COp→MV→MV→Option Bool
 | .eq,a,b=>eqV H a b
 | .ne,a,b=>(eqV H a b).map (!·)
 | .is_,a,b=>isV a b
 | .isNot,a,b=>(isV a b).map (!·)
 | .in_,a,b=>inV H a b
 | .notIn,a,b=>(inV H a b).map (!·)
 | .lt,a,b=>ltV (λx y=>decide (x < y)) a b
 | .le,a,b=>yN H a b
 | .gt,a,b=>ltV (λx y=>decide (y < x)) a b
 | .ge,a,b=>ltV (λx y=>decide (y≤x)) a b
section
variable {w:World} {hB:Heap} {k:Nat} {Γ:Ctx}
private theorem lR {m n:Nat} {x y:Str} (hx:symTab[m]? = some x) (hy:symTab[n]? = some y):(m == n) = (x == y):=by
 by_cases q:m = n
 ·subst q
  rw [hx] at hy
  cases hy
  rw [beq_self_eq_true,beq_self_eq_true]
 ·have h1:(m == n) = false:=by simpa using q
  have h2:(x == y) = false:=by simpa using λz:x = y=>q (tH (z ▸ hx) hy)
  rw [h1,h2]
private theorem Room.cmp {A:Around} (R:Room k A):A.units + 64 < cLine:=by
 exact Nat.add_lt_add_right (Nat.lt_of_le_of_lt (Nat.le_trans (Nat.le_add_right _ _) R.units) (by decide:9000 < 9836)) 64
private theorem Room.cl {A:Around} (R:Room k A):A.units < cLine:=by
 have:=R.units
 show A.units < 9900
 exact Nat.lt_of_le_of_lt (Nat.le_trans (Nat.le_add_right _ _) this) (by decide)
private theorem zL {A:Around} {s:Shared} {O:Phi} {a b:MV} {u v:Value} {c:Bool} (ra:RV O s.heap a u) (rb:RV O s.heap b v) (e:eqS a b = some c):PySem.SeqAt.EqAt A s u v c:=by
 refine nN (P:=λa b c=>RV O s.heap a u→RV O s.heap b v→PySem.SeqAt.EqAt A s u v c) (λi j ra rb=>?_) (λm n ra rb=>?_) (λx y ra rb=>?_) e ra rb
 ·obtain ⟨t,rfl⟩:=ra.int_of
  obtain ⟨t',rfl⟩:=rb.int_of
  exact PySem.SeqAt.EqAt.int_int _ _ _ _
 ·obtain ⟨x,t,hx,rfl⟩:=ra.sym_of
  obtain ⟨y,t',hy,rfl⟩:=rb.sym_of
  rw [lR hx hy];exact PySem.SeqAt.EqAt.str_str _ _ _ _
 ·rw [ra.bool_of,rb.bool_of]
  exact PySem.SeqAt.EqAt.bool_bool _ _
private theorem yo {A:Around} (R:Room k A) {s:Shared} {O:Phi} {a b:MV} {u v:Value} {c:Bool} {P:Value→Shared→Prop} (ra:RV O s.heap a u) (rb:RV O s.heap b v) (e:eqS a b = some c) :
  (P (.bool c) s→wpAny (MM w) A (compareOp .Eq u v) P Fls s)∧(P (.bool !c) s→wpAny (MM w) A (compareOp .NotEq u v) P Fls s):=by
 refine nN (P:=λa b c=>RV O s.heap a u→RV O s.heap b v→(P (.bool c) s→wpAny (MM w) A (compareOp .Eq u v) P Fls s)∧(P (.bool !c) s→wpAny (MM w) A (compareOp .NotEq u v) P Fls s)) (λi j ra rb=>?_) (λm n ra rb=>?_) (λx y ra rb=>?_) e ra rb
 ·obtain ⟨t,rfl⟩:=ra.int_of
  obtain ⟨t',rfl⟩:=rb.int_of
  exact ⟨eq_int,ne_int⟩
 ·obtain ⟨x,t,hx,rfl⟩:=ra.sym_of
  obtain ⟨y,t',hy,rfl⟩:=rb.sym_of
  rw [lR hx hy];exact ⟨eq_str,ne_str⟩
 ·rw [ra.bool_of,rb.bool_of]
  refine ⟨λp=>eq_dataH (.bool x) (.bool y) rfl rfl ?_ p,λp=>ne_dataH (.bool x) (.bool y) rfl rfl ?_ p⟩ <;> exact R.cmp
private theorem wJ {A:Around} {s:Shared} {O:Phi} {H:MH} {a b:MV} {u v:Value} {c:Bool} {P:Value→Shared→Prop} (I:Inv w hB O H s.heap) (ra:RV O s.heap a u) (rb:RV O s.heap b v)
  (e:isV a b = some c):(P (.bool c) s→wpAny (MM w) A (compareOp .Is u v) P Fls s)∧(P (.bool !c) s→wpAny (MM w) A (compareOp .IsNot u v) P Fls s):=by
 cases a with
 | none =>
  cases b with
  | none =>
   rw [ra.none_of,rb.none_of];cases e
   exact ⟨wpAny_is_self rfl,wpAny_isNot_self rfl⟩
  | int =>
   rw [ra.none_of];obtain ⟨t,rfl⟩:=rb.int_of;cases e
   exact ⟨wpAny_is_other rfl nofun,wpAny_isNot_other rfl nofun⟩
  | ref =>
   rw [ra.none_of];obtain ⟨t,_,rfl⟩:=rb.ref_of;cases e
   exact ⟨wpAny_is_other rfl nofun,wpAny_isNot_other rfl nofun⟩
  | _=>exact noS e
 | int =>
  cases b with
  | none =>
   rw [rb.none_of];obtain ⟨t,rfl⟩:=ra.int_of;cases e
   exact ⟨wpAny_is_other rfl nofun,wpAny_isNot_other rfl nofun⟩
  | _=>exact noS e
 | ref i =>
  cases b with
  | none =>
   rw [rb.none_of];obtain ⟨t,_,rfl⟩:=ra.ref_of;cases e
   exact ⟨wpAny_is_other rfl nofun,wpAny_isNot_other rfl nofun⟩
  | ref j =>
   obtain ⟨p,hp,rfl⟩:=ra.ref_of
   obtain ⟨q,hq,rfl⟩:=rb.ref_of
   cases e
   by_cases z:i = j
   ·subst z
    rw [hp] at hq;cases hq
    rw [beq_self_eq_true]
    exact ⟨wpAny_is_ref_self,wpAny_isNot_ref_self⟩
   ·have ne:p.1≠q.1:=λx=>pL I.nodup hp hq z (by rw [bx];exact .head _) (by rw [bx,x];exact .head _)
    obtain ⟨o1,e1,k1⟩:=I.ownThere (ey hp)
    obtain ⟨o2,e2,k2⟩:=I.ownThere (ey hq)
    have nt:o1.cls≠.type "tuple":=by rintro x;rcases k1 with y | y | y | ⟨_,y⟩ <;> rw [x] at y <;> simp at y
    rw [beq_eq_false_iff_ne.mpr z]
    exact ⟨wpAny_is_ref_other ne e1 e2 nt,wpAny_isNot_ref_other ne e1 e2 nt⟩
  | _=>exact noS e
 | _=>exact noS e
private theorem vW {h:Heap} {O:Phi} {H:MH} {i:Nat} {l:List MV} {p:Addr×Option Addr} (I:Inv w hB O H h) (hi:H[i]? = some (.list l)) (hp:O[i]? = some p):∃ vs n,vs.size = l.length∧vs.size≤sizeLine + 1∧IsL h p.1 vs n∧h.IsList p.1 vs∧RVs O h l vs.toList:=by
 obtain ⟨_,vs,n,hz,hg,hrv⟩:=I.obj i _ p hi hp
 exact ⟨vs,n,by simpa using hrv.length,hz,hg,⟨_,hg,rfl,n,rfl⟩,hrv⟩
private theorem bU {s:Shared} {O:Phi} {H:MH} {i:Nat} {l:List MV} {p:Addr×Option Addr} (I:Inv w hB O H s.heap) (hi:H[i]? = some (.list l)) (hp:O[i]? = some p):∃ vs n,vs.size = l.length∧vs.size≤sizeLine + 1∧IsL s.heap p.1 vs n∧s.heap.IsList p.1 vs∧RVs O s.heap l vs.toList:=by
 obtain ⟨_,vs,n,hz,hg,hrv⟩:=I.obj i _ p hi hp
 exact ⟨vs,n,by simpa using hrv.length,hz,hg,⟨_,hg,rfl,n,rfl⟩,hrv⟩
mutual
noncomputable def pd:DV→PyData
 | .int i=>.int i
 | .sym n=>.str (symTab.getD n Str.empty)
 | .bool b=>.bool b
 | .lst l=>.list (pds l)
 | .tup l=>.tuple (pds l)
noncomputable def pds:List DV→List PyData
 | []=>[]
 | d :: r=>pd d :: pds r
end
mutual
noncomputable def dOk:DV→Bool
 | .int _=>true
 | .sym n=>decide (n < 21)
 | .bool _=>true
 | .lst l=>uR l
 | .tup l=>uR l
noncomputable def uR:List DV→Bool
 | []=>true
 | d :: r=>dOk d && uR r
end
private theorem vd {n:Nat} (h:n < 21):(PyData.str (symTab.getD n Str.empty)).canLay0 = true:=by
 have:((List.range 21).all λn=>(PyData.str (symTab.getD n Str.empty)).canLay0) = true:=by kernel_rfl!
 exact List.all_eq_true.mp this n (List.mem_range.mpr h)
private theorem zA {m n:Nat} (hm:m < 21) (hn:n < 21):(symTab.getD m Str.empty == symTab.getD n Str.empty) = (m == n):=by
 have e1:symTab[m]? = some (symTab.getD m Str.empty):=by rw [List.getD_eq_getElem?_getD,List.getElem?_eq_getElem (show m < symTab.length from hm)];rfl
 have e2:symTab[n]? = some (symTab.getD n Str.empty):=by rw [List.getD_eq_getElem?_getD,List.getElem?_eq_getElem (show n < symTab.length from hn)];rfl
 exact (lR e1 e2).symm
mutual
private theorem wh:∀ a b:DV,dOk a = true→dOk b = true→PyData.eqv (pd a) (pd b) = eqD a b
 | .int _,b,_,_=>by cases b <;> rfl
 | .bool _,b,_,_=>by cases b <;> rfl
 | .sym m,b,ha,hb=>by cases b with
  | sym n=>exact zA (of_decide_eq_true ha) (of_decide_eq_true hb)
  | _=>rfl
 | .lst a,b,ha,hb=>by cases b with
  | lst b=>exact qG a b ha hb
  | _=>rfl
 | .tup a,b,ha,hb=>by cases b with
  | tup b=>exact qG a b ha hb
  | _=>rfl
private theorem qG:∀ a b:List DV,uR a = true→uR b = true→PyData.eqvAll (pds a) (pds b) = nR a b
 | [],b,_,_=>by cases b <;> rfl
 | a :: r,b,ha,hb=>by cases b with
  | nil=>rfl
  | cons b q =>
   have ha:=Bool.and_eq_true_iff.mp ha
   have hb:=Bool.and_eq_true_iff.mp hb
   exact congr (congrArg and (wh a b ha.1 hb.1)) (qG r q ha.2 hb.2)
end
private theorem mK {O:Phi} {H:MH} {h:Heap} (I:Inv w hB O H h):∀ (f:Nat),
    (∀ {m:MV} {v:Value} {d:DV},deep f H m = some d→RV O h m v→dOk d = true∧(pd d).canLay0 = true∧(pd d).depth≤f∧∃ as,Reads h v (pd d) as):=by
  intro f
  induction f with
  | zero=>intro m v d e;cases e
  | succ f ih =>
    have all:∀ (l:List MV) (vs:List Value) (ds:List DV),e9 (deep f H) l = some ds→RVs O h l vs→uR ds = true∧PyData.canLayAll0 (pds ds) = true∧PyData.depthAll (pds ds)≤f∧∃ as,ReadsAll h vs (pds ds) as:=by
      intro l
      induction l with
      | nil =>
        intro vs ds e r
        obtain rfl:=RVs_nil.mp r
        cases e
        exact ⟨rfl,rfl,Nat.zero_le _,[],.nil⟩
      | cons m ms ihl =>
        intro vs ds e r
        obtain ⟨v,q,rfl,a,b⟩:=RVs_cons.mp r
        obtain ⟨d,ds',e1,e2,rfl⟩:=te e
        · obtain ⟨a1,a2,a3,as,a4⟩:=ih e1 a
          obtain ⟨b1,b2,b3,bs,b4⟩:=ihl q ds' e2 b
          refine ⟨Bool.and_eq_true_iff.mpr ⟨a1,b1⟩,Bool.and_eq_true_iff.mpr ⟨a2,b2⟩,Nat.max_le.mpr ⟨a3,b3⟩,as++bs,.cons a4 b4⟩
    intro m v d e r
    cases m with
    | int i =>
      cases e
      obtain ⟨t,rfl⟩:=r.int_of
      exact ⟨rfl,rfl,Nat.zero_le _,[],.int _ _⟩
    | bool b =>
      cases e
      rw [r.bool_of]
      exact ⟨rfl,rfl,Nat.zero_le _,[],.bool _⟩
    | sym n =>
      rw [jt] at e
      by_cases hn:n < 21
      · rw [if_pos hn] at e
        cases e
        obtain ⟨x,t,hx,rfl⟩:=r.sym_of
        have:symTab.getD n Str.empty = x:=by rw [List.getD_eq_getElem?_getD,hx];rfl
        refine ⟨decide_eq_true hn,vd hn,Nat.zero_le _,[],?_⟩
        show Reads _ _ (.str _) _;rw [this];exact .str _ _
      · rw [if_neg hn] at e;exact noS e
    | tup l =>
      rw [eF] at e
      obtain ⟨ds,e1,rfl⟩:=Option.map_eq_some_iff.mp e
      obtain ⟨a,items,rfl,⟨o,ho,hc,n,hd⟩,hz,hr⟩:=r.tup_of
      obtain ⟨b1,b2,b3,bs,b4⟩:=all l _ ds e1 hr
      refine ⟨b1,b2,Nat.succ_le_succ b3,bs,?_⟩
      exact .tuple ho hc hd b4
    | ref i =>
      rw [sq] at e
      cases hi:H[i]? with
      | none=>rw [hi] at e;exact noS e
      | some o =>
       rw [hi] at e
       cases o with
       | list l =>
        replace e:(e9 (deep f H) l).map .lst = some d:=e
        obtain ⟨ds,e1,rfl⟩:=Option.map_eq_some_iff.mp e
        obtain ⟨p,hp,rfl⟩:=r.ref_of
        obtain ⟨vs,n,h1,h2,hL,hl,hr⟩:=vW I hi hp
        obtain ⟨b1,b2,b3,bs,b4⟩:=all l _ ds e1 hr
        refine ⟨b1,b2,Nat.succ_le_succ b3,p.1 :: bs,?_⟩
        exact .list hL rfl rfl b4
       | _=>exact noS e
    | none=>exact noS e
    | text _=>cases e
    | tab _=>cases e
    | arg _=>cases e
private theorem qk {A:Around} (R:Room k A) {s:Shared} {O:Phi} {H:MH} {a b:MV} {u v:Value} {c:Bool} {P:Value→Shared→Prop} (I:Inv w hB O H s.heap) (ra:RV O s.heap a u) (rb:RV O s.heap b v) (e:eqX H a b = some c) :
  (P (.bool c) s→wpAny (MM w) A (compareOp .Eq u v) P Fls s)∧(P (.bool !c) s→wpAny (MM w) A (compareOp .NotEq u v) P Fls s):=by
 obtain ⟨x,y,hx,hy,rfl⟩:=wd e
 ·skip
  obtain ⟨a1,a2,a3,as,a4⟩:=mK I 8 hx ra
  obtain ⟨b1,b2,b3,bs,b4⟩:=mK I 8 hy rb
  have s1:PySem.SeqAt.shaped (pd x) = true:=by unfold PySem.SeqAt.shaped;rw [a2];simpa using by (exact Nat.le_trans ‹_› (by decide))
  have s2:PySem.SeqAt.shaped (pd y) = true:=by unfold PySem.SeqAt.shaped;rw [b2];simpa using by (exact Nat.le_trans ‹_› (by decide))
  have ev:=wh x y a1 b1
  exact ⟨λp=>eq_dataH a4 b4 s1 s2 R.cmp (by rw [ev];exact p),λp=>ne_dataH a4 b4 s1 s2 R.cmp (by rw [ev];exact p)⟩
private theorem ua {A:Around} (R:Room k A) {s:Shared} {O:Phi} {H:MH} {a b:MV} {u v:Value} {c:Bool} {P:Value→Shared→Prop} (I:Inv w hB O H s.heap) (ra:RV O s.heap a u) (rb:RV O s.heap b v) (e:eqV H a b = some c) :
  (P (.bool c) s→wpAny (MM w) A (compareOp .Eq u v) P Fls s)∧(P (.bool !c) s→wpAny (MM w) A (compareOp .NotEq u v) P Fls s):=by
 have other:eqE H a b (eqS a b) = some c→(P (.bool c) s→wpAny (MM w) A (compareOp .Eq u v) P Fls s)∧(P (.bool !c) s→wpAny (MM w) A (compareOp .NotEq u v) P Fls s):=λe=>by
  cases he:eqS a b with
  | some c'=>rw [he] at e;cases e;exact yo R ra rb he
  | none=>rw [he] at e;exact qk R I ra rb e
 cases a with
 | ref i =>
  cases b with
  | ref j =>
   clear other
   rw [pZ] at e
   obtain ⟨l,l',hi,hj,e⟩:=vY e
   unfold eqL at e
   by_cases hc:i≠j∧(l.isEmpty || l'.isEmpty) = true
   ·rw [if_pos hc] at e
    cases e
    obtain ⟨p,hp,rfl⟩:=ra.ref_of
    obtain ⟨q,hq,rfl⟩:=rb.ref_of
    obtain ⟨vs,n,h1,_,hL,hl,hr⟩:=bU I hi hp
    obtain ⟨vs',n',h1',_,hL',hl',hr'⟩:=bU I hj hq
    by_cases z:l.length = l'.length
    ·have e0:l = []∧l' = []:=by
      rcases Bool.or_eq_true_iff.mp hc.2 with y | y
      ·have:=List.isEmpty_iff.mp y;subst this;exact ⟨rfl,List.length_eq_zero_iff.mp z.symm⟩
      ·have:=List.isEmpty_iff.mp y;subst this;exact ⟨List.length_eq_zero_iff.mp z,rfl⟩
     obtain ⟨rfl,rfl⟩:=e0
     obtain rfl:vs = #[]:=Array.eq_empty_of_size_eq_zero h1
     obtain rfl:vs' = #[]:=Array.eq_empty_of_size_eq_zero h1'
     refine ⟨λp=>?_,λp=>?_⟩
     ·exact PySem.SeqAt.eq_listAt (e:=λU=>true) hl hl' rfl R.cl (λj h=>by simp at h) p
     ·exact ne_dataH (.list hL rfl rfl .nil) (.list hL' rfl rfl .nil) rfl rfl R.cmp p
    ·have hb:(l.isEmpty && l'.isEmpty) = false:=by
      cases l <;> cases l' <;> simp_all
     have hne:(vs.size != vs'.size) = true:=by rw [h1,h1'];simpa using z
     rw [hb]
     refine ⟨λp=>PySem.SeqAt.eq_list_lengthsAt hl hl' hne R.cl p,λp=>?_⟩
     exact PySem.SeqAt.RcNeAt.lists_lengths hl hl' hne R.cl PW w Fls P p
   ·rw [if_neg hc] at e
    exact qk R I ra rb e
  | _=>exact qk R I ra rb e
 | _=>exact other e
noncomputable def lD:Value→Value→Bool
 | .int a _,.int b _=>a == b
 | .str a _,.str b _=>a == b
 | .bool a,.bool b=>a == b
 | _,_=>false
private theorem xS {s:Shared} {O:Phi} {a b:MV} {u v:Value} {c:Bool} (ra:RV O s.heap a u) (rb:RV O s.heap b v) (e:eqS a b = some c):lD u v = c:=by
 refine nN (P:=λa b c=>RV O s.heap a u→RV O s.heap b v→lD u v = c) (λi j ra rb=>?_) (λm n ra rb=>?_) (λx y ra rb=>?_) e ra rb
 ·obtain ⟨t,rfl⟩:=ra.int_of
  obtain ⟨t',rfl⟩:=rb.int_of
  rfl
 ·obtain ⟨x,t,hx,rfl⟩:=ra.sym_of
  obtain ⟨y,t',hy,rfl⟩:=rb.sym_of
  exact (lR hx hy).symm
 ·rw [ra.bool_of,rb.bool_of];rfl
private theorem sK {A:Around} {s:Shared} {O:Phi} {x:MV} {u:Value} (rx:RV O s.heap x u):∀ {l:List MV} {vs:List Value} {c:Bool},RVs O s.heap l vs→fx x l = some c →
  (∀ y,y∈vs→PySem.SeqAt.EqAt A s y u (lD y u))∧vs.any (λy=>lD y u) = c:=by
 intro l
 induction l with
 | nil =>
  intro vs c r e
  rw [RVs_nil.mp r]
  cases e
  exact ⟨λU h=>(nomatch h),rfl⟩
 | cons m ms ih =>
  intro vs c r e
  obtain ⟨v,q,rfl,a,b⟩:=RVs_cons.mp r
  replace e:xV (eqS m x) (fx x ms) = some c:=e
  cases h1:eqS m x with
  | none=>rw [h1] at e;exact noS e
  | some c1 =>
   cases h2:fx x ms with
   | none=>rw [h1,h2] at e;exact noS e
   | some c2 =>
    rw [h1,h2] at e
    cases e
    obtain ⟨i1,i2⟩:=ih b h2
    have z:=xS a rx h1
    refine ⟨λy hy=>?_,by rw [List.any_cons,i2,z]⟩
    rcases List.mem_cons.mp hy with rfl | hy
    ·rw [z];exact zL a rx h1
    ·exact i1 y hy
private theorem Inv.notMods {O:Phi} {H:MH} {h:Heap} (I:Inv w hB O H h) (B:Base w hB) {a:Addr} (ha:a∈own O):(a == sysModules) = false:=by
 have:a≠sysModules:=λz=>B.mods (z ▸ I.sep a ha)
 simpa using this
private theorem gG:∀ {d:List (Int×Int)} {kvs:List (Int×Value)} (k:Int),ez d kvs→(valueAt kvs k).isSome = (d.lookup k).isSome
 | [],kvs,k,r=>by
  obtain rfl:kvs = []:=r
  rfl
 | p :: d,kvs,k,h0=>by
  obtain ⟨t,r,e,hr⟩:=h0
  subst e
  obtain ⟨a,b⟩:=p
  have ih:=gG k hr
  unfold valueAt at ih ⊢
  rw [List.lookup_cons]
  by_cases q:a = k
  ·subst q;simp
  ·have:(k == a) = false:=by simpa using λz=>q z.symm
   rw [this,← ih]
   simp [q]
noncomputable def ja (v:Value):Option Str:=match v with
 | .str x _=>some x
 | _=>none
private theorem lA {v:Value} {x:Str} (e:ja v = some x):∃ t,v = .str x t:=by
 cases v with
 | str y t=>cases e;exact ⟨t,rfl⟩
 | _=>exact noS e
noncomputable def i9 (w:World) (t:Nat):Array DictEntry×Nat:=match ((KK w).lookup (db t)).map Obj.data with
 | some (Data.dict es ep)=>(es,ep)
 | _=>(#[],0)
noncomputable def lZ (w:World) (t:Nat):List DictEntry:=(i9 w t).1.toList
noncomputable def fw (w:World) (t:Nat):List Str:=(lZ w t).map λe=>(ja e.key).getD Str.empty
private theorem xm (w:World) (t:Nat):(KK w).lookup (db t) = some ⟨.type "dict",none,.dict (i9 w t).1 (i9 w t).2,#[]⟩:=by
 rcases t with _ | _ | t
 ·kernel_rfl!
 ·kernel_rfl!
 ·show (KK w).lookup (db 2) = some ⟨.type "dict",none,.dict (i9 w 2).1 (i9 w 2).2,#[]⟩;kernel_rfl!
private theorem vD (w:World) (t:Nat):((lZ w t).all λe=>(ja e.key).isSome) = true:=by
 rcases t with _ | _ | t
 ·kernel_rfl!
 ·kernel_rfl!
 ·show ((lZ w 2).all λe=>(ja e.key).isSome) = true;kernel_rfl!
private theorem xu (w:World) (t:Nat):(lZ w t).map (·.hash) = (fw w t).map (PyData.keyHash w.params):=by
 rcases t with _ | _ | t
 ·kernel_rfl!
 ·kernel_rfl!
 ·show (lZ w 2).map (·.hash) = (fw w 2).map (PyData.keyHash w.params);kernel_rfl!
private theorem tb (w:World):((List.range 3).all λt=>(List.range 21).all λn=>match symTab[n]? with
 | some x=>(fw w t).contains x == dZ t n
 | none=>true) = true:=by kernel_rfl!
private theorem yn {t n:Nat} (w:World) {x:Str} (hn:n < 21) (hx:symTab[n]? = some x):(fw w t).contains x = dZ t n:=by
 have a:fw w t = fw w (min t 2)∧dZ t n = dZ (min t 2) n∧min t 2 < 3:=by
  rcases t with _ | _ | t
  ·exact ⟨rfl,rfl,by decide⟩
  ·exact ⟨rfl,rfl,by decide⟩
  ·rw [Nat.min_eq_right (Nat.le_add_left 2 t)];exact ⟨rfl,rfl,by decide⟩
 have z:=List.all_eq_true.mp (List.all_eq_true.mp (tb w) (min t 2) (List.mem_range.mpr a.2.2)) n (List.mem_range.mpr hn)
 simp only [hx,beq_iff_eq] at z
 rw [a.1,a.2.1]
 exact z
private theorem uI (w:World) (x:Str) (l:List DictEntry) (h:(l.all λe=>(ja e.key).isSome) = true):(l.find? λe=>(strKind PW w).is x e.key).isSome = (l.map λe=>(ja e.key).getD Str.empty).contains x:=by
 induction l with
 | nil=>rfl
 | cons e r ih =>
  rw [List.all_cons,Bool.and_eq_true_iff] at h
  rw [List.map_cons,List.contains_cons,List.find?_cons]
  obtain ⟨y,hy⟩:=Option.isSome_iff_exists.mp h.1
  obtain ⟨t,hk⟩:=lA hy
  have e1:(strKind PW w).is x e.key = (y == x):=by rw [hk];rfl
  have e2:(x == y) = (y == x):=by rw [Bool.eq_iff_iff,beq_iff_eq,beq_iff_eq,eq_comm]
  rw [e1,hy,Option.getD_some,e2]
  cases q:(y == x) with
  | true=>rfl
  | false=>rw [Bool.false_or];exact ih h.2
private theorem xj {h:Heap} {t:Nat} (B:Base w hB) (keep:∀ b o,hB.get? b = some o→h.get? b = some o):∃ f,Heap.MapOf (strKind PW w) h (db t) f∧∀ x,(f x).isSome = (fw w t).contains x:=by
 have hh:=xu w t
 have hes:=vD w t
 have hk:=xm w t
 have hE:lZ w t = (i9 w t).1.toList:=rfl
 have hK:fw w t = (lZ w t).map λe=>(ja e.key).getD Str.empty:=rfl
 rw [hK] at hh ⊢
 rw [hE] at hh hes ⊢
 generalize (i9 w t).1 = es at hh hes hk ⊢
 clear hE hK
 refine ⟨λx=>findBy (strKind PW w).is es x,⟨_,es,_,keep _ _ (B.K _ _ hk),⟨rfl,rfl,rfl⟩,rfl,λe he=>?_,λU=>rfl⟩,λx=>?_⟩
 ·have he':e∈es.toList:=Array.mem_toList_iff.mpr he
  obtain ⟨y,hy⟩:=Option.isSome_iff_exists.mp (List.all_eq_true.mp hes e he')
  obtain ⟨tk,hke⟩:=lA hy
  refine ⟨y,by rw [hke];exact strKind_is PW w y tk,?_⟩
  rw [List.map_map] at hh
  have z:=List.map_inj_left.mp hh e he'
  simp only [Function.comp_apply,hy,Option.getD_some] at z
  exact z
 ·show (Option.map _ (es.find? _)).isSome = _
  rw [Option.isSome_map,← Array.find?_toList]
  exact uI w x _ hes
private theorem ur {A:Around} (R:Room k A) {s:Shared} {O:Phi} {H:MH} {a b:MV} {u v:Value} {c:Bool} {P:Value→Shared→Prop} (B:Base w hB) (I:Inv w hB O H s.heap) (ra:RV O s.heap a u) (rb:RV O s.heap b v) (e:inV H a b = some c) :
  ((∀ t,P (.bool c) { s with toks:=t })→wpAny (MM w) A (compareOp .In u v) P Fls s)∧((∀ t,P (.bool !c) { s with toks:=t })→wpAny (MM w) A (compareOp .NotIn u v) P Fls s):=by
 cases b with
 | tup l =>
  obtain ⟨ad,items,rfl,ht,hz,hr⟩:=rb.tup_of
  obtain ⟨h1,h2⟩:=sK (A:=A.in1) ra hr e
  have h1':∀ y,y∈items→PySem.SeqAt.EqAt A.in1 s y u (lD y u):=λy hy=>h1 y (Array.mem_toList_iff.mpr hy)
  have h2':items.any (λy=>lD y u) = c:=by rw [← h2,Array.any_toList]
  exact ⟨λp=>PySem.SeqAt.in_tupleAt _ ht h1' (by rw [h2'];exact p s.toks),λp=>PySem.SeqAt.notIn_tupleAt _ ht h1' (by rw [h2'];exact p s.toks)⟩
 | ref i =>
  obtain ⟨q,hq,rfl⟩:=rb.ref_of
  replace e:inO H[i]? a = some c:=e
  cases hi:H[i]? with
  | none=>rw [hi] at e;exact noS e
  | some o =>
   rw [hi] at e
   have ob:=λp hp=>I.obj i o p hi hp
   cases o with
   | list l =>
    obtain ⟨vs,n,_,_,_,hl,hr⟩:=bU I hi hq
    obtain ⟨h1,h2⟩:=sK (A:=A.in1) ra hr e
    have h1':∀ y,y∈vs→PySem.SeqAt.EqAt A.in1 s y u (lD y u):=λy hy=>h1 y (Array.mem_toList_iff.mpr hy)
    have h2':vs.any (λy=>lD y u) = c:=by rw [← h2,Array.any_toList]
    exact ⟨λp=>PySem.SeqAt.in_listAt _ hl h1' (by rw [h2'];exact p s.toks),λp=>PySem.SeqAt.notIn_listAt _ hl h1' (by rw [h2'];exact p s.toks)⟩
   | dict d =>
    cases a with
    | int kk =>
     obtain ⟨t,rfl⟩:=ra.int_of
     obtain ⟨_,_,kvs,hd,hp⟩:=ob q hq
     cases e
     have nm:=I.notMods B (ey hq)
     rw [← gG kk hp]
     exact ⟨λp=>wpAny_in_of (intKind_is PW w kk t) nm hd.mapOf (p _),λp=>wpAny_notIn_of (intKind_is PW w kk t) nm hd.mapOf (p _)⟩
    | _=>exact noS e
   | set l =>
    cases a with
    | int kk =>
     obtain ⟨t,rfl⟩:=ra.int_of
     obtain ⟨_,hn,hS⟩:=ob q hq
     cases e
     exact ⟨λp=>wpAny_inSet_of (intKind_is PW w kk t) rfl hS (p _),λp=>wpAny_notInSet_of (intKind_is PW w kk t) rfl hS (p _)⟩
    | _=>exact noS e
   | full =>
    cases a with
    | int kk =>
     obtain ⟨t,rfl⟩:=ra.int_of
     have hS:=lV (ob q hq)
     cases e
     exact ⟨λp=>wpAny_inSet_of (intKind_is PW w kk t) rfl hS (p _),λp=>wpAny_notInSet_of (intKind_is PW w kk t) rfl hS (p _)⟩
    | _=>exact noS e
   | inst=>exact noS e
 | tab t =>
  cases a with
  | sym n =>
   replace e:(if n < 21 then some (dZ t n) else none) = some c:=e
   by_cases hn:n < 21
   ·rw [if_pos hn] at e
    cases e
    obtain ⟨x,tk,hx,rfl⟩:=ra.sym_of
    rw [rb.tab_of]
    obtain ⟨f,hf,hs⟩:=xj (t:=t) B I.base
    have nm:(db t == sysModules) = false:=by
     rcases t with _ | _ | t <;> rfl
    rw [← yn w hn hx,← hs]
    exact ⟨λp=>wpAny_in_of (strKind_is PW w x tk) nm hf (p _),λp=>wpAny_notIn_of (strKind_is PW w x tk) nm hf (p _)⟩
   ·rw [if_neg hn] at e;exact noS e
  | _=>exact noS e
 | _=>exact noS e
private theorem qN {A:Around} {s:Shared} {O:Phi} {a b:MV} {u v:Value} {c:Bool} {P:Value→Shared→Prop} (ra:RV O s.heap a u) (rb:RV O s.heap b v) :
  (ltV (λx y=>decide (x < y)) a b = some c→P (.bool c) s→wpAny (MM w) A (compareOp .Lt u v) P Fls s)∧(ltV (λx y=>decide (x≤y)) a b = some c→P (.bool c) s→wpAny (MM w) A (compareOp .LtE u v) P Fls s) ∧
  (ltV (λx y=>decide (y < x)) a b = some c→P (.bool c) s→wpAny (MM w) A (compareOp .Gt u v) P Fls s)∧(ltV (λx y=>decide (y≤x)) a b = some c→P (.bool c) s→wpAny (MM w) A (compareOp .GtE u v) P Fls s):=by
 have key:∀ {f:Int→Int→Bool},ltV f a b = some c→∃ x t y t',u = .int x t∧v = .int y t'∧c = f x y:=λ{f} e=>by
  cases a with
  | int i =>
   cases b with
   | int j =>
    obtain ⟨t,rfl⟩:=ra.int_of
    obtain ⟨t',rfl⟩:=rb.int_of
    cases e
    exact ⟨_,_,_,_,rfl,rfl,rfl⟩
   | _=>exact noS e
  | _=>exact noS e
 refine ⟨λe p=>?_,λe p=>?_,λe p=>?_,λe p=>?_⟩
 ·obtain ⟨x,t,y,t',rfl,rfl,rfl⟩:=key e;exact lt_int p
 ·obtain ⟨x,t,y,t',rfl,rfl,rfl⟩:=key e;exact le_int p
 ·obtain ⟨x,t,y,t',rfl,rfl,rfl⟩:=key e;exact gt_int p
 ·obtain ⟨x,t,y,t',rfl,rfl,rfl⟩:=key e;exact ge_int p
private theorem uT {A:Around} (R:Room k A) {s:Shared} {O:Phi} {H:MH} {a b:MV} {u v:Value} {c:Bool} {P:Value→Shared→Prop} (I:Inv w hB O H s.heap) (ra:RV O s.heap a u) (rb:RV O s.heap b v) (e:yN H a b = some c)
  (p:∀ t,P (.bool c) { s with toks:=t }):wpAny (MM w) A (compareOp .LtE u v) P Fls s:=by
 cases a with
 | ref i =>
  cases b with
  | ref j =>
   obtain ⟨q,hq,rfl⟩:=ra.ref_of
   obtain ⟨q',hq',rfl⟩:=rb.ref_of
   obtain ⟨hi,hj,rfl⟩:=vO e
   exact yk (I.obj i _ q hi hq) (I.obj j _ q' hj hq') R.cl (p s.toks)
  | _=>exact noS e
 | int i =>
  cases b with
  | int j =>
   obtain ⟨t,rfl⟩:=ra.int_of
   obtain ⟨t',rfl⟩:=rb.int_of
   cases e
   exact le_int (p s.toks)
  | _=>exact noS e
 | _=>exact noS e
private theorem nM {A:Around} (R:Room k A) {s:Shared} {O:Phi} {H:MH} {op:COp} {a b:MV} {u v:Value} {c:Bool} {P:Value→Shared→Prop} (B:Base w hB) (I:Inv w hB O H s.heap) (ra:RV O s.heap a u) (rb:RV O s.heap b v)
  (e:cp H op a b = some c) (p:∀ t,P (.bool c) { s with toks:=t }):wpAny (MM w) A (compareOp op.py u v) P Fls s:=by
 cases op with
 | eq=>exact (ua R I ra rb e).1 (p s.toks)
 | ne=>obtain ⟨d,hd,rfl⟩:=Option.map_eq_some_iff.mp e;exact (ua R I ra rb hd).2 (p s.toks)
 | is_=>exact (wJ I ra rb e).1 (p s.toks)
 | isNot=>obtain ⟨d,hd,rfl⟩:=Option.map_eq_some_iff.mp e;exact (wJ I ra rb hd).2 (p s.toks)
 | in_=>exact (ur R B I ra rb e).1 p
 | notIn=>obtain ⟨d,hd,rfl⟩:=Option.map_eq_some_iff.mp e;exact (ur R B I ra rb hd).2 p
 | lt=>exact (qN ra rb).1 e (p s.toks)
 | le=>exact uT R I ra rb e p
 | gt=>exact (qN ra rb).2.2.1 e (p s.toks)
 | ge=>exact (qN ra rb).2.2.2 e (p s.toks)
end
end Mine
end
section
namespace Mine
noncomputable def trO (o:Option MObj):Option Bool:=match o with
 | some (.list l)=>some (!l.isEmpty)
 | some (.dict l)=>some (!l.isEmpty)
 | some (.set l)=>some (!l.isEmpty)
 | _=>none
noncomputable def gT (H:MH):MV→Option Bool
 | .none=>some false
 | .bool b=>some b
 | .int i=>some (i != 0)
 | .ref i=>trO H[i]?
 | _=>none
noncomputable def oB (o:Option Bool) (Q:Bool→MH→Prop) (H:MH):Prop:=match o with
 | some r=>Q r H
 | none=>False
private theorem lQ {o:Option Bool} {Q:Bool→MH→Prop} {H:MH} (q:oB o Q H):∃ r,o = some r∧Q r H:=by
 cases o with
 | none=>exact False.elim q
 | some r=>exact ⟨r,rfl,q⟩
section
variable {w:World} {hB:Heap} {k:Nat} {Γ:Ctx}
private theorem rI {d:List (Int×Int)} {kvs:List (Int×Value)} (r:ez d kvs):kvs.isEmpty = d.isEmpty:=by
 cases d with
 | nil=>obtain rfl:kvs = []:=r;rfl
 | cons p d=>obtain ⟨t,r,e,_⟩:=r;subst e;rfl
private theorem pJ:∀ {d:List (Int×Int)} {kvs:List (Int×Value)},ez d kvs→kvs.length = d.length
 | [],kvs,r=>by obtain rfl:kvs = []:=r;rfl
 | p :: d,kvs,h0=>by obtain ⟨t,r,rfl,h⟩:=h0;simp [pJ h]
private theorem ni:typeLookup (.type "set") "__bool__" = pure none:=by rw [typeLookup_type,builtinLookup_eq_fast];kernel_rfl!
private theorem qF {A:Around} {s:Shared} {a:Addr} {S:Int→Bool} {n:Nat} {P:Bool→Shared→Prop} (hS:Heap.SetOf (intKind PW w) s.heap a S n) (p:∀ t,P ((n:Int) != 0) { s with toks:=t }) :
  wpAny (MM w) A (truthy (.ref a)) P Fls s:=by
 have hT:=hS.typeIs
 obtain ⟨o,es,ep,t,ho,hx,hd,_,_,hb,hf,rfl⟩:=hS
 have key:wpAny (MM w) A (runValue (.builtin "len" ⟨[.ref a],[]⟩)) (λr s'=>r = .int (es.size:Int) (s.toks + 1)∧P ((es.size:Int) != 0) s') Fls s:=by
  refine wpAny_runValue (codeAny_builtin entry_len ?_)
  rw [Around.under_plainId plain_len _]
  exact wpAny_mono (wpAny_len_body_set (Q:=λr s'=>r = .int (es.size:Int) (s.toks + 1)∧P ((es.size:Int) != 0) s') ho hx hd hf (by unfold scanBound at hb;omega) ⟨rfl,p _⟩)
   (λfin s' h'=>by obtain ⟨r,rfl,hq⟩:=h';exact hq) λU U e=>e
 unfold truthy
 first
  | refine wpAny_bind (wpAny_callSpecial?_none (name:=Str.ofString "__bool__") hT ni ?_)
  | refine wpAny_bind (wpAny_pure (wpAny_bind (wpAny_callSpecial?_none (name:=Str.ofString "__bool__") hT ni ?_)))
 first
  | refine wpAny_bind (wpAny_specialOf (name:=Str.ofString "__len__") hT F.slot_set_len.lookup ?_)
  | refine wpAny_bind (wpAny_pure (wpAny_bind (wpAny_specialOf (name:=Str.ofString "__len__") hT F.slot_set_len.lookup ?_)))
 first
  | exact wpAny_bind (wpAny_mono key (λr s' h'=>by obtain ⟨rfl,hq⟩:=h';exact wpAny_pure hq) λU U e=>e)
  | exact wpAny_bind (wpAny_pure (wpAny_bind (wpAny_mono key (λr s' h'=>by obtain ⟨rfl,hq⟩:=h';exact wpAny_pure hq) λU U e=>e)))
private theorem ky {A:Around} {s:Shared} {O:Phi} {H:MH} {m:MV} {v:Value} {c:Bool} {P:Bool→Shared→Prop} (B:Base w hB) (I:Inv w hB O H s.heap) (rv:RV O s.heap m v) (e:gT H m = some c) (p:∀ t,P c { s with toks:=t }) :
  wpAny (MM w) A (truthy v) P Fls s:=by
 cases m with
 | none=>rw [rv.none_of];cases e;exact truthy_none (p s.toks)
 | bool=>rw [rv.bool_of];cases e;exact wpAny_truthy_bool (p s.toks)
 | int=>obtain ⟨t,rfl⟩:=rv.int_of;cases e;exact truthy_int (p s.toks)
 | ref i =>
  obtain ⟨q,hq,rfl⟩:=rv.ref_of
  replace e:trO H[i]? = some c:=e
  cases hi:H[i]? with
  | none=>rw [hi] at e;exact noS e
  | some o =>
   rw [hi] at e
   cases o with
   | list l =>
    cases e
    obtain ⟨vs,n,h1,h2,_,hl,hr⟩:=bU I hi hq
    refine wpAny_truthy_list hl (by rw [sizeLine_eq] at h2;omega) ?_
    have:vs.isEmpty = l.isEmpty:=by
     have:vs.isEmpty = decide (vs.size = 0):=by rw [Bool.eq_iff_iff,Array.isEmpty_iff_size_eq_zero,decide_eq_true_iff]
     rw [this,h1]
     cases l <;> simp
    rw [this];exact p _
   | dict d =>
    cases e
    obtain ⟨_,hl,kvs,hd,hp⟩:=I.obj i _ q hi hq
    refine wpAny_truthy_dict (I.notMods B (ey hq)) hd ?_ ?_
    ·rw [pJ hp];omega
    ·rw [rI hp];exact p _
   | set l =>
    cases e
    obtain ⟨_,hn,hS⟩:=I.obj i _ q hi hq
    refine qF hS λt=>?_
    have:((l.length:Int) != 0) = !l.isEmpty:=by
     cases l
     ·rfl
     ·simp;omega
    rw [this];exact p t
   | _=>exact noS e
 | _=>exact noS e
noncomputable def eX (e:ET):BoT:=λL H Q=>e L H λv H'=>oB (gT H' v) Q H'
noncomputable def aM (op:COp) (a b:ET):BoT:=λL H Q=>a L H λx H'=>b L H' λy H''=>oB (cp H'' op x y) Q H''
noncomputable def fS (t:BoT):BoT:=λL H Q=>t L H λc H'=>Q (!c) H'
noncomputable def pR (q:BoT) (L:Loc) (Q:Bool→MH→Prop):Bool→MH→Prop:=λc H'=>ifV c (th3 q L H' Q) (th2 Q false H')
noncomputable def cz (a b:BoT):BoT:=λL H Q=>a L H (pR b L Q)
noncomputable def vt (q:BoT) (L:Loc) (Q:Bool→MH→Prop):Bool→MH→Prop:=λc H'=>ifV c (th2 Q true H') (th3 q L H' Q)
noncomputable def bOr (a b:BoT):BoT:=λL H Q=>a L H (vt b L Q)
noncomputable def bG:BoT:=λU H Q=>Q true H
noncomputable def ck:BoT:=λU H Q=>Q false H
noncomputable def uz (op:COp) (x:MV) (Q:Bool→MH→Prop):MV→MH→Prop:=λy H''=>oB (cp H'' op x y) Q H''
noncomputable def qZ (o1 o2:COp) (c:ET) (x:MV) (L:Loc) (Q:Bool→MH→Prop):MV→MH→Prop:=λy H2=>sF (cp H2 o1 x y) (th3 c L H2 (uz o2 y Q)) (th2 Q false H2)
noncomputable def dG (o1 o2:COp) (a b c:ET):BoT:=λL H Q=>a L H λx H1=>b L H1 (qZ o1 o2 c x L Q)
private theorem dk {e:Expr} {T:ET} (he:SE w hB k Γ e T) (hf:∀ env whole,PySem.isTrue e env whole = (do let v ← whole;standAt e.pos;holding [v] (truthy v))):SB w hB k Γ e (eX T):=by
 refine ⟨?_,trivial⟩
 intro A env O H L s Q S q
 refine isTrue_plain (wpAny_mono (he.1 A env O H L s _ S q) (λv s' z=>?_) λU U z=>z) (hf _ _)
 obtain ⟨O',H',mv,x1,I',rv,sm,q'⟩:=z
 obtain ⟨c,hc,q'⟩:=lQ q'
 exact ky S.base I' rv hc λt=>⟨O',H',x1,I',⟨sm.gens,sm.os⟩,q'⟩
private theorem iY {A:Around} {env:Env} {O:Phi} {H:MH} {L:Loc} {s:Shared} {a b:Expr} {Ta Tb:ET} {G:Value→Value→Shared→Prop} {Q:MV→MV→MH→Prop} (ha:SE w hB k Γ a Ta) (hb:SE w hB k Γ b Tb)
  (S:Sit w hB k Γ A env O H L s) (q:Ta L H λx H'=>Tb L H' λy H''=>Q x y H'')
  (h:∀ u v x y O' H' s',Ext [] O s.heap O' s'.heap→Sm s s'→Inv w hB O' H' s'.heap→RV O' s'.heap x u→RV O' s'.heap y v→Q x y H'→G u v s') :
  wpAny (MM w) A (eval a env) (λu s₁=>wpAny (MM w) A (eval b env) (λv s₂=>G u v s₂) Fls s₁) Fls s:=by
 refine wpAny_mono (ha.1 A env O H L s _ S q) (λu s' z=>?_) λU U z=>z
 obtain ⟨O',H',x,x1,I',ru,sm,q'⟩:=z
 refine wpAny_mono (hb.1 A env O' H' L s' _ (S.next x1 I') q') (λv s'' z'=>?_) λU U z=>z
 obtain ⟨O2,H2,y,x2,I2,rv,sm2,q2⟩:=z'
 exact h u v x y O2 H2 s'' (x1.trans x2) (sm.trans sm2) I2 (ru.mono x2.pre (x2.tup0 I')) rv q2
private theorem aE {a b:Expr} {Ta Tb:ET} {pos:Pos} (op:COp) (ha:SE w hB k Γ a Ta) (hb:SE w hB k Γ b Tb) (hm:behindInMarks op.py b = false):SB w hB k Γ (.Compare a [op.py] [b] pos) (aM op Ta Tb):=by
 refine ⟨?_,trivial⟩
 intro A env O H L s Q S q
 refine wpAny_isTrue_Compare1 ?_ hm
 refine iY ha hb S q λu v x y O' H' s' x1 sm I' ru rv q'=>?_
 obtain ⟨c,hc,q'⟩:=lQ q'
 exact nM S.room S.base I' ru rv hc λt=>wpAny_truthy_bool ⟨O',H',x1,I',⟨sm.gens,sm.os⟩,q'⟩
noncomputable def kI (op:COp) (a b:ET):ET:=λL H Q=>aM op a b L H λc H'=>Q (.bool c) H'
private theorem fH {a b:Expr} {Ta Tb:ET} {pos:Pos} (op:COp) (ha:SE w hB k Γ a Ta) (hb:SE w hB k Γ b Tb) (hm:behindInMarks op.py b = false):SE w hB k Γ (.Compare a [op.py] [b] pos) (kI op Ta Tb):=by
 refine ⟨?_,trivial⟩
 intro A env O H L s Q S q
 refine wpAny_Compare1 ?_ hm
 refine iY ha hb S q λu v x y O' H' s' x1 sm I' ru rv q'=>?_
 obtain ⟨c,hc,q'⟩:=lQ q'
 exact nM S.room S.base I' ru rv hc λt=>⟨O',H',_,x1,I',lS,⟨sm.gens,sm.os⟩,q'⟩
private theorem fj {a b c:Expr} {Ta Tb Tc:ET} {pos:Pos} (o1 o2:COp) (ha:SE w hB k Γ a Ta) (hb:SE w hB k Γ b Tb) (hc:SE w hB k Γ c Tc) (hm:lastMarks [o1.py,o2.py] [b,c] = false):SB w hB k Γ (.Compare a [o1.py,o2.py] [b,c] pos) (dG o1 o2 Ta Tb Tc):=by
 refine ⟨?_,trivial⟩
 intro A env O H L s Q S q
 refine isTrue_chain ?_ hm
 refine wpAny_mono (ha.1 A env O H L s _ S q) (λu s' z=>test_link ?_) λU U z=>z
 obtain ⟨O',H',x,x1,I',ru,sm,q'⟩:=z
 refine wpAny_mono (hb.1 A env O' H' L s' _ (S.next x1 I') q') (λv s'' z'=>?_) λU U z=>z
 obtain ⟨O2,H2,y,x2,I2,rv,sm2,q2⟩:=z'
 have ru2:=ru.mono x2.pre (x2.tup0 I')
 have q2:sF (cp H2 o1 x y) _ _:=q2
 rcases hc1:cp H2 o1 x y with _ | _ | _ <;> rw [hc1] at q2
 ·exact q2.elim
 ·refine nM S.room S.base I2 ru2 rv hc1 λt=>wpAny_truthy_bool ?_
  rw [if_neg Bool.false_ne_true]
  exact ⟨O2,H2,x1.trans x2,I2,⟨sm2.gens.trans sm.gens,sm2.os.trans sm.os⟩,q2⟩
 ·refine nM S.room S.base I2 ru2 rv hc1 λt=>wpAny_truthy_bool ?_
  rw [if_pos rfl]
  have S2:=(S.next (x1.trans x2) I2).toks t
  refine test_last (wpAny_mono (hc.1 A env O2 H2 L _ _ S2 q2) (λv3 s3 z3=>?_) λU U z=>z)
  obtain ⟨O3,H3,y3,x3,I3,rv3,sm3,q3⟩:=z3
  obtain ⟨r,hr,q3⟩:=lQ q3
  refine nM S.room S.base I3 (rv.mono x3.pre (x3.tup0 I2)) rv3 hr λt=>wpAny_truthy_bool ⟨O3,H3,(x1.trans x2).trans x3,I3,?_,q3⟩
  exact ⟨sm3.gens.trans (sm2.gens.trans sm.gens),sm3.os.trans (sm2.os.trans sm.os)⟩
private theorem eJ {x:Expr} {T:BoT} {pos:Pos} (hx:SB w hB k Γ x T):SB w hB k Γ (.UnaryOp .Not x pos) (fS T):=by
 refine ⟨?_,trivial⟩
 intro A env O H L s Q S q
 refine isTrue_not (wpAny_mono (hx.1 A env O H L s _ S q) (λc s' z=>?_) λU U z=>z)
 obtain ⟨O',H',x1,I',sm,q'⟩:=z
 exact ⟨O',H',x1,I',sm,q'⟩
private theorem bQ {pos:Pos}:SB w hB k Γ (.BoolOp .And [] pos) bG:=by
 refine ⟨?_,trivial⟩
 intro A env O H L s Q S q
 exact isTrue_and_nil ⟨O,H,Ext.refl _ _ _,S.inv,Sm.refl _,q⟩
private theorem bS {pos:Pos}:SB w hB k Γ (.BoolOp .Or [] pos) ck:=by
 refine ⟨?_,trivial⟩
 intro A env O H L s Q S q
 exact isTrue_or_nil ⟨O,H,Ext.refl _ _ _,S.inv,Sm.refl _,q⟩
private theorem bJ {x:Expr} {rest:List Expr} {T Tr:BoT} {pos:Pos} (hx:SB w hB k Γ x T) (hr:SB w hB k Γ (.BoolOp .And rest pos) Tr):SB w hB k Γ (.BoolOp .And (x :: rest) pos) (cz T Tr):=by
 refine ⟨?_,trivial⟩
 intro A env O H L s Q S q
 refine isTrue_and (wpAny_mono (hx.1 A env O H L s _ S q) (λc s' z=>?_) λU U z=>z)
 obtain ⟨O',H',x1,I',sm,q'⟩:=z
 cases c with
 | false=>exact ⟨O',H',x1,I',sm,q'⟩
 | true=>exact wpAny_mono (hr.1 A env O' H' L s' _ (S.next x1 I') q') (λc s'' z=>z.after x1 sm) λU U z=>z
private theorem b5 {x:Expr} {rest:List Expr} {T Tr:BoT} {pos:Pos} (hx:SB w hB k Γ x T) (hr:SB w hB k Γ (.BoolOp .Or rest pos) Tr):SB w hB k Γ (.BoolOp .Or (x :: rest) pos) (bOr T Tr):=by
 refine ⟨?_,trivial⟩
 intro A env O H L s Q S q
 refine isTrue_or (wpAny_mono (hx.1 A env O H L s _ S q) (λc s' z=>?_) λU U z=>z)
 obtain ⟨O',H',x1,I',sm,q'⟩:=z
 cases c with
 | true=>exact ⟨O',H',x1,I',sm,q'⟩
 | false=>exact wpAny_mono (hr.1 A env O' H' L s' _ (S.next x1 I') q') (λc s'' z=>z.after x1 sm) λU U z=>z
noncomputable def kIf (p q:ET) (L:Loc) (Q:MV→MH→Prop):Bool→MH→Prop:=λc H'=>ifV c (th3 p L H' Q) (th3 q L H' Q)
noncomputable def eIf (t:BoT) (a b:ET):ET:=λL H Q=>t L H (kIf a b L Q)
private theorem fv {t a b:Expr} {T:BoT} {Ta Tb:ET} {pos:Pos} (ht:SB w hB k Γ t T) (ha:SE w hB k Γ a Ta) (hb:SE w hB k Γ b Tb):SE w hB k Γ (.IfExp t a b pos) (eIf T Ta Tb):=by
 refine ⟨?_,trivial⟩
 intro A env O H L s Q S q
 refine IfExp_ (wpAny_mono (ht.1 A env O H L s _ S q) (λc s' z=>?_) λU U z=>z)
 obtain ⟨O',H',x1,I',sm,q'⟩:=z
 cases c with
 | true=>exact wpAny_mono (ha.1 A env O' H' L s' _ (S.next x1 I') q') (λc s'' z=>z.after x1 sm) λU U z=>z
 | false=>exact wpAny_mono (hb.1 A env O' H' L s' _ (S.next x1 I') q') (λc s'' z=>z.after x1 sm) λU U z=>z
noncomputable def za (q:ET) (L:Loc) (Q:MV→MH→Prop):MV→MH→Prop:=λv H'=>sF (gT H' v) (th3 q L H' Q) (th2 Q v H')
noncomputable def xh (a b:ET):ET:=λL H Q=>a L H (za b L Q)
noncomputable def kOr (q:ET) (L:Loc) (Q:MV→MH→Prop):MV→MH→Prop:=λv H'=>sF (gT H' v) (th2 Q v H') (th3 q L H' Q)
private theorem vS {op:BoolOp} {a:Expr} {T:ET} {pos:Pos} (ha:SE w hB k Γ a T):SE w hB k Γ (.BoolOp op [a] pos) T:=⟨λA env O H L s Q S q=>BoolOp_one (ha.1 A env O H L s Q S q),trivial⟩
private theorem tL {a b:Expr} {rest:List Expr} {Ta Tb:ET} {pos:Pos} (ha:SE w hB k Γ a Ta) (hb:SE w hB k Γ (.BoolOp .And (b :: rest) pos) Tb):SE w hB k Γ (.BoolOp .And (a :: b :: rest) pos) (xh Ta Tb):=by
 refine ⟨?_,trivial⟩
 intro A env O H L s Q S q
 refine BoolOp_and (wpAny_mono (ha.1 A env O H L s _ S q) (λv s' z=>?_) λU U z=>z)
 obtain ⟨O',H',x,x1,I',rv,sm,q'⟩:=z
 have q':sF (gT H' x) _ _:=q'
 rcases hc:gT H' x with _ | _ | _ <;> rw [hc] at q'
 ·exact q'.elim
 ·refine ky S.base I' rv hc λt=>?_
  rw [if_neg Bool.false_ne_true]
  exact ⟨O',H',x,x1,I',rv,⟨sm.gens,sm.os⟩,q'⟩
 ·refine ky S.base I' rv hc λt=>?_
  rw [if_pos rfl]
  exact wpAny_mono (hb.1 A env O' H' L _ _ ((S.next x1 I').toks t) q') (λc s'' z=>EPost.after (s':={ s' with toks:=t }) x1 ⟨sm.gens,sm.os⟩ z) λU U z=>z
noncomputable def sU:MV→Option Nat
 | .sym n=>(symTab[n]?).map (·.length)
 | .text n=>some n
 | _=>none
noncomputable def zw (o:Option Nat) (K:Nat→Prop):Prop:=match o with
 | some n=>K n
 | none=>False
private theorem pB {o:Option Nat} {K:Nat→Prop} (q:zw o K):∃ n,o = some n∧K n:=by
 cases o with
 | none=>exact False.elim q
 | some n=>exact ⟨n,rfl,q⟩
noncomputable def zg (x y:MV) (Q:MV→MH→Prop) (H:MH):Prop:=zw (sU x) λm=>zw (sU y) λn=>m + n≤1000∧Q (.text (m + n)) H
noncomputable def As (x y:MV) (Q:MV→MH→Prop) (H:MH):Prop:=match x with
 | .int i=>cT y λj=>Q (.int (i + j)) H
 | .ref i=>eL y λj=>dO H[i]? λl=>dO H[j]? λl'=>l.length + l'.length≤1000000∧Q (.ref H.length) (H++[.list (l++l')])
 | .sym n=>zg (.sym n) y Q H
 | .text n=>zg (.text n) y Q H
 | _=>False
noncomputable def bZ (a b:ET):ET:=λL H Q=>a L H λx H'=>b L H' λy H''=>As x y Q H''
noncomputable def dj (a b:ET):ET:=λL H Q=>a L H λx H'=>b L H' λy H''=>cT x λi=>cT y λj=>Q (.int (i - j)) H''
noncomputable def mF (a b:ET):ET:=λL H Q=>a L H λx H'=>b L H' λy H''=>cT x λi=>cT y λj=>(-(2 ^ 64) < i∧i < 2 ^ 64)∧Q (.int (i * j)) H''
noncomputable def dH (a b:ET):ET:=λL H Q=>a L H λx H'=>b L H' λy H''=>cT x λi=>cT y λj=>0 < j∧Q (.int (i % j)) H''
noncomputable def sk (a b:ET):ET:=λL H Q=>a L H λx H'=>b L H' λy H''=>cT x λi=>cT y λj=>(0 < j∧j < 2 ^ 64)∧Q (.int (i / j)) H''
private theorem cR {a b:Expr} {Ta Tb:ET} {pos:Pos} (ha:SE w hB k Γ a Ta) (hb:SE w hB k Γ b Tb):SE w hB k Γ (.BinOp a .Sub b pos) (dj Ta Tb):=by
 refine ⟨?_,trivial⟩
 intro A env O H L s Q S q
 refine wpAny_BinOp (iY ha hb S q λu v x y O' H' s' x1 sm I' ru rv q'=>?_)
 replace q':=bm q'
 obtain ⟨i,rfl,q'⟩:=q'
 replace q':=bm q'
 obtain ⟨j,rfl,q'⟩:=q'
 obtain ⟨t,rfl⟩:=ru.int_of
 obtain ⟨t',rfl⟩:=rv.int_of
 exact sub_int ⟨O',H',_,x1,I',cG,⟨sm.gens,sm.os⟩,q'⟩
private theorem kC {a b:Expr} {Ta Tb:ET} {pos:Pos} (ha:SE w hB k Γ a Ta) (hb:SE w hB k Γ b Tb):SE w hB k Γ (.BinOp a .Mult b pos) (mF Ta Tb):=by
 refine ⟨?_,trivial⟩
 intro A env O H L s Q S q
 refine wpAny_BinOp (iY ha hb S q λu v x y O' H' s' x1 sm I' ru rv q'=>?_)
 replace q':=bm q'
 obtain ⟨i,rfl,q'⟩:=q'
 replace q':=bm q'
 obtain ⟨j,rfl,q'⟩:=q'
 obtain ⟨t,rfl⟩:=ru.int_of
 obtain ⟨t',rfl⟩:=rv.int_of
 exact mul_int ⟨O',H',_,x1,I',cG,⟨sm.gens,sm.os⟩,q'.2⟩ (IntMulOk.of_left (intBits_le_64 q'.1.1 q'.1.2))
private theorem vy {i j:Int} (h:0 < j):i.fmod j = i % j:=Int.fmod_eq_emod_of_nonneg i (Int.le_of_lt h)
private theorem vA {i j:Int} (h:0 < j):i.fdiv j = i / j:=Int.fdiv_eq_ediv_of_nonneg i (Int.le_of_lt h)
private theorem cx {a b:Expr} {Ta Tb:ET} {pos:Pos} (ha:SE w hB k Γ a Ta) (hb:SE w hB k Γ b Tb):SE w hB k Γ (.BinOp a .Mod b pos) (dH Ta Tb):=by
 refine ⟨?_,trivial⟩
 intro A env O H L s Q S q
 refine wpAny_BinOp (iY ha hb S q λu v x y O' H' s' x1 sm I' ru rv q'=>?_)
 replace q':=bm q'
 obtain ⟨i,rfl,q'⟩:=q'
 replace q':=bm q'
 obtain ⟨j,rfl,q'⟩:=q'
 obtain ⟨t,rfl⟩:=ru.int_of
 obtain ⟨t',rfl⟩:=rv.int_of
 refine mod_int' (by omega) ?_
 rw [vy q'.1]
 exact ⟨O',H',_,x1,I',cG,⟨sm.gens,sm.os⟩,q'.2⟩
private theorem vu {x y:Int} (h0:0 < y) (h:y < 2 ^ 64):Builtin.divisionGoesByPylong x y = false:=by
 have hl:y.natAbs.log2 < 64:=by
  rw [Nat.log2_lt (Int.natAbs_ne_zero.mpr (Int.ne_of_gt h0))];exact Int.ofNat_lt.mp (by rw [Int.natAbs_of_nonneg (Int.le_of_lt h0)];exact h)
 unfold Builtin.divisionGoesByPylong
 simp only [Bool.and_eq_false_iff,decide_eq_false_iff_not]
 left
 split <;> omega
private theorem qd {a b:Expr} {Ta Tb:ET} {pos:Pos} (ha:SE w hB k Γ a Ta) (hb:SE w hB k Γ b Tb):SE w hB k Γ (.BinOp a .FloorDiv b pos) (sk Ta Tb):=by
 refine ⟨?_,trivial⟩
 intro A env O H L s Q S q
 refine wpAny_BinOp (iY ha hb S q λu v x y O' H' s' x1 sm I' ru rv q'=>?_)
 replace q':=bm q'
 obtain ⟨i,rfl,q'⟩:=q'
 replace q':=bm q'
 obtain ⟨j,rfl,q'⟩:=q'
 obtain ⟨t,rfl⟩:=ru.int_of
 obtain ⟨t',rfl⟩:=rv.int_of
 refine floordiv_int (by omega) ?_ (.inl (vu q'.1.1 q'.1.2))
 rw [vA q'.1.1]
 exact ⟨O',H',_,x1,I',cG,⟨sm.gens,sm.os⟩,q'.2⟩
private theorem pM {O:Phi} {h:Heap} {m:MV} {v:Value} {n:Nat} (r:RV O h m v) (e:sU m = some n):∃ x t,v = .str x t∧x.length≤n:=by
 cases m with
 | sym k =>
  obtain ⟨x,t,hx,rfl⟩:=r.sym_of
  replace e:(symTab[k]?).map (·.length) = some n:=e
  rw [hx] at e
  cases e
  exact ⟨x,t,rfl,Nat.le_refl _⟩
 | text=>cases e;exact r.text_of
 | _=>exact noS e
private theorem bB {a b:Expr} {Ta Tb:ET} {pos:Pos} (ha:SE w hB k Γ a Ta) (hb:SE w hB k Γ b Tb):SE w hB k Γ (.BinOp a .Add b pos) (bZ Ta Tb):=by
 refine ⟨?_,trivial⟩
 intro A env O H L s Q S q
 refine wpAny_BinOp (iY ha hb S q λu v x y O' H' s' x1 sm I' ru rv q'=>?_)
 have txt:zg x y Q H'→wpAny (MM w) A (binaryOp .Add u v) (EPost w hB O s Q) Fls s':=λq=>by
  obtain ⟨m,hm,q⟩:=pB q
  obtain ⟨n,hn,q⟩:=pB q
  obtain ⟨x,t,rfl,hx⟩:=pM ru hm
  obtain ⟨y,t',rfl,hy⟩:=pM rv hn
  refine add_str (λt' tk=>?_) (by rw [sizeLine_eq];omega)
  exact ⟨O',H',_,x1,I',ug (by rw [Str.length_append];exact Nat.add_le_add ‹_› ‹_›),⟨sm.gens,sm.os⟩,q.2⟩
 cases x with
 | int i =>
  replace q':=bm q'
  obtain ⟨j,rfl,q'⟩:=q'
  obtain ⟨t,rfl⟩:=ru.int_of
  obtain ⟨t',rfl⟩:=rv.int_of
  exact add_int ⟨O',H',_,x1,I',cG,⟨sm.gens,sm.os⟩,q'⟩
 | ref i =>
  replace q':=bP q'
  obtain ⟨j,rfl,q'⟩:=q'
  obtain ⟨l,hi,q'⟩:=cK q'
  obtain ⟨l',hj,q'⟩:=cK q'
  obtain ⟨p,hp,rfl⟩:=ru.ref_of
  obtain ⟨p',hp',rfl⟩:=rv.ref_of
  obtain ⟨vs,n,h1,h2,hL,hl,hr⟩:=bU I' hi hp
  obtain ⟨vs',n',h1',h2',hL',hl',hr'⟩:=bU I' hj hp'
  have hz:(vs++vs').size≤sizeLine:=by rw [Array.size_append,h1,h1',sizeLine_eq];omega
  refine P.add_list hL hL' ?_ (by rw [h1,h1',sizeLine_eq];omega)
  have z:=I'.alloc (h':=s'.heap.push { cls:=.type "list",data:=.seq (vs++vs') }) (m:=.list (l++l')) (p:=(s'.heap.objs.size,none)) (bR _ _) (λa ha=>by
    rw [bx] at ha
    obtain rfl:=List.mem_singleton.mp ha
    exact bF _) (by rw [bx];simp)
   ⟨rfl,vs++vs',0,Nat.le_succ_of_le hz,Heap.get?_push_size _ rfl,RVs.mono ⟨_,rfl⟩ (ct (bR _ _)) (by simpa using hr.append hr')⟩
  exact ⟨_,_,_,x1.trans z.2,z.1,gm (p:=(s'.heap.objs.size,none)) (by rw [← I'.len];simp),⟨sm.gens,sm.os⟩,q'.2⟩
 | sym n=>exact txt q'
 | text n=>exact txt q'
 | _=>exact False.elim q'
noncomputable def eI (a:ET):ET:=λL H Q=>a L H λx H'=>cT x λi=>Q (.int (-i)) H'
private theorem c7 {a:Expr} {T:ET} {pos:Pos} (ha:SE w hB k Γ a T):SE w hB k Γ (.UnaryOp .USub a pos) (eI T):=by
 refine ⟨?_,trivial⟩
 intro A env O H L s Q S q
 refine UnaryOp_ (wpAny_mono (ha.1 A env O H L s _ S q) (λv s' z=>?_) λU U z=>z)
 obtain ⟨O',H',x,x1,I',rv,sm,q'⟩:=z
 replace q':=bm q'
 obtain ⟨i,rfl,q'⟩:=q'
 obtain ⟨t,rfl⟩:=rv.int_of
 exact neg_int ⟨O',H',_,x1,I',cG,⟨sm.gens,sm.os⟩,q'⟩
noncomputable def vG (t:Nat):ET:=λU H Q=>Q (.tab t) H
private theorem tr {x:Str} {t:Nat} {pos:Pos} (hx:x∈Γ.globs) (hv:∀ w,nsIn (KK w) mainGlobals x = some (some (.ref (db t)))) (hd:(x == ("__debug__":Str)) = false):SE w hB k Γ (.Name x pos) (vG t):=by
 refine ⟨?_,trivial⟩
 intro A env O H L s Q S q
 exact qq S hx (hv w) (cV (t:=s.toks) S.inv ze q) hd
end
end Mine
end
section
namespace Mine
inductive Fl where
 | next | brk | cont | ret (v:MV)
noncomputable abbrev ST:=Loc→MH→(Fl→Loc→MH→Prop)→Prop
noncomputable abbrev FT:=List MV→MH→(MV→MH→Prop)→Prop
noncomputable def Ap (O:Phi) (h:Heap):Fl→Flow→Prop
 | .next,f=>f = .next
 | .brk,f=>f = .brk
 | .cont,f=>f = .cont
 | .ret m,f=>∃ v,f = .ret v∧RV O h m v
section
variable (w:World) (hB:Heap)
inductive FPost (Γ:Ctx) (env:Env) (O:Phi) (s:Shared) (Q:Fl→Loc→MH→Prop) (f:Flow) (s':Shared):Prop where
 | mk (O':Phi) (H':MH) (L':Loc) (fl:Fl) (x:Ext (Wr env) O s.heap O' s'.heap) (i:Inv w hB O' H' s'.heap) (l:LocRep O' s'.heap Γ env L') (o:Ap O' s'.heap fl f) (m:Sm s s') (q:Q fl L' H')
noncomputable def SS (k:Nat) (Γ:Ctx) (b:List Stmt) (T:ST):Prop :=
 (∀ A env O H L s Q,Sit w hB k Γ A env O H L s→T L H Q→wpAny (MM w) A (execs b env) (FPost w hB Γ env O s Q) Fls s)∧True
noncomputable def S1 (k:Nat) (Γ:Ctx) (b:Stmt) (T:ST):Prop :=
 (∀ A env O H L s Q,Sit w hB k Γ A env O H L s→T L H Q→wpAny (MM w) A (exec b env) (FPost w hB Γ env O s Q) Fls s)∧True
noncomputable def y6 (O:Phi) (s:Shared) (Q:MV→MH→Prop) (r:Result) (s':Shared):Prop:=match r with
 | .ok (.ret v)=>EPost w hB O s Q v s'
 | _=>False
private theorem jc {O:Phi} {s:Shared} {Q:MV→MH→Prop} {r:Result} {s':Shared} (z:y6 w hB O s Q r s'):∃ v,r = .ok (.ret v)∧EPost w hB O s Q v s':=by
 cases r with
 | ok f=>cases f with
  | ret v=>exact ⟨v,rfl,z⟩
  | _=>exact z.elim
 | _=>exact z.elim
noncomputable def SF (k:Nat) (f:Addr) (T:FT):Prop :=
 (∀ A O H s ms vs Q,Base w hB→Room k A→Inv w hB O H s.heap→RVs O s.heap ms vs→T ms H Q→codeAny (MM w) A (.call (.ref f) ⟨vs,[]⟩) (y6 w hB O s Q) s)∧True
end
section
variable {w:World} {hB:Heap} {k:Nat} {Γ:Ctx}
private theorem mr {kf:Str→Option NameKind} {x:Str}:∀ (b:List (Str×Value)) (m:Str→Option Value),x∉b.map (·.1)→bindL kf b m x = m x
 | [],m,_=>rfl
 | (n,v) :: r,m,h=>by
  have h1:x≠n:=λe=>h (by simp [e])
  have h2:x∉r.map (·.1):=λe=>h (by simp at e ⊢;exact .inr e)
  unfold bindL
  rw [mr r _ h2]
  split
  ·simp [h1]
  ·rfl
private theorem mV {kf:Str→Option NameKind} {x:Str}:∀ (b:List (Str×Value)) (m:Str→Option Value),x∉b.map (·.1)→bindC kf b m x = m x
 | [],m,_=>rfl
 | (n,v) :: r,m,h=>by
  have h1:x≠n:=λe=>h (by simp [e])
  have h2:x∉r.map (·.1):=λe=>h (by simp at e ⊢;exact .inr e)
  unfold bindC
  rw [mV r _ h2]
  split
  ·rfl
  ·simp [h1]
private theorem pG {kf:Str→Option NameKind} {x:Str} {v:Value} (hk:kf x = some .local):∀ (b:List (Str×Value)) (m:Str→Option Value),(b.map (·.1)).Nodup→(x,v)∈b→bindL kf b m x = some v
 | (n,u) :: r,m,nd,h=>by
  rw [List.map_cons,List.nodup_cons] at nd
  unfold bindL
  rcases List.mem_cons.mp h with e | e
  ·cases e
   rw [mr r _ nd.1,if_pos hk]
   simp
  ·exact pG hk r _ nd.2 e
private theorem pA {kf:Str→Option NameKind} {x:Str} {v:Value} (hk:kf x≠some .local):∀ (b:List (Str×Value)) (m:Str→Option Value),(b.map (·.1)).Nodup→(x,v)∈b→bindC kf b m x = some v
 | (n,u) :: r,m,nd,h=>by
  rw [List.map_cons,List.nodup_cons] at nd
  unfold bindC
  rcases List.mem_cons.mp h with e | e
  ·cases e
   rw [mV r _ nd.1,if_neg hk]
   simp
  ·exact pA hk r _ nd.2 e
noncomputable def yu (Γ:Ctx) (sc:Scope):Bool:=(Γ.names.all λx=>sc.names.lookup x.1 == some (if x.2 then .cell else .local)) && (Γ.globs.all λx=>sc.names.lookup x == some .globalImplicit) && sc.kind == .function
noncomputable def e8 (Γ:Ctx) (vs:List Value):List (Str×Value):=(Γ.names.map (·.1)).zip vs
noncomputable def kOp {α:Type} (a:α):α:=Classical.choose (⟨a,rfl⟩:∃ b,b = a)
private theorem wM {α:Type} (a:α):kOp a = a:=Classical.choose_spec (⟨a,rfl⟩:∃ b,b = a)
noncomputable def zU (n tot:Nat) (T:ST):FT:=λms H Q=>ms.length = n∧T (ms.map some++List.replicate (tot - n) none) H λfl U H'=>match fl with
 | .ret v=>Q v H'
 | .next=>Q .none H'
 | _=>False
noncomputable def ci (n tot:Nat) (T:ST):FT:=kOp (zU n tot T)
private theorem Room.deeper {A:Around} {env:Env} (R:Room (k + 1) A):Room k (A.deeper env):=by
 refine ⟨R.handled,?_,?_⟩
 ·have:=R.depth
  show A.depth + 1 + 4 * k≤900
  exact Nat.le_trans (by rw [Nat.add_right_comm];exact Nat.add_le_add_left (by decide:1≤4) (A.depth + 4 * k)) this
 ·have:=R.units
  show A.units + 3 + 40 * k≤9000
  exact Nat.le_trans (by rw [Nat.add_right_comm];exact Nat.add_le_add_left (by decide:3≤40) (A.units + 40 * k)) this
private theorem Room.call {A:Around} (R:Room k A):A.depth < recursionLimit:=by
 have:=R.depth
 show A.depth < 1000
 exact Nat.lt_of_le_of_lt (Nat.le_trans (Nat.le_add_right _ _) this) (by decide)
private theorem Ext.drop {W:List Addr} {O O':Phi} {h h':Heap} (x:Ext W O h O' h') (f:∀ a∈W,h.get? a = none):Ext [] O h O' h' :=
 ⟨x.pre,x.new,λb o e n U=>x.keep b o e n λq=>(by rw [f b q] at e;cases e),x.there⟩
private theorem cI {h:Heap} {a:Addr} (e:h.objs.size≤a):h.get? a = none:=by
 cases q:h.get? a with
 | none=>rfl
 | some o=>exact absurd (Heap.lt_size q) (Nat.not_lt.mpr e)
private theorem uh {α β:Type}:∀ (l:List α) (r:List β),((l.zip r).map (·.1)).Sublist l
 | [],r=>by simp
 | a :: l,[]=>by simp
 | a :: l,b :: r=>by simp only [List.zip_cons_cons,List.map_cons];exact (uh l r).cons₂ a
set_option tactic.hygienic true in
private theorem aV {f:Addr} {oc:Value} {od:Option Addr} {fd:FuncData} {osl:Array (Option Value)} {body:List Stmt} {T:ST} {n:Nat} (ho:(KK w).lookup f = some ⟨oc,od,.func fd,osl⟩) (hb:fd.body = .stmts body)
  (hcd:codeIn (KK w) fd.code fd.qualname = true) (hcl:fd.closure = []) (hok:yu Γ fd.scope = true) (hnd:(Γ.names.map (·.1)).Nodup) (hn:n≤Γ.names.length)
  (hbind:∀ vs:List Value,vs.length = n→bindArgs fd { pos:=vs } = pure (e8 Γ vs)) (hgl:fd.globals = mainGlobals) (hbl:fd.builtins = builtinsNs)
  (hs:SS w hB k Γ body T) (hcode:Γ.code = true→kdsCode (KK w) fd.code = true) (h1:fd.scope.isCoroutine = false) (h2:fd.scope.isGenerator = false):SF w hB (k + 1) f (ci n Γ.names.length T):=by
 refine ⟨?_,trivial⟩
 intro A O H s ms vs Q B R I rv q
 rw [ci,wM] at q
 obtain ⟨q1,q2⟩:=q
 have hl:=rv.length
 have hvs:vs.length = n:=by rw [hl,q1]
 unfold yu at hok
 simp only [Bool.and_eq_true,List.all_eq_true,beq_iff_eq] at hok
 obtain ⟨⟨k1,k2⟩,k3⟩:=hok
 have hmem:∀ y∈e8 Γ vs,∃ b,(y.1,b)∈Γ.names:=λy hy=>by
  unfold e8 at hy
  have:=(List.of_mem_zip hy).1
  obtain ⟨z,hz,e⟩:=List.mem_map.mp this
  exact ⟨z.2,by rw [← e];exact hz⟩
 refine codeAny_call_cells R.call (I.base _ _ (B.K _ _ ho)) rfl (B.nolimit.keeps I.base) (codeRec_of (I.keepK B) hcd) hb (hbind vs hvs) hcl (λx hx=>?_) (λs₁ X=>?_) h1 h2 k3
 ·obtain ⟨b,hb⟩:=hmem x hx
  have:=k1 _ hb
  cases b with
  | false=>exact .inl this
  | true=>exact .inr ⟨this,cellsFrom_some _ _ _ (.inl this)⟩
 ·have hx:=X.toInCall.done
  obtain ⟨h',tk,rfl,keep⟩:=hx
  obtain ⟨I1,x1⟩:=I.grow keep
  have fr:=X.toInCall.fresh
  have fresh:∀ a∈Al (callEnvC fd s.heap.objs.size f),s.heap.get? a = none:=λa ha=>by
   rcases mem_Al.mp ha with rfl | ⟨z,hz⟩
   ·exact cI fr
   ·exact cI (Nat.le_trans fr (Nat.le_of_lt (X.above _ _ (cU hz))))
  have nown:∀ a,s.heap.get? a = none→a∉own O:=λa ha hm=>by
   obtain ⟨o,eo,_⟩:=I.ownThere hm
   rw [ha] at eo;cases eo
  have hnd':((e8 Γ vs).map (·.1)).Nodup:=by
   unfold e8
   exact hnd.sublist (uh _ _)
  have LR:LocRep O h' Γ (callEnvC fd s.heap.objs.size f) (ms.map some++List.replicate (Γ.names.length - n) none):=by
   refine ⟨by simp [q1];(exact Nat.add_sub_of_le ‹_›),⟨_,X.toInCall.ns,λi x mv hx hm=>?_⟩,nown _ (fresh _ (.head _)),λx c hc=>nown _ (fresh _ (mem_Al.mpr (.inr ⟨_,hc⟩))),X.apart,λy c hc=>⟨_,X.cell y c hc⟩⟩
   have kx:=k1 x (List.mem_of_getElem? hx)
   have hget:∀ a,mv = some a→∃ v,(x.1,v)∈e8 Γ vs∧RV O h' a v:=λa ha=>by
    subst ha
    by_cases hlt:i < ms.length
    ·rw [List.getElem?_append_left (by simpa using hlt),List.getElem?_map] at hm
     obtain ⟨m,hm',e⟩:=Option.map_eq_some_iff.mp hm
     cases e
     obtain ⟨v,hv,r⟩:=rv.get hm'
     refine ⟨v,?_,r.mono (List.prefix_refl _) (ct keep)⟩
     unfold e8
     refine List.mem_of_getElem? (i:=i) ?_
     rw [List.getElem?_zip_eq_some]
     exact ⟨by rw [List.getElem?_map,hx];rfl,hv⟩
    ·rw [List.getElem?_append_right (by simpa using hlt)] at hm
     simp [List.getElem?_replicate] at hm
   unfold VarOk
   split
   ·rename_i eb
    rw [eb] at kx
    intro a ha
    obtain ⟨v,hv,r⟩:=hget a ha
    exact ⟨v,pG kx _ _ hnd' hv,r⟩
   ·rename_i eb
    rw [eb] at kx
    have:=cellsFrom_some fd.scope.names (s.heap.objs.size + 1) [] (x:=x.1) (.inl kx)
    obtain ⟨c,hc⟩:=Option.isSome_iff_exists.mp this
    refine ⟨c,_,hc,X.cell x.1 c hc,λa ha=>?_⟩
    obtain ⟨v,hv,r⟩:=hget a ha
    refine ⟨v,pA (λz=>?_) _ _ hnd' hv,r⟩
    have:(callEnvC fd s.heap.objs.size f).kindOf x.1 = some .cell:=kx
    rw [this] at z;simp at z
  have S:Sit w hB k Γ (A.deeper (callEnvC fd s.heap.objs.size f)) (callEnvC fd s.heap.objs.size f) O H (ms.map some++List.replicate (Γ.names.length - n) none) { s with heap:=h',toks:=tk } :=
   ⟨B,R.deeper,⟨k3,k1,k2,hgl,hbl,hcode,hnd,λU=>rfl⟩,I1,LR,λa ha=>by
    cases e0:hB.get? a with
    | none=>rfl
    | some o=>have:=I.base a o e0;rw [fresh a ha] at this;cases this⟩
  refine wpAny_mono (hs.1 _ _ O H _ _ _ S q2) (λfl s' z=>?_) λU U z=>z.elim
  obtain ⟨O',H',L',m,x2,I2,l2,fo,sm,q'⟩:=z
  have xx:Ext [] O s.heap O' s'.heap:=((x1.weaken (λU h=>nomatch h)).trans x2).drop λa ha=>fresh a (j8 ha)
  have sm':Sm s s':=⟨sm.gens,sm.os⟩
  cases m with
  | ret v =>
   obtain ⟨u,rfl,r⟩:=fo
   exact ⟨O',H',v,xx,I2,r,sm',q'⟩
  | next =>
   obtain rfl:fl = .next:=fo
   exact ⟨O',H',.none,xx,I2,jI,sm',q'⟩
  | brk=>exact q'.elim
  | cont=>exact q'.elim
end
end Mine
end
section
namespace Mine
section
variable (w:World) (hB:Heap)
noncomputable def SC (k:Nat) (f:Value) (T:FT):Prop :=
 (∀ A O H s ms vs Q,Base w hB→Room k A→Inv w hB O H s.heap→RVs O s.heap ms vs→T ms H Q→wpAny (MM w) A (PySem.call f vs) (EPost w hB O s Q) Fls s)∧True
noncomputable def aT (f:Value):Prop:=(∃ T,f = .type T)∨(∃ id,f = .builtin id)∨keepIn (KK w) f = true
noncomputable def aX (x:Str) (f:Value):Prop:=nsIn (KK w) mainGlobals x = some (some f)∨(nsIn (KK w) mainGlobals x = some none∧bootBuiltins x = some f∧x≠"__name__")
end
noncomputable def aI (es:EsT) (F:FT):ET:=λL H Q=>es L H λvs H'=>F vs H' Q
noncomputable def ta (F:FT):ET:=λU H Q=>F [] H Q
section
variable {w:World} {hB:Heap} {k:Nat} {Γ:Ctx}
private theorem aF {f:Addr} {T:FT} (h:SF w hB k f T):SC w hB k (.ref f) T:=by
 refine ⟨?_,trivial⟩
 intro A O H s ms vs Q B R I rv q
 refine wpAny_call (codeAny_mono (h.1 A O H s ms vs Q B R I rv q) λr s' z=>?_)
 obtain ⟨v,rfl,z⟩:=jc _ _ z
 exact z
private theorem gC {A:Around} {env:Env} {O:Phi} {H:MH} {L:Loc} {s:Shared} {x:Str} {pos:Pos} {v:Value} {P:Value→Shared→Prop} (S:Sit w hB k Γ A env O H L s) (hx:x∈Γ.globs) (hg:aX w x v)
  (p:P v s) (hd:(x == ("__debug__":Str)) = false):wpAny (MM w) A (eval (.Name x pos) env) P Fls s:=by
 rcases hg with hv | ⟨hv,hb,hne⟩
 ·exact qq S hx hv p hd
 ·exact sX S hx hv hb p hne hd
private theorem rf {A:Around} {env:Env} {s:Shared} {pos:Pos} {f:Value} {e:Expr} {rest:List Expr} {Q:Value→Shared→Prop} (hc:aT w f)
  (h:wpAny (MM w) A (spliced (backTo pos (starEach (e :: rest) env))) (λvs s₁=>(KK w).In s₁.heap∧wpAny (MM w) A (PySem.call f vs) Q Fls s₁) Fls s) (X:(KK w).In s.heap)
  (he:starEach (e :: rest) env = (false,eval e env) :: starEach rest env) (hp:(backTo pos (starEach rest env)).any (·.1) = false) :
  wpAny (MM w) A (callWith pos f [] (backTo pos (starEach (e :: rest) env)) []) Q Fls s:=by
 rcases hc with ⟨T,rfl⟩ | ⟨id,rfl⟩ | hk
 ·exact PyProof.Rows.callWith_type1 (wpAny_mono h (λU U z=>z.2) λU U z=>z) he hp
 ·exact PyProof.Rows.callWith_builtin1 (wpAny_mono h (λU U z=>z.2) λU U z=>z) he hp
 ·exact callWith_K X hk h he hp
private theorem aC {x:Str} {f:Value} {e:Expr} {rest:List Expr} {p pos:Pos} {Ts:EsT} {F:FT} (hx:x∈Γ.globs) (hg:aX w x f) (hc:aT w f) (hs:SEs w hB k Γ (e :: rest) Ts) (hf:SC w hB k f F)
  (hd:(x == ("__debug__":Str)) = false) :
  SE w hB k Γ (.Call (.Name x p) (e :: rest) [] pos) (aI Ts F):=by
 have he:∀ env,starEach (e :: rest) env = (false,eval e env) :: starEach rest env:=λenv=>(dm (hs.2 env)).1
 have hp:∀ env,(backTo pos (starEach rest env)).any (·.1) = false:=λenv=>by rw [gh];exact (dm (hs.2 env)).2
 refine ⟨?_,trivial⟩
 intro A env O H L s Q S q
 refine Call_ (gC S hx hg (rf hc ?_ (S.inv.keepK S.base) (he env) (hp env)) hd)
 refine wpAny_mono (hs.1 pos A env O H L s _ S q) (λvs s' z=>?_) λU U z=>z
 obtain ⟨O',H',ms,x1,I',rv,sm,q'⟩:=z
 refine ⟨I'.keepK S.base,wpAny_mono (hf.1 A O' H' s' ms vs _ S.base S.room I' rv q') (λv s'' z=>z.after x1 sm) λU U z=>z⟩
private theorem vL {x:Str} {f:Value} {p pos:Pos} {F:FT} (hx:x∈Γ.globs) (hg:aX w x f) (hc:aT w f) (hf:SC w hB k f F) (hd:(x == ("__debug__":Str)) = false) :
  SE w hB k Γ (.Call (.Name x p) [] [] pos) (ta F):=by
 refine ⟨?_,trivial⟩
 intro A env O H L s Q S q
 have z:=hf.1 A O H s [] [] _ S.base S.room S.inv (RVs_nil.mpr rfl) q
 refine Call_ (gC S hx hg ?_ hd)
 rcases hc with ⟨T,rfl⟩ | ⟨id,rfl⟩ | hk
 ·exact callWith_type0 z
 ·exact PyProof.Rows.callWith_method0 z
 ·exact callWith_K0 (S.inv.keepK S.base) hk z
inductive Kd where
 | list | dict | set
noncomputable def Kd.py:Kd→String
 | .list=>"list" | .dict=>"dict" | .set=>"set"
noncomputable def kL (H:MH) (v:MV):Kd→Prop
 | .list=>∃ i l,v = .ref i∧H[i]? = some (.list l)
 | .dict=>∃ i l,v = .ref i∧H[i]? = some (.dict l)
 | .set=>∃ i o,v = .ref i∧H[i]? = some o∧(o = .full∨∃ l,o = .set l)
noncomputable def Mth (d:Kd) (name:Str) (id:String):Prop:=PlainAttrs d.py∧Slot d.py name id∧typeOf (.builtin id) = pure (.type "method_descriptor")
private theorem t6 {O:Phi} {H:MH} {s:Shared} {v:MV} {u:Value} {d:Kd} (I:Inv w hB O H s.heap) (r:RV O s.heap v u) (hd:kL H v d):s.TypeIs u d.py∧∀ a,u = .ref a→∃ ob,s.heap.get? a = some ob∧ob.dict = none:=by
 cases d with
 | list =>
  obtain ⟨i,l,rfl,hi⟩:=hd
  obtain ⟨p,hp,rfl⟩:=r.ref_of
  obtain ⟨vs,n,h1,h2,hL,hl,hr⟩:=bU I hi hp
  exact ⟨hl.typeIs,λa e=>by cases e;exact ⟨_,hL,rfl⟩⟩
 | dict =>
  obtain ⟨i,l,rfl,hi⟩:=hd
  obtain ⟨p,hp,rfl⟩:=r.ref_of
  obtain ⟨_,_,kvs,hd,hpr⟩:=I.obj i _ p hi hp
  refine ⟨hd.typeIs,λa e=>?_⟩
  cases e
  obtain ⟨o,es,ep,e,⟨c,dn,_⟩,rest⟩:=hd
  exact ⟨o,e,dn⟩
 | set =>
  obtain ⟨i,ob,rfl,hi,ho⟩:=hd
  obtain ⟨p,hp,rfl⟩:=r.ref_of
  rcases ho with rfl | ⟨l,rfl⟩
  ·obtain ⟨_,es,ep,t,e,_⟩:=I.obj i _ p hi hp
   exact ⟨⟨_,e,rfl⟩,λa e'=>by cases e';exact ⟨_,e,rfl⟩⟩
  ·obtain ⟨_,_,hset⟩:=I.obj i _ p hi hp
   obtain ⟨o,es,ep,t,e,⟨c,dn,ds⟩,rest⟩:=hset
   exact ⟨⟨o,e,c⟩,λa e'=>by cases e';exact ⟨o,e,dn⟩⟩
noncomputable def bW (d:Kd) (o:ET) (es:EsT) (F:FT):ET:=λL H Q=>o L H λv H'=>kL H' v d∧es L H' λvs H''=>F (v :: vs) H'' Q
noncomputable def iq (d:Kd) (o:ET) (F:FT):ET:=λL H Q=>o L H λv H'=>kL H' v d∧F [v] H' Q
private theorem bL {o e:Expr} {rest:List Expr} {name:Str} {id:String} {d:Kd} {apos pos:Pos} {To:ET} {Ts:EsT} {F:FT} (ho:SE w hB k Γ o To) (hm:Mth d name id) (hs:SEs w hB k Γ (e :: rest) Ts) (hf:SC w hB k (.builtin id) F)
  (hbase:∀ env,attributeBase o name env (eval o env) = eval o env) (hline:(apos.endLine == pos.line) = true)
  (hlen:(e :: rest).length < 30) :
  SE w hB k Γ (.Call (.Attribute o name apos) (e :: rest) [] pos) (bW d To Ts F):=by
 have he:∀ env,starEach (e :: rest) env = (false,eval e env) :: starEach rest env:=λenv=>(dm (hs.2 env)).1
 have hp:∀ env,(backTo pos (starEach rest env)).any (·.1) = false:=λenv=>by rw [gh];exact (dm (hs.2 env)).2
 have hfew:∀ env,((backTo pos (starEach (e :: rest) env)).all (λx=>!x.1) && (backToKw pos (keywordEach [] env)).all (λx=>x.1.isSome)
   && decide ((e :: rest).length + ([]:List Keyword).length + (if ([]:List Keyword).isEmpty then 0 else 1) < 30)) = true:=λenv=>by
  have h1:(backTo pos (starEach (e :: rest) env)).all (λx=>!x.1) = true:=by
   have:=gh pos (starEach (e :: rest) env)
   rw [hs.2 env] at this
   rw [List.all_eq_true]
   intro x hx
   have:=List.any_eq_false.mp this x hx
   simpa using this
  rw [h1,show (backToKw pos (keywordEach [] env)).all (λx=>x.1.isSome) = true from rfl]
  simpa using hlen
 refine ⟨?_,trivial⟩
 intro A env O H L s Q S q
 refine wpAny_Call_method_lateS (hbase env) (hfew env) hline ?_
 refine wpAny_mono (ho.1 A env O H L s _ S q) (λu s' z=>?_) λU U z=>z
 obtain ⟨O',H',mv,x1,I',rv,sm,q1,q2⟩:=z
 obtain ⟨t1,t2⟩:=t6 I' rv q1
 refine ⟨d.py,id,hm.1,hm.2.1,hm.2.2,t1,t2,PyProof.Rows.callWith_method1 ?_ (he env) (hp env)⟩
 refine wpAny_mono (hs.1 pos A env O' H' L s' _ (S.next x1 I') q2) (λvs s'' z=>?_) λU U z=>z
 obtain ⟨O2,H2,ms,x2,I2,rvs,sm2,q3⟩:=z
 refine wpAny_mono (hf.1 A O2 H2 s'' (mv :: ms) (u :: vs) _ S.base S.room I2 (.mk (rv.mono x2.pre (x2.tup0 I')) rvs) q3) (λv s3 z=>z.after (x1.trans x2) (sm.trans sm2)) λU U z=>z
private theorem m9 {o:Expr} {name:Str} {id:String} {d:Kd} {apos pos:Pos} {To:ET} {F:FT} (ho:SE w hB k Γ o To) (hm:Mth d name id) (hf:SC w hB k (.builtin id) F)
  (hbase:∀ env,attributeBase o name env (eval o env) = eval o env) (hline:(apos.endLine == pos.line) = true) :
  SE w hB k Γ (.Call (.Attribute o name apos) [] [] pos) (iq d To F):=by
 refine ⟨?_,trivial⟩
 intro A env O H L s Q S q
 refine wpAny_Call_method_lateS (hbase env) rfl hline ?_
 refine wpAny_mono (ho.1 A env O H L s _ S q) (λu s' z=>?_) λU U z=>z
 obtain ⟨O',H',mv,x1,I',rv,sm,q1,q2⟩:=z
 obtain ⟨t1,t2⟩:=t6 I' rv q1
 refine ⟨d.py,id,hm.1,hm.2.1,hm.2.2,t1,t2,PyProof.Rows.callWith_method0 ?_⟩
 exact wpAny_mono (hf.1 A O' H' s' [mv] [u] _ S.base S.room I' (.mk rv (RVs_nil.mpr rfl)) q2) (λv s3 z=>z.after x1 sm) λU U z=>z
end
end Mine
end
section
namespace Mine
section
variable {w:World} {hB:Heap} {k:Nat} {Γ:Ctx}
noncomputable def mB (c:Nat) (F:FT):FT:=λms H Q=>F (.ref H.length :: ms) (H++[.inst c []]) λv H'=>v = .none∧Q (.ref H.length) H'
private theorem uM (C:Addr) (rest:List Value) (kw:List (Str×Value)):(Code.builtin "type.__call__" ⟨.ref C :: rest,kw⟩).weight = 1:=by kernel_rfl
private theorem wT (C:Addr) (rest:List Value) (kw:List (Str×Value)):(Code.builtin "type.__call__" ⟨.ref C :: rest,kw⟩).cUnits = 1:=by kernel_rfl
private theorem Room.tc {A:Around} {C:Addr} {rest:List Value} {kw:List (Str×Value)} (R:Room (k + 1) A):Room k (A.under (.builtin "type.__call__" ⟨.ref C :: rest,kw⟩)):=by
 refine ⟨R.handled,?_,?_⟩
 ·have:=R.depth
  show A.depth + (Code.builtin "type.__call__" ⟨.ref C :: rest,kw⟩).weight + 4 * k≤900
  rw [uM];omega
 ·have:=R.units
  show A.units + (Code.builtin "type.__call__" ⟨.ref C :: rest,kw⟩).cUnits + 40 * k≤9000
  rw [wT];omega
private theorem v9 {c:Nat} {f:Addr} {F:FT} (hi:findIn (KK w) (.ref (bo c)) "__init__" = some (some (.ref f))) (hf:typeIn (KK w) (.ref f) = some (.type "function")) (hF:SF w hB k f F):SC w hB (k + 1) (.ref (bo c)) (mB c F):=by
 refine ⟨?_,trivial⟩
 intro A O H s ms vs Q B R I rv q
 refine wpAny_call ?_
 obtain ⟨hh,g,d,t,os⟩:=s
 have X:=I.keepK B
 refine make_core (makes_of X (nJ w c).2.2.2.1) (looks_findIn X hi) (λself=>bind_fn X self hf) (.inl rfl) ?_
 have keep:∀ b o,hh.get? b = some o→((hh.push emptyDict).push (instObj (bo c) hh.objs.size)).get? b = some o:=λb o e=>Heap.get?_push_of_some _ (Heap.get?_push_of_some _ e)
 have e1:((hh.push emptyDict).push (instObj (bo c) hh.objs.size)).get? (hh.objs.size + 1) = some (instObj (bo c) hh.objs.size):=by
  have:=Heap.get?_push_size (hh.push emptyDict) (o:=instObj (bo c) hh.objs.size) rfl
  rwa [Heap.size_push] at this
 have e2:((hh.push emptyDict).push (instObj (bo c) hh.objs.size)).get? hh.objs.size = some (dictOf [] 0):=Heap.get?_push_of_some _ (Heap.get?_push_size _ rfl)
 have z:=I.alloc (m:=.inst c []) (p:=(hh.objs.size + 1,some hh.objs.size)) keep (λa ha=>by
   rw [bx] at ha
   rcases List.mem_cons.mp ha with rfl | ha
   ·exact cI (Nat.le_succ _)
   ·obtain rfl:=List.mem_singleton.mp ha
    exact cI (Nat.le_refl _)) (by rw [bx];simp)
  ⟨hh.objs.size,[],0,rfl,e1,e2,rfl⟩
 have rx:RV (O++[(hh.objs.size + 1,some hh.objs.size)]) ((hh.push emptyDict).push (instObj (bo c) hh.objs.size)) (.ref H.length) (.ref (hh.objs.size + 1)):=gm (p:=(hh.objs.size + 1,some hh.objs.size)) (by rw [← I.len];simp)
 refine codeAny_mono (hF.1 _ _ _ ⟨_,g,d,t,os⟩ (.ref H.length :: ms) (.ref (hh.objs.size + 1) :: vs) _ B R.tc z.1 (.mk rx (rv.mono z.2.pre (ct keep))) q) λr s' y=>?_
 obtain ⟨v,rfl,y⟩:=jc _ _ y
 obtain ⟨O',H',mv,x2,I2,r2,sm2,rfl,q'⟩:=y
 refine ⟨r2.none_of,O',H',_,z.2.trans x2,I2,?_,⟨sm2.gens,sm2.os⟩,q'⟩
 exact rx.mono x2.pre (x2.tup0 z.1)
noncomputable def one (ms:List MV) (K:MV→Prop):Prop:=match ms with
 | [m]=>K m
 | _=>False
noncomputable def two (ms:List MV) (K:MV→MV→Prop):Prop:=match ms with
 | [m,n]=>K m n
 | _=>False
private theorem fb {ms:List MV} {K:MV→Prop} (q:one ms K):∃ m,ms = [m]∧K m:=by
 cases ms with
 | nil=>exact False.elim q
 | cons m r =>
  cases r with
  | nil=>exact ⟨m,rfl,q⟩
  | cons=>exact False.elim q
private theorem jN {ms:List MV} {K:MV→MV→Prop} (q:two ms K):∃ m n,ms = [m,n]∧K m n:=by
 cases ms with
 | nil=>exact False.elim q
 | cons m r =>
  cases r with
  | nil=>exact False.elim q
  | cons n r =>
   cases r with
   | nil=>exact ⟨m,n,rfl,q⟩
   | cons=>exact False.elim q
noncomputable def wq (ms:List MV) (H:MH) (K:Nat→List MV→Prop):Prop:=one ms λm=>eL m λi=>dO H[i]? (K i)
inductive OneL (hB:Heap) (w:World) (O:Phi) (H:MH) (s:Shared) (K:Nat→List MV→Prop):List MV→List Value→Prop
 | mk (i:Nat) (p:Addr×Option Addr) (us:Array Value) (n:Nat) (l:List MV) (hp:O[i]? = some p) (hi:H[i]? = some (.list l)) (h1:us.size = l.length) (h2:us.size≤sizeLine + 1) (hL:IsL s.heap p.1 us n) (hl:s.heap.IsList p.1 us) (hr:RVs O s.heap l us.toList) (q:K i l) :
   OneL hB w O H s K [.ref i] [.ref p.1]
private theorem jV {O:Phi} {H:MH} {s:Shared} {ms:List MV} {vs:List Value} {K:Nat→List MV→Prop} (I:Inv w hB O H s.heap) (rv:RVs O s.heap ms vs) (q:wq ms H K):OneL hB w O H s K ms vs:=by
 replace q:=fb q
 obtain ⟨m,rfl,q⟩:=q
 obtain ⟨v,r,rfl,a,b⟩:=RVs_cons.mp rv
 obtain rfl:=RVs_nil.mp b
 replace q:=bP q
 obtain ⟨i,rfl,q⟩:=q
 obtain ⟨p,hp,rfl⟩:=a.ref_of
 replace q:=cK q
 obtain ⟨l,hi,q⟩:=q
 obtain ⟨us,n,h1,h2,hL,hl,hr⟩:=bU I hi hp
 exact .mk i p us n l hp hi h1 h2 hL hl hr q
noncomputable def gb:FT:=λms H Q=>one ms λm=>match m with
 | .tup l=>Q (.int l.length) H
 | .ref i=>dO H[i]? λl=>Q (.int l.length) H
 | _=>False
private theorem df:SC w hB k (.builtin "len") gb:=by
 refine ⟨?_,trivial⟩
 intro A O H s ms vs Q B R I rv q
 replace q:=fb q
 obtain ⟨m,rfl,q⟩:=q
 obtain ⟨v,r,rfl,a,b⟩:=RVs_cons.mp rv
 obtain rfl:=RVs_nil.mp b
 cases m with
 | tup l =>
  obtain ⟨t,items,rfl,ht,hz,hr⟩:=a.tup_of
  have hl:=hr.length
  rw [Array.length_toList] at hl
  refine len_tuple (items:=items) ht (by rw [sizeLine_eq] at hz;omega) ?_
  rw [hl]
  exact ⟨O,H,_,Ext.refl _ _ _,I,cG,⟨rfl,rfl⟩,q⟩
 | ref i =>
  obtain ⟨p,hp,rfl⟩:=a.ref_of
  replace q:=cK q
  obtain ⟨l,hi,q⟩:=q
  obtain ⟨vs,n,h1,h2,hL,hl,hr⟩:=bU I hi hp
  refine call_len_list hl (by rw [sizeLine_eq] at h2;omega) ?_
  rw [h1]
  exact ⟨O,H,_,Ext.refl _ _ _,I,cG,⟨rfl,rfl⟩,q⟩
 | _=>exact False.elim q
private theorem f7 {O:Phi} {h:Heap}:∀ {ns:List Int} {vs:List Value},RVs O h (ns.map .int) vs→IntsAre vs ns∧∃ xs:List (Int×Tok),vs = xs.map (λp=>Value.int p.1 p.2)∧xs.map (·.1) = ns
 | [],vs,r=>by rw [List.map_nil] at r;rw [RVs_nil.mp r];exact ⟨.nil,[],rfl,rfl⟩
 | n :: ns,vs,r=>by
  rw [List.map_cons] at r
  obtain ⟨v,q,rfl,a,b⟩:=RVs_cons.mp r
  obtain ⟨t,rfl⟩:=a.int_of
  obtain ⟨i1,xs,rfl,i3⟩:=f7 b
  exact ⟨.cons n t i1,(n,t) :: xs,rfl,by rw [List.map_cons,i3]⟩
private theorem dw {O:Phi} {h:Heap}:∀ {ns:List Int} {vs:List Value},IntsAre vs ns→RVs O h (ns.map .int) vs
 | [],_,r=>by cases r;exact RVs_nil.mpr rfl
 | _ :: _,_,r=>by cases r with | cons n t r=>exact .mk cG (dw r)
private theorem fX {O:Phi} {H:MH} {s:Shared} {h':Heap} {l:List MV} {vs:List Value} {n:Nat} (a:Addr) (I:Inv w hB O H s.heap) (ha:s.heap.get? a = none) (keep:∀ b o,s.heap.get? b = some o→h'.get? b = some o)
  (hg:h'.get? a = some (listOf vs.toArray n)) (r:RVs O s.heap l vs) (hz:l.length≤1000000) :
  Ext [] O s.heap (O++[(a,none)]) h'∧Inv w hB (O++[(a,none)]) (H++[.list l]) h'∧RV (O++[(a,none)]) h' (.ref H.length) (.ref a):=by
 have hl:=r.length
 have z:=I.alloc (m:=.list l) (p:=(a,none)) keep (λb hb=>by
   rw [bx] at hb
   obtain rfl:=List.mem_singleton.mp hb
   exact ha) (by rw [bx];simp)
  ⟨rfl,vs.toArray,n,(by rw [List.size_toArray,sizeLine_eq];exact Nat.le_trans (Nat.le_of_eq ‹_›) (Nat.le_trans ‹_› (by decide))),hg,RVs.mono ⟨_,rfl⟩ (ct keep) (by simpa using r)⟩
 exact ⟨z.2,z.1,gm (p:=(a,none)) (by rw [← I.len];simp)⟩
noncomputable def jY:FT:=λms H Q=>wq ms H λi l=>l.length≤1000000∧Q (.ref H.length) (H++[.list l])
private theorem gE:SC w hB k (.type "list") jY:=by
 refine ⟨?_,trivial⟩
 intro A O H s ms vs Q B R I rv q
 have z:=jV I rv q
 clear q rv
 obtain ⟨i,p,us,n,l,hp,hi,h1,h2,hL,hl,hr,q⟩:=z
 refine call_list_seq (hsz:=by rw [h1,sizeLine_eq];omega) p.1 (.inl rfl) hL rfl rfl λh' c' hk hD=>?_
 have z:=fX (n:=c') (h':=h') _ I (bF _) hk (by simpa using hD) hr q.1
 exact ⟨_,_,_,z.1,z.2.1,z.2.2,⟨rfl,rfl⟩,q.2⟩
noncomputable def jT (ns ns':List Int):Prop:=ns'.Perm ns∧ns'.Pairwise (·≤·)
noncomputable def zl (o:Option MObj) (H:MH) (Q:MV→MH→Prop):Prop:=match o with
 | some (.list l)=>∃ ns:List Int,l = ns.map .int∧ns.length < 64∧∀ ns',jT ns ns'→Q (.ref H.length) (H++[.list (ns'.map .int)])
 | some (.dict d)=>d.length < 64∧∀ ns',jT (d.map (·.1)) ns'→Q (.ref H.length) (H++[.list (ns'.map .int)])
 | _=>False
noncomputable def gK:FT:=λms H Q=>one ms λm=>eL m λi=>zl H[i]? H Q
private theorem ix:∀ {d:List (Int×Int)} {kvs:List (Int×Value)},ez d kvs→kvs.map (·.1) = d.map (·.1)
 | [],_,r=>by obtain rfl:=r;rfl
 | p :: d,_,h0=>by obtain ⟨t,r,rfl,hr⟩:=h0;rw [List.map_cons,List.map_cons,ix hr]
private theorem gH:∀ {ks:List Int} {vs:List Value},vs.length = ks.length→(∀ (j:Nat) (v:Value),vs[j]? = some v→∃ k:Int,ks[j]? = some k∧∃ t,v = Value.int k t)→IntsAre vs ks
 | [],vs,hl,_=>by rw [List.length_eq_zero_iff.mp hl];exact .nil
 | k :: ks,[],hl,_=>by simp at hl
 | k :: ks,v :: vs,hl,h=>by
  obtain ⟨k',e,t,rfl⟩:=h 0 v rfl
  cases e
  exact .cons k t (gH (by simpa using hl) λj u e=>h (j + 1) u e)
private theorem ke:SC w hB k (.builtin "sorted") gK:=by
 refine ⟨?_,trivial⟩
 intro A O H s ms vs Q B R I rv q
 replace q:=fb q
 obtain ⟨m,rfl,q⟩:=q
 obtain ⟨v,r,rfl,a,b⟩:=RVs_cons.mp rv
 obtain rfl:=RVs_nil.mp b
 replace q:=bP q
 obtain ⟨i,rfl,q⟩:=q
 obtain ⟨p,hp,rfl⟩:=a.ref_of
 cases hi:H[i]? with
 | none=>rw [hi] at q;exact False.elim q
 | some o =>
  rw [hi] at q
  cases o with
  | list l =>
   obtain ⟨us,n,h1,h2,hL,hl,hr⟩:=bU I hi hp
   obtain ⟨ns,rfl,h64,q⟩:=q
   obtain ⟨iv,_⟩:=f7 hr
   have hlen:=hr.length
   rw [List.length_map] at hlen
   refine sorted_ints (vs:=us.toList) (by simpa using hl) iv (by exact Nat.lt_of_le_of_lt (Nat.le_of_eq ‹_›) ‹_›) λout ns' a1 a2 a3=>?_
   obtain ⟨e,he⟩:=sortedAll_at s.heap us.toList out
   have hlen':=a2.length_eq
   have z:=fX (n:=e) (h':=sortedAll s.heap us.toList out) (vs:=out.toList) _ I (cI (Nat.le_succ _)) (λU U=>sortedAll_old) (by simpa using he) (dw a1) (by rw [List.length_map,hlen'];exact Nat.le_trans (Nat.le_of_lt ‹_›) (by decide))
   exact ⟨_,_,_,z.1,z.2.1,z.2.2,⟨rfl,rfl⟩,q ns' ⟨a2,a3⟩⟩
  | dict d =>
   obtain ⟨h64,q⟩:=q
   obtain ⟨_,_,kvs,hd,hpr⟩:=I.obj _ _ p hi hp
   obtain ⟨ep,hat⟩:=hd.dictAt
   have hkl:kvs.map (·.1) = d.map (·.1):=ix hpr
   have hkn:kvs.length = d.length:=by have:=congrArg List.length hkl;simpa using this
   refine Calls.call_function_entry kind_sorted plain_sorted entry_sorted (args_sorted1 _) ?_
   unfold Builtin.«sorted»
   refine wpAny_bind (m:=checkCount "sorted" 1 1 _) (wpAny_pure ?_)
   refine wpAny_bind (kdu_collect (A:=A.in1) (kdl_dict (knd:=intKind PW w) (kvs:=kvs) (ep:=ep) (I.notMods B (ey hp))) R.handled hat (by rw [sizeLine_eq];exact Nat.le_trans (Nat.le_of_eq ‹_›) (Nat.le_trans ‹_› (by decide))) λh' tk acc hk hacc=>?_)
   have hl:acc.toList.length = kvs.length:=by rw [Array.length_toList];exact hacc.1
   have iv:IntsAre acc.toList (d.map (·.1)):=by
    refine gH (by rw [hl,← hkl,List.length_map]) λj v e=>?_
    obtain ⟨k',x,e1,e2⟩:=hacc.2 j v (by rw [← Array.getElem?_toList];exact e)
    obtain ⟨t,rfl⟩:=Value.isInt_shape e2
    exact ⟨k',by rw [← hkl,List.getElem?_map,e1];rfl,t,rfl⟩
   refine wpAny_bind (wpAny_newList ?_ (by rw [hl,sizeLine_eq];exact Nat.le_trans (Nat.le_of_eq ‹_›) (Nat.le_trans ‹_› (by decide))))
   have hoL:(h'.push (seqObj "list" acc.toList.toArray 0)).get? h'.objs.size = some (seqObj "list" acc.toList.toArray 0):=Heap.get?_push_size _ rfl
   refine wpAny_bind (wpAny_holding (wpAny_call_entry slot_list_sort ⟨_,hoL,rfl⟩ entry_list_sort (list_sort_tree hoL iv (by rw [hl];exact Nat.lt_of_le_of_lt (Nat.le_of_eq ‹_›) ‹_›) λout ns' a1 a2 a3=>⟨_,rfl,?_⟩) (args_list_sort _)))
   refine wpAny_pure ⟨_,rfl,?_⟩
   obtain ⟨e,he⟩:=sortedHeap_at (out:=out) hoL
   have hlen':ns'.length = d.length:=by rw [a2.length_eq,List.length_map]
   have hk':∀ b o,s.heap.get? b = some o→(sortedHeap (h'.push (seqObj "list" acc.toList.toArray 0)) h'.objs.size acc.toList out).get? b = some o:=λb o eb=>by
    have e1:=hk b o eb
    have e2:=Heap.lt_size e1
    rw [sortedHeap_old (Nat.ne_of_lt e2) (by rw [Heap.size_push];exact Nat.lt_succ_of_lt e2)]
    exact Heap.get?_push_of_some _ e1
   have hle:s.heap.get? h'.objs.size = none:=by
    cases e0:s.heap.get? h'.objs.size with
    | none=>rfl
    | some o=>exact absurd (Heap.lt_size (hk _ _ e0)) (Nat.lt_irrefl _)
   have z:=fX (n:=e) (vs:=out.toList) h'.objs.size I hle hk' (by simpa using he) (dw a1) (by rw [List.length_map];omega)
   exact ⟨_,_,_,z.1,z.2.1,z.2.2,⟨rfl,rfl⟩,q ns' ⟨a2,a3⟩⟩
  | _=>exact False.elim q
end
end Mine
end
section
namespace Mine
section
variable {w:World} {hB:Heap} {k:Nat} {Γ:Ctx}
noncomputable def yg:FT:=λms H Q=>wq ms H λi l=>∃ bs:List Bool,l = bs.map .bool∧Q (.bool (bs.any id)) H
noncomputable def so (le:Int→Int→Prop):FT:=λms H Q=>wq ms H λi l=>∃ ns:List Int,l = ns.map .int∧ns≠[]∧∀ m∈ns,(∀ x∈ns,le m x)→Q (.int m) H
private theorem pQ {O:Phi} {h:Heap}:∀ {bs:List Bool} {vs:List Value},RVs O h (bs.map .bool) vs→vs = bs.map Value.bool
 | [],vs,r=>by rw [List.map_nil] at r;rw [RVs_nil.mp r];rfl
 | n :: ns,vs,r=>by
  rw [List.map_cons] at r
  obtain ⟨v,q,rfl,a,b⟩:=RVs_cons.mp r
  rw [a.bool_of,pQ b];rfl
private theorem vq (bs:List Bool):((List.range bs.length).any λi=>(bs[i]?).getD false) = bs.any id:=by
 rw [Bool.eq_iff_iff,List.any_eq_true,List.any_eq_true]
 constructor
 ·rintro ⟨i,hi,h⟩
  rw [List.mem_range] at hi
  rw [List.getElem?_eq_getElem hi] at h
  exact ⟨_,List.getElem_mem hi,h⟩
 ·rintro ⟨b,hb,h⟩
  obtain ⟨i,hi,rfl⟩:=List.mem_iff_getElem.mp hb
  exact ⟨i,List.mem_range.mpr hi,by rw [List.getElem?_eq_getElem hi];exact h⟩
private theorem zm:SC w hB k (.builtin "any") yg:=by
 refine ⟨?_,trivial⟩
 intro A O H s ms vs Q B R I rv q
 have z:=jV I rv q
 clear q rv
 obtain ⟨i,p,us,n,l,hp,hi,h1,h2,hL,hl,hr,q⟩:=z
 obtain ⟨bs,rfl,q⟩:=q
 have hb:=pQ hr
 have hlt:p.1 < s.heap.objs.size:=by obtain ⟨_,e,_⟩:=hl;exact Heap.lt_size e
 refine call_any_walk (wpAny_pyIter_list hl ?_)
 refine ⟨s.heap.objs.size,[s.heap.objs.size,p.1],[s.heap.objs.size],us.size,_,_,λi=>(bs[i]?).getD false,rfl,Walks.list (A:=A.in1) R.handled _ p.1 (Nat.ne_of_lt hlt) us,
  ⟨⟨_,Heap.get?_push_size _ rfl,rfl,rfl⟩,hl.push _⟩,λi v s' Q' E' hP hQ=>?_,λh' tk hk=>?_⟩
 ·have hP':us.toList[i]? = some v:=by simpa using hP
  rw [hb,List.getElem?_map] at hP'
  obtain ⟨b,e,rfl⟩:=Option.map_eq_some_iff.mp hP'
  simp only [e,Option.getD_some] at hQ
  exact wpAny_truthy_bool hQ
 ·have e:((List.range us.size).any λi=>(bs[i]?).getD false) = bs.any id:=by
   rw [h1,List.length_map];exact vq bs
  rw [e]
  have hk':∀ b x,s.heap.get? b = some x→h'.get? b = some x:=λb x e=>hk b x (λhm=>by
   rw [List.mem_singleton.mp hm] at e;exact Nat.lt_irrefl _ (Heap.lt_size e)) (Heap.get?_push_of_some _ e)
  have z:=I.grow hk'
  exact ⟨O,H,_,z.2,z.1,lS,⟨rfl,rfl⟩,q⟩
private theorem jU {xs:List (Int×Tok)} {ns:List Int} (e:xs.map (·.1) = ns) (j:Nat) (hj:j < ns.length):numAt xs.toArray j = ns[j]:=by
 subst e
 unfold numAt
 rw [List.length_map] at hj
 simp [List.getElem?_eq_getElem hj]
private theorem zv:SC w hB k (.builtin "min") (so (·≤·)):=by
 refine ⟨?_,trivial⟩
 intro A O H s ms vs Q B R I rv q
 have z:=jV I rv q
 clear q rv
 obtain ⟨i,p,us,n,l,hp,hi,h1,h2,hL,hl,hr,q⟩:=z
 obtain ⟨ns,rfl,hne,q⟩:=q
 obtain ⟨_,xs,e1,e2⟩:=f7 hr
 have hx:us = intItems xs.toArray:=by rw [← Array.toList_inj,e1];simp [intItems]
 have hlen:xs.length = ns.length:=by rw [← e2,List.length_map]
 have hpos:0 < ns.length:=List.length_pos_iff.mpr hne
 subst hx
 refine min_intList R.handled hl (by simpa [hlen] using hpos) λv h' tk hv hk=>?_
 obtain ⟨t,rfl⟩:=intItems_at hv
 obtain ⟨b1,b2⟩:=argBest_lt (numAt xs.toArray) (xs.toArray.size - 1)
 generalize hg:argBest (λi j=>decide (numAt xs.toArray i < numAt xs.toArray j)) (xs.toArray.size - 1) = g at *
 have hsz:xs.toArray.size = ns.length:=by simpa using hlen
 have hgl:g < ns.length:=Nat.lt_of_le_of_lt (hsz ▸ b1) (Nat.sub_lt hpos Nat.one_pos)
 have z:=I.grow hk
 refine ⟨O,H,.int (numAt xs.toArray g),z.2,z.1,cG,⟨rfl,rfl⟩,q _ ?_ λx hx=>?_⟩
 ·rw [jU e2 _ hgl];exact List.getElem_mem hgl
 ·obtain ⟨j,hj,rfl⟩:=List.mem_iff_getElem.mp hx
  have:=b2 j (by omega)
  rw [jU e2 j hj] at this
  exact this
private theorem zh:SC w hB k (.builtin "max") (so (λa b=>b≤a)):=by
 refine ⟨?_,trivial⟩
 intro A O H s ms vs Q B R I rv q
 have z:=jV I rv q
 clear q rv
 obtain ⟨i,p,us,n,l,hp,hi,h1,h2,hL,hl,hr,q⟩:=z
 obtain ⟨ns,rfl,hne,q⟩:=q
 obtain ⟨_,xs,e1,e2⟩:=f7 hr
 have hx:us = intItems xs.toArray:=by rw [← Array.toList_inj,e1];simp [intItems]
 have hlen:xs.length = ns.length:=by rw [← e2,List.length_map]
 have hpos:0 < ns.length:=List.length_pos_iff.mpr hne
 subst hx
 refine max_intList R.handled hl (by simpa [hlen] using hpos) λv h' tk hv hk=>?_
 obtain ⟨t,rfl⟩:=intItems_at hv
 obtain ⟨b1,b2⟩:=argBest_gt (numAt xs.toArray) (xs.toArray.size - 1)
 generalize hg:argBest (λi j=>decide (numAt xs.toArray i > numAt xs.toArray j)) (xs.toArray.size - 1) = g at *
 have hsz:xs.toArray.size = ns.length:=by simpa using hlen
 have hgl:g < ns.length:=Nat.lt_of_le_of_lt (hsz ▸ b1) (Nat.sub_lt hpos Nat.one_pos)
 have z:=I.grow hk
 refine ⟨O,H,.int (numAt xs.toArray g),z.2,z.1,cG,⟨rfl,rfl⟩,q _ ?_ λx hx=>?_⟩
 ·rw [jU e2 _ hgl];exact List.getElem_mem hgl
 ·obtain ⟨j,hj,rfl⟩:=List.mem_iff_getElem.mp hx
  have:=b2 j (by omega)
  rw [jU e2 j hj] at this
  exact this
private theorem cr:Mth .list "append" "list.append":=⟨F.plainAttrs_list,F.slot_list_append,F.type_list_append⟩
private theorem qR:Mth .list "pop" "list.pop":=⟨F.plainAttrs_list,F.slot_list_pop,F.type_list_pop⟩
private theorem o9:Mth .list "count" "list.count":=⟨F.plainAttrs_list,F.slot_list_count,F.type_list_count⟩
private theorem iD:Mth .dict "get" "dict.get":=⟨F.plainAttrs_dict,F.slot_dict_get,F.type_dict_get⟩
private theorem jP:Mth .set "add" "set.add":=⟨F.plainAttrs_set,F.slot_set_add,F.type_set_add⟩
private theorem nc {O:Phi} {H:MH} {s:Shared} {i:Nat} {p:Addr×Option Addr} {us:Array Value} {n:Nat} {l:List MV} {f:Array Value→Array Value} (I:Inv w hB O H s.heap) (hp:O[i]? = some p) (hn:p.2 = none) (hL:IsL s.heap p.1 us n)
  (r:RVs O s.heap l (f us).toList) (hz:(f us).size≤sizeLine + 1) :
  Inv w hB O (H.set i (.list l)) (s.heap.update p.1 (Obj.mapSeq f))∧Ext [] O s.heap O (s.heap.update p.1 (Obj.mapSeq f)):=by
 have h1:=hL.update f
 have same:∀ b,b≠p.1→(s.heap.update p.1 (Obj.mapSeq f)).get? b = s.heap.get? b:=λb hb=>Heap.get?_update_other _ _ (Ne.symm hb)
 have kt:∀ b items,s.heap.IsTuple b items→(s.heap.update p.1 (Obj.mapSeq f)).IsTuple b items:=λb items t=>by
  obtain ⟨o,e,c,r⟩:=t
  by_cases hb:b = p.1
  ·subst hb;exact absurd ⟨o,e,c,r⟩ (mO hL rfl (by decide) _)
  ·exact ⟨o,(same b hb).trans e,c,r⟩
 exact I.upd hp (by rw [bx];exact .head _) same ⟨hn,_,_,hz,h1,r.mono (List.prefix_refl _) kt⟩
noncomputable def b7:FT:=λms H Q=>two ms λm v=>eL m λi=>dO H[i]? λl=>l.length≤1000000∧Q .none (H.set i (.list (l++[v])))
private theorem cB:SC w hB k (.builtin "list.append") b7:=by
 refine ⟨?_,trivial⟩
 intro A O H s ms vs Q B R I rv q
 replace q:=jN q
 obtain ⟨m,m2,rfl,q⟩:=q
 obtain ⟨v,r,rfl,a,b⟩:=RVs_cons.mp rv
 obtain ⟨v2,r2,rfl,a2,b2⟩:=RVs_cons.mp b
 obtain rfl:=RVs_nil.mp b2
 replace q:=bP q
 obtain ⟨i,rfl,q⟩:=q
 obtain ⟨p,hp,rfl⟩:=a.ref_of
 replace q:=cK q
 obtain ⟨l,hi,q⟩:=q
 obtain ⟨us,n,h1,h2,hL,hl,hr⟩:=bU I hi hp
 have hz:us.size≤sizeLine:=by rw [h1,sizeLine_eq];omega
 have hn:p.2 = none:=(I.obj i _ p hi hp).1
 have z:=nc (f:=λxs=>xs.push v2) I hp hn hL (by rw [Array.toList_push];exact hr.append (.mk a2 (RVs_nil.mpr rfl))) (by rw [Array.size_push];exact Nat.lt_of_le_of_lt ‹_› (by decide))
 exact call_meetsIn F.slot_list_append ⟨_,hL,rfl⟩ F.entry_list_append (F.args_list_append_2 _ _) ((list_append p.1 us n v2 hz).inModel PW w) ⟨hL,O,_,_,z.2,z.1,jI,⟨rfl,rfl⟩,q.2⟩
noncomputable def rO:FT:=λms H Q=>wq ms H λi l=>l.length≤1000000∧∃ v r,l = r++[v]∧Q v (H.set i (.list r))
private theorem sL {O:Phi} {h:Heap}:∀ {l:List MV} {m:MV} {vs:List Value},RVs O h (l++[m]) vs→∃ us v,vs = us++[v]∧RVs O h l us∧RV O h m v
 | [],m,vs,r=>by
  obtain ⟨v,q,rfl,a,b⟩:=RVs_cons.mp r
  rw [RVs_nil.mp b]
  exact ⟨[],v,rfl,RVs_nil.mpr rfl,a⟩
 | x :: l,m,vs,r=>by
  obtain ⟨v,q,rfl,a,b⟩:=RVs_cons.mp r
  obtain ⟨us,u,rfl,h1,h2⟩:=sL b
  exact ⟨v :: us,u,rfl,.mk a h1,h2⟩
private theorem tQ:SC w hB k (.builtin "list.pop") rO:=by
 refine ⟨?_,trivial⟩
 intro A O H s ms vs Q B R I rv q
 have z:=jV I rv q
 clear q rv
 obtain ⟨i,p,us,n,l,hp,hi,h1,h2,hL,hl,hr,q⟩:=z
 obtain ⟨hle,m,r,rfl,q⟩:=q
 have hz:us.size≤sizeLine:=by rw [h1,sizeLine_eq];exact Nat.le_trans ‹_› (by decide)
 have hn:p.2 = none:=(I.obj i _ p hi hp).1
 obtain ⟨ts,y,e1,e2,e3⟩:=sL hr
 obtain rfl:us = (ts++[y]).toArray:=by rw [← e1]
 have hsz:(ts++[y]).toArray.size - 1 = ts.length:=by simp
 have hy:(ts++[y]).toArray[(ts++[y]).toArray.size - 1]? = some y:=by rw [hsz];simp
 have he:((ts++[y]).toArray.eraseIdxIfInBounds ((ts++[y]).toArray.size - 1)).toList = ts:=by
  rw [hsz,Array.eraseIdxIfInBounds,dif_pos (by simp)]
  simp [List.eraseIdx_append_of_length_le]
 have z:=nc (l:=r) (f:=λxs=>xs.eraseIdxIfInBounds ((ts++[y]).toArray.size - 1)) I hp hn hL (by rw [he];exact e2) (by
  have:=congrArg List.length he
  rw [Array.length_toList] at this
  rw [this]
  have:ts.length = r.length:=e2.length
  rw [this,sizeLine_eq]
  rw [List.length_append] at hle
  exact Nat.le_trans (Nat.le_of_lt ‹_›) (by decide))
 refine call_meetsIn F.slot_list_pop ⟨_,hL,rfl⟩ F.entry_list_pop (F.args_list_pop_1 _) ((MeetsSeq.list_pop_last p.1 _ n y hy hz).inModel PW w) ⟨hL,O,_,m,z.2,z.1,?_,⟨rfl,rfl⟩,q⟩
 exact e3.mono (List.prefix_refl _) (z.2.tup0 I)
noncomputable def qt:FT:=λms H Q=>two ms λm n=>eL m λi=>cT n λv=>dO H[i]? λl=>∃ ns:List Int,l = ns.map .int∧Q (.int (ns.countP (· == v))) H
private theorem rC:SC w hB k (.builtin "list.count") qt:=by
 refine ⟨?_,trivial⟩
 intro A O H s ms vs Q B R I rv q
 replace q:=jN q
 obtain ⟨m1,m2,rfl,q⟩:=q
 obtain ⟨v,r,rfl,a,b⟩:=RVs_cons.mp rv
 obtain ⟨v2,r2,rfl,a2,b2⟩:=RVs_cons.mp b
 obtain rfl:=RVs_nil.mp b2
 replace q:=bP q
 obtain ⟨i,rfl,q⟩:=q
 replace q:=bm q
 obtain ⟨m,rfl,q⟩:=q
 obtain ⟨p,hp,rfl⟩:=a.ref_of
 obtain ⟨t,rfl⟩:=a2.int_of
 replace q:=cK q
 obtain ⟨l,hi,q⟩:=q
 obtain ⟨us,n,h1,h2,hL,hl,hr⟩:=bU I hi hp
 obtain ⟨ns,rfl,q⟩:=q
 obtain ⟨_,xs,e1,e2⟩:=f7 hr
 have hc:us.toList.countP (λy=>match y with | .int a _=>a == m | _=>false) = ns.countP (· == m):=by
  rw [e1,← e2,List.countP_map,List.countP_map];rfl
 refine call_meetsIn F.slot_list_count ⟨_,hL,rfl⟩ F.entry_list_count (F.args_list_count_2 _ _) ((MeetsSeq.list_count p.1 us n (.int m t) (λy=>match y with | .int a _=>a == m | _=>false) λy hy=>?_).inModel PW w) ⟨hL,?_⟩
 ·have hy':y∈us.toList:=Array.mem_toList_iff.mpr hy
  rw [e1] at hy'
  obtain ⟨x,_,rfl⟩:=List.mem_map.mp hy'
  exact MeetsSeq.EqGives.int _ _ _ _
 ·rw [hc]
  exact ⟨O,H,_,Ext.refl _ _ _,I,cG,⟨rfl,rfl⟩,q⟩
noncomputable def gtV (o:Option Int) (d:MV):MV:=match o with | some x=>.int x | none=>d
noncomputable def gtO (o:Option MObj) (x:Int) (d:MV) (Q:MV→MH→Prop) (H:MH):Prop:=match o with
 | some (.dict l)=>Q (gtV (l.lookup x) d) H
 | _=>False
noncomputable def rH:FT:=λms H Q=>match ms with
 | m :: r=>two r λn d=>eL m λi=>cT n λv=>gtO H[i]? v d Q H
 | _=>False
private theorem iF:∀ {d:List (Int×Int)} {kvs:List (Int×Value)} {k:Int},ez d kvs→d.lookup k = none→valueAt kvs k = none
 | d,kvs,k,r,e=>by
  have:=gG k r
  rw [e] at this
  exact Option.not_isSome_iff_eq_none.mp (by rw [this];exact Bool.false_ne_true)
private theorem k7:SC w hB k (.builtin "dict.get") rH:=by
 refine ⟨?_,trivial⟩
 intro A O H s ms vs Q B R I rv q
 cases ms with
 | nil=>exact False.elim q
 | cons m1 r =>
  replace q:=jN q
  obtain ⟨m2,d,rfl,q⟩:=q
  obtain ⟨v,r,rfl,a,b⟩:=RVs_cons.mp rv
  obtain ⟨v2,r2,rfl,a2,b2⟩:=RVs_cons.mp b
  obtain ⟨v3,r3,rfl,a3,b3⟩:=RVs_cons.mp b2
  obtain rfl:=RVs_nil.mp b3
  replace q:=bP q
  obtain ⟨i,rfl,q⟩:=q
  replace q:=bm q
  obtain ⟨m,rfl,q⟩:=q
  obtain ⟨p,hp,rfl⟩:=a.ref_of
  obtain ⟨t,rfl⟩:=a2.int_of
  obtain ⟨l,hi,q⟩:∃ l,H[i]? = some (.dict l)∧Q (gtV (l.lookup m) d) H:=by
   cases hi:H[i]? with
   | none=>rw [hi] at q;exact False.elim q
   | some o =>
    rw [hi] at q
    cases o with
    | dict l=>exact ⟨l,rfl,q⟩
    | _=>exact False.elim q
  obtain ⟨_,_,kvs,hd,hpr⟩:=I.obj _ _ p hi hp
  refine call_meetsIn F.slot_dict_get hd.typeIs F.entry_dict_get (F.args_dict_get_3 _ _ _) (meets_dict_get_default (intKind PW w) p.1 (intKind_is PW w m t) (I.notMods B (ey hp)) v3) ⟨_,hd.mapOf,O,H,_,Ext.refl _ _ _,I,?_,⟨rfl,rfl⟩,q⟩
  cases e:l.lookup m with
  | none=>rw [iF hpr e];exact a3
  | some x =>
   obtain ⟨t',e'⟩:=fe hpr e
   rw [e'];exact cG
noncomputable def fh (x:Int) (l:List Int):List Int:=if x∈l then l else l++[x]
noncomputable def adO (o:Option MObj) (i:Nat) (x:Int) (Q:MV→MH→Prop) (H:MH):Prop:=match o with
 | some (.set l)=>l.length≤1000∧Q .none (H.set i (.set (fh x l)))
 | some .full=>(0≤x∧x < 4)∧Q .none H
 | _=>False
noncomputable def oj:FT:=λms H Q=>two ms λm n=>eL m λi=>cT n λv=>adO H[i]? i v Q H
end
end Mine
end
section
namespace Mine
section
variable {w:World} {hB:Heap} {k:Nat} {Γ:Ctx}
private theorem Inv.write {O O1:Phi} {H1:MH} {h h1 h2:Heap} {D:Addr} (I:Inv w hB O1 H1 h1) (x:Ext [] O h O1 h1) (base:∀ b o,hB.get? b = some o→h.get? b = some o) (hD:h.get? D = none) (hn:D∉own O1)
  (same:∀ b,b≠D→h2.get? b = h1.get? b) (there:h2.get? D≠none) (nt:∀ items,¬ h1.IsTuple D items):Inv w hB O1 H1 h2∧Ext [] O h O1 h2∧∀ a items,h1.IsTuple a items→h2.IsTuple a items:=by
 have kt:∀ a items,h1.IsTuple a items→h2.IsTuple a items:=λa items t=>by
  obtain ⟨o,e,r⟩:=t
  by_cases hb:a = D
  ·subst hb;exact absurd ⟨o,e,r⟩ (nt items)
  ·exact ⟨o,(same a hb).trans e,r⟩
 refine ⟨⟨I.len,I.nodup,λb o e=>?_,I.sep,λi m p hi hp=>?_⟩,⟨x.pre,x.new,λb o e n1 n2=>?_,λb e=>?_⟩,kt⟩
 ·refine (same b λz=>?_).trans (I.base b o e)
  subst z
  have:=base b o e
  rw [hD] at this;cases this
 ·have R:=I.obj i m p hi hp
  have no:∀ b,b∈own O1→h2.get? b = h1.get? b:=λb hb=>same b λz=>hn (z ▸ hb)
  exact R.mono (List.prefix_refl _) kt (no _ (ey hp)) λd hd=>no d (jH hp hd)
 ·refine (same b λz=>?_).trans (x.keep b o e n1 n2)
  subst z
  rw [hD] at e;cases e
 ·by_cases z:b = D
  ·subst z;exact there
  ·rw [same b z];exact x.there b e
private theorem Inv.adopt {O O1:Phi} {H1:MH} {h h1:Heap} {D:Addr} {m:MObj} (I:Inv w hB O1 H1 h1) (x:Ext [] O h O1 h1) (base:∀ b o,hB.get? b = some o→h.get? b = some o) (hD:h.get? D = none) (hn:D∉own O1)
  (r:RObj w (O1++[(D,none)]) h1 m (D,none)):Inv w hB (O1++[(D,none)]) (H1++[m]) h1∧Ext [] O h (O1++[(D,none)]) h1∧RV (O1++[(D,none)]) h1 (.ref H1.length) (.ref D):=by
 have pre:O1 <+: O1++[(D,none)]:=⟨_,rfl⟩
 have mem:∀ a,a∈own (O1++[(D,none)])→a∈own O1∨a = D:=λa ha=>by
  rw [dh] at ha
  rcases List.mem_append.mp ha with ha | ha
  ·exact .inl ha
  ·rw [bx] at ha;exact .inr (by simpa using ha)
 refine ⟨⟨by simp [I.len],?_,I.base,λa ha=>?_,λi m' q hi hp=>?_⟩,⟨x.pre.trans pre,λa ha=>?_,x.keep,x.there⟩,gm (p:=(D,none)) (by rw [← I.len];simp)⟩
 ·rw [dh]
  refine List.nodup_append.mpr ⟨I.nodup,by rw [bx];simp,λa ha b hb e=>?_⟩
  subst e
  rw [bx] at hb
  obtain rfl:=List.mem_singleton.mp hb
  exact hn ha
 ·rcases mem a ha with ha | rfl
  ·exact I.sep a ha
  ·cases q:hB.get? a with
   | none=>rfl
   | some o=>have:=base a o q;rw [hD] at this;cases this
 ·by_cases hlt:i < H1.length
  ·rw [List.getElem?_append_left hlt] at hi
   rw [List.getElem?_append_left (by rw [I.len];exact hlt)] at hp
   exact (I.obj i m' q hi hp).mono pre (λU U t=>t) rfl λU U=>rfl
  ·have hl:H1.length≤i:=Nat.le_of_not_lt hlt
   rw [List.getElem?_append_right hl] at hi
   rw [List.getElem?_append_right (by rw [I.len];exact hl),I.len] at hp
   have z:i - H1.length = 0:=by
    have:=(List.getElem?_eq_some_iff.mp hi).1
    simp at this;exact ‹_›
   rw [z] at hi hp
   simp only [List.getElem?_cons_zero,Option.some.injEq] at hi hp
   subst hi hp
   exact r
 ·rcases mem a ha with ha | rfl
  ·exact x.new a ha
  ·exact .inr hD
private theorem uY {A:Around} {s:Shared} {a:Addr} {S:Int→Bool} {n:Nat} {x:Int} {t:Tok} {Q:Bool→Shared→Prop} (hS:s.heap.SetOf (intKind PW w) a S n) (hroom:n + 1 < scanBound)
  (h:∀ b h',Heap.SameBut a s.heap h'→h'.SetOf (intKind PW w) a (λk'=>S k' || decide (k' = x)) (if S x then n else n + 1)→Q b { s with heap:=h',toks:=s.toks + 1 }) :
  wpAny (MM w) A (setAdd a (.int x t)) Q Fls s:=by
 unfold setAdd
 refine wpAny_holding (wpAny_bind ((intKind PW w).pyHash (intKind_is PW w x t) ?_))
 exact wpAny_setAddHashed_of (s:={ s with toks:=s.toks + 1 }) (intKind_is PW w x t) rfl hS hroom λh' hsb hS'=>h _ h' hsb hS'
private theorem uv {S:Int→Bool} {l:List Int} {x:Int} (hS:∀ k,S k = decide (k∈l)):(λk'=>S k' || decide (k' = x)) = (λk=>decide (k∈fh x l))∧(if S x then l.length else l.length + 1) = (fh x l).length:=by
 unfold fh
 constructor
 ·funext k
  rw [hS]
  by_cases h:x∈l
  ·rw [if_pos h,Bool.eq_iff_iff]
   simp only [Bool.or_eq_true,decide_eq_true_eq]
   exact ⟨λq=>q.elim id λe=>e ▸ h,.inl⟩
  ·rw [if_neg h,Bool.eq_iff_iff]
   simp
 ·rw [hS]
  by_cases h:x∈l
  ·rw [if_pos h,if_pos (by simpa using h)]
  ·rw [if_neg h,if_neg (by simpa using h)];simp
set_option tactic.hygienic true in
private theorem qu {l:List Int} {x:Int} (h:l.Nodup):(fh x l).Nodup:=by
 unfold fh
 split
 ·exact h
 ·rename_i n
  refine List.nodup_append.mpr ⟨h,by simp,λa ha b hb e=>?_⟩
  subst e
  obtain rfl:=List.mem_singleton.mp hb
  exact n ha
private theorem oZ {h:Heap} {a:Addr} {S:Int→Bool} {n:Nat} (hS:Heap.SetOf (intKind PW w) h a S n):h.get? a≠none∧∀ items,¬ h.IsTuple a items:=by
 obtain ⟨o,es,ep,t,e,⟨c,_⟩,_⟩:=hS
 exact ⟨kT e,mO e c (by decide)⟩
private theorem mH:SC w hB k (.builtin "set.add") oj:=by
 refine ⟨?_,trivial⟩
 intro A O H s ms vs Q B R I rv q
 replace q:=jN q
 obtain ⟨m1,m2,rfl,q⟩:=q
 obtain ⟨v,r,rfl,a,b⟩:=RVs_cons.mp rv
 obtain ⟨v2,r2,rfl,a2,b2⟩:=RVs_cons.mp b
 obtain rfl:=RVs_nil.mp b2
 replace q:=bP q
 obtain ⟨i,rfl,q⟩:=q
 replace q:=bm q
 obtain ⟨m,rfl,q⟩:=q
 obtain ⟨p,hp,rfl⟩:=a.ref_of
 obtain ⟨t,rfl⟩:=a2.int_of
 cases hi:H[i]? with
 | none=>rw [hi] at q;exact False.elim q
 | some o =>
  rw [hi] at q
  cases o with
  | set l =>
   obtain ⟨hn,nd,hS⟩:=I.obj i _ p hi hp
   obtain ⟨hle,q⟩:=q
   refine call_set_add (intKind_is PW w m t) rfl hS (by show l.length + 1 < 4096;omega) λh' hsb hS'=>?_
   obtain ⟨e1,e2⟩:=uv (S:=λk=>decide (k∈l)) (x:=m) (λU=>rfl)
   rw [e1,e2] at hS'
   have z:=I.upd (m:=.set (fh m l)) hp (by rw [bx];exact .head _) (λb hb=>hsb.2 b hb) ⟨hn,qu nd,hS'⟩
   exact ⟨O,_,_,z.2,z.1,jI,⟨rfl,rfl⟩,q⟩
  | full =>
   obtain ⟨⟨m0,m4⟩,q⟩:=q
   obtain ⟨hn,es,ep,t',ho,hel,hmem,hsz,hf⟩:=I.obj i _ p hi hp
   have hS:=lV (I.obj i _ p hi hp)
   refine wpAny_call_entry F.slot_set_add hS.typeIs F.entry_set_add ?_ (F.args_set_add_2 _ _)
   unfold Builtin.«set.add» Builtin.Frozenset.oneOther
   simp only [List.isEmpty_nil,bind_assoc]
   unfold Builtin.Frozenset.addrOf setAdd
   refine wpAny_bind (wpAny_pure ?_)
   try dsimp only
   refine wpAny_bind (wpAny_pure ?_)
   try dsimp only
   refine wpAny_bind ?_
   refine wpAny_holding ?_
   refine wpAny_bind ((intKind PW w).pyHash (intKind_is PW w m t) ?_)
   have hb:es.size < scanBound:=by rw [hsz];decide
   unfold setAddHashed setAddHashedIn
   refine wpAny_holding (wpAny_bind (wpAny_setState_of ho rfl (by rw [hsz];exact hf) ?_))
   dsimp only
   rw [byScan_of rfl hb hel]
   simp only [↓reduceIte]
   unfold setAddByScan
   refine wpAny_bind ?_
   refine wpAny_bind (wpAny_rule ?_)
   refine wpAny_bind (wpAny_setScan_of (intKind_is PW w m t) ho rfl (by rw [hsz];exact hf) hel ?_)
   obtain ⟨e,he,hk⟩:=(hmem m).mp ⟨m0,m4⟩
   cases hr:List.findIdx? (λe=>(intKind PW w).is m e.2) es.toList with
   | some j =>
    dsimp only
    refine wpAny_pure (wpAny_pure ?_)
    show wpAny _ _ (ret Value.none) _ _ _
    exact wpAny_pure ⟨_,rfl,O,_,_,Ext.refl _ _ _,I,jI,⟨rfl,rfl⟩,q⟩
   | none =>
    have:=List.findIdx?_eq_none_iff.mp hr e he
    rw [hk] at this;cases this
  | _=>exact False.elim q
noncomputable def vR:FT:=λms H Q=>ms = []∧Q (.ref H.length) (H++[.set []])
private theorem o8 (h:Heap) (led:Bool):Heap.SetOf (intKind PW w) (h.push { cls:=.type "set",dict:=none,data:=.set #[] 0 (.fresh 0 0 led) }) h.objs.size (λU=>false) 0 :=
 ⟨_,#[],0,_,Heap.get?_push_size _ rfl,⟨rfl,rfl,rfl⟩,rfl,λU he=>(nomatch he),λk=>⟨λe=>(nomatch e),λ⟨_,he,_⟩=>(nomatch he)⟩,by decide,rfl,rfl⟩
private theorem xF:SC w hB k (.type "set") vR:=by
 refine ⟨?_,trivial⟩
 intro A O H s ms vs Q B R I rv q
 obtain ⟨rfl,q⟩:=q
 obtain rfl:=RVs_nil.mp rv
 refine call_set_0 λled=>?_
 have z:=I.alloc (m:=.set []) (p:=(s.heap.objs.size,none)) (bR _ { cls:=.type "set",dict:=none,data:=.set #[] 0 (.fresh 0 0 led) }) (λa ha=>by
   rw [bx] at ha
   obtain rfl:=List.mem_singleton.mp ha
   exact bF _) (by rw [bx];simp) ⟨rfl,.nil,by
    have:=o8 (w:=w) s.heap led
    simpa using this⟩
 exact ⟨_,_,_,z.2,z.1,gm (p:=(s.heap.objs.size,none)) (by rw [← I.len];simp),⟨rfl,rfl⟩,q⟩
noncomputable def t5 (e:ET):ET:=λL H Q=>e L H λv H'=>cT v λx=>Q (.ref H'.length) (H'++[.set [x]])
private theorem uA {e:Expr} {kk:Nat} {pos:Pos} {T:ET} (he:SE w hB k Γ e T) (hcode:Γ.code = true) (hroad:(displayRoad kk [e] == .constants) = false) (hroad2:(displayRoad kk [e] == .unsure) = false) (hpl:kG e = true) :
  SE w hB k Γ (.Set [e] kk pos) (t5 T):=by
 have hp:∀ env,starEach [e] env = [(false,eval e env)]:=λenv=>fQ hpl [] env
 refine ⟨?_,trivial⟩
 intro A env O H L s Q S q
 rw [arm_eval_Set]
 refine wpAny_bind (wpAny_standAt ?_)
 refine wpAny_bind (kds_main (S.inv.keepK S.base) (S.eok.code hcode) λb=>?_)
 rw [hp]
 refine kds_core (ts:=[do let v ← eval e env;standAt pos;pure v]) hroad rfl (by simp) rfl λled=>?_
 show wpAny (MM w) A ((eval e env >>= λv=>standAt pos >>= λU=>pure v) >>= λv=>holding [v] (evalAll []) >>= λr=>pure (v :: r)) _ _ _
 obtain ⟨I1,x1⟩:=S.inv.grow (bR s.heap { cls:=.type "set",dict:=none,data:=.set #[] 0 (.fresh 0 0 led) })
 have S1:Sit w hB k Γ A env O H L { s with heap:=s.heap.push { cls:=.type "set",dict:=none,data:=.set #[] 0 (.fresh 0 0 led) } }:=S.next x1 I1
 refine wpAny_bind (wpAny_bind (wpAny_mono (he.1 A env O H L _ _ S1 q) (λv s' z=>?_) λU U x=>x))
 refine wpAny_bind (wpAny_standAt (wpAny_pure ?_))
 refine wpAny_bind (wpAny_holding (wpAny_pure (wpAny_pure ?_)))
 obtain ⟨O',H',mv,x2,I2,r,sm,q'⟩:=z
 rw [hroad2]
 replace q':=bm q'
 obtain ⟨x,rfl,q'⟩:=q'
 obtain ⟨t,rfl⟩:=r.int_of
 have hD:s.heap.get? s.heap.objs.size = none:=bF _
 have hf:=o8 (w:=w) s.heap led
 have hn0:s.heap.objs.size∉own O:=λhm=>by
  obtain ⟨o,eo,_⟩:=S.inv.ownThere hm
  rw [hD] at eo;cases eo
 have hob:(s.heap.push { cls:=.type "set",dict:=none,data:=.set #[] 0 (.fresh 0 0 led) }).get? s.heap.objs.size = some { cls:=.type "set",dict:=none,data:=.set #[] 0 (.fresh 0 0 led) }:=Heap.get?_push_size _ rfl
 have hn:s.heap.objs.size∉own O':=dE x2 hob hn0
 have hob':=x2.keep _ _ hob hn0 (by simp)
 have hf':s'.heap.SetOf (intKind PW w) s.heap.objs.size (λU=>false) 0:=by
  obtain ⟨o,es,ep,t,e,rest⟩:=hf
  rw [hob] at e;cases e
  exact ⟨_,es,ep,t,hob',rest⟩
 refine kds_fill_cons (uY hf' (by decide) λb h' hsb hS'=>?_)
 refine kds_fill_nil rfl ?_
 obtain ⟨e1,e2⟩:=uv (S:=λU=>false) (l:=[]) (x:=x) (λU=>rfl)
 have e2':(if (λ_:Int=>false) x = true then 0 else 0 + 1) = (fh x []).length:=e2
 rw [e1,e2'] at hS'
 obtain ⟨t1,t2⟩:=oZ hf'
 obtain ⟨t3,t4⟩:=oZ hS'
 have z:=I2.write (x1.trans x2) S.inv.base hD hn (λb hb=>hsb.2 b hb) t3 t2
 have z2:=z.1.adopt (m:=.set [x]) z.2.1 S.inv.base hD hn ⟨rfl,by simp,hS'⟩
 exact ⟨_,_,_,z2.2.1,z2.1,z2.2.2,⟨sm.gens,sm.os⟩,q'⟩
noncomputable def kO:ET:=λU H Q=>Q (.ref H.length) (H++[.dict []])
private theorem jq {pos:Pos}:SE w hB k Γ (.Dict [] [] pos) kO:=by
 refine ⟨?_,trivial⟩
 intro A env O H L s Q S q
 refine wpAny_Dict_empty ?_
 have z:=S.inv.alloc (m:=.dict []) (p:=(s.heap.objs.size,none)) (bR _ { cls:=.type "dict",data:=.dict #[] }) (λa ha=>by
   rw [bx] at ha
   obtain rfl:=List.mem_singleton.mp ha
   exact bF _) (by rw [bx];simp) ⟨rfl,by simp,[],⟨_,#[],0,Heap.get?_push_size _ rfl,⟨rfl,rfl,rfl⟩,rfl,λU he=>(nomatch he),.nil,by simp⟩,rfl⟩
 exact ⟨_,_,_,z.2,z.1,gm (p:=(s.heap.objs.size,none)) (by rw [← S.inv.len];simp),⟨rfl,rfl⟩,q⟩
end
end Mine
end
section
namespace Mine
section
variable {w:World} {hB:Heap} {k:Nat} {Γ:Ctx}
private theorem n8 (items:Array Value):(slicePick items none none (some (-1))).toList = items.toList.reverse:=by
 have hb:sliceBounds none none (some (-1)) items.size = ((items.size:Int) - 1,-1,-1):=rfl
 unfold slicePick
 rw [hb]
 unfold sliceRange
 have hc:(if ((items.size:Int) - 1) > (-1:Int) then ((items.size:Int) - 1 - (-1) - (-1) - 1) / (- (-1)) else 0) = (items.size:Int):=by
  by_cases h:((items.size:Int) - 1) > (-1:Int)
  ·rw [if_pos h,show (- (-1):Int) = 1 by rfl,Int.ediv_one]
   show (items.size:Int) - 1 + 1 + 1 - 1 = _
   rw [Int.add_sub_cancel,Int.sub_add_cancel]
  ·rw [if_neg h]
   have h0:=Int.le_antisymm (Int.le_of_sub_one_lt (Int.lt_of_le_of_lt (Int.not_lt.mp h) (by decide))) (Int.natCast_nonneg items.size)
   exact h0.symm
 simp only [show ¬ ((-1:Int) > 0) by decide,if_false]
 rw [hc,Int.toNat_natCast]
 refine List.ext_getElem? λi=>?_
 have e:(List.range items.size).map (λkk:Nat=>((items.size:Int) - 1 + -1 * (kk:Int)).toNat) = (List.range items.size).map (λkk=>items.size - 1 - kk):=by
  apply List.map_congr_left
  intro a ha
  rw [List.mem_range] at ha
  rw [← Int.toNat_natCast (items.size - 1 - a),Int.natCast_sub (Nat.le_sub_one_of_lt ha),Int.natCast_sub (Nat.lt_of_le_of_lt (Nat.zero_le a) ha),Int.neg_mul,Int.one_mul,← Int.sub_eq_add_neg];rfl
 rw [e]
 have e2:((List.range items.size).map (λkk=>items.size - 1 - kk)).filterMap (items[·]?) = items.toList.reverse:=by
  rw [List.filterMap_map]
  have:∀ n,n≤items.size→((List.range n).filterMap ((items[·]?)∘λkk=>items.size - 1 - kk)) = items.toList.reverse.take n:=by
   intro n
   induction n with
   | zero=>intro _;simp
   | succ n ih =>
    intro hn
    rw [List.range_succ,List.filterMap_append,ih (Nat.le_of_succ_le hn),List.take_add_one]
    congr 1
    have h1:items.size - 1 - n < items.size:=Nat.lt_of_le_of_lt (Nat.sub_le _ _) (Nat.sub_lt (Nat.lt_of_lt_of_le (Nat.succ_pos n) hn) Nat.one_pos)
    simp only [List.filterMap_cons,Function.comp,List.filterMap_nil]
    rw [List.getElem?_reverse (by rw [Array.length_toList];exact hn)]
    simp [Array.getElem?_eq_getElem h1]
  have z:=this items.size (Nat.le_refl _)
  rw [z,List.take_of_length_le (by simp)]
 rw [e2]
noncomputable def yh (e:ET):ET:=λL H Q=>e L H λv H'=>eL v λi=>dO H'[i]? λl=>l.length≤1000000∧Q (.ref H'.length) (H'++[.list l.reverse])
private theorem xg {e:Expr} {T:ET} {kd:Nat} {p p1 p2 pos:Pos} (he:SE w hB k Γ e T):SE w hB k Γ (.Subscript e (.Slice none none (some (.UnaryOp .USub (.Constant (.int 1) kd p1) p2)) p) pos) (yh T):=by
 refine ⟨?_,trivial⟩
 intro A env O H L s Q S q
 refine Subscript_ (wpAny_mono (he.1 A env O H L s _ S q) (λv s' z=>?_) λU U z=>z)
 obtain ⟨O',H',mv,x1,I',rv,sm,q'⟩:=z
 replace q':=bP q'
 obtain ⟨i,rfl,q'⟩:=q'
 obtain ⟨pp,hp,rfl⟩:=rv.ref_of
 obtain ⟨l,hi,q'⟩:=cK q'
 obtain ⟨us,n,h1,h2,hL,hl,hr⟩:=bU I' hi hp
 refine wpAny_Slice ?_
 rw [evalPart_none,evalPart_some]
 refine wpAny_pure (wpAny_pure ?_)
 refine UnaryOp_ (wpAny_Constant_int (neg_int ?_))
 have hl2:=hl.push { cls:=.type "slice",data:=.fields #[Value.none,Value.none,.int (-1) (s'.toks + 1)] }
 refine tail_any hl2.typeIs list_getitem_lookup (ops:=[.ref pp.1,.ref s'.heap.objs.size]) ?_ rfl
 refine wpAny_getItem_list_slice (hl.push _) (Heap.IsSliceOf.new ..) .none .none (.int _ _) (by simp) ?_ (by rw [h1,sizeLine_eq];omega)
 have keep:∀ b o,s'.heap.get? b = some o→((s'.heap.push { cls:=.type "slice",data:=.fields #[Value.none,Value.none,.int (-1) (s'.toks + 1)] }).push { cls:=.type "list",data:=.seq (slicePick us none none (some (-1))) }).get? b = some o :=
  λb o e=>Heap.get?_push_of_some _ (Heap.get?_push_of_some _ e)
 have z:=fX (w:=w) (hB:=hB) (s:=s') (l:=l.reverse) (vs:=(slicePick us none none (some (-1))).toList) (n:=0) (s'.heap.objs.size + 1) I' (cI (Nat.le_succ _)) keep (by
  have:=Heap.get?_push_size (s'.heap.push { cls:=.type "slice",data:=.fields #[Value.none,Value.none,.int (-1) (s'.toks + 1)] }) (o:={ cls:=.type "list",data:=.seq (slicePick us none none (some (-1))) }) rfl
  rw [Heap.size_push] at this
  simpa using this) (by rw [n8];exact hr.reverse) (by rw [List.length_reverse];exact q'.1)
 refine ⟨_,_,_,x1.trans z.1,z.2.1,?_,⟨sm.gens,sm.os⟩,q'.2⟩
 rw [show (s'.heap.push { cls:=.type "slice",data:=.fields #[Value.none,Value.none,.int (-1) (s'.toks + 1)] }).objs.size = s'.heap.objs.size + 1 from Heap.size_push ..]
 exact z.2.2
noncomputable def vU (hB:Heap) (i:Nat) (n:Nat):ET:=λL H Q=>∃ a vs ns,L[i]? = some (some (.arg a))∧hB.IsList a vs∧IntsAre vs.toList ns∧vs.size≤1000∧Q (.ref H.length) (H++[.list ((ns.take n).map .int)])
private theorem xR {x:Str} {i n kd:Nat} {b:Bool} {p p1 p2 pos:Pos} (hx:Γ.names[i]? = some (x,b)) (hd:(x == ("__debug__":Str)) = false):SE w hB k Γ (.Subscript (.Name x p1) (.Slice none (some (.Constant (.int n) kd p2)) none p) pos) (vU hB i n):=by
 refine ⟨?_,trivial⟩
 intro A env O H L s Q S q
 obtain ⟨a,vs,ns,e1,e2,e3,e4,q⟩:=q
 have hv:SE w hB k Γ (.Name x p1) (ai i):=af hx hd
 have qv:ai i L H λv H'=>v = .arg a∧H' = H:=by unfold ai;rw [e1];exact ⟨rfl,rfl⟩
 refine wpAny_Subscript_Slice list_getitem_lookup (wpAny_mono (hv.1 A env O H L s _ S qv) (λv s' z=>?_) λU U z=>z) λU U=>rfl
 obtain ⟨O',H',mv,x1,I',rv,sm,rfl,rfl⟩:=z
 obtain rfl:=rv.arg_of
 refine wpAny_Slice ?_
 rw [evalPart_none,evalPart_some]
 refine wpAny_pure (wpAny_Constant_int (wpAny_pure ?_))
 have hl:s'.heap.IsList a vs:=by
  obtain ⟨o,eo,r⟩:=e2
  exact ⟨o,I'.base _ _ eo,r⟩
 refine ⟨(hl.push _).typeIs,wpAny_getItem_list_slice (hl.push _) (Heap.IsSliceOf.new ..) .none (.int _ _) .none (by simp) ?_ (by rw [sizeLine_eq];exact Nat.le_trans ‹_› (by decide))⟩
 have keep:∀ b o,s'.heap.get? b = some o→((s'.heap.push { cls:=.type "slice",data:=.fields #[Value.none,.int n s'.toks,Value.none] }).push { cls:=.type "list",data:=.seq (slicePick vs none (some (n:Int)) none) }).get? b = some o :=
  λb o e=>Heap.get?_push_of_some _ (Heap.get?_push_of_some _ e)
 have hz:(slicePick vs none (some (n:Int)) none).toList = vs.toList.take n:=by
  rw [slicePick_plain]
  show List.take (clipAt vs.size (n:Int) - 0) (List.drop 0 vs.toList) = _
  have hc:clipAt vs.size (n:Int) = min n vs.size:=by
   have z:=clipAt_min (n:=vs.size) (y:=(n:Int)) (Int.natCast_nonneg n)
   by_cases c:n≤vs.size
   ·rw [if_neg (Int.not_lt.mpr (Int.ofNat_le.mpr c))] at z
    rw [Nat.min_eq_left c];exact Int.ofNat.inj z
   ·rw [if_pos (Int.ofNat_lt.mpr (Nat.not_le.mp c))] at z
    rw [Nat.min_eq_right (Nat.le_of_not_le c)];exact Int.ofNat.inj z
  rw [hc,Nat.sub_zero,List.drop_zero]
  by_cases h:n≤vs.size
  ·rw [Nat.min_eq_left h]
  ·rw [Nat.min_eq_right (by omega),List.take_of_length_le (by simp),List.take_of_length_le (by simp;omega)]
 have z:=fX (w:=w) (hB:=hB) (s:=s') (l:=(ns.take n).map .int) (vs:=(slicePick vs none (some (n:Int)) none).toList) (n:=0) (s'.heap.objs.size + 1) I' (cI (Nat.le_succ _)) keep (by
  have:=Heap.get?_push_size (s'.heap.push { cls:=.type "slice",data:=.fields #[Value.none,.int n s'.toks,Value.none] }) (o:={ cls:=.type "list",data:=.seq (slicePick vs none (some (n:Int)) none) }) rfl
  rw [Heap.size_push] at this
  simpa using this) (by rw [hz];exact dw (e3.take n)) (by
   rw [List.length_map,List.length_take]
   have:ns.length = vs.size:=by
    have:=(dw (O:=[]) (h:=s'.heap) e3).length
    rw [List.length_map] at this
    simpa using this.symm
   omega)
 refine ⟨_,_,_,x1.trans z.1,z.2.1,?_,⟨sm.gens,sm.os⟩,q⟩
 rw [show (s'.heap.push { cls:=.type "slice",data:=.fields #[Value.none,.int n s'.toks,Value.none] }).objs.size = s'.heap.objs.size + 1 from Heap.size_push ..]
 exact z.2.2
noncomputable def yb:FT:=λms H Q=>one ms λm=>cT m λi=>(0≤i∧i < 100)∧Q (.text 102) H
private theorem wI:SC w hB k (.type "str") yb:=by
 refine ⟨?_,trivial⟩
 intro A O H s ms vs Q B R I rv q
 replace q:=fb q
 obtain ⟨m,rfl,q⟩:=q
 obtain ⟨v,r,rfl,a,b⟩:=RVs_cons.mp rv
 obtain rfl:=RVs_nil.mp b
 replace q:=bm q
 obtain ⟨i,rfl,q⟩:=q
 obtain ⟨t,rfl⟩:=a.int_of
 obtain ⟨⟨h0,h1⟩,q⟩:=q
 have hi:i.natAbs < 100:=by rw [← Int.ofNat_lt,Int.natAbs_of_nonneg h0];exact h1
 refine P.str_of_int ?_ ?_
 ·by_cases z:i.natAbs = 0
  ·rw [z];decide
  ·rw [Nat.log2_lt z]
   exact Nat.lt_of_lt_of_le (Nat.lt_trans hi (by decide):i.natAbs < 2 ^ 7) (Nat.pow_le_pow_right (by decide) (by decide))
 ·exact ⟨O,H,_,Ext.refl _ _ _,I,ug (Nat.le_trans (Int.ofNat_le.mp (len_str_of_int i)) (Nat.add_le_add_right (Nat.le_of_lt hi) 2)),⟨rfl,rfl⟩,q⟩
noncomputable def qY (e:ET):ET:=λL H Q=>e L H λv H'=>match v with
 | .bool _=>Q (.bool true) H'
 | _=>False
private theorem vi {x y:Str} {e:Expr} {p1 p2 pos:Pos} {T:ET} (hx:x∈Γ.globs) (hy:y∈Γ.globs) (hg:aX w x (.builtin "isinstance")) (hg2:aX w y (.type "bool")) (he:SE w hB k Γ e T)
  (hpl:kG e = true) (hd:(x == ("__debug__":Str)) = false) (hd2:(y == ("__debug__":Str)) = false) :
  SE w hB k Γ (.Call (.Name x p1) [e,.Name y p2] [] pos) (qY T):=by
 have hs:∀ env,starEach [e,.Name y p2] env = (false,eval e env) :: starEach [.Name y p2] env:=λenv=>fQ hpl _ env
 refine ⟨?_,trivial⟩
 intro A env O H L s Q S q
 refine Call_ (gC S hx hg ?_ hd)
 refine PyProof.Rows.callWith_builtin1 ?_ (hs env) rfl
 rw [hs]
 refine spliced_cons (wpAny_mono (he.1 A env O H L s _ S q) (λv s' z=>?_) λU U z=>z)
 obtain ⟨O',H',mv,x1,I',rv,sm,q'⟩:=z
 refine spliced_cons (gC (S.next x1 I') hy hg2 (spliced_nil ?_) hd2)
 cases mv with
 | bool =>
  obtain rfl:=rv.bool_of
  exact IsiPair.bool_bool ⟨O',H',_,x1,I',lS,sm,q'⟩
 | _=>exact False.elim q'
end
end Mine
end
section
namespace Mine
noncomputable abbrev AT:=MV→Loc→MH→(Loc→MH→Prop)→Prop
section
variable (w:World) (hB:Heap)
inductive APost (Γ:Ctx) (env:Env) (O:Phi) (s:Shared) (Q:Loc→MH→Prop) (s':Shared):Prop where
 | mk (O':Phi) (H':MH) (L':Loc) (x:Ext (Wr env) O s.heap O' s'.heap) (i:Inv w hB O' H' s'.heap) (l:LocRep O' s'.heap Γ env L') (m:Sm s s') (q:Q L' H')
noncomputable def SA (k:Nat) (Γ:Ctx) (t:Expr) (T:AT):Prop :=
 (∀ A env O H L s Q mv v,Sit w hB k Γ A env O H L s→RV O s.heap mv v→T mv L H Q→wpAny (MM w) A (assign t env v) (λU s'=>APost w hB Γ env O s Q s') Fls s)∧True
noncomputable def SAs (k:Nat) (Γ:Ctx) (ts:List Expr) (T:List MV→Loc→MH→(Loc→MH→Prop)→Prop) (n:Nat):Prop :=
 (∀ A env O H L s Q ms vs,Sit w hB k Γ A env O H L s→RVs O s.heap ms vs→T ms L H Q→wpAny (MM w) A (assignInOrder ((assignEach ts env).map (·.2)) vs) (λU s'=>APost w hB Γ env O s Q s') Fls s)
 ∧ (∀ env,(assignEach ts env).length = n)∧∀ env,(assignEach ts env).findIdx? (·.1) = none
end
section
variable {w:World} {hB:Heap} {k:Nat} {Γ:Ctx}
private theorem lP {h:Heap} {a:Addr} {m:Str→Option Value} (n:h.Ns a m):∃ o es ep,h.get? a = some o∧o.data = .dict es ep:=by
 obtain ⟨o,es,ep,e,d,_⟩:=n
 exact ⟨o,es,ep,e,d⟩
private theorem zM {O:Phi} {h:Heap} {env:Env} {L:Loc} (l:LocRep O h Γ env L):∀ a∈Wr env,∀ items,¬ h.IsTuple a items:=by
 intro a ha items ⟨o,e,c,n,d⟩
 rcases mem_Al.mp (j8 ha) with rfl | ⟨z,hz⟩
 ·obtain ⟨m,hn,_⟩:=l.ns
  obtain ⟨o',es,ep,e',d'⟩:=lP hn
  rw [e] at e';cases e'
  rw [d] at d';cases d'
 ·obtain ⟨ov,oc,e1,e2⟩:=l.cells z a hz
  rw [e] at e1;cases e1
  rw [d] at e2;cases e2
private theorem Inv.writeW {O:Phi} {H:MH} {h h':Heap} {D:Addr} {W:List Addr} (I:Inv w hB O H h) (hD:hB.get? D = none) (hn:D∉own O) (hW:D∈W) (same:∀ b,b≠D→h'.get? b = h.get? b) (there:h'.get? D≠none)
  (nt:∀ items,¬ h.IsTuple D items):Inv w hB O H h'∧Ext W O h O h'∧∀ a items,h.IsTuple a items→h'.IsTuple a items:=by
 have kt:∀ a items,h.IsTuple a items→h'.IsTuple a items:=λa items t=>by
  obtain ⟨o,e,r⟩:=t
  by_cases hb:a = D
  ·subst hb;exact absurd ⟨o,e,r⟩ (nt items)
  ·exact ⟨o,(same a hb).trans e,r⟩
 refine ⟨⟨I.len,I.nodup,λb o e=>?_,I.sep,λi m p hi hp=>?_⟩,⟨List.prefix_refl _,λa ha=>.inl ha,λb o e n1 n2=>?_,λb e=>?_⟩,kt⟩
 ·refine (same b λz=>?_).trans (I.base b o e)
  subst z;rw [hD] at e;cases e
 ·have R:=I.obj i m p hi hp
  have no:∀ b,b∈own O→h'.get? b = h.get? b:=λb hb=>same b λz=>hn (z ▸ hb)
  exact R.mono (List.prefix_refl _) kt (no _ (ey hp)) λd hd=>no d (jH hp hd)
 ·exact (same b λz=>n2 (z ▸ hW)).trans e
 ·by_cases z:b = D
  ·subst z;exact there
  ·rw [same b z];exact e
private theorem rQ {Γ:Ctx} (nd:(Γ.names.map (·.1)).Nodup) {i j:Nat} {x y:Str×Bool} (hi:Γ.names[i]? = some x) (hj:Γ.names[j]? = some y) (ne:i≠j):x.1≠y.1:=λe =>
 ne (kN nd (x:=x.1) (by rw [List.getElem?_map,hi];rfl) (by rw [List.getElem?_map,hj,e];rfl))
set_option tactic.hygienic true in
private theorem wV {A:Around} {env:Env} {O:Phi} {H:MH} {L:Loc} {s:Shared} {x:Str} {b:Bool} {i:Nat} {mv:MV} {v:Value} {Q:Loc→MH→Prop} (S:Sit w hB k Γ A env O H L s) (hx:Γ.names[i]? = some (x,b)) (hown:b = true→Γ.cellsOwn = true) (rv:RV O s.heap mv v) (q:Q (L.set i (some mv)) H) :
  wpAny (MM w) A (storeName env x v) (λU s'=>APost w hB Γ env O s Q s') Fls s:=by
 obtain ⟨m,hn,hv⟩:=S.loc.ns
 have kd:=S.eok.vars _ (List.mem_of_getElem? hx)
 have hlen:i < L.length:=by rw [S.loc.len];exact (List.getElem?_eq_some_iff.mp hx).1
 have hDl:env.locals∈Wr env:=vp env
 obtain ⟨on,esn,epn,en,dn⟩:=lP hn
 have kcell:∀ y c ov,env.cells.lookup y = some c→s.heap.IsCell c ov→c≠env.locals:=λy c ov U z e=>by
  obtain ⟨oc,e1,e3⟩:=z
  rw [e,en] at e1;cases e1
  rw [dn] at e3;cases e3
 cases b with
 | false =>
  refine wpAny_storeName_local kd hn (λh' hn' hs'=>?_) (by rw [S.eok.kind];rfl)
  have z:=S.inv.writeW (h':=h') (S.out _ (j8 hDl)) S.loc.outL hDl (λb hb=>hs'.2 b hb) (by obtain ⟨o,_,_,e,_⟩:=lP hn';rw [e];simp) (λitems ⟨o,e,c,n,d⟩=>by
   rw [en] at e;cases e
   rw [dn] at d;cases d)
  refine ⟨O,H,_,z.2.1,z.1,⟨by rw [List.length_set];exact S.loc.len,⟨_,hn',λj y mw hj hm=>?_⟩,S.loc.outL,S.loc.outC,S.loc.apart,λy c hc=>?_⟩,⟨rfl,rfl⟩,q⟩
  ·by_cases ne:i = j
   ·subst ne
    rw [hx] at hj;cases hj
    rw [List.getElem?_set_self hlen] at hm;cases hm
    show ∀ a,some mv = some a→_
    intro a ha;cases ha
    exact ⟨v,by simp,rv.mono (List.prefix_refl _) z.2.2⟩
   ·rw [List.getElem?_set_ne ne] at hm
    have old:=hv j y mw hj hm
    have hne:=rQ S.eok.nd hx hj ne
    have old':=old.mono (List.prefix_refl O) z.2.2 (λc ov e zc=>by
     obtain ⟨oc,e1,e2⟩:=id zc
     exact ⟨oc,(hs'.2 c (kcell _ c ov e zc)).trans e1,e2⟩)
    unfold VarOk at old' ⊢
    split
    ·rename_i eb
     rw [eb] at old'
     intro a ha
     obtain ⟨u,h1,h2⟩:=old' a ha
     refine ⟨u,?_,h2⟩
     show (if y.1 = x then some v else m y.1) = some u
     rw [if_neg (Ne.symm hne)];exact h1
    ·rename_i eb
     rw [eb] at old'
     exact old'
  ·obtain ⟨ov,zc⟩:=S.loc.cells y c hc
   obtain ⟨oc,e1,e2⟩:=id zc
   exact ⟨ov,oc,(hs'.2 c (kcell _ c ov hc zc)).trans e1,e2⟩
 | true =>
  obtain ⟨c,ov,h1,h2,_⟩:∃ c ov,env.cells.lookup x = some c∧s.heap.IsCell c ov∧True:=by
   have hm:L[i]? = some L[i]:=List.getElem?_eq_getElem hlen
   obtain ⟨c,ov,h1,h2,_⟩:=hv i _ _ hx hm
   exact ⟨c,ov,h1,h2,trivial⟩
  have hcW:c∈Wr env:=by rw [Aa (S.eok.fn (hown rfl))];exact mem_Al.mpr (.inr ⟨_,h1⟩)
  refine wpAny_storeName_cell S.eok.kind kd h1 h2 λh' hc' hs'=>?_
  have hcl:env.locals≠c:=λe=>kcell x c ov h1 h2 e.symm
  have z:=S.inv.writeW (h':=h') (S.out _ (j8 hcW)) (S.loc.outC _ _ h1) hcW (λb hb=>hs'.2 b hb) (by obtain ⟨o,e,_⟩:=hc';rw [e];simp) (λitems ⟨o,e,cc,n,d⟩=>by
   obtain ⟨oc,e1,e3⟩:=h2
   rw [e1] at e;cases e
   rw [e3] at d;cases d)
  have hn':h'.Ns env.locals m:=by
   obtain ⟨o,es,ep,e,r⟩:=hn
   exact ⟨o,es,ep,(hs'.2 _ hcl).trans e,r⟩
  refine ⟨O,H,_,z.2.1,z.1,⟨by rw [List.length_set];exact S.loc.len,⟨m,hn',λj y mw hj hm=>?_⟩,S.loc.outL,S.loc.outC,S.loc.apart,λy c' hcc=>?_⟩,⟨rfl,rfl⟩,q⟩
  ·by_cases ne:i = j
   ·subst ne
    rw [hx] at hj;cases hj
    rw [List.getElem?_set_self hlen] at hm;cases hm
    exact ⟨c,some v,h1,hc',λa ha=>by cases ha;exact ⟨v,rfl,rv.mono (List.prefix_refl _) z.2.2⟩⟩
   ·rw [List.getElem?_set_ne ne] at hm
    have old:=hv j y mw hj hm
    have hne:=rQ S.eok.nd hx hj ne
    refine old.mono (List.prefix_refl O) z.2.2 (λc' ov' e zc=>?_)
    obtain ⟨oc,e1,e2⟩:=id zc
    refine ⟨oc,(hs'.2 c' λec=>?_).trans e1,e2⟩
    subst ec
    exact hne (name_of_addr S.loc.apart (cU h1) (cU e))
  ·by_cases ec:c' = c
   ·subst ec;exact ⟨_,hc'⟩
   ·obtain ⟨ov',oc,e1,e2⟩:=S.loc.cells y c' hcc
    exact ⟨ov',oc,(hs'.2 c' ec).trans e1,e2⟩
end
end Mine
end
section
namespace Mine
section
variable {w:World} {hB:Heap} {k:Nat} {Γ:Ctx}
private theorem Ext.wk {W:List Addr} {O O':Phi} {h h':Heap} (x:Ext [] O h O' h'):Ext W O h O' h':=x.weaken λU h=>nomatch h
private theorem Sit.nextW {A:Around} {env:Env} {O O':Phi} {H H':MH} {L L':Loc} {s s':Shared} (S:Sit w hB k Γ A env O H L s) (I:Inv w hB O' H' s'.heap) (l:LocRep O' s'.heap Γ env L'):Sit w hB k Γ A env O' H' L' s':=⟨S.base,S.room,S.eok,I,l,S.out⟩
private theorem Sit.tupW {A:Around} {env:Env} {O O':Phi} {H:MH} {L:Loc} {s s':Shared} (S:Sit w hB k Γ A env O H L s) (x:Ext (Wr env) O s.heap O' s'.heap):∀ a items,s.heap.IsTuple a items→s'.heap.IsTuple a items:=x.tup S.inv (zM S.loc)
private theorem APost.after {env:Env} {O O':Phi} {s s' s'':Shared} {Q:Loc→MH→Prop} (x:Ext (Wr env) O s.heap O' s'.heap) (sm:Sm s s') (p:APost w hB Γ env O' s' Q s''):APost w hB Γ env O s Q s'':=by
 obtain ⟨O2,H2,L2,a,b,c,d,e⟩:=p
 exact ⟨O2,H2,L2,x.trans a,b,c,sm.trans d,e⟩
private theorem FPost.after {env:Env} {O O':Phi} {s s':Shared} {Q:Fl→Loc→MH→Prop} {f:Flow} {s'':Shared} (x:Ext (Wr env) O s.heap O' s'.heap) (sm:Sm s s') (p:FPost w hB Γ env O' s' Q f s''):FPost w hB Γ env O s Q f s'':=by
 obtain ⟨O2,H2,L2,fl,a,b,c,fo,d,e⟩:=p
 exact ⟨O2,H2,L2,fl,x.trans a,b,c,fo,sm.trans d,e⟩
noncomputable def aw (i:Nat):AT:=λv L H Q=>Q (L.set i (some v)) H
private theorem aq {x:Str} {b:Bool} {i:Nat} {pos:Pos} (hx:Γ.names[i]? = some (x,b)) (hown:(b && !Γ.cellsOwn) = false):SA w hB k Γ (.Name x pos) (aw i):=by
 refine ⟨?_,trivial⟩
 intro A env O H L s Q mv v S rv q
 exact PyProof.Rows.assign_Name (wV S hx (λhb=>by subst hb;revert hown;cases Γ.cellsOwn <;> decide) rv q)
noncomputable def jS:List AT→List MV→Loc→MH→(Loc→MH→Prop)→Prop
 | [],[],L,H,Q=>Q L H
 | t :: ts,v :: vs,L,H,Q=>t v L H λL' H'=>jS ts vs L' H' Q
 | _,_,_,_,_=>False
private theorem bw:SAs w hB k Γ [] (jS []) 0:=by
 refine ⟨λA env O H L s Q ms vs S rv q=>?_,λU=>rfl,λU=>rfl⟩
 cases ms with
 | nil =>
  obtain rfl:=RVs_nil.mp rv
  exact wpAny_pure ⟨O,H,L,Ext.refl _ _ _,S.inv,S.loc,Sm.refl _,q⟩
 | cons m ms=>exact q.elim
private theorem aH {t:Expr} {ts:List Expr} {T:AT} {Ts:List AT} {n:Nat} (h:SA w hB k Γ t T) (hs:SAs w hB k Γ ts (jS Ts) n) (he:∀ env,assignEach (t :: ts) env = (false,assign t env) :: assignEach ts env) :
  SAs w hB k Γ (t :: ts) (jS (T :: Ts)) (n + 1):=by
 refine ⟨λA env O H L s Q ms vs S rv q=>?_,λenv=>by rw [he,List.length_cons,hs.2.1],λenv=>by rw [he,List.findIdx?_cons,hs.2.2];rfl⟩
 cases ms with
 | nil=>exact q.elim
 | cons m ms =>
  obtain ⟨v,r,rfl,a,b⟩:=RVs_cons.mp rv
  rw [he,List.map_cons]
  show wpAny (MM w) A (holding r (assign t env v) >>= λU=>assignInOrder ((assignEach ts env).map (·.2)) r) _ _ _
  refine wpAny_bind (wpAny_holding (wpAny_mono (h.1 A env O H L s _ m v S a q) (λU s' z=>?_) λU U z=>z))
  obtain ⟨O',H',L',x1,I',l',sm,q'⟩:=z
  refine wpAny_mono (hs.1 A env O' H' L' s' _ ms r (S.nextW I' l') (b.mono x1.pre (S.tupW x1)) q') (λU s'' z=>z.after x1 sm) λU U z=>z
noncomputable def cu (ts:List AT):AT:=λv L H Q=>match v with
 | .tup l=>l.length = ts.length∧jS ts l L H Q
 | .ref i=>dO H[i]? λl=>l.length = ts.length∧jS ts l L H Q
 | _=>False
private theorem bI {elts:List Expr} {Ts:List AT} {kd:Nat} {pos:Pos} (h:SAs w hB k Γ elts (jS Ts) Ts.length):SA w hB k Γ (.Tuple elts kd pos) (cu Ts):=by
 refine ⟨?_,trivial⟩
 intro A env O H L s Q mv v S rv q
 cases mv with
 | tup l =>
  obtain ⟨q1,q2⟩:=q
  obtain ⟨a,items,rfl,ht,hz,hr⟩:=rv.tup_of
  have hl:=hr.length
  rw [Array.length_toList] at hl
  refine wpAny_assign_Tuple S.room.handled ht (by rw [h.2.1,hl,q1]) (h.2.2 env) λh' he=>?_
  have keep:∀ b o,s.heap.get? b = some o→h'.get? b = some o:=λb o e=>he b o (Nat.ne_of_lt (Heap.lt_size e)) e
  obtain ⟨I1,x1⟩:=S.inv.grow keep
  refine wpAny_mono (h.1 A env O H L { s with heap:=h' } _ _ _ (S.next x1 I1) (hr.mono (List.prefix_refl _) (ct keep)) q2) (λU s'' z=>APost.after (s':={ s with heap:=h' }) x1.wk ⟨rfl,rfl⟩ z) λU U z=>z
 | ref i =>
  obtain ⟨p,hp,rfl⟩:=rv.ref_of
  obtain ⟨l,hi,q⟩:=cK q
  obtain ⟨q1,q2⟩:=q
  obtain ⟨us,n,h1,h2,hL,hl,hr⟩:=bU S.inv hi hp
  rw [arm_assign_Tuple]
  refine wpAny_bind (wpAny_standAt ?_)
  unfold unpack
  rw [show (assignEach elts env).length = us.size by rw [h.2.1,h1,q1],h.2.2]
  refine wpAny_bind (wpAny_holding (kun_itemsOf S.room.handled hl λh' he=>?_))
  have keep:∀ b o,s.heap.get? b = some o→h'.get? b = some o:=λb o e=>he b o (Nat.ne_of_lt (Heap.lt_size e)) e
  obtain ⟨I1,x1⟩:=S.inv.grow keep
  refine wpAny_mono (h.1 A env O H L { s with heap:=h' } _ _ _ (S.next x1 I1) (hr.mono (List.prefix_refl _) (ct keep)) q2) (λU s'' z=>APost.after (s':={ s with heap:=h' }) x1.wk ⟨rfl,rfl⟩ z) λU U z=>z
 | _=>exact False.elim q
noncomputable def lJ (f:Nat) (v:MV):List (Nat×MV)→List (Nat×MV)
 | []=>[(f,v)]
 | (g,u) :: r=>if g = f then (g,v) :: r else (g,u) :: lJ f v r
private theorem EntsOk.put {O:Phi} {h:Heap} {g:Nat} {x:Str} {hsh:Int} {t:Tok} {m:MV} {v:Value} (hx:cJ[g]? = some x) (rv:RV O h m v):∀ {fs:List (Nat×MV)} {es:List DictEntry},EntsOk w O h fs es →
  EntsOk w O h (lJ g m fs) (putL x hsh (.str x t) v es)∧(es.any (·.refKey)) = false∧es.length = fs.length
 | [],es,e=>by
  obtain rfl:es = []:=e
  exact ⟨⟨_,_,rfl,⟨x,t,hx,rfl,rv⟩,rfl⟩,rfl,rfl⟩
 | f :: fs,_,h0=>by
  obtain ⟨e,es,rfl,he,hr⟩:=h0
  obtain ⟨i1,i2,i3⟩:=EntsOk.put (hsh:=hsh) (t:=t) hx rv hr
  have hs:=ss he hx
  obtain ⟨y,t',h1,h2,h3⟩:=id he
  have hrk:e.refKey = false:=by unfold DictEntry.refKey;rw [h2]
  refine ⟨?_,by rw [List.any_cons,hrk,i2];rfl,by rw [List.length_cons,List.length_cons,i3]⟩
  obtain ⟨g',u⟩:=f
  unfold putL
  rw [show lJ g m ((g',u) :: fs) = if g' = g then (g',m) :: fs else (g',u) :: lJ g m fs from rfl]
  by_cases q:g' = g
  ·have k1:e.key.isStr x = true:=by rw [hs];simpa using q
   rw [if_pos k1,if_pos q]
   exact ⟨_,_,rfl,⟨y,t',h1,h2,rv⟩,hr⟩
  ·have k1:¬ e.key.isStr x = true:=by rw [hs];simpa using q
   rw [if_neg k1,if_neg q]
   exact ⟨_,_,rfl,he,i1⟩
private theorem rz {x:Str} {es:List DictEntry} {n:Nat} (h:es.any (·.refKey) = false):(lookIn x (dictOf es n)).isSome = true:=by
 unfold lookIn
 dsimp only
 split
 ·rfl
 ·rw [if_neg (by rw [h];exact Bool.false_ne_true)];rfl
private theorem sn {x:Str} {hsh:Int} {key v:Value}:∀ es:List DictEntry,(putL x hsh key v es).length≤es.length + 1
 | []=>by simp [putL]
 | e :: r=>by
  unfold putL
  split
  ·simp
  ·have:=sn (x:=x) (hsh:=hsh) (key:=key) (v:=v) r
   exact Nat.succ_le_succ this
private theorem sY {A:Around} {O:Phi} {H:MH} {s:Shared} {i c f:Nat} {fs:List (Nat×MV)} {x:Str} {p:Addr×Option Addr} {mv:MV} {v:Value} {P:Unit→Shared→Prop} (B:Base w hB) (I:Inv w hB O H s.heap) (hp:O[i]? = some p) (hi:H[i]? = some (.inst c fs))
  (hx:cJ[f]? = some x) (rv:RV O s.heap mv v) (hz:fs.length≤100)
  (q:∀ s',Inv w hB O (H.set i (.inst c (lJ f mv fs))) s'.heap→Ext [] O s.heap O s'.heap→Sm s s'→P () s'):wpAny (MM w) A (setAttr (.ref p.1) x v) P Fls s:=by
 obtain ⟨dx,es,n,a,IA,E⟩:=uc (I.obj i _ p hi hp)
 have IA0:=IA
 obtain ⟨f1,f2,f3,f4,f5⟩:=nJ w c
 obtain ⟨g1,g2⟩:=pN w (c:=c) hx
 have X:=I.keepK B
 refine set_plain X IA f5 ?_
 refine osa_open (s:={ s with toks:=s.toks + 1 }) X IA f3 g2 λb=>?_
 obtain ⟨cd,hc,hd'⟩:=any_some f2
 obtain ⟨hx0,hcl,hn,hdx⟩:=IA
 have hdx':s.heap.get? dx = some (dictOf es n):=by
  obtain ⟨dx',es',n',a',b',c',d'⟩:=I.obj i _ p hi hp
  have hdxp:some dx = some dx':=a.symm.trans a'
  cases hdxp
  rw [b'] at hx0
  simpa [hdx] using hdx
 refine wpAny_bind (wpAny_pure (wpAny_bind (wpAny_bind (wpAny_loadPart hx0 (wpAny_bind (Looks.here (s:={ s with toks:=s.toks + 1 }) (looks_clsIn X hc) ?_))))))
 rw [hd']
 refine wpAny_pure (a:=some dx) (wpAny_bind (wpAny_pure (wpAny_bind ?_)))
 unfold nsSet
 obtain ⟨e1,e2,e3⟩:=E.put (hsh:=PyData.keyHash w.params x) (t:=s.toks + 1) hx rv
 refine wpAny_bind (wpAny_bind (wpAny_askSetting (wpAny_pure (wpAny_bind (wpAny_mkText (wpAny_bind (wpAny_loadPart hdx' ?_)))))))
 have hl:=rz (x:=x) (n:=n) e2
 dsimp only
 have c0:(!es.toArray.any (·.key.isStr x) && es.toArray.any (·.refKey)) = false:=by
  rw [← Array.any_toList,← Array.any_toList]
  show (!(es.any (·.key.isStr x)) && es.any (·.refKey)) = false
  rw [e2,Bool.and_false]
 rw [aRefKeyMayBeTheName_at,c0]
 have hput:=putName_dict x (PyData.keyHash w.params x) (.str x (s.toks + 1)) v es n
 have hD':(s.heap.update dx (Obj.putName x (PyData.keyHash w.params x) (.str x (s.toks + 1)) v)).get? dx = some (dictOf (putL x (PyData.keyHash w.params x) (.str x (s.toks + 1)) v es) (putN x es n)):=by
  have:=Heap.get?_update_self (Obj.putName x (PyData.keyHash w.params x) (.str x (s.toks + 1)) v) hdx' (by rw [hput];rfl)
  rw [hput] at this;exact this
 refine wpAny_updatePart hdx' ?_
 refine wpAny_bind (wpAny_lookBehind hD' (by
  refine pastItsLine_dict ?_
  have:=sn (x:=x) (hsh:=PyData.keyHash w.params x) (key:=.str x (s.toks + 1)) (v:=v) es
  rw [List.size_toArray,sizeLine_eq];omega) ?_)
 refine wpAny_pure ?_
 have hdm:dx∈own [p]:=by rw [bx,a];simp
 have same:∀ b,b≠dx→(s.heap.update dx (Obj.putName x (PyData.keyHash w.params x) (.str x (s.toks + 1)) v)).get? b = s.heap.get? b:=λb hb=>Heap.get?_update_other _ _ (Ne.symm hb)
 have kt:∀ b items,s.heap.IsTuple b items→(s.heap.update dx (Obj.putName x (PyData.keyHash w.params x) (.str x (s.toks + 1)) v)).IsTuple b items:=λb items t=>by
  obtain ⟨o,e,c,r⟩:=t
  by_cases hb:b = dx
  ·subst hb;exact absurd ⟨o,e,c,r⟩ (mO hdx' rfl (by decide) _)
  ·exact ⟨o,(same b hb).trans e,c,r⟩
 have hxp:p.1≠dx:=λe=>by
  rw [e,hdx'] at hx0
  cases hx0
 have z:=I.upd (m:=.inst c (lJ f mv fs)) hp hdm same ⟨dx,_,_,a,by
  rw [same _ hxp]
  obtain ⟨dx',es',n',a',b',c',d'⟩:=I.obj i _ p hi hp
  rw [a] at a';cases a'
  exact b',hD',e1.mono (List.prefix_refl _) kt⟩
 exact q _ z.1 z.2 ⟨rfl,rfl⟩
end
end Mine
end
section
namespace Mine
section
variable {w:World} {hB:Heap} {k:Nat} {Γ:Ctx}
noncomputable def gZ (o:Option MObj) (K:Nat→List (Nat×MV)→Prop):Prop:=match o with
 | some (.inst c fs)=>K c fs
 | _=>False
private theorem tC {o:Option MObj} {K:Nat→List (Nat×MV)→Prop} (q:gZ o K):∃ c fs,o = some (.inst c fs)∧K c fs:=by
 cases o with
 | none=>exact False.elim q
 | some o =>
  cases o with
  | inst c fs=>exact ⟨c,fs,rfl,q⟩
  | _=>exact False.elim q
noncomputable def cn (o:ET) (f:Nat):AT:=λv L H Q=>o L H λov H'=>eL ov λi=>gZ H'[i]? λc fs=>fs.length≤100∧Q L (H'.set i (.inst c (lJ f v fs)))
private theorem bA {e:Expr} {T:ET} {f:Nat} {x:Str} {pos:Pos} (he:SE w hB k Γ e T) (hx:cJ[f]? = some x):SA w hB k Γ (.Attribute e x pos) (cn T f):=by
 refine ⟨?_,trivial⟩
 intro A env O H L s Q mv v S rv q
 rw [assign_Attribute]
 refine wpAny_bind (wpAny_holding (wpAny_mono (he.1 A env O H L s _ S q) (λov s' z=>?_) λU U z=>z))
 refine wpAny_bind (wpAny_standAt ?_)
 obtain ⟨O',H',om,x1,I',ro,sm,q'⟩:=z
 replace q':=bP q'
 obtain ⟨i,rfl,q'⟩:=q'
 obtain ⟨p,hp,rfl⟩:=ro.ref_of
 obtain ⟨c,fs,hi,q'⟩:=tC q'
 refine wpAny_bind (wpAny_holding (sY S.base I' hp hi hx (rv.mono x1.pre (x1.tup0 S.inv)) q'.1 λs'' I2 x2 sm2=>?_))
 exact wpAny_release ⟨O',_,L,(x1.trans x2).wk,I2,(S.loc.next S.inv x1).next I' x2,sm.trans sm2,q'.2⟩
private theorem lM {A:Around} {s:Shared} {l:Addr} {items:Array Value} {n:Nat} {kk:Int} {t:Tok} {v:Value} {Q:Unit→Shared→Prop} (hL:IsL s.heap l items n) (h0:0≤kk) (hfit:kk < 2 ^ 63) (hn:kk < items.size)
  (hQ:Q () { s with heap:=s.heap.update l (Obj.mapSeq (·.setIfInBounds kk.toNat v)) }):wpAny (MM w) A (setItem (.ref l) (.int kk t) v) Q Fls s:=by
 have hl:s.heap.IsList l items:=hL.isList
 unfold setItem
 try with_reducible refine wpAny_holding ?_
 first | refine wpAny_bind (wpAny_pure ?_) | skip
 refine wpAny_bind (wpAny_sequenceKey hl.typeIs (by decide) ?_)
 refine wpAny_bind (wpAny_callSpecial?_slot (name:=Str.ofString "__setitem__") hl.typeIs slot_list_setitem
  (wpAny_call_entry slot_list_setitem hl.typeIs entry_list_setitem ?_ (args_list_setitem _ _ _)))
 show wpAny _ _ (Builtin.List.listSubscript? (.int kk t) >>= _) _ _ s
 refine wpAny_bind (wpAny_listSubscript_int (fitsIndex_of h0 hfit) ?_)
 clear hfit
 obtain ⟨j,rfl⟩:=Int.eq_ofNat_of_zero_le h0
 have hj:j < items.size:=by (exact Int.ofNat_lt.mp ‹_›)
 have hx':items[j]? = some items[j]:=Array.getElem?_eq_getElem hj
 have hd:({ cls:=.type "list",dict:=none,data:=.seq items n,slots:=#[] }:Obj).data = .seq items n:=rfl
 show wpAny _ _ ((seqItemAt l j >>= λr=>pure (r.map (j,·))) >>= _) _ _ s
 refine wpAny_bind (wpAny_bind (wpAny_seqItemAt hL hd (wpAny_pure ?_)))
 rw [hx']
 show wpAny _ _ (setSeqItemAt l j v >>= _) _ _ s
 refine wpAny_bind (wpAny_setSeqItemAt hL hd ?_)
 first
  | exact wpAny_bind (wpAny_pure (wpAny_pure ⟨.none,rfl,wpAny_pure hQ⟩))
  | exact wpAny_pure ⟨.none,rfl,wpAny_pure hQ⟩
noncomputable def nT (k x:Int):List (Int×Int)→List (Int×Int)
 | []=>[(k,x)]
 | (a,b) :: r=>if a = k then (a,x) :: r else (a,b) :: nT k x r
private theorem wW {k x a b:Int} {r:List (Int×Int)}:nT k x ((a,b) :: r) = if a = k then (a,x) :: r else (a,b) :: nT k x r:=rfl
noncomputable def stO (o:Option MObj) (a:Nat) (kk:Int) (v:MV) (H:MH) (Q:MH→Prop):Prop:=match o with
 | some (.list l)=>(0≤kk∧kk < l.length∧l.length≤1000000)∧Q (H.set a (.list (l.set kk.toNat v)))
 | some (.dict d)=>cT v λx=>d.length≤1000000∧Q (H.set a (.dict (nT kk x d)))
 | _=>False
noncomputable def iu (o i v:MV) (H:MH) (Q:MH→Prop):Prop:=eL o λa=>cT i λkk=>stO H[a]? a kk v H Q
set_option tactic.hygienic true in
private theorem mA {kk x:Int} {t:Tok}:∀ {d:List (Int×Int)} {kvs:List (Int×Value)},ez d kvs→(d.map (·.1)).Nodup→ez (nT kk x d) (stored kvs kk (.int x t))
 | [],kvs,r,_=>by
  obtain rfl:kvs = []:=r
  exact ⟨t,[],rfl,rfl⟩
 | (a,b) :: d,_,h0,nd=>by
  obtain ⟨t',r,rfl,hr⟩:=h0
  rw [List.map_cons,List.nodup_cons] at nd
  have ih:=mA (kk:=kk) (x:=x) (t:=t) hr nd.2
  rw [wW]
  unfold stored at ih ⊢
  by_cases e:a = kk
  ·subst e
   rw [if_pos rfl,if_pos (by simp),List.map_cons,if_pos rfl]
   refine ⟨t,_,rfl,?_⟩
   have hk:=ix hr
   have:r.map (λkv=>if kv.1 = a then (kv.1,Value.int x t) else kv) = r:=by
    conv=>rhs;rw [← List.map_id r]
    refine List.map_congr_left λkv hkv=>?_
    rw [if_neg (λe=>nd.1 (by rw [← hk,← e];exact List.mem_map.mpr ⟨kv,hkv,rfl⟩))];rfl
   rw [this];exact hr
  ·rw [if_neg e]
   have hany:((a,Value.int b t') :: r).any (λkv=>decide (kv.1 = kk)) = r.any (λkv=>decide (kv.1 = kk)):=by rw [List.any_cons];simp [e]
   rw [hany]
   split
   ·rename_i h
    rw [if_pos h] at ih
    rw [List.map_cons,if_neg e]
    exact ⟨t',_,rfl,ih⟩
   ·rename_i h
    rw [if_neg h] at ih
    exact ⟨t',_,rfl,ih⟩
private theorem rD {kk x:Int}:∀ d:List (Int×Int),(nT kk x d).length≤d.length + 1
 | []=>Nat.le_refl _
 | (a,b) :: r=>by
  rw [wW]
  split
  ·simp
  ·have:=rD (kk:=kk) (x:=x) r
   simp only [List.length_cons];exact Nat.lt_succ_of_le ‹_›
private theorem mC {A:Around} {O:Phi} {H:MH} {s:Shared} {o i mv:MV} {ov iv v:Value} {P:Unit→Shared→Prop} {Q:MH→Prop} (I:Inv w hB O H s.heap) (ro:RV O s.heap o ov) (ri:RV O s.heap i iv) (rv:RV O s.heap mv v)
  (q:iu o i mv H Q) (p:∀ H' s',Inv w hB O H' s'.heap→Ext [] O s.heap O s'.heap→Sm s s'→Q H'→P () s'):wpAny (MM w) A (setItem ov iv v) P Fls s:=by
 replace q:=bP q
 obtain ⟨a,rfl,q⟩:=q
 replace q:=bm q
 obtain ⟨kk,rfl,q⟩:=q
 obtain ⟨pp,hp,rfl⟩:=ro.ref_of
 obtain ⟨t,rfl⟩:=ri.int_of
 cases hi:H[a]? with
 | none=>rw [hi] at q;exact False.elim q
 | some o =>
  rw [hi] at q
  cases o with
  | list l =>
   obtain ⟨⟨h0,hlt,hle⟩,q⟩:=q
   obtain ⟨us,n,h1,h2,hL,hl,hr⟩:=bU I hi hp
   have hn:pp.2 = none:=(I.obj a _ pp hi hp).1
   have z:=nc (l:=l.set kk.toNat mv) (f:=λxs=>xs.setIfInBounds kk.toNat v) I hp hn hL (by
    rw [Array.toList_setIfInBounds];exact hr.set _ rv) (by rw [Array.size_setIfInBounds];exact h2)
   exact lM hL h0 (by omega) (by omega) (p _ _ z.1 z.2 ⟨rfl,rfl⟩ q)
  | dict d =>
   replace q:=bm q
   obtain ⟨x,rfl,hle,q⟩:=q
   obtain ⟨t',rfl⟩:=rv.int_of
   obtain ⟨hn,_,kvs,hd,hpr⟩:=I.obj a _ pp hi hp
   have hk:=ix hpr
   have hlen:kvs.length = d.length:=by have:=congrArg List.length hk;simpa using this
   have nd:(d.map (·.1)).Nodup:=by
    obtain ⟨_,_,_,_,_,_,_,_,nd⟩:=hd
    rw [← hk];exact nd
   refine wpAny_setItem_pairs (hsz:=by rw [hlen,sizeLine_eq];exact Nat.le_trans ‹_› (by decide)) (intKind_is PW w kk t) hd λh' hd' hs'=>?_
   have z:=I.upd (m:=.dict (nT kk x d)) hp (by rw [bx];exact .head _) (λb hb=>hs'.2 b hb) ⟨hn,by have:=rD (kk:=kk) (x:=x) d;omega,_,hd',mA hpr nd⟩
   exact p _ _ z.1 z.2 ⟨rfl,rfl⟩ q
  | _=>exact False.elim q
noncomputable def eS (o i:ET):AT:=λv L H Q=>o L H λov H'=>i L H' λiv H''=>iu ov iv v H'' (Q L)
private theorem dD {e ie:Expr} {T Ti:ET} {pos:Pos} (he:SE w hB k Γ e T) (hi:SE w hB k Γ ie Ti):SA w hB k Γ (.Subscript e ie pos) (eS T Ti):=by
 refine ⟨?_,trivial⟩
 intro A env O H L s Q mv v S rv q
 rw [assign_Subscript]
 refine wpAny_bind (wpAny_holding (wpAny_mono (he.1 A env O H L s _ S q) (λov s' z=>?_) λU U z=>z))
 obtain ⟨O',H',om,x1,I',ro,sm,q'⟩:=z
 have S':=S.next x1 I'
 refine wpAny_bind (wpAny_holding (wpAny_mono (hi.1 A env O' H' L s' _ S' q') (λiv s'' z=>?_) λU U z=>z))
 obtain ⟨O2,H2,im,x2,I2,ri,sm2,q2⟩:=z
 refine wpAny_bind (wpAny_standAt ?_)
 refine wpAny_bind (wpAny_holding (mC I2 (ro.mono x2.pre (x2.tup0 I')) ri ((rv.mono x1.pre (x1.tup0 S.inv)).mono x2.pre (x2.tup0 I')) q2 λH3 s3 I3 x3 sm3 q3=>?_))
 exact wpAny_release ⟨O2,H3,L,((x1.trans x2).trans x3).wk,I3,(S'.loc.next I' x2).next I2 x3,(sm.trans sm2).trans sm3,q3⟩
noncomputable def au (e:ET) (a:AT):ST:=λL H Q=>e L H λv H'=>a v L H' λL' H''=>Q .next L' H''
private theorem av {t value:Expr} {pos:Pos} {Te:ET} {Ta:AT} (he:SE w hB k Γ value Te) (ha:SA w hB k Γ t Ta) (hs:∀ env,swapsWithSole [t] value pos.line env = pure false)
  (hw:∀ env,EnvOk w Γ env→swappedStores [t] value env = pure none) (hq:∀ env,assignEach [t] env = [(false,assign t env)]):S1 w hB k Γ (.Assign [t] value pos) (au Te Ta):=by
 refine ⟨?_,trivial⟩
 intro A env O H L s Q S q
 refine wpAny_Assign_stores ?_ (hs env) (hw env S.eok)
 refine wpAny_mono (he.1 A env O H L s _ S q) (λv s' z=>?_) λU U z=>z
 obtain ⟨O',H',mv,x1,I',rv,sm,q'⟩:=z
 rw [hq]
 refine wpAny_mono (ha.1 A env O' H' L s' _ mv v (S.next x1 I') rv q') (λU s'' z=>?_) λU U z=>z
 obtain ⟨O2,H2,L2,x2,I2,l2,sm2,q2⟩:=z
 exact ⟨O2,H2,L2,.next,x1.wk.trans x2,I2,l2,rfl,sm.trans sm2,q2⟩
noncomputable def bC (e:ET):ST:=λL H Q=>e L H λU H'=>Q .next L H'
private theorem bY {e:Expr} {pos:Pos} {T:ET} (he:SE w hB k Γ e T) (hs:∀ env,swapsWith e none pos.line env = pure false):S1 w hB k Γ (.Expr e pos) (bC T):=by
 refine ⟨?_,trivial⟩
 intro A env O H L s Q S q
 refine wpAny_Expr_any (wpAny_mono (he.1 A env O H L s _ S q) (λv s' z=>?_) λU U z=>z) S.eok.notInt (hs env)
 obtain ⟨O',H',mv,x1,I',rv,sm,q'⟩:=z
 exact ⟨O',H',L,.next,x1.wk,I',S.loc.next S.inv x1,rfl,sm,q'⟩
noncomputable def bq (e:ET):ST:=λL H Q=>e L H λv H'=>Q (.ret v) L H'
private theorem aZ {e:Expr} {pos:Pos} {T:ET} (he:SE w hB k Γ e T):S1 w hB k Γ (.Return (some e) pos) (bq T):=by
 refine ⟨?_,trivial⟩
 intro A env O H L s Q S q
 refine wpAny_Return_some (wpAny_mono (he.1 A env O H L s _ S q) (λv s' z=>?_) λU U z=>z)
 obtain ⟨O',H',mv,x1,I',rv,sm,q'⟩:=z
 exact ⟨O',H',L,.ret mv,x1.wk,I',S.loc.next S.inv x1,⟨v,rfl,rv⟩,sm,q'⟩
noncomputable def xq:ST:=λL H Q=>Q .brk L H
noncomputable def rr:ST:=λL H Q=>Q .cont L H
noncomputable def bM:ST:=λU U U=>False
private theorem z8 {pos:Pos}:S1 w hB k Γ (.Break pos) xq:=⟨λA env O H L s Q S q=>wpAny_Break ⟨O,H,L,.brk,Ext.refl _ _ _,S.inv,S.loc,rfl,Sm.refl _,q⟩,trivial⟩
private theorem xc {pos:Pos}:S1 w hB k Γ (.Continue pos) rr:=⟨λA env O H L s Q S q=>wpAny_Continue ⟨O,H,L,.cont,Ext.refl _ _ _,S.inv,S.loc,rfl,Sm.refl _,q⟩,trivial⟩
private theorem bT {a b:Option Expr} {pos:Pos}:S1 w hB k Γ (.Raise a b pos) bM:=⟨λA env O H L s Q S q=>q.elim,trivial⟩
noncomputable def ay:ST:=λL H Q=>Q .next L H
noncomputable def m7 (c:ST) (Q:Fl→Loc→MH→Prop):Fl→Loc→MH→Prop:=λfl L' H'=>match fl with
 | .next=>c L' H' Q
 | fl=>Q fl L' H'
noncomputable def aj (a b:ST):ST:=λL H Q=>a L H (m7 b Q)
private theorem ao:SS w hB k Γ [] ay:=⟨λA env O H L s Q S q=>wpAny_execs_nil ⟨O,H,L,.next,Ext.refl _ _ _,S.inv,S.loc,rfl,Sm.refl _,q⟩,trivial⟩
private theorem ah {st:Stmt} {rest:List Stmt} {T Tr:ST} (h:S1 w hB k Γ st T) (hr:SS w hB k Γ rest Tr):SS w hB k Γ (st :: rest) (aj T Tr):=by
 refine ⟨?_,trivial⟩
 intro A env O H L s Q S q
 refine wpAny_execs_cons (wpAny_mono (h.1 A env O H L s _ S q) (λf s' z=>?_) λU U z=>z)
 obtain ⟨O',H',L',fl,x1,I',l',fo,sm,q'⟩:=z
 cases fl with
 | next =>
  obtain rfl:f = .next:=fo
  exact wpAny_mono (hr.1 A env O' H' L' s' _ (S.nextW I' l') q') (λf s'' z=>z.after x1 sm) λU U z=>z
 | brk =>
  obtain rfl:f = .brk:=fo
  exact ⟨O',H',L',.brk,x1,I',l',rfl,sm,q'⟩
 | cont =>
  obtain rfl:f = .cont:=fo
  exact ⟨O',H',L',.cont,x1,I',l',rfl,sm,q'⟩
 | ret v =>
  obtain ⟨u,rfl,r⟩:=fo
  exact ⟨O',H',L',.ret v,x1,I',l',⟨u,rfl,r⟩,sm,q'⟩
noncomputable def uK (a c:ST) (L:Loc) (Q:Fl→Loc→MH→Prop):Bool→MH→Prop:=λv H'=>ifV v (th3 a L H' Q) (th3 c L H' Q)
noncomputable def sIf (t:BoT) (a b:ST):ST:=λL H Q=>t L H (uK a b L Q)
private theorem bj {test:Expr} {body orelse:List Stmt} {pos:Pos} {T:BoT} {Ta Tb:ST} (ht:SB w hB k Γ test T) (ha:SS w hB k Γ body Ta) (hb:SS w hB k Γ orelse Tb):S1 w hB k Γ (.If test body orelse pos) (sIf T Ta Tb):=by
 refine ⟨?_,trivial⟩
 intro A env O H L s Q S q
 refine wpAny_If (wpAny_mono (ht.1 A env O H L s _ S q) (λc s' z=>?_) λU U z=>z)
 obtain ⟨O',H',x1,I',sm,q'⟩:=z
 cases c with
 | true=>exact wpAny_mono (ha.1 A env O' H' L s' _ (S.next x1 I') q') (λf s'' z=>z.after x1.wk sm) λU U z=>z
 | false=>exact wpAny_mono (hb.1 A env O' H' L s' _ (S.next x1 I') q') (λf s'' z=>z.after x1.wk sm) λU U z=>z
noncomputable def zG (b o:ST):ST:=λL H Q=>b L H (m7 o Q)
private theorem Ag {body orelse:List Stmt} {h₀:ExceptHandler} {hs:List ExceptHandler} {pos:Pos} {Tb To:ST} (hb:SS w hB k Γ body Tb) (ho:SS w hB k Γ orelse To):S1 w hB k Γ (.Try body (h₀ :: hs) orelse [] pos) (zG Tb To):=by
 refine ⟨?_,trivial⟩
 intro A env O H L s Q S q
 refine wpAny_Try_except (wpAny_mono (hb.1 A env O H L s _ S q) (λf s' z=>?_) λU U z=>z.elim)
 obtain ⟨O',H',L',fl,x1,I',l',fo,sm,q'⟩:=z
 cases fl with
 | next =>
  obtain rfl:f = .next:=fo
  exact wpAny_mono (ho.1 A env O' H' L' s' _ (S.nextW I' l') q') (λf s'' z=>z.after x1 sm) λU U z=>z
 | brk =>
  obtain rfl:f = .brk:=fo
  exact ⟨O',H',L',.brk,x1,I',l',rfl,sm,q'⟩
 | cont =>
  obtain rfl:f = .cont:=fo
  exact ⟨O',H',L',.cont,x1,I',l',rfl,sm,q'⟩
 | ret v =>
  obtain ⟨u,rfl,r⟩:=fo
  exact ⟨O',H',L',.ret v,x1,I',l',⟨u,rfl,r⟩,sm,q'⟩
noncomputable def tU (o:Option MV) (K:Int→Prop):Prop:=match o with
 | some m=>cT m K
 | none=>False
noncomputable def xA (o i e:ET):ST:=λL H Q=>o L H λov H1=>i L H1 λiv H2=>tU (cy H2 ov iv) λold=>kL H2 ov .list∧e L H2 λv H3=>cT v λx=>iu ov iv (.int (old + x)) H3 (Q .next L)
private theorem rq {o:Option MV} {K:Int→Prop} (q:tU o K):∃ i,o = some (.int i)∧K i:=by
 cases o with
 | none=>exact False.elim q
 | some m =>
  obtain ⟨i,rfl,q⟩:=bm q
  exact ⟨i,rfl,q⟩
private theorem tt {A:Around} {O:Phi} {H:MH} {s:Shared} {m i r:MV} {v iv:Value} {P:Value→Shared→Prop} (I:Inv w hB O H s.heap) (rv:RV O s.heap m v) (ri:RV O s.heap i iv)
  (hr:cy H m i = some r) (p:∀ u t,RV O s.heap r u→P u { s with toks:=t }) (hm:kL H m .list):wpAny (MM w) A (getItem v iv) P Fls s:=by
 obtain ⟨a,l,rfl,hi⟩:=hm
 obtain ⟨q,hq,rfl⟩:=rv.ref_of
 cases i with
 | int kk =>
  obtain ⟨t,rfl⟩:=ri.int_of
  replace hr:itO H[a]? kk = some r:=hr
  rw [hi] at hr
  exact (rM I hq hi hr p).2
 | _=>exact noS hr
private theorem Af {oe ie value:Expr} {tpos pos:Pos} {To Ti Te:ET} (ho:SE w hB k Γ oe To) (hi:SE w hB k Γ ie Ti) (he:SE w hB k Γ value Te)
  (hst:∀ ov iv new,augStore ie ov iv new = (do holding [new,ov,iv] (setItem ov iv new);release [new,ov,iv] [];pure .next)):S1 w hB k Γ (.AugAssign (.Subscript oe ie tpos) .Add value pos) (xA To Ti Te):=by
 refine ⟨?_,trivial⟩
 intro A env O H L s Q S q
 refine wpAny_AugAssign_SubscriptAny ?_ hst
 refine wpAny_mono (ho.1 A env O H L s _ S q) (λov s1 z=>?_) λU U z=>z
 obtain ⟨O1,H1,om,x1,I1,ro,sm1,q1⟩:=z
 have S1:=S.next x1 I1
 refine wpAny_mono (hi.1 A env O1 H1 L s1 _ S1 q1) (λiv s2 z=>?_) λU U z=>z
 obtain ⟨O2,H2,im,x2,I2,ri,sm2,q2⟩:=z
 have S2:=S1.next x2 I2
 have ro2:=ro.mono x2.pre (x2.tup0 I1)
 obtain ⟨old,hold,q2⟩:=rq q2
 obtain ⟨hk,q2⟩:=q2
 refine tt I2 ro2 ri hold (λu t hu=>?_) hk
 obtain ⟨t',rfl⟩:=hu.int_of
 refine wpAny_mono (he.1 A env O2 H2 L _ _ (S2.toks t) q2) (λv s3 z=>?_) λU U z=>z
 obtain ⟨O3,H3,vm,x3,I3,rv,sm3,q3⟩:=z
 replace q3:=bm q3
 obtain ⟨x,rfl,q3⟩:=q3
 obtain ⟨t2,rfl⟩:=rv.int_of
 refine PySem.AutoIntOps.iadd_0 ?_
 have x3':Ext [] O2 s2.heap O3 s3.heap:=x3
 refine mC (s:={ s3 with toks:=s3.toks + 1 }) I3 (ro2.mono x3'.pre (x3'.tup0 I2)) (ri.mono x3'.pre (x3'.tup0 I2)) cG q3 λH4 s4 I4 x4 sm4 q4=>?_
 have x4':Ext [] O3 s3.heap O3 s4.heap:=x4
 have sm34:Sm s2 s4:=⟨sm4.gens.trans sm3.gens,sm4.os.trans sm3.os⟩
 exact ⟨O3,H4,L,.next,(((x1.trans x2).trans x3').trans x4').wk,I4,((S2.loc.next I2 x3').next I3 x4'),rfl,(sm1.trans sm2).trans sm34,q4⟩
end
end Mine
end
section
namespace Mine
section
variable {w:World} {hB:Heap} {k:Nat} {Γ:Ctx}
noncomputable def gD (t:BoT) (b:ST):ST:=λL H Q=>∃ (I:Nat→Loc→MH→Prop) (n:Nat),I n L H∧∀ n L H,I n L H→t L H λc H' =>
 if c then b L H' λfl L' H''=>match fl with
  | .next=>∃ m,m < n∧I m L' H''
  | .cont=>∃ m,m < n∧I m L' H''
  | .brk=>Q .next L' H''
  | .ret v=>Q (.ret v) L' H''
 else Q .next L H'
private theorem iA {test:Expr} {body:List Stmt} {pos:Pos} {T:BoT} {Tb:ST} (ht:SB w hB k Γ test T) (hb:SS w hB k Γ body Tb):S1 w hB k Γ (.While test body [] pos) (gD T Tb):=by
 refine ⟨?_,trivial⟩
 intro A env O H L s Q S q
 obtain ⟨I,n,h0,step⟩:=q
 refine wpAny_While (codeAny_whileLoop (λn s'=>∃ O' H' L',I n L' H'∧Ext (Wr env) O s.heap O' s'.heap∧Inv w hB O' H' s'.heap∧LocRep O' s'.heap Γ env L'∧Sm s s') ?_ n ⟨O,H,L,h0,Ext.refl _ _ _,S.inv,S.loc,Sm.refl _⟩)
 rintro n s1 ⟨O1,H1,L1,hI,x1,I1,l1,sm1⟩
 have S1:=S.nextW I1 l1
 refine wpAny_mono (ht.1 A env O1 H1 L1 s1 _ S1 (step n L1 H1 hI)) (λc s2 z=>?_) λU U z=>z.elim
 obtain ⟨O2,H2,x2,I2,sm2,q2⟩:=z
 cases c with
 | true =>
  rw [if_pos rfl] at q2 ⊢
  refine wpAny_mono (hb.1 A env O2 H2 L1 s2 _ (S1.next x2 I2) q2) (λf s3 z=>?_) λU U z=>z.elim
  obtain ⟨O3,H3,L3,fl,x3,I3,l3,fo,sm3,q3⟩:=z
  have xx:=(x1.trans x2.wk).trans x3
  have sm:=(sm1.trans sm2).trans sm3
  cases fl with
  | next =>
   obtain rfl:f = .next:=fo
   obtain ⟨m,hm,hI'⟩:=q3
   exact ⟨m,hm,O3,H3,L3,hI',xx,I3,l3,sm⟩
  | cont =>
   obtain rfl:f = .cont:=fo
   obtain ⟨m,hm,hI'⟩:=q3
   exact ⟨m,hm,O3,H3,L3,hI',xx,I3,l3,sm⟩
  | brk =>
   obtain rfl:f = .brk:=fo
   exact ⟨O3,H3,L3,.next,xx,I3,l3,rfl,sm,q3⟩
  | ret v =>
   obtain ⟨u,rfl,r⟩:=fo
   exact ⟨O3,H3,L3,.ret v,xx,I3,l3,⟨u,rfl,r⟩,sm,q3⟩
 | false =>
  rw [if_neg Bool.false_ne_true] at q2 ⊢
  exact wpAny_execs_nil ⟨O2,H2,L1,.next,x1.trans x2.wk,I2,S1.loc.next I1 x2,rfl,sm1.trans sm2,q2⟩
inductive It where
 | list (i:Nat) (l:List MV)
 | tup (l:List MV)
 | range (a:Int) (n:Nat) (c:Int)
 | enum (i:Nat) (l:List MV)
noncomputable def It.at (X:It) (j:Nat):Option MV:=match X with
 | .list _ l=>l[j]?
 | .tup l=>l[j]?
 | .range a n c=>if j < n then some (.int (a + j * c)) else none
 | .enum _ l=>(l[j]?).map λv=>.tup [.int j,v]
noncomputable def It.size:It→Nat
 | .list _ l=>l.length
 | .tup l=>l.length
 | .range _ n _=>n
 | .enum _ l=>l.length
noncomputable def It.ok (H:MH):It→Prop
 | .list i l=>H[i]? = some (.list l)
 | .enum i l=>H[i]? = some (.list l)
 | _=>True
private theorem okL {H:MH} {i:Nat} {l:List MV}:It.ok H (.list i l) = (H[i]? = some (.list l)):=rfl
noncomputable def IterAt (O:Phi) (h:Heap) (it:Value) (j:Nat) (F:List Addr):It→Prop
 | .list i l=>∃ I p,it = .ref I∧O[i]? = some p∧F = [I]∧h.IsListIter I p.1 j
 | .tup l=>∃ I t items,it = .ref I∧F = [I]∧h.IsTupleIter I t j∧h.IsTuple t items∧RVs O h l items.toList
 | .range a n c=>∃ I,it = .ref I∧F = [I]∧IsRangeIter h I (a + j * c) (n - j) c
 | .enum i l=>∃ e I p old,it = .ref e∧O[i]? = some p∧F = [e,I]∧e≠I∧IsEnum h e I j old∧h.IsListIter I p.1 j
private theorem uw {O O':Phi} {i:Nat} {p:Addr×Option Addr} (h:O <+: O') (e:O[i]? = some p):O'[i]? = some p:=by
 obtain ⟨ψ,rfl⟩:=h
 rw [List.getElem?_append_left (List.getElem?_eq_some_iff.mp e).1];exact e
private theorem IterAt.mono {O O':Phi} {h h':Heap} {it:Value} {j:Nat} {F:List Addr} {X:It} (x:IterAt O h it j F X) (pre:O <+: O') (kt:∀ a items,h.IsTuple a items→h'.IsTuple a items) (kF:∀ a∈F,∀ o,h.get? a = some o→h'.get? a = some o) :
  IterAt O' h' it j F X:=by
 cases X with
 | list i l =>
  obtain ⟨I,p,e1,e2,rfl,o,e,r⟩:=x
  exact ⟨I,p,e1,uw pre e2,rfl,o,kF I (.head _) _ e,r⟩
 | tup l =>
  obtain ⟨I,t,items,e1,rfl,⟨o,e,r⟩,e3,e4⟩:=x
  exact ⟨I,t,items,e1,rfl,⟨o,kF I (.head _) _ e,r⟩,kt _ _ e3,e4.mono pre kt⟩
 | range a n c =>
  obtain ⟨I,e1,rfl,e⟩:=x
  exact ⟨I,e1,rfl,kF I (.head _) _ e⟩
 | enum i l =>
  obtain ⟨e,I,p,old,e1,e2,rfl,ne,h1,o,h2,r⟩:=x
  exact ⟨e,I,p,old,e1,uw pre e2,rfl,ne,kF e (.head _) _ h1,o,kF I (.tail _ (.head _)) _ h2,r⟩
private theorem Inv.writeF {O:Phi} {H:MH} {h h':Heap} {F:List Addr} (I:Inv w hB O H h) (hB0:∀ a∈F,hB.get? a = none) (hn:∀ a∈F,a∉own O) (keep:∀ b o,b∉F→h.get? b = some o→h'.get? b = some o) (there:∀ a∈F,h'.get? a≠none)
  (nt:∀ a∈F,∀ items,¬ h.IsTuple a items):Inv w hB O H h'∧Ext F O h O h'∧∀ a items,h.IsTuple a items→h'.IsTuple a items:=by
 have kt:∀ a items,h.IsTuple a items→h'.IsTuple a items:=λa items t=>by
  obtain ⟨o,e,r⟩:=id t
  by_cases hb:a∈F
  ·exact absurd t (nt a hb items)
  ·exact ⟨o,keep a o hb e,r⟩
 refine ⟨⟨I.len,I.nodup,λb o e=>?_,I.sep,λi m p hi hp=>?_⟩,⟨List.prefix_refl _,λa ha=>.inl ha,λb o e n1 n2=>keep b o n2 e,λb e=>?_⟩,kt⟩
 ·refine keep b o (λz=>?_) (I.base b o e)
  rw [hB0 b z] at e;cases e
 ·have R:=I.obj i m p hi hp
  have no:∀ b,b∈own O→h'.get? b = h.get? b:=λb hb=>by
   obtain ⟨o,e,_⟩:=I.ownThere hb
   rw [e];exact keep b o (λz=>hn b z hb) e
  exact R.mono (List.prefix_refl _) kt (no _ (ey hp)) λd hd=>no d (jH hp hd)
 ·by_cases z:b∈F
  ·exact there b z
  ·cases q:h.get? b with
   | none=>exact absurd q e
   | some o=>rw [keep b o z q];simp
private theorem IterAt.F_ok {O:Phi} {h:Heap} {it:Value} {j:Nat} {F:List Addr} {X:It} (x:IterAt O h it j F X):∀ a∈F,h.get? a≠none∧∀ items,¬ h.IsTuple a items:=by
 have one:∀ {I a:Addr} {o:Obj} {k:String},h.get? I = some o→o.cls = .type k→(k == "tuple") = false→a = I→h.get? a≠none∧∀ items,¬ h.IsTuple a items:=λe c n z=>by
  subst z
  exact ⟨kT e,mO e c n⟩
 cases X with
 | list i l =>
  obtain ⟨I,p,e1,e2,rfl,o,e,c,r⟩:=x
  exact λa ha=>one e c (by decide) (List.mem_singleton.mp ha)
 | tup l =>
  obtain ⟨I,t,items,e1,rfl,⟨o,e,c,r⟩,e3,e4⟩:=x
  exact λa ha=>one e c (by decide) (List.mem_singleton.mp ha)
 | range a n c =>
  obtain ⟨I,e1,rfl,e⟩:=x
  exact λa ha=>one e rfl (by decide) (List.mem_singleton.mp ha)
 | enum i l =>
  obtain ⟨e,I,p,old,e1,e2,rfl,ne,h1,o,h2,c,r⟩:=x
  intro a ha
  rcases List.mem_cons.mp ha with z | ha
  ·exact one h1 rfl (by decide) z
  ·exact one h2 c (by decide) (List.mem_singleton.mp ha)
noncomputable def og:It→Expr→Prop
 | .list ..,t=>(∃ x p,t = .Name x p)∨∃ elts kd p,t = .Tuple elts kd p
 | .enum ..,t=>∃ elts kd p,t = .Tuple elts kd p
 | _,t=>∃ x p,t = .Name x p
set_option tactic.hygienic true in
private theorem IterAt.next {A:Around} {O:Phi} {H:MH} {s:Shared} {it:Value} {j:Nat} {F:List Addr} {X:It} {m:MV} {target:Expr} {P:Value→Shared→Prop} (R:Room k A) (I:Inv w hB O H s.heap) (x:IterAt O s.heap it j F X) (hn:∀ a∈F,a∉own O) (hB0:∀ a∈F,hB.get? a = none)
  (ok:X.ok H) (hm:X.at j = some m) (htg:og X target)
  (p:∀ v s',RV O s'.heap m v→IterAt O s'.heap it (j + 1) F X→Inv w hB O H s'.heap→Ext F O s.heap O s'.heap→Sm s s'→P v s') :
  wpAny (MM w) A (pyNext it) (λr s₁=>∃ v,r = some v∧wpAny (MM w) A (letOwnedTupleGo target it v) (λU s₂=>P v s₂) Fls s₁) Fls s:=by
 have fok:=x.F_ok
 cases X with
 | list i l =>
  obtain ⟨It,pp,rfl,e2,rfl,hit⟩:=x
  obtain ⟨us,n,h1,h2,hL,hl,hr⟩:=bU I ok e2
  obtain ⟨u,hu,ru⟩:=hr.get hm
  refine wpAny_pyNext_list_item hit hl (by simpa using hu) λh' hit' hsb=>⟨u,rfl,?_⟩
  have z:=I.writeF (h':=h') hB0 hn (λb o hb e=>(hsb.2 b (λq=>hb (by rw [q];exact .head _))).trans e) (λa ha=>by
   obtain rfl:=List.mem_singleton.mp ha
   obtain ⟨o,e,_⟩:=hit';rw [e];simp) λa ha=>(fok a ha).2
  have fin:=p u { s with heap:=h' } (ru.mono (List.prefix_refl _) z.2.2) ⟨It,pp,rfl,e2,rfl,hit'⟩ z.1 z.2.1 ⟨rfl,rfl⟩
  rcases htg with ⟨x,px,rfl⟩ | ⟨elts,kd,px,rfl⟩
  ·exact wpAny_pure fin
  ·cases u with
   | ref a=>exact wpAny_letOwnedTupleGo_listiter hit' fin
   | _=>exact wpAny_pure fin
 | tup l =>
  obtain ⟨It,t,items,rfl,rfl,hit,ht,hr⟩:=x
  obtain ⟨u,hu,ru⟩:=hr.get hm
  refine wpAny_pyNext_tuple_item hit ht (by simpa using hu) λh' hit' hsb=>⟨u,rfl,?_⟩
  have z:=I.writeF (h':=h') hB0 hn (λb o hb e=>(hsb.2 b (λq=>hb (by rw [q];exact .head _))).trans e) (λa ha=>by
   obtain rfl:=List.mem_singleton.mp ha
   obtain ⟨o,e,_⟩:=hit';rw [e];simp) λa ha=>(fok a ha).2
  have fin:=p u { s with heap:=h' } (ru.mono (List.prefix_refl _) z.2.2) ⟨It,t,items,rfl,rfl,hit',z.2.2 _ _ ht,hr.mono (List.prefix_refl _) z.2.2⟩ z.1 z.2.1 ⟨rfl,rfl⟩
  obtain ⟨x,px,rfl⟩:=htg
  exact wpAny_pure fin
 | range a n c =>
  obtain ⟨It,rfl,rfl,hit⟩:=x
  replace hm:(if j < n then some (MV.int (a + j * c)) else none) = some m:=hm
  split at hm
  ·rename_i hlt
   cases hm
   refine wpAny_pyNext_range_item hit (by omega) λh' hit' hsb=>⟨_,rfl,?_⟩
   have z:=I.writeF (h':=h') hB0 hn (λb o hb e=>(hsb.2 b (λq=>hb (by rw [q];exact .head _))).trans e) (λa ha=>by
    obtain rfl:=List.mem_singleton.mp ha
    rw [hit'];simp) λa ha=>(fok a ha).2
   have e1:a + (j:Int) * c + c = a + ((j + 1:Nat):Int) * c:=by
    rw [Int.natCast_add,Int.add_mul];simp;omega
   have e2:(n:Int) - j - 1 = n - ((j + 1:Nat):Int):=by omega
   rw [e1,e2] at hit'
   have fin:=p (.int (a + j * c) s.toks) { s with heap:=h',toks:=s.toks + 1 } cG ⟨It,rfl,rfl,hit'⟩ z.1 z.2.1 ⟨rfl,rfl⟩
   obtain ⟨x,px,rfl⟩:=htg
   exact wpAny_pure fin
  ·cases hm
 | enum i l =>
  obtain ⟨e,It,pp,old,rfl,e2,rfl,ne,hen,hit⟩:=x
  obtain ⟨us,n,h1,h2,hL,hl,hr⟩:=bU I ok e2
  obtain ⟨mv,hmv,rfl⟩:=Option.map_eq_some_iff.mp hm
  obtain ⟨u,hu,ru⟩:=hr.get hmv
  obtain ⟨elts,kd,px,rfl⟩:=htg
  refine wpAny_pyNext_enum_item hen hit hl (by simpa using hu) ne λh1 heo hit1 ht1 hz1 hk1=>⟨_,rfl,?_⟩
  refine wpAny_letOwnedTupleGo_enum heo λh2 he2 hs2=>?_
  have hs2':Heap.SameBut e h1 h2:=hs2
  have heH:e < s.heap.objs.size:=Heap.lt_size hen
  obtain ⟨oi,hoi,_⟩:=id hit
  have hiH:It < s.heap.objs.size:=Heap.lt_size hoi
  have keep:∀ b o,b∉[e,It]→s.heap.get? b = some o→h2.get? b = some o:=λb o hb eb=>by
   have n1:b≠e:=λq=>hb (by rw [q];exact .head _)
   have n2:b≠It:=λq=>hb (by rw [q];exact .tail _ (.head _))
   exact (hs2'.2 b n1).trans (hk1 b o n1 n2 eb)
  have hit2:h2.IsListIter It pp.1 (j + 1):=by
   obtain ⟨o,eo,r⟩:=hit1
   exact ⟨o,(hs2'.2 It (Ne.symm ne)).trans eo,r⟩
  have ht2:h2.IsTuple s.heap.objs.size #[.int j s.toks,u]:=⟨_,(hs2'.2 _ (Nat.ne_of_gt heH)).trans ht1,rfl,_,rfl⟩
  have z:=I.writeF (h':=h2) hB0 hn keep (λa ha=>by
   rcases List.mem_cons.mp ha with rfl | ha
   ·have:h2.get? a = _:=he2
    rw [this];simp
   ·obtain rfl:=List.mem_singleton.mp ha
    obtain ⟨o,eo,_⟩:=hit2;rw [eo];simp) λa ha=>(fok a ha).2
  refine p _ { s with heap:=h2,toks:=s.toks + 1 } (wP ht2 (by rw [sizeLine_eq];show 2≤16777216;decide) (.mk cG (.mk (ru.mono (List.prefix_refl _) z.2.2) (RVs_nil.mpr rfl)))) ⟨e,It,pp,u,rfl,e2,rfl,ne,?_,hit2⟩ z.1 z.2.1 ⟨rfl,rfl⟩
  have:IsEnum h2 e It ((j:Int) + 1) u:=he2
  rw [show ((j + 1:Nat):Int) = (j:Int) + 1 by exact rfl];exact this
private theorem Inv.writeF0 {O:Phi} {H:MH} {h h':Heap} {F:List Addr} (I:Inv w hB O H h) (hB0:∀ a∈F,hB.get? a = none) (hn:∀ a∈F,a∉own O) (keep:∀ b o,b∉F→h.get? b = some o→h'.get? b = some o)
  (nt:∀ a∈F,∀ items,¬ h.IsTuple a items):Inv w hB O H h'∧∀ a items,h.IsTuple a items→h'.IsTuple a items:=by
 have kt:∀ a items,h.IsTuple a items→h'.IsTuple a items:=λa items t=>by
  obtain ⟨o,e,r⟩:=id t
  by_cases hb:a∈F
  ·exact absurd t (nt a hb items)
  ·exact ⟨o,keep a o hb e,r⟩
 refine ⟨⟨I.len,I.nodup,λb o e=>?_,I.sep,λi m p hi hp=>?_⟩,kt⟩
 ·refine keep b o (λz=>?_) (I.base b o e)
  rw [hB0 b z] at e;cases e
 ·have R:=I.obj i m p hi hp
  have no:∀ b,b∈own O→h'.get? b = h.get? b:=λb hb=>by
   obtain ⟨o,e,_⟩:=I.ownThere hb
   rw [e];exact keep b o (λz=>hn b z hb) e
  exact R.mono (List.prefix_refl _) kt (no _ (ey hp)) λd hd=>no d (jH hp hd)
private theorem IterAt.stop {A:Around} {O:Phi} {H:MH} {s:Shared} {it:Value} {j:Nat} {F:List Addr} {X:It} {P:Shared→Prop} (R:Room k A) (I:Inv w hB O H s.heap) (x:IterAt O s.heap it j F X) (ok:X.ok H) (hm:X.at j = none)
  (p:∀ s',(∀ b o,b∉F→s.heap.get? b = some o→s'.heap.get? b = some o)→Sm s s'→P s'):wpAny (MM w) A (pyNext it) (λr s'=>r = none∧P s') Fls s:=by
 cases X with
 | list i l =>
  obtain ⟨It,pp,rfl,e2,rfl,hit⟩:=x
  obtain ⟨us,n,h1,h2,hL,hl,hr⟩:=bU I ok e2
  have hm':l[j]? = none:=hm
  refine wpAny_pyNext_list_end R.handled hit hl (by rw [List.getElem?_eq_none_iff] at hm';rw [Array.getElem?_eq_none_iff];omega) λh' he=>⟨rfl,p _ (λb o hb e=>he b o (λq=>hb (by rw [q];exact .head _)) e) ⟨rfl,rfl⟩⟩
 | tup l =>
  obtain ⟨It,t,items,rfl,rfl,hit,ht,hr⟩:=x
  have hm':l[j]? = none:=hm
  have hlen:=hr.length
  rw [Array.length_toList] at hlen
  refine wpAny_pyNext_tuple_end R.handled hit ht (by rw [List.getElem?_eq_none_iff] at hm';rw [Array.getElem?_eq_none_iff];omega) λh' he=>⟨rfl,p _ (λb o hb e=>he b o (λq=>hb (by rw [q];exact .head _)) e) ⟨rfl,rfl⟩⟩
 | range a n c =>
  obtain ⟨It,rfl,rfl,hit⟩:=x
  replace hm:(if j < n then some (MV.int (a + j * c)) else none) = none:=hm
  have hle:¬ j < n:=λh=>by rw [if_pos h] at hm;cases hm
  refine wpAny_pyNext_range_end R.handled hit (by omega) λh' he=>⟨rfl,p _ (λb o hb e=>he b o (λq=>hb (by rw [q];exact .head _)) e) ⟨rfl,rfl⟩⟩
 | enum i l =>
  obtain ⟨e,It,pp,old,rfl,e2,rfl,ne,hen,hit⟩:=x
  obtain ⟨us,n,h1,h2,hL,hl,hr⟩:=bU I ok e2
  have hm':l[j]? = none:=by
   cases q:l[j]? with
   | none=>rfl
   | some v =>
    have:(l[j]?).map (λv=>MV.tup [.int j,v]) = none:=hm
    rw [q] at this;cases this
  refine wpAny_pyNext_enum_end R.handled hen hit hl (by rw [List.getElem?_eq_none_iff] at hm';rw [Array.getElem?_eq_none_iff];omega) λh' he=>⟨rfl,p _ (λb o hb e=>he b o (λq=>hb (by rw [q];exact .tail _ (.head _))) e) ⟨rfl,rfl⟩⟩
private theorem Ext.transF {W F:List Addr} {O O1 O2:Phi} {h h1 h2:Heap} (x:Ext W O h O1 h1) (y:Ext F O1 h1 O2 h2) (fF:∀ a∈F,h.get? a = none):Ext W O h O2 h2:=by
 refine ⟨x.pre.trans y.pre,λa ha=>?_,λb o e n1 n2=>?_,λb e=>y.there b (x.there b e)⟩
 ·rcases y.new a ha with q | q
  ·exact x.new a q
  ·by_cases z:h.get? a = none
   ·exact .inr z
   ·exact absurd q (x.there a z)
 ·refine y.keep b o (x.keep b o e n1 n2) (λq=>?_) λq=>?_
  ·rcases x.new b q with z | z
   ·exact n1 z
   ·rw [e] at z;cases z
  ·rw [fF b q] at e;cases e
private theorem Ext.endF {W F:List Addr} {O O1:Phi} {h h1 h2:Heap} (x:Ext W O h O1 h1) (keep:∀ b o,b∉F→h1.get? b = some o→h2.get? b = some o) (fF:∀ a∈F,h.get? a = none):Ext W O h O1 h2:=by
 refine ⟨x.pre,x.new,λb o e n1 n2=>?_,λb e=>?_⟩
 ·refine keep b o (λq=>?_) (x.keep b o e n1 n2)
  rw [fF b q] at e;cases e
 ·cases q:h1.get? b with
  | none=>exact absurd q (x.there b e)
  | some o=>rw [keep b o (λz=>e (fF b z)) q];simp
private theorem LocRep.kept {O O':Phi} {h h':Heap} {env:Env} {L:Loc} (l:LocRep O h Γ env L) (pre:O <+: O') (new:∀ a∈own O',a∈own O∨h.get? a = none) (kt:∀ a items,h.IsTuple a items→h'.IsTuple a items) (kW:∀ a∈Al env,∀ o,h.get? a = some o→h'.get? a = some o):LocRep O' h' Γ env L:=by
 obtain ⟨m,hn,hv⟩:=l.ns
 obtain ⟨o,es,ep,eo,ed,er⟩:=id hn
 have kc:∀ y c ov,env.cells.lookup y = some c→h.IsCell c ov→h'.IsCell c ov:=λy c ov e z=>by
  obtain ⟨oc,e1,e2⟩:=z
  exact ⟨oc,kW c (mem_Al.mpr (.inr ⟨y,e⟩)) _ e1,e2⟩
 have out:∀ a o,h.get? a = some o→a∉own O→a∉own O':=λa o e n q=>by
  rcases new a q with z | z
  ·exact n z
  ·rw [e] at z;cases z
 refine ⟨l.len,⟨m,⟨o,es,ep,kW _ (.head _) _ eo,ed,er⟩,λi y mv h1 h2=>(hv i y mv h1 h2).mono pre kt λc ov e z=>kc _ c ov e z⟩,out _ _ eo l.outL,λy c e=>?_,l.apart,λy c e=>?_⟩
 ·obtain ⟨ov,oc,e1,e2⟩:=l.cells y c e
  exact out _ _ e1 (l.outC _ _ e)
 ·obtain ⟨ov,z⟩:=l.cells y c e
  exact ⟨ov,kc y c ov e z⟩
private theorem LocRep.there {O:Phi} {h:Heap} {env:Env} {L:Loc} (l:LocRep O h Γ env L):∀ a∈Al env,h.get? a≠none:=by
 intro a ha
 rcases mem_Al.mp ha with rfl | ⟨z,hz⟩
 ·obtain ⟨m,hn,_⟩:=l.ns
  obtain ⟨o',es,ep,e',d'⟩:=lP hn
  rw [e'];simp
 ·obtain ⟨ov,oc,e1,e2⟩:=l.cells z a hz
  rw [e1];simp
noncomputable abbrev IT:=Loc→MH→(It→MH→Prop)→Prop
inductive IPost (w:World) (hB:Heap) (O:Phi) (s:Shared) (kd:It→Prop) (Q:It→MH→Prop) (it:Value) (s₂:Shared):Prop where
 | mk (O':Phi) (H':MH) (X:It) (F:List Addr) (x:Ext [] O s.heap O' s₂.heap) (i:Inv w hB O' H' s₂.heap) (a:IterAt O' s₂.heap it 0 F X) (f:∀ a∈F,s.heap.get? a = none∧a∉own O') (m:Sm s s₂) (k:kd X) (o:X.ok H') (q:Q X H')
noncomputable def SI (w:World) (hB:Heap) (k:Nat) (Γ:Ctx) (e:Expr) (T:IT) (kd:It→Prop):Prop :=
 (∀ A env O H L s Q,Sit w hB k Γ A env O H L s→T L H Q→wpAny (MM w) A (eval e env) (λx s₁=>wpAny (MM w) A (pyIter x) (IPost w hB O s kd Q) Fls s₁) Fls s)
 ∧ ∀ x env,foldedSetIterable e env x = pure x
noncomputable def cv (it:IT) (a:AT) (b:ST):ST:=λL H Q=>it L H λX H0=>∃ I:Nat→Loc→MH→Prop,I 0 L H0∧(∀ j L H,I j L H→X.ok H) ∧
 (∀ j m L H,X.at j = some m→I j L H→a m L H λL' H'=>b L' H' λfl L'' H''=>match fl with
  | .next=>I (j + 1) L'' H''
  | .cont=>I (j + 1) L'' H''
  | .brk=>Q .next L'' H''
  | .ret v=>Q (.ret v) L'' H'')∧∀ L H,I X.size L H→Q .next L H
private theorem It.at_size {X:It} {j:Nat} (h:j≤X.size):(X.at j = none↔j = X.size):=by
 cases X with
 | list i l=>show l[j]? = none↔j = l.length;rw [List.getElem?_eq_none_iff];have:j≤l.length:=h;omega
 | tup l=>show l[j]? = none↔j = l.length;rw [List.getElem?_eq_none_iff];have:j≤l.length:=h;omega
 | range a n c =>
  show (if j < n then some (MV.int (a + j * c)) else none) = none↔j = n
  have:j≤n:=h
  constructor
  ·intro q
   by_cases z:j < n
   ·rw [if_pos z] at q;cases q
   ·omega
  ·intro q;rw [if_neg (by omega)]
 | enum i l =>
  show (l[j]?).map (λv=>MV.tup [.int j,v]) = none↔j = l.length
  rw [Option.map_eq_none_iff,List.getElem?_eq_none_iff];have:j≤l.length:=h;omega
structure NextP (w:World) (hB:Heap) (O:Phi) (H:MH) (m:MV) (it:Value) (j:Nat) (F:List Addr) (X:It) (s:Shared) (v:Value) (s':Shared):Prop where
 rv:RV O s'.heap m v
 ia:IterAt O s'.heap it (j + 1) F X
 iv:Inv w hB O H s'.heap
 ex:Ext F O s.heap O s'.heap
 sm:Sm s s'
inductive ForI (w:World) (hB:Heap) (Γ:Ctx) (env:Env) (O:Phi) (s:Shared) (it:Value) (F:List Addr) (X:It) (I:Nat→Loc→MH→Prop) (n:Nat) (s':Shared):Prop where
 | mk (j:Nat) (O':Phi) (H':MH) (L':Loc) (e:n = X.size - j) (le:j≤X.size) (i:I j L' H') (x:Ext (Wr env) O s.heap O' s'.heap) (iv:Inv w hB O' H' s'.heap) (l:LocRep O' s'.heap Γ env L') (sm:Sm s s') (ia:IterAt O' s'.heap it j F X) (nF:∀ a∈F,a∉own O')
private theorem b9 {target iter:Expr} {body:List Stmt} {pos:Pos} {Ti:IT} {kd:It→Prop} {Ta:AT} {Tb:ST} (hi:SI w hB k Γ iter Ti kd) (ha:SA w hB k Γ target Ta) (hb:SS w hB k Γ body Tb)
  (htg:∀ X,kd X→og X target):S1 w hB k Γ (.For target iter body [] pos) (cv Ti Ta Tb):=by
 refine ⟨?_,trivial⟩
 intro A env O H L s Q S q
 refine wpAny_For ?_ (λx=>hi.2 x env)
 refine wpAny_mono (hi.1 A env O H L s _ S q) (λx s1 z=>?_) λU U z=>z
 refine wpAny_mono z (λit s2 z=>?_) λU U z=>z
 obtain ⟨O0,H0,X,F,x0,I0,i0,f0,sm0,tg0,ok0,I,hI0,hok,step,fin⟩:=z
 have tg:=htg X tg0
 have hB0:∀ a∈F,hB.get? a = none:=λa ha=>by
  cases e:hB.get? a with
  | none=>rfl
  | some o=>have:=S.inv.base a o e;rw [(f0 a ha).1] at this;cases this
 have fF:∀ a∈F,s.heap.get? a = none:=λa ha=>(f0 a ha).1
 have wF:∀ a∈Al env,a∉F:=λa ha hF=>S.loc.there a ha (fF a hF)
 refine codeAny_forLoop_any (ForI w hB Γ env O s it F X I) ?_ X.size
  ⟨0,O0,H0,L,rfl,Nat.zero_le _,hI0,x0.wk,I0,S.loc.next S.inv x0,sm0,i0,λa ha=>(f0 a ha).2⟩
 rintro n s3 ⟨j,O3,H3,L3,rfl,hj,hI,x3,I3,l3,sm3,i3,nF⟩
 have ok3:=hok j L3 H3 hI
 cases hm:X.at j with
 | none =>
  have ej:=(It.at_size hj).mp hm
  subst ej
  refine wpAny_mono (i3.stop S.room I3 ok3 hm (P:=λs'=>(∀ b o,b∉F→s3.heap.get? b = some o→s'.heap.get? b = some o)∧Sm s3 s') λs' a b=>⟨a,b⟩) (λr s4 z=>?_) λU U z=>z.elim
  obtain ⟨rfl,keep,sm4⟩:=z
  have z:=I3.writeF0 hB0 nF keep λa ha=>(i3.F_ok a ha).2
  refine wpAny_execs_nil ⟨O3,H3,L3,.next,x3.endF keep fF,z.1,l3.kept (List.prefix_refl _) (λa h=>.inl h) z.2 (λa ha o e=>keep a o (wF a ha) e),rfl,sm3.trans sm4,fin _ _ hI⟩
 | some m =>
  have hlt:j < X.size:=Nat.lt_of_le_of_ne hj λe=>by rw [(It.at_size hj).mpr e] at hm;cases hm
  refine wpAny_mono (i3.next (target:=target) (P:=NextP w hB O3 H3 m it j F X s3) S.room I3 nF hB0 ok3 hm tg λv s' a b c d e=>⟨a,b,c,d,e⟩) (λr s4 z=>?_) λU U z=>z.elim
  obtain ⟨v,rfl,z⟩:=z
  refine wpAny_mono z (λU s5 z=>?_) λU U z=>z.elim
  obtain ⟨rv,i5,I5,x5,sm5⟩:=z
  have l5:LocRep O3 s5.heap Γ env L3:=l3.kept (List.prefix_refl _) (λa h=>.inl h) (x5.tup I3 λa ha=>(i3.F_ok a ha).2) λa ha o e=>x5.keep a o e (λq=>by
   rcases mem_Al.mp ha with rfl | ⟨zz,hz⟩
   ·exact l3.outL q
   ·exact l3.outC _ _ hz q) (wF a ha)
  have S5:Sit w hB k Γ A env O3 H3 L3 s5:=S.nextW I5 l5
  refine wpAny_mono (ha.1 A env O3 H3 L3 s5 _ m v S5 rv (step j m L3 H3 hm hI)) (λU s6 z=>?_) λU U z=>z.elim
  obtain ⟨O6,H6,L6,x6,I6,l6,sm6,q6⟩:=z
  have S6:=S5.nextW I6 l6
  refine wpAny_mono (hb.1 A env O6 H6 L6 s6 _ S6 q6) (λf s7 z=>?_) λU U z=>z.elim
  obtain ⟨O7,H7,L7,fl,x7,I7,l7,fo,sm7,q7⟩:=z
  have x57:=x6.trans x7
  have xx:Ext (Wr env) O s.heap O7 s7.heap:=(x3.transF x5 fF).trans x57
  have sm:=((sm3.trans sm5).trans sm6).trans sm7
  have kF:∀ a∈F,∀ o,s5.heap.get? a = some o→s7.heap.get? a = some o:=λa ha o e=>x57.keep a o e (nF a ha) λq=>wF a (j8 q) ha
  have nF7:∀ a∈F,a∉own O7:=λa ha q=>by
   rcases x57.new a q with z | z
   ·exact nF a ha z
   ·exact (i5.F_ok a ha).1 z
  have i7:IterAt O7 s7.heap it (j + 1) F X:=i5.mono x57.pre (S5.tupW x57) kF
  cases fl with
  | next =>
   obtain rfl:f = .next:=fo
   exact ⟨_,wn hlt,j + 1,O7,H7,L7,rfl,hlt,q7,xx,I7,l7,sm,i7,nF7⟩
  | cont =>
   obtain rfl:f = .cont:=fo
   exact ⟨_,wn hlt,j + 1,O7,H7,L7,rfl,hlt,q7,xx,I7,l7,sm,i7,nF7⟩
  | brk =>
   obtain rfl:f = .brk:=fo
   exact ⟨O7,H7,L7,.next,xx,I7,l7,rfl,sm,q7⟩
  | ret v =>
   obtain ⟨u,rfl,r⟩:=fo
   exact ⟨O7,H7,L7,.ret v,xx,I7,l7,⟨u,rfl,r⟩,sm,q7⟩
noncomputable def uk (X:It):Prop:=∃ i l,X = .list i l
noncomputable def zQ (X:It):Prop:=∃ l,X = .tup l
noncomputable def tG (X:It):Prop:=∃ a n c,X = .range a n c
noncomputable def lx (X:It):Prop:=∃ i l,X = .enum i l
private theorem aR {x:Str} {p:Pos}:∀ X,uk X→og X (.Name x p):=by rintro _ ⟨i,l,rfl⟩;exact .inl ⟨_,_,rfl⟩
private theorem dt {elts:List Expr} {kd:Nat} {p:Pos}:∀ X,uk X→og X (.Tuple elts kd p):=by rintro _ ⟨i,l,rfl⟩;exact .inr ⟨_,_,_,rfl⟩
private theorem lz {x:Str} {p:Pos}:∀ X,zQ X→og X (.Name x p):=by rintro _ ⟨l,rfl⟩;exact ⟨_,_,rfl⟩
private theorem cL {x:Str} {p:Pos}:∀ X,tG X→og X (.Name x p):=by rintro _ ⟨a,n,c,rfl⟩;exact ⟨_,_,rfl⟩
private theorem cQ {elts:List Expr} {kd:Nat} {p:Pos}:∀ X,lx X→og X (.Tuple elts kd p):=by rintro _ ⟨i,l,rfl⟩;exact ⟨_,_,_,rfl⟩
noncomputable def yv (m:MV) (K:List MV→Prop):Prop:=match m with
 | .tup l=>K l
 | _=>False
private theorem tB {m:MV} {K:List MV→Prop} (q:yv m K):∃ l,m = .tup l∧K l:=by
 cases m with
 | tup l=>exact ⟨l,rfl,q⟩
 | _=>exact False.elim q
noncomputable def bD (T:ET):IT:=λL H Q=>T L H λv H'=>eL v λi=>dO H'[i]? λl=>Q (.list i l) H'
noncomputable def xf (T:ET):IT:=λL H Q=>T L H λv H'=>yv v λl=>Q (.tup l) H'
private theorem dY {O:Phi} {H:MH} {h:Heap} {a:Addr} (I:Inv w hB O H h) (ha:h.get? a = none):a∉own O:=λhm=>by
 obtain ⟨o,eo,_⟩:=I.ownThere hm
 rw [ha] at eo;cases eo
private theorem dy {W:List Addr} {O O':Phi} {h h':Heap} (x:Ext W O h O' h') {a:Addr} (ha:h'.get? a = none):h.get? a = none:=by
 cases e:h.get? a with
 | none=>rfl
 | some o=>exact absurd ha (x.there a (kT e))
private theorem bp {e:Expr} {T:ET} (he:SE w hB k Γ e T) (hf:∀ x env,foldedSetIterable e env x = pure x):SI w hB k Γ e (bD T) uk:=by
 refine ⟨λA env O H L s Q S q=>?_,hf⟩
 refine wpAny_mono (he.1 A env O H L s _ S q) (λv s' z=>?_) λU U z=>z
 obtain ⟨O',H',mv,x1,I',rv,sm,q'⟩:=z
 replace q':=bP q'
 obtain ⟨i,rfl,q'⟩:=q'
 obtain ⟨p,hp,rfl⟩:=rv.ref_of
 obtain ⟨l,hi,q'⟩:=cK q'
 obtain ⟨us,n,h1,h2,hL,hl,hr⟩:=bU I' hi hp
 refine wpAny_pyIter_list hl ?_
 have z:=I'.grow (bR s'.heap { cls:=.type "list_iterator",data:=.fields #[.ref p.1,.int 0 0] })
 refine ⟨O',H',.list i l,[s'.heap.objs.size],x1.trans z.2,z.1,⟨_,p,rfl,hp,rfl,⟨_,Heap.get?_push_size _ rfl,rfl,rfl⟩⟩,λa ha=>?_,⟨sm.gens,sm.os⟩,⟨i,l,rfl⟩,hi,q'⟩
 obtain rfl:=List.mem_singleton.mp ha
 exact ⟨dy x1 (bF _),dY I' (bF _)⟩
private theorem vZ {e:Expr} {T:ET} (he:SE w hB k Γ e T) (hf:∀ x env,foldedSetIterable e env x = pure x):SI w hB k Γ e (xf T) zQ:=by
 refine ⟨λA env O H L s Q S q=>?_,hf⟩
 refine wpAny_mono (he.1 A env O H L s _ S q) (λv s' z=>?_) λU U z=>z
 obtain ⟨O',H',mv,x1,I',rv,sm,q'⟩:=z
 replace q':=tB q'
 obtain ⟨l,rfl,q'⟩:=q'
 obtain ⟨t,items,rfl,ht,hz,hr⟩:=rv.tup_of
 refine wpAny_pyIter_tuple ht ?_
 have keep:=bR s'.heap { cls:=.type "tuple_iterator",data:=.fields #[.ref t,.int 0 0] }
 have z:=I'.grow keep
 refine ⟨O',H',.tup l,[s'.heap.objs.size],x1.trans z.2,z.1,⟨_,t,items,rfl,rfl,⟨_,Heap.get?_push_size _ rfl,rfl,rfl⟩,ct keep _ _ ht,hr.mono (List.prefix_refl _) (ct keep)⟩,λa ha=>?_,⟨sm.gens,sm.os⟩,⟨l,rfl⟩,trivial,q'⟩
 obtain rfl:=List.mem_singleton.mp ha
 exact ⟨dy x1 (bF _),dY I' (bF _)⟩
noncomputable def jX (T:EsT):IT:=λL H Q=>T L H λvs H'=>one vs λm=>eL m λi=>dO H'[i]? λl=>Q (.enum i l) H'
private theorem gO {x:Str} {e:Expr} {p pos:Pos} {T:EsT} (hx:x∈Γ.globs) (hg:aX w x (.type "enumerate")) (he:SEs w hB k Γ [e] T) (hd:(x == ("__debug__":Str)) = false) :
  SI w hB k Γ (.Call (.Name x p) [e] [] pos) (jX T) lx:=by
 have hs:∀ env,starEach [e] env = [(false,eval e env)]:=λenv=>(dm (he.2 env)).1
 refine ⟨λA env O H L s Q S q=>?_,λU U=>rfl⟩
 refine Call_ (gC S hx hg ?_ hd)
 refine PyProof.Rows.callWith_type1 ?_ (hs env) rfl
 refine wpAny_mono (he.1 pos A env O H L s _ S q) (λvs s' z=>?_) λU U z=>z
 obtain ⟨O',H',ms,x1,I',rv,sm,q'⟩:=z
 replace q':=fb q'
 obtain ⟨m,rfl,q'⟩:=q'
 obtain ⟨v,r,rfl,a,b⟩:=RVs_cons.mp rv
 obtain rfl:=RVs_nil.mp b
 replace q':=bP q'
 obtain ⟨i,rfl,q'⟩:=q'
 obtain ⟨p,hp,rfl⟩:=a.ref_of
 obtain ⟨l,hi,q'⟩:=cK q'
 obtain ⟨us,n,h1,h2,hL,hl,hr⟩:=bU I' hi hp
 refine call_enumerate_list hl λh' he hit hz keep=>?_
 refine wpAny_pyIter_enum he ?_
 have z:=I'.grow (h':=h') keep
 have f0:s'.heap.get? s'.heap.objs.size = none:=bF _
 have f1:s'.heap.get? (s'.heap.objs.size + 1) = none:=cI (Nat.le_succ _)
 refine ⟨O',H',.enum i l,[s'.heap.objs.size + 1,s'.heap.objs.size],x1.trans z.2,z.1,⟨_,_,p,_,rfl,hp,rfl,Nat.succ_ne_self _,he,hit⟩,λa ha=>?_,⟨sm.gens,sm.os⟩,⟨i,l,rfl⟩,hi,q'⟩
 rcases List.mem_cons.mp ha with rfl | ha
 ·exact ⟨dy x1 f1,dY I' f1⟩
 ·obtain rfl:=List.mem_singleton.mp ha
  exact ⟨dy x1 f0,dY I' f0⟩
noncomputable def ye (a:Int) (Q:Int→Nat→Int→Prop):Prop:=(-400000≤a∧a≤400000)∧Q 0 a.toNat 1
noncomputable def xX (a b:Int) (Q:Int→Nat→Int→Prop):Prop:=(-400000≤a∧a≤400000∧-400000≤b∧b≤400000)∧Q a (b - a).toNat 1
noncomputable def ym (a b c:Int) (Q:Int→Nat→Int→Prop):Prop:=(c = -1∧-400000≤b∧b≤400000∧-400000≤a∧a≤400000)∧Q a (a - b).toNat (-1)
noncomputable def fA (vs:List MV) (Q:Int→Nat→Int→Prop):Prop:=match vs with
 | []=>False
 | m :: r=>cT m λa=>match r with
  | []=>ye a Q
  | m2 :: r2=>cT m2 λb=>match r2 with
   | []=>xX a b Q
   | m3 :: r3=>cT m3 λc=>match r3 with
    | []=>ym a b c Q
    | _=>False
noncomputable def eK (T:EsT):IT:=λL H Q=>T L H λvs H'=>fA vs λa n c=>Q (.range a n c) H'
end
end Mine
end
section
namespace Mine
section
variable {w:World} {hB:Heap} {k:Nat} {Γ:Ctx}
private theorem iJ (a b:Int):Builtin.Range.rangeSize a b (-1) = if b < a then a - b else 0:=by
 unfold Builtin.Range.rangeSize
 simp only [show ¬ ((-1:Int) > 0) by decide,if_false,show (- (-1):Int) = 1 by rfl,Int.ediv_one]
 by_cases h:b < a
 ·rw [if_pos (show a > b from h),if_pos h,Int.sub_add_cancel]
 ·rw [if_neg (show ¬ a > b from h),if_neg h]
private theorem lo4 {c x:Int} (h:-400000≤x) (d:c≤-400000):c≤x:=Int.le_trans d h
private theorem hi4 {c x:Int} (h:x≤400000) (d:400000 < c):x < c:=Int.lt_of_le_of_lt h d
private theorem vb {a b:Int} (ha:-400000≤a) (ha':a≤400000) (hb:-400000≤b) (hb':b≤400000):Builtin.Range.small a b (-1) = true:=by
 unfold Builtin.Range.small
 rw [iJ]
 simp only [Builtin.Range.rangeFitsLong,Bool.and_eq_true,Bool.or_eq_true,decide_eq_true_eq,beq_iff_eq,show ¬ ((-1:Int) > 0) by decide,if_false]
 have c:(-2 ^ 63≤if b < a then a - b else 0)∧(if b < a then a - b else 0) < 2 ^ 63:=by
  by_cases h:b < a
  ·rw [if_pos h]
   exact ⟨Int.le_trans (by decide) (Int.sub_nonneg_of_le (Int.le_of_lt h)),Int.lt_of_le_of_lt (Int.sub_le_sub ha' hb) (by decide)⟩
  ·rw [if_neg h];exact ⟨by decide,by decide⟩
 have lb:-2 ^ 63≤b∧b < 2 ^ 63:=⟨lo4 hb (by decide),hi4 hb' (by decide)⟩
 exact ⟨⟨⟨⟨⟨lo4 ha (by decide),hi4 ha' (by decide)⟩,lb⟩,by decide,by decide⟩,c⟩,.inr (by rw [show (-1 + 1:Int) = 0 from rfl,Int.add_zero];exact lb)⟩
private theorem pS {a b:Int} (ha:-400000≤a) (ha':a≤400000) (hb:-400000≤b) (hb':b≤400000):Builtin.Range.small a b 1 = true :=
 small_one (lo4 ha (by decide)) (hi4 ha' (by decide)) (lo4 hb (by decide)) (hi4 hb' (by decide))
private theorem mE {a b:Int}:(if a < b then b - a else 0) = (((b - a).toNat:Nat):Int):=by
 by_cases h:a < b
 ·rw [if_pos h,Int.toNat_of_nonneg (Int.sub_nonneg_of_le (Int.le_of_lt h))]
 ·rw [if_neg h,Int.toNat_of_nonpos (Int.sub_nonpos_of_le (Int.not_lt.mp h))];rfl
private theorem qT {a b:Int} (ha:-400000≤a) (hb':b≤400000):(b - a).toNat≤800000:=Int.toNat_le.mpr (Int.le_trans (Int.sub_le_sub hb' ha) (by decide))
inductive RPost (w:World) (hB:Heap) (O:Phi) (s:Shared) (Q:Int→Nat→Int→MH→Prop) (x:Value) (s₁:Shared):Prop where
 | mk (O':Phi) (H':MH) (r:Addr) (a b c:Int) (n:Nat) (t u v:Tok) (e:x = .ref r) (y:Ext [] O s.heap O' s₁.heap) (i:Inv w hB O' H' s₁.heap) (m:Sm s s₁) (ra:IsRange s₁.heap r a b c t u v) (sm:Builtin.Range.small a b c = true)
  (sz:Builtin.Range.rangeSize a b c = (n:Nat)) (le:n≤800000) (fr:s.heap.get? r = none) (q:Q a n c H')
noncomputable def SR (w:World) (hB:Heap) (k:Nat) (Γ:Ctx) (e:Expr) (T:EsT):Prop :=
 (∀ A env O H L s (Q:Int→Nat→Int→MH→Prop),Sit w hB k Γ A env O H L s→(T L H λvs H'=>fA vs λa n c=>Q a n c H')→wpAny (MM w) A (eval e env) (RPost w hB O s Q) Fls s)∧True
private theorem dF {x:Str} {e:Expr} {rest:List Expr} {p pos:Pos} {T:EsT} (hx:x∈Γ.globs) (hg:aX w x (.type "range")) (he:SEs w hB k Γ (e :: rest) T) (hd:(x == ("__debug__":Str)) = false):SR w hB k Γ (.Call (.Name x p) (e :: rest) [] pos) T:=by
 have hs:∀ env,starEach (e :: rest) env = (false,eval e env) :: starEach rest env:=λenv=>(dm (he.2 env)).1
 have hp:∀ env,(backTo pos (starEach rest env)).any (·.1) = false:=λenv=>by rw [gh];exact (dm (he.2 env)).2
 refine ⟨?_,trivial⟩
 intro A env O H L s Q S q
 refine Call_ (gC S hx hg ?_ hd)
 refine PyProof.Rows.callWith_type1 ?_ (hs env) (hp env)
 refine wpAny_mono (he.1 pos A env O H L s _ S q) (λvs s' z=>?_) λU U z=>z
 obtain ⟨O',H',ms,x1,I',rv,sm,q'⟩:=z
 have f0:s.heap.get? s'.heap.objs.size = none:=dy x1 (bF _)
 cases ms with
 | nil=>exact False.elim q'
 | cons m r =>
  obtain ⟨v,vr,rfl,a,b⟩:=RVs_cons.mp rv
  replace q':=bm q'
  obtain ⟨a0,rfl,q'⟩:=q'
  obtain ⟨t,rfl⟩:=a.int_of
  cases r with
  | nil =>
   obtain rfl:=RVs_nil.mp b
   obtain ⟨⟨h1,h2⟩,q'⟩:=q'
   refine call_range_1 ?_
   have z:=I'.grow (bR s'.heap { cls:=.type "range",data:=.fields #[.int 0 s'.toks,.int a0 t,.int 1 (s'.toks + 1)] })
   ·exact ⟨O',H',_,0,a0,1,a0.toNat,_,_,_,rfl,x1.trans z.2,z.1,⟨sm.gens,sm.os⟩,IsRange.new ..,pS (by decide) (by decide) h1 h2,by have z:=(rangeSize_one 0 a0).trans mE;rwa [Int.sub_zero] at z,by have z:=qT (a:=0) (by decide) h2;rwa [Int.sub_zero] at z,f0,q'⟩
  | cons m2 r2 =>
   obtain ⟨v2,vr2,rfl,a2,b2⟩:=RVs_cons.mp b
   replace q':=bm q'
   obtain ⟨b0,rfl,q'⟩:=q'
   obtain ⟨t2,rfl⟩:=a2.int_of
   cases r2 with
   | nil =>
    obtain rfl:=RVs_nil.mp b2
    obtain ⟨⟨h1,h2,h3,h4⟩,q'⟩:=q'
    refine call_range_2 ?_
    have z:=I'.grow (bR s'.heap { cls:=.type "range",data:=.fields #[.int a0 t,.int b0 t2,.int 1 s'.toks] })
    exact ⟨O',H',_,a0,b0,1,(b0 - a0).toNat,_,_,_,rfl,x1.trans z.2,z.1,⟨sm.gens,sm.os⟩,IsRange.new ..,pS h1 h2 h3 h4,(rangeSize_one a0 b0).trans mE,qT h1 h4,f0,q'⟩
   | cons m3 r3 =>
    obtain ⟨v3,vr3,rfl,a3,b3⟩:=RVs_cons.mp b2
    replace q':=bm q'
    obtain ⟨c0,rfl,q'⟩:=q'
    obtain ⟨t3,rfl⟩:=a3.int_of
    obtain rfl:r3 = []:=by
     cases r3 with
     | nil=>rfl
     | cons=>exact False.elim q'
    obtain rfl:=RVs_nil.mp b3
    obtain ⟨⟨rfl,h1,h2,h3,h4⟩,q'⟩:=q'
    refine call_range_3 (by decide) ?_ (.inl (by
     unfold Builtin.divisionGoesByPylong
     simp only [Bool.and_eq_false_iff,decide_eq_false_iff_not]
     left
     have h9:Nat.log2 1 < 1:=(Nat.log2_lt (by decide)).mpr (by decide)
     split <;> simp
     exact Nat.le_trans (Nat.le_of_lt ‹_›) (by decide)))
    have z:=I'.grow (bR s'.heap { cls:=.type "range",data:=.fields #[.int a0 t,.int b0 t2,.int (-1) t3] })
    exact ⟨O',H',_,a0,b0,-1,(a0 - b0).toNat,_,_,_,rfl,x1.trans z.2,z.1,⟨sm.gens,sm.os⟩,IsRange.new ..,vb h3 h4 h1 h2,(iJ a0 b0).trans mE,qT h1 h4,f0,q'⟩
private theorem fP {e:Expr} {T:EsT} (he:SR w hB k Γ e T) (hf:∀ x env,foldedSetIterable e env x = pure x):SI w hB k Γ e (eK T) tG:=by
 refine ⟨λA env O H L s Q S q=>?_,hf⟩
 refine wpAny_mono (he.1 A env O H L s (λa n c H'=>Q (.range a n c) H') S q) (λv s' z=>?_) λU U z=>z
 obtain ⟨O',H',r,a,b,c,n,t,u,v,rfl,x1,I',sm,hr,hs,hz,hle,f0,q'⟩:=z
 refine wpAny_pyIter_range hr hs ?_
 rw [hz]
 have z:=I'.grow (bR s'.heap { cls:=.type "range_iterator",data:=.fields #[rawInt a,rawInt n,rawInt c] })
 refine ⟨O',H',.range a n c,[s'.heap.objs.size],x1.trans z.2,z.1,⟨_,rfl,rfl,?_⟩,λx hx=>?_,⟨sm.gens,sm.os⟩,⟨a,n,c,rfl⟩,trivial,q'⟩
 ·show IsRangeIter _ _ (a + ((0:Nat):Int) * c) ((n:Int) - ((0:Nat):Int)) c
  have e1:a + ((0:Nat):Int) * c = a:=by simp
  have e2:(n:Int) - ((0:Nat):Int) = n:=by simp
  rw [e1,e2]
  exact Heap.get?_push_size _ rfl
 ·obtain rfl:=List.mem_singleton.mp hx
  exact ⟨dy x1 (bF _),dY I' (bF _)⟩
noncomputable def cS (a:Int) (n:Nat) (c:Int):List Int:=(List.range n).map λi:Nat=>a + i * c
noncomputable def dq (T:EsT):ET:=λL H Q=>T L H λvs H'=>fA vs λa n c=>Q (.ref H'.length) (H'++[.list ((cS a n c).map .int)])
private theorem sS {O:Phi} {h:Heap} {a c:Int} {n:Nat} {acc:Array Value} (hi:ItemsOf (λi v=>∃ t,v = Value.int (a + (i:Nat) * c) t) acc n):RVs O h ((cS a n c).map .int) acc.toList:=by
 refine dw (gH (by unfold cS;rw [Array.length_toList,hi.1];simp) λj v e=>?_)
 have hlt:j < n:=by
  have:=(List.getElem?_eq_some_iff.mp e).1
  rw [Array.length_toList,hi.1] at this
  exact this
 obtain ⟨t,rfl⟩:=hi.2 j v (by rw [← Array.getElem?_toList];exact e)
 exact ⟨_,by unfold cS;rw [List.getElem?_map,List.getElem?_range hlt];rfl,t,rfl⟩
private theorem gl {x:Str} {e:Expr} {p pos:Pos} {T:EsT} (hx:x∈Γ.globs) (hg:aX w x (.type "list")) (he:SR w hB k Γ e T) (hpl:kG e = true) (hd:(x == ("__debug__":Str)) = false) :
  SE w hB k Γ (.Call (.Name x p) [e] [] pos) (dq T):=by
 have hs:∀ env,starEach [e] env = [(false,eval e env)]:=λenv=>fQ hpl [] env
 refine ⟨?_,trivial⟩
 intro A env O H L s Q S q
 refine Call_ (gC S hx hg ?_ hd)
 refine PyProof.Rows.callWith_type1 ?_ (hs env) rfl
 rw [hs]
 refine spliced_cons (wpAny_mono (he.1 A env O H L s _ S q) (λv s' z=>?_) λU U z=>z)
 refine spliced_nil ?_
 obtain ⟨O',H',r,a,b,c,n,t,u,v,rfl,x1,I',sm,hr,hsm,hz,hle,f0,q'⟩:=z
 refine call_list_range S.room.handled hr hsm hz (by exact Nat.le_trans ‹_› (by decide)) λh' tk acc c' keep hg' hi=>?_
 have z:=fX (w:=w) (hB:=hB) (s:=s') (h':=h') (l:=(cS a n c).map .int) (vs:=acc.toList) (n:=c') s'.heap.objs.size I' (bF _) keep (by simpa using hg') (sS hi) (by unfold cS;simp;exact Nat.le_trans ‹_› (by decide))
 exact ⟨_,_,_,x1.trans z.1,z.2.1,z.2.2,⟨sm.gens,sm.os⟩,q'⟩
end
end Mine
end
section
namespace Mine
private theorem eM {env:Env}:∀ {names:List (Str×NameKind)} {x:Str},env.scope.kind = .function→env.kindOf x = some .cell→names.lookup x = some .free →
  (names.map λ(n,k)=>if (k == NameKind.free && env.scope.kind == .function && env.kindOf n == some .cell) then (n,NameKind.cell) else (n,k)).lookup x = some .cell
 | [],_,_,_,h=>by simp at h
 | (n,k) :: r,x,hk,hc,h=>by
  have ih:=@eM env r x hk hc
  show List.lookup x ((if (k == NameKind.free && env.scope.kind == .function && env.kindOf n == some .cell) = true then (n,NameKind.cell) else (n,k)) :: _) = _
  cases hx:x == n with
  | true =>
   simp only [List.lookup_cons,hx] at h
   cases h
   have:x = n:=by simpa using hx
   subst this
   rw [if_pos (by simp [hk,hc])]
   simp [List.lookup_cons]
  | false =>
   simp only [List.lookup_cons,hx] at h
   by_cases hcc:(k == NameKind.free && env.scope.kind == .function && env.kindOf n == some .cell) = true
   ·rw [if_pos hcc];simp only [List.lookup_cons,hx];exact ih h
   ·rw [if_neg hcc];simp only [List.lookup_cons,hx];exact ih h
private theorem eN {env:Env}:∀ {names:List (Str×NameKind)} {x:Str},names.lookup x = some .globalImplicit →
  (names.map λ(n,k)=>if (k == NameKind.free && env.scope.kind == .function && env.kindOf n == some .cell) then (n,NameKind.cell) else (n,k)).lookup x = some .globalImplicit
 | [],_,h=>by simp at h
 | (n,k) :: r,x,h=>by
  have ih:=@eN env r x
  show List.lookup x ((if (k == NameKind.free && env.scope.kind == .function && env.kindOf n == some .cell) = true then (n,NameKind.cell) else (n,k)) :: _) = _
  cases hx:x == n with
  | true =>
   simp only [List.lookup_cons,hx] at h
   cases h
   simp [List.lookup_cons,hx]
  | false =>
   simp only [List.lookup_cons,hx] at h
   by_cases hcc:(k == NameKind.free && env.scope.kind == .function && env.kindOf n == some .cell) = true
   ·rw [if_pos hcc];simp only [List.lookup_cons,hx];exact ih h
   ·rw [if_neg hcc];simp only [List.lookup_cons,hx];exact ih h
noncomputable def cN:List (Str×NameKind)→List Str
 | []=>[]
 | (n,k) :: r=>if k == .free then n :: cN r else cN r
private theorem pD {n:Str} {k:NameKind} {r:List (Str×NameKind)}:cN ((n,k) :: r) = if k == .free then n :: cN r else cN r:=rfl
private theorem gy {env:Env} (f:Str×NameKind→List (Str×Addr)→Sem (ForInStep (List (Str×Addr)))) (hf:∀ x cs,f x cs = (if (x.2 == .free) = true then do pure (.yield ((x.1,← cellOf env x.1) :: cs)) else pure (.yield cs))) (at_:Str→Addr) :
  ∀ (names:List (Str×NameKind)) (cs:List (Str×Addr)),(∀ n∈cN names,env.cells.lookup n = some (at_ n))→forIn names cs f = pure (((cN names).reverse.map λn=>(n,at_ n))++cs)
 | [],cs,_=>rfl
 | (n,k) :: r,cs,h=>by
  rw [List.forIn_cons,hf]
  dsimp only
  by_cases hk:(k == NameKind.free) = true
  ·have e:env.cells.lookup n = some (at_ n):=h n (by rw [pD,if_pos hk];exact .head _)
   have hc:cellOf env n = pure (at_ n):=by unfold cellOf;rw [e]
   rw [if_pos hk,hc]
   simp only [pure_bind]
   rw [gy f hf at_ r _ λm hm=>h m (by rw [pD,if_pos hk];exact .tail _ hm)]
   rw [pD,if_pos hk]
   simp
  ·rw [if_neg hk]
   simp only [pure_bind]
   rw [gy f hf at_ r _ λm hm=>h m (by rw [pD,if_neg hk];exact hm)]
   rw [pD,if_neg hk]
private theorem tO {scope:Scope} {env:Env} (at_:Str→Addr) (h:∀ n∈cN scope.names,env.cells.lookup n = some (at_ n)):closureFor scope env = pure ((cN scope.names).reverse.map λn=>(n,at_ n)):=by
 unfold closureFor
 have:=gy (env:=env) (λx cs=>if (x.2 == .free) = true then do pure (.yield ((x.1,← cellOf env x.1) :: cs)) else pure (.yield cs)) (λU U=>rfl) at_ scope.names [] h
 rw [List.append_nil] at this
 simp only [bind_pure_comp,map_pure] at this ⊢
 rw [this]
 try simp only [pure_bind]
private theorem jd {n:Str}:∀ {names:List (Str×NameKind)},(n,NameKind.free)∈names→n∈cN names
 | (m,k) :: r,h=>by
  rw [pD]
  rcases List.mem_cons.mp h with e | h
  ·cases e;rw [if_pos (by rfl)];exact .head _
  ·split
   ·exact .tail _ (jd h)
   ·exact jd h
private theorem iM {at_:Str→Addr}:∀ {l:List Str} {y:Str} {c:Addr},(l.map λn=>(n,at_ n)).lookup y = some c→y∈l∧c = at_ y
 | n :: r,y,c,h=>by
  rw [List.map_cons,List.lookup_cons] at h
  cases hx:y == n with
  | true =>
   rw [hx] at h;cases h
   have:y = n:=by simpa using hx
   subst this
   exact ⟨.head _,rfl⟩
  | false =>
   rw [hx] at h
   obtain ⟨a,b⟩:=iM h
   exact ⟨.tail _ a,b⟩
private theorem io {at_:Str→Addr}:∀ {l:List Str} {y:Str},y∈l→(l.map λn=>(n,at_ n)).lookup y = some (at_ y)
 | n :: r,y,h=>by
  rw [List.map_cons,List.lookup_cons]
  cases hx:y == n with
  | true =>
   have:y = n:=by simpa using hx
   subst this;rfl
  | false =>
   rcases List.mem_cons.mp h with rfl | h
   ·simp at hx
   ·exact io h
noncomputable def z5 (Γ:Ctx) (sc:Scope) (a:Option (Str×Bool)) (b:Option Nat):Bool :=
 Option.rec (motive:=λU=>Bool) false (λy=>Option.rec (motive:=λU=>Bool) false (λi=>y.2 == true && Γ.names[i]? == some y && sc.names.lookup y.1 == some .free) b) a
noncomputable def qh (Γ Γc:Ctx) (sc:Scope) (n:Nat) (cap:List Nat):Bool :=
 (sc.kind == .function) && (sc.names.all λx=>x.2 != .cell && (x.2 != .local || sc.names.lookup x.1 == some .local) && (x.2 != .free || sc.names.lookup x.1 == some .free))
 && (Γc.names.length == n + cap.length) && ((Γc.names.take n).all λx=>x.2 == false && sc.names.lookup x.1 == some .local)
 && ((List.range cap.length).all λj=>z5 Γ sc Γc.names[n + j]? cap[j]?)
 && ((cN sc.names).all λy=>Γ.names.contains (y,true)) && (Γc.globs.all λg=>sc.names.lookup g == some .globalImplicit) && (Γc.code == false) && (Γc.cellsOwn == false)
 && decide ((Γc.names.map (·.1)).Nodup) && decide ((cN sc.names).Nodup)
structure CompOk (Γ Γc:Ctx) (sc:Scope) (n:Nat) (cap:List Nat):Prop where
 kind:sc.kind = .function
 nocell:∀ x∈sc.names,x.2≠.cell
 loc:∀ x∈sc.names,x.2 = .local→sc.names.lookup x.1 = some .local
 free:∀ x∈sc.names,x.2 = .free→sc.names.lookup x.1 = some .free
 len:Γc.names.length = n + cap.length
 own:∀ (i:Nat) x,i < n→Γc.names[i]? = some x→x.2 = false∧sc.names.lookup x.1 = some .local
 cap:∀ (j i:Nat),cap[j]? = some i→∃ y,Γc.names[n + j]? = some (y,true)∧Γ.names[i]? = some (y,true)∧sc.names.lookup y = some .free
 all:∀ y∈cN sc.names,(y,true)∈Γ.names
 globs:∀ g∈Γc.globs,sc.names.lookup g = some .globalImplicit
 code:Γc.code = false
 cellsOwn:Γc.cellsOwn = false
 nd:(Γc.names.map (·.1)).Nodup
 ndf:(cN sc.names).Nodup
private theorem ph {Γ Γc:Ctx} {sc:Scope} {n:Nat} {cap:List Nat} (h:qh Γ Γc sc n cap = true):CompOk Γ Γc sc n cap:=by
 unfold qh at h
 simp only [Bool.and_eq_true,List.all_eq_true,beq_iff_eq,decide_eq_true_eq,Bool.or_eq_true,bne_iff_ne,ne_eq,List.contains_iff_mem] at h
 obtain ⟨⟨⟨⟨⟨⟨⟨⟨⟨⟨h1,h2⟩,h3⟩,h4⟩,h5⟩,h6⟩,h7⟩,h8⟩,h9⟩,h10⟩,h11⟩:=h
 refine ⟨h1,λx hx=>(h2 x hx).1.1,λx hx e=>?_,λx hx e=>?_,h3,λi x hi hx=>?_,λj i hj=>?_,h6,h7,h8,h9,h10,h11⟩
 ·rcases (h2 x hx).1.2 with q | q
  ·exact absurd e q
  ·exact q
 ·rcases (h2 x hx).2 with q | q
  ·exact absurd e q
  ·exact q
 ·have:(Γc.names.take n)[i]? = some x:=by rw [List.getElem?_take_of_lt hi];exact hx
  exact h4 x (List.mem_of_getElem? this)
 ·have hlt:j < cap.length:=(List.getElem?_eq_some_iff.mp hj).1
  have z:=h5 j (List.mem_range.mpr hlt)
  rw [hj] at z
  have hl:n + j < Γc.names.length:=by rw [h3];exact Nat.add_le_add_left ‹_› _
  rw [List.getElem?_eq_getElem hl] at z
  replace z:(Γc.names[n + j].2 == true && Γ.names[i]? == some Γc.names[n + j] && sc.names.lookup Γc.names[n + j].1 == some .free) = true:=z
  simp only [Bool.and_eq_true,beq_iff_eq] at z
  obtain ⟨⟨z1,z2⟩,z3⟩:=z
  generalize hy:Γc.names[n + j] = y at *
  obtain ⟨y,b⟩:=y
  obtain rfl:b = true:=z1
  exact ⟨y,by rw [List.getElem?_eq_getElem hl,hy],z2,z3⟩
section
variable {w:World} {hB:Heap} {k:Nat} {Γ:Ctx}
noncomputable def ql (L:Loc) (n:Nat) (cap:List Nat):Loc:=List.replicate n none++cap.map λi=>(L[i]?).join
private theorem rB {A:Around} {env:Env} {O:Phi} {H:MH} {L:Loc} {s:Shared} {Γc:Ctx} {sc:Scope} {n:Nat} {cap:List Nat} (S:Sit w hB k Γ A env O H L s) (C:CompOk Γ Γc sc n cap):∃ cl,closureFor sc env = pure cl ∧
  (∀ y c,cl.lookup y = some c→env.cells.lookup y = some c)∧(∀ y,sc.names.lookup y = some .free→cl.lookup y = env.cells.lookup y)∧cl.Pairwise λx y=>x.2≠y.2:=by
 have hcell:∀ y∈cN sc.names,∃ c,env.cells.lookup y = some c:=λy hy=>by
  obtain ⟨i,hi⟩:=List.mem_iff_getElem?.mp (C.all y hy)
  obtain ⟨m,hn,hv⟩:=S.loc.ns
  have hlt:i < L.length:=by rw [S.loc.len];exact (List.getElem?_eq_some_iff.mp hi).1
  obtain ⟨c,ov,h1,_⟩:=hv i _ _ hi (List.getElem?_eq_getElem hlt)
  exact ⟨c,h1⟩
 let at_:Str→Addr:=λy=>(env.cells.lookup y).getD 0
 have hat:∀ y∈cN sc.names,env.cells.lookup y = some (at_ y):=λy hy=>by
  obtain ⟨c,hc⟩:=hcell y hy
  show _ = some ((env.cells.lookup y).getD 0)
  rw [hc];rfl
 refine ⟨_,tO at_ hat,λy c hc=>?_,λy hy=>?_,?_⟩
 ·obtain ⟨h1,rfl⟩:=iM hc
  exact hat y (List.mem_reverse.mp h1)
 ·have hm:y∈cN sc.names:=jd (cU hy)
  rw [io (List.mem_reverse.mpr hm)]
  exact (hat y hm).symm
 ·rw [List.pairwise_map]
  have nd:(cN sc.names).reverse.Pairwise (λa b=>a≠b):=List.pairwise_reverse.mpr (C.ndf.imp λh=>Ne.symm h)
  refine List.Pairwise.imp_of_mem (λ{a b} ha hb hab e=>?_) nd
  have e1:=hat a (List.mem_reverse.mp ha)
  have e2:=hat b (List.mem_reverse.mp hb)
  rw [← show at_ a = at_ b from e] at e2
  exact hab (name_of_addr S.loc.apart (cU e1) (cU e2))
private theorem xO {A:Around} {env:Env} {O O':Phi} {H H':MH} {L:Loc} {s s':Shared} {Γc:Ctx} {sc:Scope} {n:Nat} {cap:List Nat} {cl:List (Str×Addr)} {C:Addr} (S:Sit w hB k Γ A env O H L s) (K:CompOk Γ Γc sc n cap)
  (h1:∀ y c,cl.lookup y = some c→env.cells.lookup y = some c) (h2:∀ y,sc.names.lookup y = some .free→cl.lookup y = env.cells.lookup y) (h3:cl.Pairwise λx y=>x.2≠y.2)
  (x:Ext [] O s.heap O' s'.heap) (I':Inv w hB O' H' s'.heap) (hC:s.heap.get? C = none) (hCo:C∉own O') (hn:s'.heap.Ns C λU=>none):Sit w hB k Γc A (compEnvC sc cl C env) O' H' (ql L n cap) s':=by
 have S':=S.next x I'
 obtain ⟨m,hm,hv⟩:=S'.loc.ns
 have ekind:(compEnvC sc cl C env).scope.kind = .function:=K.kind
 refine ⟨S.base,S.room,⟨ekind,λy hy=>?_,λg hg=>eN (K.globs g hg),S.eok.globals,S.eok.builtins,λe=>(by rw [K.code] at e;cases e),K.nd,λe=>(by rw [K.cellsOwn] at e;cases e)⟩,I',
  ⟨by unfold ql;rw [List.length_append,List.length_replicate,List.length_map,K.len],⟨_,hn,λi y mv hi hmv=>?_⟩,hCo,λy c hc=>S'.loc.outC y c (h1 y c hc),h3,λy c hc=>S'.loc.cells y c (h1 y c hc)⟩,λa ha=>?_⟩
 ·obtain ⟨i,hi⟩:=List.mem_iff_getElem?.mp hy
  by_cases hlt:i < n
  ·obtain ⟨e1,e2⟩:=K.own i y hlt hi
   rw [e1]
   exact lookup_relabel_local e2
  ·have hl:=(List.getElem?_eq_some_iff.mp hi).1
   rw [K.len] at hl
   have hj:i - n < cap.length:=Nat.sub_lt_left_of_lt_add (Nat.le_of_not_lt hlt) hl
   obtain ⟨y',e1,e2,e3⟩:=K.cap (i - n) _ (List.getElem?_eq_getElem hj)
   rw [Nat.add_sub_of_le (Nat.le_of_not_lt (by assumption)),hi] at e1
   cases e1
   exact eM S.eok.kind (S.eok.vars _ (List.mem_of_getElem? e2)) e3
 ·unfold ql at hmv
  by_cases hlt:i < n
  ·rw [List.getElem?_append_left (by simpa using hlt),List.getElem?_replicate,if_pos hlt] at hmv
   cases hmv
   obtain ⟨e1,e2⟩:=K.own i y hlt hi
   unfold VarOk
   rw [e1]
   intro a ha;cases ha
  ·have hl:=(List.getElem?_eq_some_iff.mp hi).1
   rw [K.len] at hl
   have hj:i - n < cap.length:=Nat.sub_lt_left_of_lt_add (Nat.le_of_not_lt hlt) hl
   obtain ⟨y',e1,e2,e3⟩:=K.cap (i - n) _ (List.getElem?_eq_getElem hj)
   rw [Nat.add_sub_of_le (Nat.le_of_not_lt (by assumption)),hi] at e1
   cases e1
   rw [List.getElem?_append_right (by simpa using hlt),List.length_replicate,List.getElem?_map,List.getElem?_eq_getElem hj] at hmv
   simp only [Option.map_some,Option.some.injEq] at hmv
   have hlt2:cap[i - n] < L.length:=by rw [S.loc.len];exact (List.getElem?_eq_some_iff.mp e2).1
   rw [List.getElem?_eq_getElem hlt2,Option.join_some] at hmv
   obtain ⟨c,ov,k1,k2,k3⟩:=hv _ _ _ e2 (List.getElem?_eq_getElem hlt2)
   exact ⟨c,ov,(h2 _ e3).trans k1,k2,by rw [← hmv];exact k3⟩
 ·rcases mem_Al.mp ha with e0 | ⟨y,hy⟩
  ·rw [show a = C from e0]
   cases e:hB.get? C with
   | none=>rfl
   | some o=>have:=S.inv.base C o e;rw [hC] at this;cases this
  ·exact S.out a (mem_Al.mpr (.inr ⟨y,h1 y a hy⟩))
end
end Mine
end
section
namespace Mine
section
variable {w:World} {hB:Heap} {k:Nat} {Γ:Ctx}
private theorem qI {A:Around} {R:Result→Shared→Prop} {s:Shared} {elt target iter:Expr} {ifs:List Expr} {scope:Scope} {pos:Pos} {it acc:Value} {env:Env} (I:Nat→Shared→Prop)
  (turn:∀ n s,I n s→wpAny (MM w) A (pyNext it) (λr s₁=>match r with
   | none=>R (.ok .next) s₁
   | some v=>wpAny (MM w) A (letOwnedTupleGo target it v) (λU s₁'=>wpAny (MM w) A (assign target env v) (λU s₂ =>
     wpAny (MM w) A (forIn ifs true λc r=>if r = true then do let ok ← isTrue c env (eval c env);pure (ForInStep.yield ok) else pure (ForInStep.yield r)) (λok s₃ =>
      if ok = true then wpAny (MM w) A (eval elt env) (λx s₄ =>
       wpAny (MM w) A (PySem.call (.builtin "list.append") [acc,x]) (λU s₅=>∃ m,m < n∧I m s₅) Fls s₄) Fls s₃
      else ∃ m,m < n∧I m s₃) Fls s₂) Fls s₁') Fls s₁) Fls s)
  (n:Nat) (h:I n s):codeAny (MM w) A (.compLoop (.ListComp elt [⟨target,iter,ifs,0⟩] scope pos) 0 it acc env) R s:=by
 refine codeAny_loop rfl I (λn s hI=>?_) n h
 show wpAny _ A ((compTurn (.ListComp elt [⟨target,iter,ifs,0⟩] scope pos) 0 it acc env).onRaise (λx=>do noteFrame x env;theTreesLotGoes x)) _ _ s
 refine wpAny_noted ?_
 rw [compTurn_list]
 refine wpAny_bind (wpAny_standAt (wpAny_bind (wpAny_mono (turn n s hI) (λr s₁ h₁=>?_) λU U h'=>h'.elim)))
 cases r with
 | none=>exact wpAny_pure h₁
 | some v =>
  refine wpAny_bind (wpAny_mono h₁ (λU s₁' h₁'=>?_) λU U h'=>h'.elim)
  refine wpAny_bind (wpAny_mono h₁' (λU s₂ h₂=>wpAny_bind (wpAny_mono h₂ (λok s₃ h₃=>?_) λU U h'=>h'.elim)) λU U h'=>h'.elim)
  cases ok with
  | false=>exact wpAny_pure ⟨rfl,h₃⟩
  | true =>
   exact wpAny_bind (wpAny_bind (wpAny_mono h₃ (λx s₄ h₄=>wpAny_bind (wpAny_mono h₄ (λU s₅ h₅=>wpAny_pure (wpAny_pure ⟨rfl,h₅⟩)) λU U h'=>h'.elim)) λU U h'=>h'.elim))
noncomputable def SIf (w:World) (hB:Heap) (k:Nat) (Γ:Ctx) (ifs:List Expr) (T:BoT):Prop :=
 (∀ A env O H L s Q,Sit w hB k Γ A env O H L s→T L H Q→wpAny (MM w) A (forIn ifs true λc r=>if r = true then do let ok ← PySem.isTrue c env (eval c env);pure (ForInStep.yield ok) else pure (ForInStep.yield r)) (BPost w hB O s Q) Fls s)∧True
private theorem cZ:SIf w hB k Γ [] bG:=⟨λA env O H L s Q S q=>wpAny_tests_nil ⟨O,H,Ext.refl _ _ _,S.inv,Sm.refl _,q⟩,trivial⟩
private theorem ue {c:Expr} {T:BoT} (h:SB w hB k Γ c T):SIf w hB k Γ [c] T:=⟨λA env O H L s Q S q=>wpAny_tests_one (h.1 A env O H L s Q S q),trivial⟩
noncomputable def cE (it:IT) (a:AT) (t:BoT) (e:ET) (n:Nat) (cap:List Nat):ET:=λL H Q=>it L H λX H0=>∃ I:Nat→List MV→Loc→MH→Prop,I 0 [] (ql L n cap) H0 ∧
 (∀ j acc Lc H,I j acc Lc H→X.ok H∧acc.length≤500000) ∧
 (∀ j m acc Lc H,X.at j = some m→I j acc Lc H→a m Lc H λL' H'=>t L' H' λc H''=>if c then e L' H'' λv H'''=>I (j + 1) (acc++[v]) L' H''' else I (j + 1) acc L' H'') ∧
 ∀ acc Lc H,I X.size acc Lc H→Q (.ref H.length) (H++[.list acc])
private theorem IterAt.self {A:Around} {E:Value→Shared→Prop} {O:Phi} {s:Shared} {it:Value} {j:Nat} {F:List Addr} {X:It} {P:Value→Shared→Prop} (x:IterAt O s.heap it j F X) (hk:¬ lx X) (p:P it s):wpAny (MM w) A (pyIter it) P E s:=by
 cases X with
 | list i l =>
  obtain ⟨I,p',rfl,e2,rfl,hit⟩:=x
  exact wpAny_pyIter_listiter hit p
 | tup l =>
  obtain ⟨I,t,items,rfl,rfl,hit,_⟩:=x
  exact wpAny_pyIter_tupleiter hit p
 | range a n c =>
  obtain ⟨I,rfl,rfl,hit⟩:=x
  exact wpAny_pyIter_rangeiter hit p
 | enum i l=>exact absurd ⟨i,l,rfl⟩ hk
private theorem xy {sc:Scope} {cl:List (Str×Addr)} {C:Addr} {env:Env}:Wr (compEnvC sc cl C env) = [C]:=rfl
inductive CompI (w:World) (hB:Heap) (Γc:Ctx) (cenv:Env) (O:Phi) (s:Shared) (it:Value) (F:List Addr) (X:It) (D:Addr) (I:Nat→List MV→Loc→MH→Prop) (n:Nat) (s':Shared):Prop where
 | mk (j:Nat) (O':Phi) (H':MH) (Lc:Loc) (acc:List MV) (vs:Array Value) (n1:Nat) (e:n = X.size - j) (le:j≤X.size) (i:I j acc Lc H') (x:Ext [] O s.heap O' s'.heap) (iv:Inv w hB O' H' s'.heap) (l:LocRep O' s'.heap Γc cenv Lc) (sm:Sm s s')
  (ia:IterAt O' s'.heap it j F X) (nF:∀ a∈F,a∉own O') (nD:D∉own O') (dl:IsL s'.heap D vs n1) (sz:vs.size≤sizeLine + 1) (r:RVs O' s'.heap acc vs.toList)
private theorem mf {A:Around} {env:Env} {O:Phi} {H:MH} {L:Loc} {s:Shared} {Γc:Ctx} {sc:Scope} {n:Nat} {cap:List Nat} {cl:List (Str×Addr)} {elt target iter:Expr} {ifs:List Expr} {pos:Pos} {Ti:IT} {kd:It→Prop} {Ta:AT} {Tt:BoT} {Te:ET} {Q:MV→MH→Prop} {RR:Value→Addr→Result→Shared→Prop}
  (S:Sit w hB k Γ A env O H L s) (K:CompOk Γ Γc sc n cap) (hi:SI w hB k Γ iter Ti kd) (ha:SA w hB k Γc target Ta) (ht:SIf w hB k Γc ifs Tt) (he:SE w hB k Γc elt Te) (htg:∀ X,kd X→og X target) (hself:∀ X,kd X→¬ lx X)
  (hcl:closureFor sc env = pure cl) (h1:∀ y c,cl.lookup y = some c→env.cells.lookup y = some c) (h2:∀ y,sc.names.lookup y = some .free→cl.lookup y = env.cells.lookup y) (h3:cl.Pairwise λx y=>x.2≠y.2)
  (q:cE Ti Ta Tt Te n cap L H Q)
  (hRR:∀ O' H' D C s' vs nn acc m',Ext [] O s.heap O' s'.heap→Inv w hB O' H' s'.heap→s.heap.get? D = none→s.heap.get? C = none→D≠C→D∉own O'→C∉own O'→s'.heap.Ns C m'→IsL s'.heap D vs nn→vs.size≤sizeLine + 1 →
   RVs O' s'.heap acc vs.toList→Sm s s'→Q (.ref H'.length) (H'++[.list acc])→RR (.ref D) C (.ok .next) s') :
  wpAny (MM w) A (eval iter env) (λx s₁=>wpAny (MM w) A (pyIter x) (λit s₂=>wpAny (MM w) A (newList []) (λacc s₃ =>
   wpAny (MM w) A (newFunctionEnv sc env.globals cl [] env.qual none .none (some env)) (λcenv s₄ =>
    codeAny (MM w) A (.compStart (.ListComp elt [⟨target,iter,ifs,0⟩] sc pos) 0 it acc { cenv with scope:=relabel sc env }) (RR acc cenv.locals) s₄) Fls s₃) Fls s₂) Fls s₁) Fls s:=by
 refine wpAny_mono (hi.1 A env O H L s _ S q) (λx s1 z=>?_) λU U z=>z
 refine wpAny_mono z (λit s2 z=>?_) λU U z=>z
 obtain ⟨O0,H0,X,F,x0,I0,i0,f0,sm0,tg0,ok0,I,hI0,hok,step,fin⟩:=z
 have tg:=htg X tg0
 have fF:∀ a∈F,s.heap.get? a = none:=λa ha=>(f0 a ha).1
 have hBf:∀ a,s.heap.get? a = none→hB.get? a = none:=λa ha=>by
  cases e:hB.get? a with
  | none=>rfl
  | some o=>have:=S.inv.base a o e;rw [ha] at this;cases this
 refine wpAny_newObj_type ?_ (Nat.zero_le _)
 refine wpAny_newFunctionEnv K.nocell (by intro y hy;simp at hy) (λh₁ hns₁ hsb₁=>?_) K.kind
 dsimp only at hns₁ hsb₁ ⊢
 have key:∀ (D C:Addr) (h0:Heap),D = s2.heap.objs.size→C = (s2.heap.push { cls:=.type "list",dict:=none,data:=.seq ([]:List Value).toArray }).objs.size→h0 = h₁ →
   codeAny (MM w) A (.compStart (.ListComp elt [⟨target,iter,ifs,0⟩] sc pos) 0 it (.ref D) (compEnvC sc cl C env)) (RR (.ref D) C) { s2 with heap:=h0,toks:=s2.toks + ([]:List (Str×Value)).length }:=by
  rintro D C h0 hDe hCe rfl
  rw [← hCe] at hns₁ hsb₁
  have hCs:C = s2.heap.objs.size + 1:=by rw [hCe,Heap.size_push]
  have hDC:D≠C:=by rw [hDe,hCs];exact Nat.ne_of_lt (Nat.lt_succ_self _)
  have fD2:s2.heap.get? D = none:=by rw [hDe];exact bF _
  have fC2:s2.heap.get? C = none:=by rw [hCs];exact cI (Nat.le_succ _)
  have keep2:∀ b o,s2.heap.get? b = some o→h0.get? b = some o:=λb o e=>by
   have hb:=Heap.lt_size e
   refine (hsb₁.2 b ?_).trans (Heap.get?_push_of_some _ (Heap.get?_push_of_some _ e))
   rw [hCs];exact Nat.ne_of_lt (Nat.lt_succ_of_lt hb)
  obtain ⟨I2,x2⟩:=I0.grow keep2
  have fD:s.heap.get? D = none:=dy x0 fD2
  have fC:s.heap.get? C = none:=dy x0 fC2
  have nD0:D∉own O0:=dY I0 fD2
  have nC0:C∉own O0:=dY I0 fC2
  have hD0:IsL h0 D #[] 0:=by
   refine (hsb₁.2 D hDC).trans (Heap.get?_push_of_some _ ?_)
   rw [hDe];exact Heap.get?_push_size _ rfl
  have DF:D∉F:=λh=>(i0.F_ok D h).1 fD2
  have CF:C∉F:=λh=>(i0.F_ok C h).1 fC2
  have xs:Ext [] O s.heap O0 h0:=x0.trans x2
  have hns0:h0.Ns C λU=>none:=hns₁
  have S0:Sit w hB k Γc A (compEnvC sc cl C env) O0 H0 (ql L n cap) { s2 with heap:=h0,toks:=s2.toks + ([]:List (Str×Value)).length }:=xO (s':={ s2 with heap:=h0,toks:=s2.toks + ([]:List (Str×Value)).length }) S K h1 h2 h3 xs I2 fC nC0 hns0
  have i1:IterAt O0 h0 it 0 F X:=i0.mono (List.prefix_refl _) (ct keep2) λa U o e=>keep2 a o e
  have alF:∀ a∈Al (compEnvC sc cl C env),a∉F∧a≠D:=λa ha=>by
   rcases mem_Al.mp ha with e0 | ⟨y,hy⟩
   ·rw [show a = C from e0];exact ⟨CF,Ne.symm hDC⟩
   ·have:=S.loc.there a (mem_Al.mpr (.inr ⟨y,h1 y a hy⟩))
    exact ⟨λh=>this (fF a h),λh=>this (by rw [h];exact fD)⟩
  have loop:codeAny (MM w) A (.compLoop (.ListComp elt [⟨target,iter,ifs,0⟩] sc pos) 0 it (.ref D) (compEnvC sc cl C env)) (RR (.ref D) C) { s2 with heap:=h0,toks:=s2.toks + ([]:List (Str×Value)).length }:=by
   refine qI (CompI w hB Γc (compEnvC sc cl C env) O s it F X D I) ?_ X.size
    ⟨0,O0,H0,_,[],#[],0,rfl,Nat.zero_le _,hI0,xs,I2,S0.loc,⟨sm0.gens,sm0.os⟩,i1,λa ha=>(f0 a ha).2,nD0,hD0,by rw [sizeLine_eq];decide,RVs_nil.mpr rfl⟩
   rintro nn s3 ⟨j,O3,H3,L3,acc,vs,n1,rfl,hj,hI,x3,I3,l3,sm3,i3,nF,nD,hD,hvz,hacc⟩
   obtain ⟨ok3,hal⟩:=hok j acc L3 H3 hI
   have hvl:=hacc.length
   rw [Array.length_toList] at hvl
   cases hm:X.at j with
   | none =>
    have ej:=(It.at_size hj).mp hm
    subst ej
    refine wpAny_mono (i3.stop S.room I3 ok3 hm (P:=λs'=>(∀ b o,b∉F→s3.heap.get? b = some o→s'.heap.get? b = some o)∧Sm s3 s') λs' a b=>⟨a,b⟩) (λr s4 z=>?_) λU U z=>z.elim
    obtain ⟨rfl,keep,sm4⟩:=z
    have z:=I3.writeF0 (λa ha=>hBf a (fF a ha)) nF keep λa ha=>(i3.F_ok a ha).2
    obtain ⟨m',hm',_⟩:=l3.ns
    obtain ⟨oc,ec,pc,hoc,rc⟩:=hm'
    exact hRR O3 H3 D C s4 vs n1 acc m' (x3.endF keep fF) z.1 fD fC hDC nD l3.outL ⟨oc,ec,pc,keep _ _ CF hoc,rc⟩ (keep _ _ DF hD) hvz (hacc.mono (List.prefix_refl _) z.2) (sm3.trans sm4) (fin _ _ _ hI)
   | some m =>
    have hlt:j < X.size:=Nat.lt_of_le_of_ne hj λe=>by rw [(It.at_size hj).mpr e] at hm;cases hm
    refine wpAny_mono (i3.next (target:=target) (P:=NextP w hB O3 H3 m it j F X s3) S.room I3 nF (λa ha=>hBf a (fF a ha)) ok3 hm tg λv s' a b c d e=>⟨a,b,c,d,e⟩) (λr s4 z=>?_) λU U z=>z.elim
    obtain ⟨v,rfl,z⟩:=z
    refine wpAny_mono z (λU s5 z=>?_) λU U z=>z.elim
    obtain ⟨rv,i5,I5,x5,sm5⟩:=z
    have kt5:=x5.tup I3 λa ha=>(i3.F_ok a ha).2
    have nAl:∀ a∈Al (compEnvC sc cl C env),a∉own O3:=λa ha q=>by
     rcases mem_Al.mp ha with e0 | ⟨y,hy⟩
     ·rw [show a = C from e0] at q;exact l3.outL q
     ·exact l3.outC _ _ hy q
    have l5:LocRep O3 s5.heap Γc (compEnvC sc cl C env) L3:=l3.kept (List.prefix_refl _) (λa h=>.inl h) kt5 λa ha o e=>x5.keep a o e (nAl a ha) (alF a ha).1
    have S5:Sit w hB k Γc A (compEnvC sc cl C env) O3 H3 L3 s5:=S0.nextW I5 l5
    have hD5:IsL s5.heap D vs n1:=x5.keep _ _ hD nD DF
    refine wpAny_mono (ha.1 A _ O3 H3 L3 s5 _ m v S5 rv (step j m acc L3 H3 hm hI)) (λU s6 z=>?_) λU U z=>z.elim
    obtain ⟨O6,H6,L6,x6,I6,l6,sm6,q6⟩:=z
    have S6:=S5.nextW I6 l6
    rw [xy] at x6
    have kt6:=S5.tupW (s':=s6) x6
    have hD6:IsL s6.heap D vs n1:=x6.keep _ _ hD5 nD (by simpa using hDC)
    have nD6:D∉own O6:=dE x6 hD5 nD
    refine wpAny_mono (ht.1 A _ O6 H6 L6 s6 _ S6 q6) (λc s7 z=>?_) λU U z=>z.elim
    obtain ⟨O7,H7,x7,I7,sm7,q7⟩:=z
    have S7:=S6.next x7 I7
    have hD7:IsL s7.heap D vs n1:=x7.keep _ _ hD6 nD6 (by simp)
    have nD7:D∉own O7:=dE x7 hD6 nD6
    have kF7:∀ a∈F,∀ o,s5.heap.get? a = some o→s7.heap.get? a = some o:=λa ha o e =>
     x7.keep a o (x6.keep a o e (nF a ha) (by simpa using λz:a = C=>CF (z ▸ ha))) (dE x6 e (nF a ha)) (by simp)
    have nF7:∀ a∈F,a∉own O7:=λa ha=>by
     obtain ⟨o,eo⟩:=Option.ne_none_iff_exists'.mp (i5.F_ok a ha).1
     have e6:=x6.keep a o eo (nF a ha) (by simpa using λz:a = C=>CF (z ▸ ha))
     exact dE x7 e6 (dE x6 eo (nF a ha))
    have kt57:∀ a items,s5.heap.IsTuple a items→s7.heap.IsTuple a items:=λa items t=>(x7.tup0 I6) _ _ (kt6 _ _ t)
    have pre7:O3 <+: O7:=x6.pre.trans x7.pre
    have xx7:Ext [] O s.heap O7 s7.heap:=((x3.transF x5 fF).transF x6 (by simpa using fC)).trans x7
    have i7:IterAt O7 s7.heap it (j + 1) F X:=i5.mono pre7 kt57 kF7
    have hacc7:RVs O7 s7.heap acc vs.toList:=(hacc.mono (List.prefix_refl _) kt5).mono pre7 kt57
    have smm:Sm s s7:=((sm3.trans sm5).trans sm6).trans sm7
    cases c with
    | false=>exact ⟨_,wn hlt,j + 1,O7,H7,L6,acc,vs,n1,rfl,hlt,q7,xx7,I7,S7.loc,smm,i7,nF7,nD7,hD7,hvz,hacc7⟩
    | true =>
     rw [if_pos rfl] at q7 ⊢
     refine wpAny_mono (he.1 A _ O7 H7 L6 s7 _ S7 q7) (λu s8 z=>?_) λU U z=>z.elim
     obtain ⟨O8,H8,mu,x8,I8,ru,sm8,q8⟩:=z
     have S8:=S7.next x8 I8
     have hD8:IsL s8.heap D vs n1:=x8.keep _ _ hD7 nD7 (by simp)
     have nD8:D∉own O8:=dE x8 hD7 nD7
     have kF8:∀ a∈F,∀ o,s7.heap.get? a = some o→s8.heap.get? a = some o:=λa ha o e=>x8.keep a o e (nF7 a ha) (by simp)
     have hz:vs.size≤sizeLine:=by rw [hvl,sizeLine_eq];exact Nat.le_trans ‹_› (by decide)
     refine call_meetsIn PySem.F.slot_list_append ⟨_,hD8,rfl⟩ PySem.F.entry_list_append (PySem.F.args_list_append_2 _ _) ((list_append D vs n1 u hz).inModel PW w) ⟨hD8,?_⟩
     have same:∀ b,b≠D→(s8.heap.update D (Obj.mapSeq λxs=>xs.push u)).get? b = s8.heap.get? b:=λb hb=>Heap.get?_update_other _ _ (Ne.symm hb)
     have hD9:=hD8.update (λxs=>xs.push u)
     have oneD:∀ a∈[D],a = D:=λa ha=>by simpa using ha
     have z:=I8.writeF (F:=[D]) (h':=s8.heap.update D (Obj.mapSeq λxs=>xs.push u)) (λa ha=>by rw [oneD a ha];exact hBf _ fD) (λa ha=>by rw [oneD a ha];exact nD8)
      (λb o hb e=>(same b (by simpa using hb)).trans e) (λa ha=>by rw [oneD a ha,hD9];simp) λa ha items=>by
       rw [oneD a ha];exact mO hD8 rfl (by decide) _
     obtain ⟨I9,x9,kt9⟩:=z
     have xx9:Ext [] O s.heap O8 (s8.heap.update D (Obj.mapSeq λxs=>xs.push u)):=(xx7.trans x8).transF x9 (by simpa using fD)
     have l9:LocRep O8 (s8.heap.update D (Obj.mapSeq λxs=>xs.push u)) Γc (compEnvC sc cl C env) L6:=S8.loc.kept (List.prefix_refl _) (λa h=>.inl h) kt9 λa ha o e=>(same a (alF a ha).2).trans e
     have kt79:∀ a items,s7.heap.IsTuple a items→(s8.heap.update D (Obj.mapSeq λxs=>xs.push u)).IsTuple a items:=λa items t=>kt9 _ _ ((x8.tup0 I7) _ _ t)
     refine ⟨_,wn hlt,j + 1,O8,H8,L6,acc++[mu],vs.push u,_,rfl,hlt,q8,xx9,I9,l9,?_,i7.mono x8.pre kt79 (λa ha o e=>(same a λz=>DF (z ▸ ha)).trans (kF8 a ha o e)),λa ha=>?_,nD8,hD9,?_,?_⟩
     ·exact ⟨(smm.trans sm8).gens,(smm.trans sm8).os⟩
     ·obtain ⟨o,eo⟩:=Option.ne_none_iff_exists'.mp (i7.F_ok a ha).1
      exact dE x8 eo (nF7 a ha)
     ·rw [Array.size_push];exact Nat.lt_of_le_of_lt ‹_› (by decide)
     ·rw [Array.toList_push]
      exact ((hacc7.mono x8.pre (x8.tup0 I7)).mono (List.prefix_refl _) kt9).append (.mk (ru.mono (List.prefix_refl _) kt9) (RVs_nil.mpr rfl))
  refine codeAny_compStart_list loop ?_
  refine IterAt.self (s:={ s2 with heap:=h0,toks:=s2.toks + ([]:List (Str×Value)).length }) i1 (hself X tg0) ?_
  exact loop
 exact key _ _ _ rfl rfl rfl
end
end Mine
end
section
namespace Mine
section
variable {w:World} {hB:Heap} {k:Nat} {Γ:Ctx}
private theorem lU {Γc:Ctx} {sc:Scope} {n:Nat} {cap:List Nat} {elt target iter:Expr} {ifs:List Expr} {pos:Pos} {Ti:IT} {kd:It→Prop} {Ta:AT} {Tt:BoT} {Te:ET}
  (hK:qh Γ Γc sc n cap = true) (hi:SI w hB k Γ iter Ti kd) (ha:SA w hB k Γc target Ta) (ht:SIf w hB k Γc ifs Tt) (he:SE w hB k Γc elt Te) (htg:∀ X,kd X→og X target) (hself:∀ X,kd X→¬ lx X) :
  SE w hB k Γ (.ListComp elt [⟨target,iter,ifs,0⟩] sc pos) (cE Ti Ta Tt Te n cap):=by
 refine ⟨?_,trivial⟩
 intro A env O H L s Q S q
 have K:=ph hK
 obtain ⟨cl,hcl,h1,h2,h3⟩:=rB S K
 rw [eval_ListComp]
 refine wpAny_comprehension_free (use:=none) rfl (λx=>hi.2 x env) hcl K.kind K.loc ?_
 refine mf (RR:=λacc C=>compPost (MM w) A Fls none (EPost w hB O s Q) acc C) S K hi ha ht he htg hself hcl h1 h2 h3 q ?_
 intro O' H' D C s' vs nn acc m' x I fD fC hDC nD nC hn hD hvz hacc sm q'
 refine ⟨m',hn,λh' hs=>?_⟩
 have one:∀ a∈[C],a = C:=λa ha=>by simpa using ha
 have hn':=hn
 obtain ⟨oc,ec,pc,hoc,dc,rc⟩:=hn'
 have z:=I.writeF0 (F:=[C]) (h':=h') (λa ha=>by
  rw [one a ha]
  cases e:hB.get? C with
  | none=>rfl
  | some o=>have:=S.inv.base C o e;rw [fC] at this;cases this) (λa ha=>by rw [one a ha];exact nC)
  (λb o hb e=>(hs.2 b (by simpa using hb)).trans e) λa ha items ⟨o',e',c',n',d'⟩=>by
   rw [one a ha,hoc] at e';cases e';rw [dc] at d';cases d'
 have x2:Ext [] O s.heap O' h':=x.endF (F:=[C]) (λb o hb e=>(hs.2 b (by simpa using hb)).trans e) (λa ha=>by rw [one a ha];exact fC)
 have hD':IsL h' D vs nn:=(hs.2 D hDC).trans hD
 have z2:=z.1.adopt (m:=.list acc) x2 S.inv.base fD nD ⟨rfl,vs,nn,hvz,hD',(hacc.mono (List.prefix_refl _) z.2).mono ⟨_,rfl⟩ λU U t=>t⟩
 exact ⟨_,_,_,z2.2.1,z2.1,z2.2.2,⟨sm.gens,sm.os⟩,q'⟩
private theorem tT {env:Env} {elt:Expr} {gens:List Comprehension} {sc:Scope} {pos py:Pos} {y:Str} {i line:Nat} (E:EnvOk w Γ env) (hy:Γ.names[i]? = some (y,false)) (hl:(py.line == pos.line) = true)
  (hn:(sc.names.any λ(n,k)=>n == y && (k == .local || k == .cell)) = false):swapsWith (.ListComp elt gens sc pos) (some (.Name y py)) line env = pure true:=by
 have k1:=E.vars _ (List.mem_of_getElem? hy)
 have kb:env.blockKind = .function:=by unfold Env.blockKind;rw [E.kind];rfl
 unfold swapsWith
 dsimp only
 have e:(Expr.ListComp elt gens sc pos).pos.line = pos.line:=rfl
 rw [kb,show env.kindOf y = some .local from k1,e,hl,hn]
 rfl
private theorem bO {Γc:Ctx} {sc:Scope} {n i:Nat} {cap:List Nat} {elt target iter:Expr} {ifs:List Expr} {y:Str} {py pos spos:Pos} {Ti:IT} {kd:It→Prop} {Ta:AT} {Tt:BoT} {Te:ET}
  (hy:Γ.names[i]? = some (y,false)) (hl:(py.line == pos.line) = true) (hn:(sc.names.any λ(n,k)=>n == y && (k == .local || k == .cell)) = false)
  (hK:qh Γ Γc sc n cap = true) (hi:SI w hB k Γ iter Ti kd) (ha:SA w hB k Γc target Ta) (ht:SIf w hB k Γc ifs Tt) (he:SE w hB k Γc elt Te) (htg:∀ X,kd X→og X target) (hself:∀ X,kd X→¬ lx X) :
  S1 w hB k Γ (.Assign [.Name y py] (.ListComp elt [⟨target,iter,ifs,0⟩] sc pos) spos) (au (cE Ti Ta Tt Te n cap) (aw i)):=by
 refine ⟨?_,trivial⟩
 intro A env O H L s Q S q
 have K:=ph hK
 obtain ⟨cl,hcl,h1,h2,h3⟩:=rB S K
 rw [exec_Assign_Name_used _ _ _ _ (tT S.eok hy hl hn)]
 refine wpAny_bind (wpAny_standAt (wpAny_bind ?_))
 show wpAny _ A (do let _ ← comprehension (.ListComp elt [⟨target,iter,ifs,0⟩] sc pos) sc env _ (newList []) false (eval iter env) (some (assign (.Name y py) env))) _ _ s
 refine wpAny_bind (wpAny_mono (wpAny_comprehension_free (use:=some (assign (.Name y py) env)) (Q:=λU s'=>FPost w hB Γ env O s Q .next s') rfl (λx=>hi.2 x env) hcl K.kind K.loc ?_) (λU s' hq=>wpAny_pure (wpAny_pure hq)) λU U e=>e)
 refine mf (RR:=λacc C=>compPost (MM w) A Fls (some (assign (.Name y py) env)) (λU s'=>FPost w hB Γ env O s Q .next s') acc C) S K hi ha ht he htg hself hcl h1 h2 h3 q ?_
 intro O' H' D C s' vs nn acc m' x I fD fC hDC nD nC hnC hD hvz hacc sm q'
 show wpAny (MM w) A (assign (.Name y py) env (.ref D)) _ _ _
 have z2:=I.adopt (m:=.list acc) x S.inv.base fD nD ⟨rfl,vs,nn,hvz,hD,hacc.mono ⟨_,rfl⟩ λU U t=>t⟩
 have S2:Sit w hB k Γ A env (O'++[(D,none)]) (H'++[.list acc]) L s':=S.next z2.2.1 z2.1
 refine wpAny_mono ((aq hy rfl:SA w hB k Γ (.Name y py) (aw i)).1 A env _ _ L s' _ (.ref H'.length) (.ref D) S2 z2.2.2 q') (λU s'' z=>?_) λU U z=>z
 obtain ⟨O3,H3,L3,x3,I3,l3,sm3,q3⟩:=z
 have hCW:C∉Wr env:=λh=>S.loc.there C (j8 h) fC
 have nC2:C∉own (O'++[(D,none)]):=by
  rw [dh,bx]
  intro h
  rcases List.mem_append.mp h with h | h
  ·exact nC h
  ·exact hDC (by simpa using h:C = D).symm
 obtain ⟨oc,ec,pc,hoc,dc,rc⟩:=hnC
 have hoc3:=x3.keep C oc hoc nC2 hCW
 refine ⟨m',⟨oc,ec,pc,hoc3,dc,rc⟩,λh' hs=>?_⟩
 have one:∀ a∈[C],a = C:=λa ha=>by simpa using ha
 have nC3:C∉own O3:=dE x3 hoc nC2
 have keep:∀ b o,b∉[C]→s''.heap.get? b = some o→h'.get? b = some o:=λb o hb e=>(hs.2 b (by simpa using hb)).trans e
 have z:=I3.writeF0 (F:=[C]) (h':=h') (λa ha=>by
  rw [one a ha]
  cases e:hB.get? C with
  | none=>rfl
  | some o=>have:=S.inv.base C o e;rw [fC] at this;cases this) (λa ha=>by rw [one a ha];exact nC3)
  keep λa ha items ⟨o',e',c',n',d'⟩=>by
   rw [one a ha,hoc3] at e';cases e';rw [dc] at d';cases d'
 have x4:Ext (Wr env) O s.heap O3 h':=((z2.2.1.wk (W:=Wr env)).trans x3).endF (F:=[C]) keep (λa ha=>by rw [one a ha];exact fC)
 have l4:LocRep O3 h' Γ env L3:=l3.kept (List.prefix_refl _) (λa h=>.inl h) z.2 λa ha o e=>keep a o (λh=>S.loc.there a ha (by rw [one a h];exact fC)) e
 exact ⟨O3,H3,L3,.next,x4,z.1,l4,rfl,⟨(sm.trans sm3).gens,(sm.trans sm3).os⟩,q3⟩
end
end Mine
end
section
namespace Mine
section
variable {w:World} {hB:Heap} {k:Nat} {Γ:Ctx}
private theorem xK {O:Phi} {h:Heap} {p:Addr×Option Addr} {S:Int→Bool} {n:Nat} (hp:p.2 = none) (hS:Heap.SetOf (intKind PW w) h p.1 S n) (hs:∀ k:Int,S k = decide (0≤k∧k < 4)) (hn:n = 4):RObj w O h .full p:=by
 obtain ⟨o,es,ep,t,e,⟨c1,c2,c3⟩,hd,h1,h2,h3,h4,h5⟩:=hS
 refine ⟨hp,es,ep,t,?_,h1,λk=>?_,by rw [h5,hn],?_⟩
 ·obtain ⟨oc,od,oda,os⟩:=o
  dsimp only at c1 c2 c3 hd
  subst c1 c2 c3 hd
  exact e
 ·rw [← h2 k,hs k,decide_eq_true_eq]
 ·rw [← hn,← h5];exact h4
noncomputable def wz:FT:=λms H Q=>one ms λm=>eL m λi=>H[i]? = some (.list [.int 0,.int 1,.int 2,.int 3])∧Q (.ref H.length) (H++[.full])
private theorem lt4 {k:Int}:(k = 0∨k = 1∨k = 2∨k = 3)↔0≤k∧k < 4:=by
 constructor
 ·rintro (rfl | rfl | rfl | rfl) <;> decide
 ·rintro ⟨a,b⟩
  obtain ⟨n,rfl⟩:=Int.eq_ofNat_of_zero_le a
  rcases n with _ | _ | _ | _ | n
  ·exact .inl rfl
  ·exact .inr (.inl rfl)
  ·exact .inr (.inr (.inl rfl))
  ·exact .inr (.inr (.inr rfl))
  ·exact absurd (Int.ofNat_lt.mp b) (Nat.not_lt.mpr (Nat.le_add_left 4 n))
private theorem yf:SC w hB k (.type "set") wz:=by
 refine ⟨?_,trivial⟩
 intro A O H s ms vs Q B R I rv q
 replace q:=fb q
 obtain ⟨m,rfl,q⟩:=q
 obtain ⟨v,r,rfl,a,b⟩:=RVs_cons.mp rv
 obtain rfl:=RVs_nil.mp b
 replace q:=bP q
 obtain ⟨i,rfl,q⟩:=q
 obtain ⟨p,hp,rfl⟩:=a.ref_of
 obtain ⟨hi,q⟩:=q
 obtain ⟨us,n,h1,h2,hL,hl,hr⟩:=bU I hi hp
 have hr':RVs O s.heap (([0,1,2,3]:List Int).map .int) us.toList:=hr
 obtain ⟨iv,_⟩:=f7 hr'
 have hsz:us.size = 4:=h1
 refine call_set_list R.handled hl iv (by rw [hsz];decide) λh' tk hS keep=>?_
 rw [hsz] at hS
 have keep':∀ b o,s.heap.get? b = some o→h'.get? b = some o:=λb o e=>keep b o (Heap.lt_size e) e
 have z:=I.alloc (m:=.full) (p:=(s.heap.objs.size,none)) keep' (λa ha=>by
  rw [bx] at ha
  obtain rfl:a = s.heap.objs.size:=by simpa using ha
  exact bF _) (by rw [bx];simp) (xK rfl hS (λk=>by
   have:firstMet (λi=>([0,1,2,3]:List Int).getD i 0) 4 = [0,1,2,3]:=by decide
   rw [this,Bool.eq_iff_iff]
   simp only [List.any_cons,List.any_nil,Bool.or_false,Bool.or_eq_true,beq_iff_eq,decide_eq_true_eq]
   rw [eq_comm (a:=(0:Int)),eq_comm (a:=(1:Int)),eq_comm (a:=(2:Int)),eq_comm (a:=(3:Int))]
   exact lt4) (by decide))
 exact ⟨_,_,_,z.2,z.1,gm (p:=(s.heap.objs.size,none)) (by rw [← I.len];simp),⟨rfl,rfl⟩,q⟩
noncomputable def nO:FT:=λms H Q=>one ms λm=>eL m λi=>H[i]? = some .full∧Q (.ref H.length) (H++[.full])
private theorem pK {A:Around} {s:Shared} {S:Addr} {led:Bool} {es':Array (Int×Value)} {t':SetTable} {Q:Unit→Shared→Prop} (hS:s.heap.get? S = some { cls:=.type "set",dict:=none,data:=.set #[] 0 (.fresh 0 0 led) }) (hz:es'.size≤sizeLine)
  (h:∀ h':Heap,h'.get? S = some { cls:=.type "set",dict:=none,data:=.set es' 1 t' }→(∀ b,b≠S→h'.get? b = s.heap.get? b)→Q () { s with heap:=h' }):wpAny (MM w) A (storeSet S es' t') Q Fls s:=by
 refine wpAny_storeSet_of hS rfl (h _ ?_ λb hb=>Heap.get?_update_other _ _ (Ne.symm hb)) hz
 have:=Heap.get?_update_self (Obj.putSet es' t') hS (by rw [putSet_of es' t' rfl];rfl)
 rw [putSet_of es' t' rfl] at this;exact this
private theorem yP {k:Int} {e:Int×Value} (h0:0≤k) (h4:k < 4) (hk:(intKind PW w).is k e.2 = true) (he:(∃ k',(intKind PW w).is k' e.2 = true∧e.1 = (intKind PW w).hash k')):e.1 = k:=by
 obtain ⟨k',h1,h2⟩:=he
 obtain rfl:=(intKind PW w).inj _ _ _ h1 hk
 rw [h2]
 have:=lt4.mpr ⟨h0,h4⟩
 rcases this with rfl | rfl | rfl | rfl <;> rfl
noncomputable def PQ24:List (List Nat×List Nat):=[([0,1,2,3],[0,1,2,3]),([0,1,3,2],[0,1,3,2]),([0,2,1,3],[0,2,1,3]),([0,2,3,1],[0,3,1,2]),([0,3,1,2],[0,2,3,1]),([0,3,2,1],[0,3,2,1]),
 ([1,0,2,3],[1,0,2,3]),([1,0,3,2],[1,0,3,2]),([1,2,0,3],[2,0,1,3]),([1,2,3,0],[3,0,1,2]),([1,3,0,2],[2,0,3,1]),([1,3,2,0],[3,0,2,1]),
 ([2,0,1,3],[1,2,0,3]),([2,0,3,1],[1,3,0,2]),([2,1,0,3],[2,1,0,3]),([2,1,3,0],[3,1,0,2]),([2,3,0,1],[2,3,0,1]),([2,3,1,0],[3,2,0,1]),
 ([3,0,1,2],[1,2,3,0]),([3,0,2,1],[1,3,2,0]),([3,1,0,2],[2,1,3,0]),([3,1,2,0],[3,1,2,0]),([3,2,0,1],[2,3,1,0]),([3,2,1,0],[3,2,1,0])]
noncomputable def pk (p:List Nat) (y:Nat→Value) (i:Nat):Int×Value:=(((p.getD i 0:Nat):Int),y i)
private theorem yi:∀ pq∈PQ24,pq.2.isPerm [0,1,2,3] = true:=by decide +kernel
private theorem y9:∀ a∈List.range 4,∀ b∈List.range 4,∀ c∈List.range 4,∀ d∈List.range 4,([0,1,2,3].all λk=>k == a || k == b || k == c || k == d) = true→(PQ24.map (·.1)).contains [a,b,c,d] = true:=by decide +kernel
private theorem all_cons {α:Type} {P:α→Prop} {a:α} {l:List α} (h:P a) (t:∀ x∈l,P x):∀ x∈a :: l,P x:=λx hx=>by
 rcases List.mem_cons.mp hx with rfl | hx
 ·exact h
 ·exact t x hx
private theorem xi {α:Type} {P:α→Prop}:∀ x∈([]:List α),P x:=λx hx=>nomatch hx
private theorem xk {α:Type} {l:List α} (h:l.length = 4):∃ a b c d,l = [a,b,c,d]:=by
 have S:∀ {n:Nat} {l:List α},l.length = n + 1→∃ a r,l = a :: r∧r.length = n:=λ{n l} h=>by
  cases l with
  | nil=>exact Nat.noConfusion h
  | cons a r=>exact ⟨a,r,rfl,Nat.succ.inj h⟩
 obtain ⟨a,r,e,h⟩:=S h
 obtain ⟨b,r1,e1,h⟩:=S h
 obtain ⟨c,r2,e2,h⟩:=S h
 obtain ⟨d,r3,e3,h⟩:=S h
 exact ⟨a,b,c,d,by rw [e,e1,e2,e3,List.length_eq_zero_iff.mp h]⟩
private theorem An {es:Array (Int×Value)} (hin:∀ e∈es.toList,0≤e.1∧e.1 < 4) (hmem:∀ k:Int,0≤k→k < 4→∃ e∈es.toList,e.1 = k) (h3:es.size = 4) :
  ∃ pq:List Nat×List Nat,pq∈PQ24∧∃ y:Nat→Value,es = #[pk pq.1 y 0,pk pq.1 y 1,pk pq.1 y 2,pk pq.1 y 3]∧(pq.2.map (pk pq.1 y)).Perm es.toList:=by
 obtain ⟨l⟩:=es
 dsimp only at hin hmem h3
 obtain ⟨e0,e1,e2,e3,rfl⟩:=xk h3
 clear h3
 obtain ⟨n0,q0⟩:=Int.eq_ofNat_of_zero_le (hin e0 (.head _)).1
 obtain ⟨n1,q1⟩:=Int.eq_ofNat_of_zero_le (hin e1 (.tail _ (.head _))).1
 obtain ⟨n2,q2⟩:=Int.eq_ofNat_of_zero_le (hin e2 (.tail _ (.tail _ (.head _)))).1
 obtain ⟨n3,q3⟩:=Int.eq_ofNat_of_zero_le (hin e3 (.tail _ (.tail _ (.tail _ (.head _))))).1
 have lt:∀ e∈[e0,e1,e2,e3],∀ n:Nat,e.1 = n→n∈List.range 4:=λe he n hn=>List.mem_range.mpr (Int.ofNat_lt.mp (hn ▸ (hin e he).2))
 have c:=y9 n0 (lt e0 (.head _) n0 q0) n1 (lt e1 (.tail _ (.head _)) n1 q1) n2 (lt e2 (.tail _ (.tail _ (.head _))) n2 q2) n3 (lt e3 (.tail _ (.tail _ (.tail _ (.head _)))) n3 q3) (List.all_eq_true.mpr λk hk=>by
  have hk4:k < 4:=by revert hk;revert k;decide
  obtain ⟨e,he,hek⟩:=hmem k (Int.natCast_nonneg k) (Int.ofNat_lt.mpr hk4)
  simp only [List.mem_cons,List.not_mem_nil,or_false] at he
  simp only [Bool.or_eq_true,beq_iff_eq]
  have m:∀ {a:Nat},e.1 = a→k = a:=λh=>Int.ofNat.inj (hek.symm.trans h)
  rcases he with rfl | rfl | rfl | rfl
  ·exact .inl (.inl (.inl (m q0)))
  ·exact .inl (.inl (.inr (m q1)))
  ·exact .inl (.inr (m q2))
  ·exact .inr (m q3))
 obtain ⟨pq,hpq,e⟩:=List.mem_map.mp (List.contains_iff_mem.mp c)
 have ek:[e0,e1,e2,e3] = [0,1,2,3].map (pk pq.1 λi=>([e0.2,e1.2,e2.2,e3.2].getD i .none)):=by
  rw [e]
  show [e0,e1,e2,e3] = [((n0:Int),e0.2),((n1:Int),e1.2),((n2:Int),e2.2),((n3:Int),e3.2)]
  rw [← q0,← q1,← q2,← q3]
 have hp:=(List.isPerm_iff.mp (yi pq hpq)).map (pk pq.1 λi=>([e0.2,e1.2,e2.2,e3.2].getD i .none))
 rw [← ek] at hp
 exact ⟨pq,hpq,_,congrArg Array.mk ek,hp⟩
private theorem sr {A:Around} {s:Shared} {S a:Addr} {led:Bool} {es:Array (Int×Value)} {ep:Nat} {t:SetTable} {each:Sem Unit} {Q:Unit→Shared→Prop} (hS:s.heap.get? S = some { cls:=.type "set",dict:=none,data:=.set #[] 0 (.fresh 0 0 led) })
  (hg:s.heap.get? a = some { cls:=.type "set",dict:=none,data:=.set es ep t }) (hne:(S == a) = false) (h1:ElemsOf (intKind PW w) es.toList)
  (h2:∀ k:Int,(0≤k∧k < 4)↔∃ e∈es.toList,(intKind PW w).is k e.2 = true) (h3:es.size = 4) (h4:t.fits 4 = true)
  (h:∀ (h':Heap) es' t',h'.get? S = some { cls:=.type "set",dict:=none,data:=.set es' 1 t' }→es'.toList.Perm es.toList→t'.fits 4 = true→(∀ b,b≠S→h'.get? b = s.heap.get? b)→Q () { s with heap:=h' }) :
  wpAny (MM w) A (setMerge S a each) Q Fls s:=by
 have hmem:∀ k:Int,0≤k→k < 4→∃ e∈es.toList,e.1 = k:=λk a b=>by
  obtain ⟨e,he,hk⟩:=(h2 k).mp ⟨a,b⟩
  exact ⟨e,he,yP a b hk (h1 e he).1⟩
 have hin:∀ e∈es.toList,0≤e.1∧e.1 < 4:=λe he=>by
  obtain ⟨k',q1,q2⟩:=(h1 e he).1
  have hr:=(h2 k').mpr ⟨e,he,q1⟩
  rw [yP hr.1 hr.2 q1 (h1 e he).1];exact hr
 unfold setMerge
 rw [hne]
 simp only [Bool.false_eq_true,if_false]
 refine wpAny_bind (wpAny_setState_of hg rfl (by rw [h3];exact h4) ?_)
 dsimp only
 have hem:es.isEmpty = false:=by rw [Array.isEmpty,h3];rfl
 rw [hem]
 simp only [Bool.false_eq_true,if_false]
 have hfr:(SetTable.fresh 0 0 led).fits (#[]:Array (Int×Value)).size = true:=rfl
 refine wpAny_bind (m:=setRoomFor S es.size) ?_
 unfold setRoomFor
 refine wpAny_bind (wpAny_setState_of hS rfl hfr ?_)
 dsimp only
 rw [h3,show (SetTable.fresh 0 0 led).roomFor 4 = none from rfl]
 refine wpAny_pure ?_
 refine wpAny_bind (wpAny_setState_of hS rfl hfr ?_)
 dsimp only
 have hroad:(SetTable.fresh 0 0 led).road t = if (7 == t.mask && t.dummies.isEmpty) = true then .slotForSlot else .clean:=rfl
 rw [hroad]
 by_cases hc:(7 == t.mask && t.dummies.isEmpty) = true
 ·rw [if_pos hc]
  exact pK hS (by rw [h3,sizeLine_eq];decide) λh' e1 e2=>h h' es _ e1 (List.Perm.refl _) h4 e2
 ·rw [if_neg hc]
  dsimp only
  have step:∀ (y:Nat→Value) (pq:List Nat×List Nat),(pq.2.map (pk pq.1 y)).Perm es.toList→∀ m:Sem (Array (Int×Value)×SetTable),m = pure ((pq.2.map (pk pq.1 y)).toArray,({ mask:=7,place:=#[0,1,2,3],dummies:=#[],finger:=0,led:=led && t.led,moves:=0,plain:=true && t.plain }:SetTable)) →
    wpAny (MM w) A (m >>= λx=>storeSet S x.fst x.snd) Q Fls s:=λy pq hp m hm=>by
   have hz:(pq.2.map (pk pq.1 y)).toArray.size = 4:=by rw [List.size_toArray,hp.length_eq];exact h3
   rw [hm]
   refine wpAny_bind (wpAny_pure ?_)
   exact pK hS (by rw [hz,sizeLine_eq];decide) λh' e1 e2=>h h' _ _ e1 hp rfl e2
  obtain ⟨pq,hpq,y,e,hp⟩:=An hin hmem h3
  rw [e]
  clear e hin hmem h1 h2 hg h
  revert pq
  iterate 24 refine all_cons (λhp=>step y _ hp _ (by kernel_rfl!)) ?_
  exact xi
set_option maxHeartbeats 3200000 in
private theorem oI {A:Around} {s:Shared} {a:Addr} {es:Array (Int×Value)} {ep:Nat} {t:SetTable} {Q:Value→Shared→Prop} (hg:s.heap.get? a = some { cls:=.type "set",dict:=none,data:=.set es ep t }) (h1:ElemsOf (intKind PW w) es.toList)
  (h2:∀ k:Int,(0≤k∧k < 4)↔∃ e∈es.toList,(intKind PW w).is k e.2 = true) (h3:es.size = 4) (h4:t.fits 4 = true)
  (h:∀ (h':Heap) es' t',h'.get? s.heap.objs.size = some { cls:=.type "set",dict:=none,data:=.set es' 1 t' }→es'.toList.Perm es.toList→t'.fits 4 = true→(∀ b o,s.heap.get? b = some o→h'.get? b = some o)→Q (.ref s.heap.objs.size) { s with heap:=h' }) :
  wpAny (MM w) A (PySem.call (.type "set") [.ref a]) Q Fls s:=by
 obtain ⟨c,tl,hmro⟩:=F.called_set.mro
 have hmade:=F.called_set.made
 have hsub:=F.called_set.sub
 refine wpAny_call (codeAny_of_tree ?_)
 show wpAny _ _ (callAny (.type "set") _) _ _ _
 refine wpAny_pure ⟨Code.quiet_builtin _ (by decide +kernel),codeAny_builtin F.entry_type_call ?_⟩
 rw [Around.under_plain (weight_type_call_type "set" [.ref a] []) rfl]
 have h1':=F.called_set.notType
 have h2':=F.called_set.canCreate
 have hct:=F.typeCall_set_1 (.ref a)
 repeat (any_goals (first | assumption | wp_step))
 refine codeAny_mono (code_set_new_1 (.ref a) (E:=Fls) (Q₁:=λobj s₁=>∃ led:Bool,obj = .ref s.heap.objs.size∧s₁ = { s with heap:=s.heap.push { cls:=.type "set",dict:=none,data:=.set #[] 0 (.fresh 0 0 led) } }) λled=>⟨led,rfl,rfl⟩) λr s₁ hr=>?_
 cases r with
 | error e=>exact hr
 | ok fl =>
  cases fl with
  | ret obj =>
   obtain ⟨led,rfl,rfl⟩:=hr
   have hS:(s.heap.push { cls:=.type "set",dict:=none,data:=.set #[] 0 (.fresh 0 0 led) }).get? s.heap.objs.size = some { cls:=.type "set",dict:=none,data:=.set #[] 0 (.fresh 0 0 led) }:=Heap.get?_push_size _ rfl
   have hT:Shared.TypeIs { s with heap:=s.heap.push { cls:=.type "set",dict:=none,data:=.set #[] 0 (.fresh 0 0 led) } } (.ref s.heap.objs.size) "set":=⟨_,hS,rfl⟩
   have hli:=F.called_set.init.lookup
   have hbi:=F.called_set.init.bind (.ref s.heap.objs.size)
   repeat (any_goals (first | assumption | wp_step))
   refine codeAny_mono (codeAny_call_builtin (R:=wants (λr s₂=>r = .none∧∃ h' es' t',s₂ = { s with heap:=h' } ∧
     h'.get? s.heap.objs.size = some { cls:=.type "set",dict:=none,data:=.set es' 1 t' }∧es'.toList.Perm es.toList∧t'.fits 4 = true∧(∀ b o,s.heap.get? b = some o→h'.get? b = some o)) Fls) F.called_set.init.plain F.entry_set_init (check_set_init_1 hT ?_)) λr₂ s₂ hr₂=>?_
   ·have hg':(s.heap.push { cls:=.type "set",dict:=none,data:=.set #[] 0 (.fresh 0 0 led) }).get? a = some { cls:=.type "set",dict:=none,data:=.set es ep t }:=Heap.get?_push_of_some _ hg
    have hTa:Shared.TypeIs { s with heap:=s.heap.push { cls:=.type "set",dict:=none,data:=.set #[] 0 (.fresh 0 0 led) } } (.ref a) "set":=⟨_,hg',rfl⟩
    have hss:=sub_set_self
    unfold Builtin.«set.__init__» noKeywords Builtin.Frozenset.updateFrom
    wp_walk
    have hc:(t.place.size != es.size || decide (t.fill > t.mask)) = false:=by
     have h4':=h4
     simp only [SetTable.fits,Bool.and_eq_true,beq_iff_eq,decide_eq_true_eq] at h4'
     simp [h4'.1,Nat.not_lt.mpr h4'.2,h3]
    rw [hc]
    simp only [Bool.false_eq_true,↓reduceIte]
    refine wpAny_pure (wpAny_pure ?_)
    have hne:(s.heap.objs.size == a) = false:=by
     have:=Nat.ne_of_gt (Heap.lt_size hg)
     simpa using this
    refine sr hS hg' hne h1 h2 h3 h4 λh' es' t' e1 e2 e3 e4=>?_
    show wpAny _ _ (ret Value.none) _ _ _
    exact wpAny_pure ⟨rfl,h',es',t',rfl,e1,e2,e3,λb o e=>(e4 b (Nat.ne_of_lt (Heap.lt_size e))).trans (Heap.get?_push_of_some _ e)⟩
   ·cases r₂ with
    | error e=>exact hr₂
    | ok fl₂ =>
     cases fl₂ with
     | ret r =>
      obtain ⟨rfl,h',es',t',rfl,e1,e2,e3,e4⟩:=hr₂
      repeat (any_goals (first | assumption | wp_step))
      exact h _ _ _ e1 e2 e3 e4
     | _=>exact hr₂.elim
  | _=>exact hr.elim
private theorem qM:SC w hB k (.type "set") nO:=by
 refine ⟨?_,trivial⟩
 intro A O H s ms vs Q B R I rv q
 replace q:=fb q
 obtain ⟨m,rfl,q⟩:=q
 obtain ⟨v,r,rfl,a,b⟩:=RVs_cons.mp rv
 obtain rfl:=RVs_nil.mp b
 replace q:=bP q
 obtain ⟨i,rfl,q⟩:=q
 obtain ⟨p,hp,rfl⟩:=a.ref_of
 obtain ⟨hi,q⟩:=q
 obtain ⟨_,es,ep,t,e,h1,h2,h3,h4⟩:=I.obj _ _ p hi hp
 refine oI e h1 h2 h3 h4 λh' es' t' e1 e2 e3 keep=>?_
 have z:=I.alloc (m:=.full) (p:=(s.heap.objs.size,none)) keep (λa ha=>by
  rw [bx] at ha
  obtain rfl:a = s.heap.objs.size:=by simpa using ha
  exact bF _) (by rw [bx];simp) ⟨rfl,es',1,t',e1,h1.perm e2,λk=>(h2 k).trans ⟨λ⟨x,hx,hk⟩=>⟨x,e2.mem_iff.mpr hx,hk⟩,λ⟨x,hx,hk⟩=>⟨x,e2.mem_iff.mp hx,hk⟩⟩,by
   have:=e2.length_eq
   rw [Array.length_toList,Array.length_toList] at this
   rw [this,h3],e3⟩
 exact ⟨_,_,_,z.2,z.1,gm (p:=(s.heap.objs.size,none)) (by rw [← I.len];simp),⟨rfl,rfl⟩,q⟩
end
end Mine
end
section
namespace Mine
section
variable {w:World} {hB:Heap} {k:Nat} {Γ:Ctx}
private theorem ba {n k:Nat} (h:n + 1≤k):∃ j,k = j + 1:=⟨k - 1,(Nat.succ_pred_eq_of_pos (Nat.lt_of_lt_of_le (Nat.succ_pos n) h)).symm⟩
private theorem dp {a n k:Nat} (hk:n + 1≤k + 1) (h:Nat.ble a n = true):a≤k:=Nat.le_trans (Nat.le_of_ble_eq_true h) (Nat.le_of_succ_le_succ hk)
private theorem Au {l:List Value} (h:l.length = 0):l = []:=List.length_eq_zero_iff.mp h
private theorem wZ {n:Nat} {l:List Value} (h:l.length = n + 1):∃ a r,l = a :: r∧r.length = n:=by
 cases l with
 | nil=>exact Nat.noConfusion h
 | cons a r=>exact ⟨a,r,rfl,Nat.succ.inj h⟩
private theorem fy {l:List Value} (h:l.length = 1):∃ a0,l = [a0] :=
 let ⟨a,r,e,h⟩:=wZ h
 ⟨a,by rw [e,Au h]⟩
private theorem hH {l:List Value} (h:l.length = 2):∃ a0 a1,l = [a0,a1] :=
 let ⟨a,r,e,h⟩:=wZ h
 let ⟨a1,f⟩:=fy h
 ⟨a,a1,by rw [e,f]⟩
private theorem ty {l:List Value} (h:l.length = 3):∃ a0 a1 a2,l = [a0,a1,a2] :=
 let ⟨a,r,e,h⟩:=wZ h
 let ⟨a1,a2,f⟩:=hH h
 ⟨a,a1,a2,by rw [e,f]⟩
private theorem Ar {l:List Value} (h:l.length = 4):∃ a0 a1 a2 a3,l = [a0,a1,a2,a3] :=
 let ⟨a,r,e,h⟩:=wZ h
 let ⟨a1,a2,a3,f⟩:=ty h
 ⟨a,a1,a2,a3,by rw [e,f]⟩
private theorem Ai {l:List Value} (h:l.length = 5):∃ a0 a1 a2 a3 a4,l = [a0,a1,a2,a3,a4] :=
 let ⟨a,r,e,h⟩:=wZ h
 let ⟨a1,a2,a3,a4,f⟩:=Ar h
 ⟨a,a1,a2,a3,a4,by rw [e,f]⟩
noncomputable def v5:ET:=λU U U=>False
private theorem xn {e:Expr}:SE w hB k Γ e v5:=⟨λA env O H L s Q S q=>q.elim,trivial⟩
private theorem f6 {c:Nat} {f:Addr} {F:FT} (hi:findIn (KK w) (.ref (bo c)) "__init__" = some (some (.ref f))) (hf:typeIn (KK w) (.ref f) = some (.type "function")) (hF:∀ j,1≤j→SF w hB j f F) (hk:2≤k):SC w hB k (.ref (bo c)) (mB c F):=by
 obtain ⟨j,rfl⟩:∃ j,k = j + 1:=⟨k - 1,(Nat.sub_add_cancel (Nat.le_of_succ_le hk)).symm⟩
 exact v9 hi hf (hF j (by omega))
private theorem da:∀ X,uk X→¬ lx X:=by rintro _ ⟨i,l,rfl⟩ ⟨i',l',e⟩;cases e
private theorem nv:∀ X,tG X→¬ lx X:=by rintro _ ⟨a,n,c,rfl⟩ ⟨i',l',e⟩;cases e
private theorem fm3 {α β:Type} {g:α→Option β} {a b c:α} (h:g c = none):((List.filterMap g [a,b,c]).length != 3) = true:=by
 rw [List.filterMap_cons,List.filterMap_cons,List.filterMap_cons,h]
 cases g a <;> cases g b <;> rfl
private theorem tE {env:Env} (E:EnvOk w Γ env) {x1 x2 x3:Str} {p1 p2 p3 q1 q2:Pos} {k1 k2:Nat} {a1 a2 a3 b1 b2 b3:Expr} {c1 c2 c3:Pos} (h3:(x3,true)∈Γ.names) :
  swappedStores [.Tuple [.Name x1 p1,.Name x2 p2,.Name x3 p3] k1 q1] (.Tuple [.Subscript a1 b1 c1,.Subscript a2 b2 c2,.Subscript a3 b3 c3] k2 q2) env = pure none:=by
 have h:=E.vars _ h3
 have h':env.kindOf x3 = some .cell:=h
 have hb:env.blockKind = .function:=by unfold Env.blockKind;rw [E.kind];rfl
 delta swappedStores
 dsimp only
 rw [hb]
 refine Eq.trans (if_neg λh=>Bool.false_ne_true h) ?_
 refine Eq.trans (if_neg λh=>Bool.false_ne_true h) ?_
 refine if_pos (Bool.or_eq_true_iff.mpr (.inl (fm3 ?_)))
 dsimp only
 rw [h'];rfl
private theorem tJ (w:World):aX w "Step" (.ref (bo 0)):=.inl (by kernel_rfl!)
private theorem th (w:World):aT w (.ref (bo 0)):=.inr (.inr (by kernel_rfl!))
private theorem xP (w:World):aX w "Block" (.ref (bo 1)):=.inl (by kernel_rfl!)
private theorem xT (w:World):aT w (.ref (bo 1)):=.inr (.inr (by kernel_rfl!))
private theorem zb (w:World):aX w "Func" (.ref (bo 2)):=.inl (by kernel_rfl!)
private theorem y8 (w:World):aT w (.ref (bo 2)):=.inr (.inr (by kernel_rfl!))
private theorem dv (w:World):aX w "followers" (.ref 107):=.inl (by kernel_rfl!)
private theorem dz (w:World):aT w (.ref 107):=.inr (.inr (by kernel_rfl!))
private theorem gU (w:World):aX w "check_operand" (.ref 114):=.inl (by kernel_rfl!)
private theorem gV (w:World):aT w (.ref 114):=.inr (.inr (by kernel_rfl!))
private theorem oU (w:World):aX w "wanted_args" (.ref 121):=.inl (by kernel_rfl!)
private theorem oH (w:World):aT w (.ref 121):=.inr (.inr (by kernel_rfl!))
private theorem qQ (w:World):aX w "check_more" (.ref 128):=.inl (by kernel_rfl!)
private theorem qS (w:World):aT w (.ref 128):=.inr (.inr (by kernel_rfl!))
private theorem rk (w:World):aX w "check_step" (.ref 135):=.inl (by kernel_rfl!)
private theorem qE (w:World):aT w (.ref 135):=.inr (.inr (by kernel_rfl!))
private theorem rX (w:World):aX w "check_end" (.ref 142):=.inl (by kernel_rfl!)
private theorem rZ (w:World):aT w (.ref 142):=.inr (.inr (by kernel_rfl!))
private theorem n6 (w:World):aX w "set_at_ends" (.ref 147):=.inl (by kernel_rfl!)
private theorem oT (w:World):aT w (.ref 147):=.inr (.inr (by kernel_rfl!))
private theorem lI (w:World):aX w "check_set" (.ref 154):=.inl (by kernel_rfl!)
private theorem lm (w:World):aT w (.ref 154):=.inr (.inr (by kernel_rfl!))
private theorem jR (w:World):aX w "check_func" (.ref 161):=.inl (by kernel_rfl!)
private theorem j3 (w:World):aT w (.ref 161):=.inr (.inr (by kernel_rfl!))
private theorem r6 (w:World):aX w "postorder" (.ref 168):=.inl (by kernel_rfl!)
private theorem si (w:World):aT w (.ref 168):=.inr (.inr (by kernel_rfl!))
private theorem xo (w:World):aX w "order" (.ref 175):=.inl (by kernel_rfl!)
private theorem xz (w:World):aT w (.ref 175):=.inr (.inr (by kernel_rfl!))
private theorem ew (w:World):aX w "in_place_of" (.ref 182):=.inl (by kernel_rfl!)
private theorem d9 (w:World):aT w (.ref 182):=.inr (.inr (by kernel_rfl!))
private theorem pH (w:World):aX w "led_end" (.ref 187):=.inl (by kernel_rfl!)
private theorem pU (w:World):aT w (.ref 187):=.inr (.inr (by kernel_rfl!))
private theorem tf (w:World):aX w "same_end" (.ref 194):=.inl (by kernel_rfl!)
private theorem tj (w:World):aT w (.ref 194):=.inr (.inr (by kernel_rfl!))
private theorem iW (w:World):aX w "known_value" (.ref 201):=.inl (by kernel_rfl!)
private theorem iS (w:World):aT w (.ref 201):=.inr (.inr (by kernel_rfl!))
private theorem kP (w:World):aX w "settled_branch" (.ref 208):=.inl (by kernel_rfl!)
private theorem kR (w:World):aT w (.ref 208):=.inr (.inr (by kernel_rfl!))
private theorem lO (w:World):aX w "settled_table" (.ref 215):=.inl (by kernel_rfl!)
private theorem lL (w:World):aT w (.ref 215):=.inr (.inr (by kernel_rfl!))
private theorem ow (w:World):aX w "settled_end" (.ref 222):=.inl (by kernel_rfl!)
private theorem oC (w:World):aT w (.ref 222):=.inr (.inr (by kernel_rfl!))
private theorem oN (w:World):aX w "plain_jumps" (.ref 229):=.inl (by kernel_rfl!)
private theorem nZ (w:World):aT w (.ref 229):=.inr (.inr (by kernel_rfl!))
private theorem sP (w:World):aX w "last_goal" (.ref 236):=.inl (by kernel_rfl!)
private theorem rF (w:World):aT w (.ref 236):=.inr (.inr (by kernel_rfl!))
private theorem uS (w:World):aX w "threads" (.ref 243):=.inl (by kernel_rfl!)
private theorem uP (w:World):aT w (.ref 243):=.inr (.inr (by kernel_rfl!))
private theorem jE (w:World):aX w "straighten_ends" (.ref 248):=.inl (by kernel_rfl!)
private theorem jp (w:World):aT w (.ref 248):=.inr (.inr (by kernel_rfl!))
private theorem pW (w:World):aX w "edges_into" (.ref 255):=.inl (by kernel_rfl!)
private theorem rm (w:World):aT w (.ref 255):=.inr (.inr (by kernel_rfl!))
private theorem nV (w:World):aX w "join_blocks" (.ref 262):=.inl (by kernel_rfl!)
private theorem nS (w:World):aT w (.ref 262):=.inr (.inr (by kernel_rfl!))
private theorem oW (w:World):aX w "keep_blocks" (.ref 267):=.inl (by kernel_rfl!)
private theorem oL (w:World):aT w (.ref 267):=.inr (.inr (by kernel_rfl!))
private theorem jn (w:World):aX w "straighten_once" (.ref 272):=.inl (by kernel_rfl!)
private theorem jA (w:World):aT w (.ref 272):=.inr (.inr (by kernel_rfl!))
private theorem jF (w:World):aX w "straighten" (.ref 279):=.inl (by kernel_rfl!)
private theorem jB (w:World):aT w (.ref 279):=.inr (.inr (by kernel_rfl!))
private theorem tA (w:World):aX w "_law_well" (.ref 284):=.inl (by kernel_rfl!)
private theorem tV (w:World):aT w (.ref 284):=.inr (.inr (by kernel_rfl!))
private theorem bu (w:World):aX w "_law_draw" (.ref 291):=.inl (by kernel_rfl!)
private theorem bt (w:World):aT w (.ref 291):=.inr (.inr (by kernel_rfl!))
private theorem pF (w:World):aX w "_law_row" (.ref 298):=.inl (by kernel_rfl!)
private theorem pT (w:World):aT w (.ref 298):=.inr (.inr (by kernel_rfl!))
private theorem vh (w:World):aX w "_law_end" (.ref 305):=.inl (by kernel_rfl!)
private theorem uH (w:World):aT w (.ref 305):=.inr (.inr (by kernel_rfl!))
private theorem rE (w:World):aX w "_law_chain" (.ref 310):=.inl (by kernel_rfl!)
private theorem sh (w:World):aT w (.ref 310):=.inr (.inr (by kernel_rfl!))
private theorem nW (w:World):aX w "_law_program" (.ref 315):=.inl (by kernel_rfl!)
private theorem oM (w:World):aT w (.ref 315):=.inr (.inr (by kernel_rfl!))
private theorem nu (w:World):aX w "_law_made" (.ref 322):=.inl (by kernel_rfl!)
private theorem mx (w:World):aT w (.ref 322):=.inr (.inr (by kernel_rfl!))
private theorem mX (w:World):aX w "_law_read" (.ref 327):=.inl (by kernel_rfl!)
private theorem mL (w:World):aT w (.ref 327):=.inr (.inr (by kernel_rfl!))
private theorem pY (w:World):aX w "_law_answer" (.ref 334):=.inl (by kernel_rfl!)
private theorem rl (w:World):aT w (.ref 334):=.inr (.inr (by kernel_rfl!))
private theorem tK (w:World):aX w "_law_next" (.ref 341):=.inl (by kernel_rfl!)
private theorem sW (w:World):aT w (.ref 341):=.inr (.inr (by kernel_rfl!))
private theorem nB (w:World):aX w "_law_walk" (.ref 346):=.inl (by kernel_rfl!)
private theorem np (w:World):aT w (.ref 346):=.inr (.inr (by kernel_rfl!))
private theorem ib (w:World):aX w "_law_goals" (.ref 353):=.inl (by kernel_rfl!)
private theorem ik (w:World):aT w (.ref 353):=.inr (.inr (by kernel_rfl!))
private theorem kg (w:World):aX w "_law_is_settled" (.ref 358):=.inl (by kernel_rfl!)
private theorem j7 (w:World):aT w (.ref 358):=.inr (.inr (by kernel_rfl!))
private theorem jo (w:World):aX w "_law_is_straight" (.ref 363):=.inl (by kernel_rfl!)
private theorem jW (w:World):aT w (.ref 363):=.inr (.inr (by kernel_rfl!))
private theorem k_law (w:World):aT w (.ref 370):=.inr (.inr (by kernel_rfl!))
private theorem eY (w:World):aX w "len" (.builtin "len"):=.inr ⟨by kernel_rfl!,by kernel_rfl!,by decide⟩
private theorem mP (w:World):aX w "sorted" (.builtin "sorted"):=.inr ⟨by kernel_rfl!,by kernel_rfl!,by decide⟩
private theorem zS (w:World):aX w "any" (.builtin "any"):=.inr ⟨by kernel_rfl!,by kernel_rfl!,by decide⟩
private theorem z4 (w:World):aX w "min" (.builtin "min"):=.inr ⟨by kernel_rfl!,by kernel_rfl!,by decide⟩
private theorem zX (w:World):aX w "max" (.builtin "max"):=.inr ⟨by kernel_rfl!,by kernel_rfl!,by decide⟩
private theorem rn (w:World):aX w "isinstance" (.builtin "isinstance"):=.inr ⟨by kernel_rfl!,by kernel_rfl!,by decide⟩
private theorem fz (w:World):aX w "list" (.type "list"):=.inr ⟨by kernel_rfl!,by kernel_rfl!,by decide⟩
private theorem sJ (w:World):aX w "set" (.type "set"):=.inr ⟨by kernel_rfl!,by kernel_rfl!,by decide⟩
private theorem yF (w:World):aX w "str" (.type "str"):=.inr ⟨by kernel_rfl!,by kernel_rfl!,by decide⟩
private theorem eU (w:World):aX w "range" (.type "range"):=.inr ⟨by kernel_rfl!,by kernel_rfl!,by decide⟩
private theorem cP (w:World):aX w "enumerate" (.type "enumerate"):=.inr ⟨by kernel_rfl!,by kernel_rfl!,by decide⟩
private theorem zf (w:World):aX w "bool" (.type "bool"):=.inr ⟨by kernel_rfl!,by kernel_rfl!,by decide⟩
private theorem zj (w:World):nsIn (KK w) mainGlobals "MASK" = some (some (.int 4294967295 220)):=by kernel_rfl!
private theorem qL (w:World):nsIn (KK w) mainGlobals "ROUND" = some (some (.int 4294967296 508)):=by kernel_rfl!
private theorem dU (w:World):nsIn (KK w) mainGlobals "_law_ALL" = some (some (.int 4294967296 680)):=by kernel_rfl!
private theorem wC (w:World):nsIn (KK w) mainGlobals "BINARY" = some (some (.ref (db 0))):=by kernel_rfl!
private theorem xW (w:World):nsIn (KK w) mainGlobals "UNARY" = some (some (.ref (db 1))):=by kernel_rfl!
private theorem zK (w:World):nsIn (KK w) mainGlobals "ENDS" = some (some (.ref (db 2))):=by kernel_rfl!
end
end Mine
end
section
namespace Mine
section
variable {w:World} {hB:Heap}
noncomputable def sN:Ctx:=⟨[("self",false),("op",false),("dst",false),("args",false),("more",false)],[],false,true⟩
noncomputable def lH (hB:Heap):ST:=(aj (au (ai 1) (cn (ai 0) 0)) (aj (au (ai 2) (cn (ai 0) 1)) (aj (au (ai 3) (cn (ai 0) 2)) (aj (au (ai 4) (cn (ai 0) 3)) (aj (au (b6 false) (cn (ai 0) 4)) (aj (au (az 0) (cn (ai 0) 5)) ay))))))
noncomputable def eB (hB:Heap):FT:=ci 5 5 (lH hB)
private theorem gQ (k:Nat) (hk:1≤k):SF w hB k 51 (eB hB):=by
 obtain ⟨k,rfl⟩:=ba hk
 refine aV (f:=51) (Γ:=sN) (n:=5) rfl rfl (by kernel_rfl!) rfl (by kernel_rfl!) (by decide +kernel) (by decide) (λvs h=>?_) rfl rfl ?_ (λU=>by kernel_rfl!) rfl rfl
 ·obtain ⟨a0,a1,a2,a3,a4,rfl⟩:=Ai h
  kernel_rfl!
 ·exact (ah (av (af (i:=1) rfl rfl) (bA (f:=0) (af (i:=0) rfl rfl) rfl) (λU=>rfl) (λU U=>rfl) (λU=>rfl)) (ah (av (af (i:=2) rfl rfl) (bA (f:=1) (af (i:=0) rfl rfl) rfl) (λU=>rfl) (λU U=>rfl) (λU=>rfl)) (ah (av (af (i:=3) rfl rfl) (bA (f:=2) (af (i:=0) rfl rfl) rfl) (λU=>rfl) (λU U=>rfl) (λU=>rfl)) (ah (av (af (i:=4) rfl rfl) (bA (f:=3) (af (i:=0) rfl rfl) rfl) (λU=>rfl) (λU U=>rfl) (λU=>rfl)) (ah (av bz (bA (f:=4) (af (i:=0) rfl rfl) rfl) (λU=>rfl) (λU U=>rfl) (λU=>rfl)) (ah (av ap (bA (f:=5) (af (i:=0) rfl rfl) rfl) (λU=>rfl) (λU U=>rfl) (λU=>rfl)) ao))))))
noncomputable def pX:Ctx:=⟨[("self",false),("number",false)],[],false,true⟩
noncomputable def jK (hB:Heap):ST:=(aj (au (ai 1) (cn (ai 0) 6)) (aj (au (aW am) (cn (ai 0) 7)) (aj (au gY (cn (ai 0) 8)) ay)))
noncomputable def gf (hB:Heap):FT:=ci 2 2 (jK hB)
private theorem ot (k:Nat) (hk:1≤k):SF w hB k 72 (gf hB):=by
 obtain ⟨k,rfl⟩:=ba hk
 refine aV (f:=72) (Γ:=pX) (n:=2) rfl rfl (by kernel_rfl!) rfl (by kernel_rfl!) (by decide +kernel) (by decide) (λvs h=>?_) rfl rfl ?_ (λU=>by kernel_rfl!) rfl rfl
 ·obtain ⟨a0,a1,rfl⟩:=hH h
  kernel_rfl!
 ·exact (ah (av (af (i:=1) rfl rfl) (bA (f:=6) (af (i:=0) rfl rfl) rfl) (λU=>rfl) (λU U=>rfl) (λU=>rfl)) (ah (av (aO ak) (bA (f:=7) (af (i:=0) rfl rfl) rfl) (λU=>rfl) (λU U=>rfl) (λU=>rfl)) (ah (av eW (bA (f:=8) (af (i:=0) rfl rfl) rfl) (λU=>rfl) (λU U=>rfl) (λU=>rfl)) ao)))
noncomputable def rV:Ctx:=⟨[("self",false),("name",false)],[],false,true⟩
noncomputable def lq (hB:Heap):ST:=(aj (au (ai 1) (cn (ai 0) 9)) (aj (au (aW am) (cn (ai 0) 10)) (aj (au (b6 false) (cn (ai 0) 11)) (aj (au (aW am) (cn (ai 0) 12)) (aj (au (aW am) (cn (ai 0) 13)) (aj (au (az 0) (cn (ai 0) 14)) (aj (au (b6 false) (cn (ai 0) 15)) ay)))))))
noncomputable def hU (hB:Heap):FT:=ci 2 2 (lq hB)
private theorem qn (k:Nat) (hk:1≤k):SF w hB k 93 (hU hB):=by
 obtain ⟨k,rfl⟩:=ba hk
 refine aV (f:=93) (Γ:=rV) (n:=2) rfl rfl (by kernel_rfl!) rfl (by kernel_rfl!) (by decide +kernel) (by decide) (λvs h=>?_) rfl rfl ?_ (λU=>by kernel_rfl!) rfl rfl
 ·obtain ⟨a0,a1,rfl⟩:=hH h
  kernel_rfl!
 ·exact (ah (av (af (i:=1) rfl rfl) (bA (f:=9) (af (i:=0) rfl rfl) rfl) (λU=>rfl) (λU U=>rfl) (λU=>rfl)) (ah (av (aO ak) (bA (f:=10) (af (i:=0) rfl rfl) rfl) (λU=>rfl) (λU U=>rfl) (λU=>rfl)) (ah (av bz (bA (f:=11) (af (i:=0) rfl rfl) rfl) (λU=>rfl) (λU U=>rfl) (λU=>rfl)) (ah (av (aO ak) (bA (f:=12) (af (i:=0) rfl rfl) rfl) (λU=>rfl) (λU U=>rfl) (λU=>rfl)) (ah (av (aO ak) (bA (f:=13) (af (i:=0) rfl rfl) rfl) (λU=>rfl) (λU U=>rfl) (λU=>rfl)) (ah (av ap (bA (f:=14) (af (i:=0) rfl rfl) rfl) (λU=>rfl) (λU U=>rfl) (λU=>rfl)) (ah (av bz (bA (f:=15) (af (i:=0) rfl rfl) rfl) (λU=>rfl) (λU U=>rfl) (λU=>rfl)) ao)))))))
noncomputable def rJ:Ctx:=⟨[("block",false),("end",false)],["list"],false,true⟩
noncomputable def eD (hB:Heap):ST:=(aj (au (aD (ai 0) 8) (aw 1)) (aj (sIf (aM .eq (aD (ai 1) 0) (aQ 8)) (aj (bq (aW (ae (aD (ai 1) 3) am))) ay) ay) (aj (sIf (aM .eq (aD (ai 1) 0) (aQ 9)) (aj (bq (aW (ae (aP (aD (ai 1) 3) (az 0)) (ae (aP (aD (ai 1) 3) (az 1)) am)))) ay) ay) (aj (sIf (aM .eq (aD (ai 1) 0) (aQ 10)) (aj (bq (bZ (aI (ae (aP (aD (ai 1) 3) (az 1)) am) jY) (aW (ae (aP (aD (ai 1) 3) (az 2)) am)))) ay) ay) (aj (bq (aW am)) ay)))))
noncomputable def bE (hB:Heap):FT:=ci 1 2 (eD hB)
private theorem cX (k:Nat) (hk:1≤k):SF w hB k 107 (bE hB):=by
 obtain ⟨k,rfl⟩:=ba hk
 refine aV (f:=107) (Γ:=rJ) (n:=1) rfl rfl (by kernel_rfl!) rfl (by kernel_rfl!) (by decide +kernel) (by decide) (λvs h=>?_) rfl rfl ?_ (λU=>by kernel_rfl!) rfl rfl
 ·obtain ⟨a0,rfl⟩:=fy h
  kernel_rfl!
 ·exact (ah (av (ax (f:=8) (af (i:=0) rfl rfl) rfl (λU=>rfl)) (aq (i:=1) rfl rfl) (λU=>rfl) (λU U=>rfl) (λU=>rfl)) (ah (bj (aE .eq (ax (f:=0) (af (i:=1) rfl rfl) rfl (λU=>rfl)) (aG (n:=8) rfl) rfl) (ah (aZ (aO (ac (ax (f:=3) (af (i:=1) rfl rfl) rfl (λU=>rfl)) ak rfl))) ao) ao) (ah (bj (aE .eq (ax (f:=0) (af (i:=1) rfl rfl) rfl (λU=>rfl)) (aG (n:=9) rfl) rfl) (ah (aZ (aO (ac (aK (ax (f:=3) (af (i:=1) rfl rfl) rfl (λU=>rfl)) ap (λU U=>rfl)) (ac (aK (ax (f:=3) (af (i:=1) rfl rfl) rfl (λU=>rfl)) ap (λU U=>rfl)) ak rfl) rfl))) ao) ao) (ah (bj (aE .eq (ax (f:=0) (af (i:=1) rfl rfl) rfl (λU=>rfl)) (aG (n:=10) rfl) rfl) (ah (aZ (bB (aC (by decide +kernel) (fz w) (.inl ⟨_,rfl⟩) (ac (aK (ax (f:=3) (af (i:=1) rfl rfl) rfl (λU=>rfl)) ap (λU U=>rfl)) ak rfl) gE rfl) (aO (ac (aK (ax (f:=3) (af (i:=1) rfl rfl) rfl (λU=>rfl)) ap (λU U=>rfl)) ak rfl)))) ao) ao) (ah (aZ (aO ak)) ao)))))
noncomputable def lN:Ctx:=⟨[("func",false),("operand",false),("where",false),("kind",false),("value",false)],["MASK","str"],false,true⟩
noncomputable def eG (hB:Heap):ST:=(aj (au (ai 1) (cu [(aw 3),(aw 4)])) (aj (sIf (aM .eq (ai 3) (aQ 0)) (aj (sIf (fS (dG .le .lt (az 0) (ai 4) (aD (ai 0) 14))) (aj bM ay) ay) ay) (aj (sIf (bOr (aM .ne (ai 3) (aQ 1)) (bOr (fS (dG .le .le (az 0) (ai 4) (az 4294967295))) ck)) (aj bM ay) ay) ay)) ay))
noncomputable def cf (hB:Heap):FT:=ci 3 5 (eG hB)
private theorem fR (k:Nat) (hk:1≤k):SF w hB k 114 (cf hB):=by
 obtain ⟨k,rfl⟩:=ba hk
 refine aV (f:=114) (Γ:=lN) (n:=3) rfl rfl (by kernel_rfl!) rfl (by kernel_rfl!) (by decide +kernel) (by decide) (λvs h=>?_) rfl rfl ?_ (λU=>by kernel_rfl!) rfl rfl
 ·obtain ⟨a0,a1,a2,rfl⟩:=ty h
  kernel_rfl!
 ·exact (ah (av (af (i:=1) rfl rfl) (bI (aH (aq (i:=3) rfl rfl) (aH (aq (i:=4) rfl rfl) bw (λU=>rfl)) (λU=>rfl))) (λU=>rfl) (λU U=>rfl) (λU=>rfl)) (ah (bj (aE .eq (af (i:=3) rfl rfl) (aG (n:=0) rfl) rfl) (ah (bj (eJ (fj .le .lt ap (af (i:=4) rfl rfl) (ax (f:=14) (af (i:=0) rfl rfl) rfl (λU=>rfl)) rfl)) (ah bT ao) ao) ao) (ah (bj (b5 (aE .ne (af (i:=3) rfl rfl) (aG (n:=1) rfl) rfl) (b5 (eJ (fj .le .le ap (af (i:=4) rfl rfl) (d8 (by decide +kernel) (zj) rfl) rfl)) bS)) (ah bT ao) ao) ao)) ao))
noncomputable def ou:Ctx:=⟨[("step",false)],["BINARY","UNARY"],false,true⟩
noncomputable def iT (hB:Heap):ST:=(aj (sIf (bOr (aM .in_ (aD (ai 0) 0) (vG 0)) (bOr (aM .eq (aD (ai 0) 0) (aQ 6)) (bOr (aM .eq (aD (ai 0) 0) (aQ 17)) ck))) (aj (bq (az 2)) ay) ay) (aj (sIf (bOr (aM .in_ (aD (ai 0) 0) (vG 1)) (bOr (aM .eq (aD (ai 0) 0) (aQ 2)) (bOr (aM .eq (aD (ai 0) 0) (aQ 7)) ck))) (aj (bq (az 1)) ay) ay) (aj (sIf (bOr (aM .eq (aD (ai 0) 0) (aQ 18)) (bOr (aM .eq (aD (ai 0) 0) (aQ 19)) ck)) (aj (bq (az 0)) ay) ay) (aj (sIf (bOr (aM .eq (aD (ai 0) 0) (aQ 4)) (bOr (aM .eq (aD (ai 0) 0) (aQ 20)) ck)) (aj (bq (eI (az 1))) ay) ay) (aj bM ay)))))
noncomputable def fI (hB:Heap):FT:=ci 1 1 (iT hB)
private theorem mR (k:Nat) (hk:1≤k):SF w hB k 121 (fI hB):=by
 obtain ⟨k,rfl⟩:=ba hk
 refine aV (f:=121) (Γ:=ou) (n:=1) rfl rfl (by kernel_rfl!) rfl (by kernel_rfl!) (by decide +kernel) (by decide) (λvs h=>?_) rfl rfl ?_ (λU=>by kernel_rfl!) rfl rfl
 ·obtain ⟨a0,rfl⟩:=fy h
  kernel_rfl!
 ·exact (ah (bj (b5 (aE .in_ (ax (f:=0) (af (i:=0) rfl rfl) rfl (λU=>rfl)) (tr (t:=0) (by decide +kernel) (wC) rfl) rfl) (b5 (aE .eq (ax (f:=0) (af (i:=0) rfl rfl) rfl (λU=>rfl)) (aG (n:=6) rfl) rfl) (b5 (aE .eq (ax (f:=0) (af (i:=0) rfl rfl) rfl (λU=>rfl)) (aG (n:=17) rfl) rfl) bS))) (ah (aZ ap) ao) ao) (ah (bj (b5 (aE .in_ (ax (f:=0) (af (i:=0) rfl rfl) rfl (λU=>rfl)) (tr (t:=1) (by decide +kernel) (xW) rfl) rfl) (b5 (aE .eq (ax (f:=0) (af (i:=0) rfl rfl) rfl (λU=>rfl)) (aG (n:=2) rfl) rfl) (b5 (aE .eq (ax (f:=0) (af (i:=0) rfl rfl) rfl (λU=>rfl)) (aG (n:=7) rfl) rfl) bS))) (ah (aZ ap) ao) ao) (ah (bj (b5 (aE .eq (ax (f:=0) (af (i:=0) rfl rfl) rfl (λU=>rfl)) (aG (n:=18) rfl) rfl) (b5 (aE .eq (ax (f:=0) (af (i:=0) rfl rfl) rfl (λU=>rfl)) (aG (n:=19) rfl) rfl) bS)) (ah (aZ ap) ao) ao) (ah (bj (b5 (aE .eq (ax (f:=0) (af (i:=0) rfl rfl) rfl (λU=>rfl)) (aG (n:=4) rfl) rfl) (b5 (aE .eq (ax (f:=0) (af (i:=0) rfl rfl) rfl (λU=>rfl)) (aG (n:=20) rfl) rfl) bS)) (ah (aZ (c7 ap)) ao) ao) (ah bT ao)))))
end
end Mine
end
section
namespace Mine
section
variable {w:World} {hB:Heap}
noncomputable def qr:Ctx:=⟨[("func",false),("step",false),("where",false)],["len"],false,true⟩
noncomputable def eR (hB:Heap):ST:=(aj (sIf (aM .eq (aD (ai 1) 0) (aQ 7)) (aj (sIf (aM .notIn (aP (aD (ai 1) 3) (az 0)) (aY (ae (az 1) (ae (az 2) (ae (az 4) am))))) (aj bM ay) ay) ay) (aj (sIf (aM .eq (aD (ai 1) 0) (aQ 6)) (aj (sIf (aM .notIn (aD (ai 1) 3) (aY (ae (az 1) (ae (az 2) (ae (az 4) am))))) (aj bM ay) ay) ay) (aj (sIf (aM .eq (aD (ai 1) 0) (aQ 18)) (aj (sIf (fS (dG .le .lt (az 0) (aD (ai 1) 3) (aI (ae (aD (ai 0) 12) am) gb))) (aj bM ay) ay) ay) (aj (sIf (aM .eq (aD (ai 1) 0) (aQ 17)) (aj (sIf (bOr (aM .lt (aP (aD (ai 1) 3) (az 0)) (az 1)) (bOr (aM .notIn (aP (aD (ai 1) 3) (az 1)) (aY (ae (az 1) (ae (az 2) (ae (az 4) am))))) ck)) (aj bM ay) ay) ay) (aj (sIf (cz (aM .eq (aD (ai 1) 0) (aQ 2)) (cz (aM .ne (aP (aP (aD (ai 1) 2) (az 0)) (az 0)) (aQ 1)) bG)) (aj bM ay) (aj (sIf (cz (aM .eq (aD (ai 1) 0) (aQ 20)) (cz (aM .eq (aD (ai 1) 2) (aW am)) bG)) (aj bM ay) ay) ay)) ay)) ay)) ay)) ay)) (aj (sIf (cz (eX (aD (ai 1) 4)) (cz (aM .notIn (aD (ai 1) 0) (aY (ae (aQ 7) (ae (aQ 6) (ae (aQ 17) am))))) bG)) (aj bM ay) ay) ay))
noncomputable def eP (hB:Heap):FT:=ci 3 3 (eR hB)
private theorem oF (k:Nat) (hk:1≤k):SF w hB k 128 (eP hB):=by
 obtain ⟨k,rfl⟩:=ba hk
 refine aV (f:=128) (Γ:=qr) (n:=3) rfl rfl (by kernel_rfl!) rfl (by kernel_rfl!) (by decide +kernel) (by decide) (λvs h=>?_) rfl rfl ?_ (λU=>by kernel_rfl!) rfl rfl
 ·obtain ⟨a0,a1,a2,rfl⟩:=ty h
  kernel_rfl!
 ·exact (ah (bj (aE .eq (ax (f:=0) (af (i:=1) rfl rfl) rfl (λU=>rfl)) (aG (n:=7) rfl) rfl) (ah (bj (aE .notIn (aK (ax (f:=3) (af (i:=1) rfl rfl) rfl (λU=>rfl)) ap (λU U=>rfl)) (aN (ac ap (ac ap (ac ap ak rfl) rfl) rfl)) rfl) (ah bT ao) ao) ao) (ah (bj (aE .eq (ax (f:=0) (af (i:=1) rfl rfl) rfl (λU=>rfl)) (aG (n:=6) rfl) rfl) (ah (bj (aE .notIn (ax (f:=3) (af (i:=1) rfl rfl) rfl (λU=>rfl)) (aN (ac ap (ac ap (ac ap ak rfl) rfl) rfl)) rfl) (ah bT ao) ao) ao) (ah (bj (aE .eq (ax (f:=0) (af (i:=1) rfl rfl) rfl (λU=>rfl)) (aG (n:=18) rfl) rfl) (ah (bj (eJ (fj .le .lt ap (ax (f:=3) (af (i:=1) rfl rfl) rfl (λU=>rfl)) (aC (by decide +kernel) (eY w) (.inr (.inl ⟨_,rfl⟩)) (ac (ax (f:=12) (af (i:=0) rfl rfl) rfl (λU=>rfl)) ak rfl) df rfl) rfl)) (ah bT ao) ao) ao) (ah (bj (aE .eq (ax (f:=0) (af (i:=1) rfl rfl) rfl (λU=>rfl)) (aG (n:=17) rfl) rfl) (ah (bj (b5 (aE .lt (aK (ax (f:=3) (af (i:=1) rfl rfl) rfl (λU=>rfl)) ap (λU U=>rfl)) ap rfl) (b5 (aE .notIn (aK (ax (f:=3) (af (i:=1) rfl rfl) rfl (λU=>rfl)) ap (λU U=>rfl)) (aN (ac ap (ac ap (ac ap ak rfl) rfl) rfl)) rfl) bS)) (ah bT ao) ao) ao) (ah (bj (bJ (aE .eq (ax (f:=0) (af (i:=1) rfl rfl) rfl (λU=>rfl)) (aG (n:=2) rfl) rfl) (bJ (aE .ne (aK (aK (ax (f:=2) (af (i:=1) rfl rfl) rfl (λU=>rfl)) ap (λU U=>rfl)) ap (λU U=>rfl)) (aG (n:=1) rfl) rfl) bQ)) (ah bT ao) (ah (bj (bJ (aE .eq (ax (f:=0) (af (i:=1) rfl rfl) rfl (λU=>rfl)) (aG (n:=20) rfl) rfl) (bJ (aE .eq (ax (f:=2) (af (i:=1) rfl rfl) rfl (λU=>rfl)) (aO ak) rfl) bQ)) (ah bT ao) ao) ao)) ao)) ao)) ao)) ao)) (ah (bj (bJ (dk (ax (f:=4) (af (i:=1) rfl rfl) rfl (λU=>rfl)) (λU U=>rfl)) (bJ (aE .notIn (ax (f:=0) (af (i:=1) rfl rfl) rfl (λU=>rfl)) (aN (ac (aG (n:=7) rfl) (ac (aG (n:=6) rfl) (ac (aG (n:=17) rfl) ak rfl) rfl) rfl)) rfl) bQ)) (ah bT ao) ao) ao))
noncomputable def qb:Ctx:=⟨[("func",false),("step",false),("where",false),("many",false),("operand",false)],["check_more","check_operand","len","wanted_args"],false,true⟩
noncomputable def j0 (hB:Heap):ST:=(aj (au (aI (ae (ai 1) am) (fI hB)) (aw 3)) (aj (sIf (cz (aM .ge (ai 3) (az 0)) (cz (aM .ne (aI (ae (aD (ai 1) 2) am) gb) (ai 3)) bG)) (aj bM ay) ay) (aj (cv (bD (aD (ai 1) 2)) (aw 4) (aj (bC (aI (ae (ai 0) (ae (ai 4) (ae (ai 2) am))) (cf hB))) ay)) (aj (bC (aI (ae (ai 0) (ae (ai 1) (ae (ai 2) am))) (eP hB))) (aj (sIf (bOr (aM .eq (aD (ai 1) 0) (aQ 6)) (bOr (aM .eq (aD (ai 1) 0) (aQ 17)) ck)) (aj (sIf (aM .ne (aD (ai 1) 1) (eI (az 1))) (aj bM ay) ay) ay) (aj (sIf (bOr (aM .eq (aD (ai 1) 0) (aQ 4)) (bOr (aM .eq (aD (ai 1) 0) (aQ 20)) ck)) (aj (sIf (fS (dG .le .lt (eI (az 1)) (aD (ai 1) 1) (aD (ai 0) 14))) (aj bM ay) ay) ay) (aj (sIf (fS (dG .le .lt (az 0) (aD (ai 1) 1) (aD (ai 0) 14))) (aj bM ay) ay) ay)) ay)) ay)))))
noncomputable def gp (hB:Heap):FT:=ci 3 5 (j0 hB)
private theorem oq (k:Nat) (hk:2≤k):SF w hB k 135 (gp hB):=by
 obtain ⟨k,rfl⟩:=ba hk
 refine aV (f:=135) (Γ:=qb) (n:=3) rfl rfl (by kernel_rfl!) rfl (by kernel_rfl!) (by decide +kernel) (by decide) (λvs h=>?_) rfl rfl ?_ (λU=>by kernel_rfl!) rfl rfl
 ·obtain ⟨a0,a1,a2,rfl⟩:=ty h
  kernel_rfl!
 ·exact (ah (av (aC (by decide +kernel) (oU w) (oH w) (ac (af (i:=1) rfl rfl) ak rfl) (aF (mR _ (dp hk rfl))) rfl) (aq (i:=3) rfl rfl) (λU=>rfl) (λU U=>rfl) (λU=>rfl)) (ah (bj (bJ (aE .ge (af (i:=3) rfl rfl) ap rfl) (bJ (aE .ne (aC (by decide +kernel) (eY w) (.inr (.inl ⟨_,rfl⟩)) (ac (ax (f:=2) (af (i:=1) rfl rfl) rfl (λU=>rfl)) ak rfl) df rfl) (af (i:=3) rfl rfl) rfl) bQ)) (ah bT ao) ao) (ah (b9 (bp (ax (f:=2) (af (i:=1) rfl rfl) rfl (λU=>rfl)) (λU U=>rfl)) (aq (i:=4) rfl rfl) (ah (bY (aC (by decide +kernel) (gU w) (gV w) (ac (af (i:=0) rfl rfl) (ac (af (i:=4) rfl rfl) (ac (af (i:=2) rfl rfl) ak rfl) rfl) rfl) (aF (fR _ (dp hk rfl))) rfl) (λU=>rfl)) ao) aR) (ah (bY (aC (by decide +kernel) (qQ w) (qS w) (ac (af (i:=0) rfl rfl) (ac (af (i:=1) rfl rfl) (ac (af (i:=2) rfl rfl) ak rfl) rfl) rfl) (aF (oF _ (dp hk rfl))) rfl) (λU=>rfl)) (ah (bj (b5 (aE .eq (ax (f:=0) (af (i:=1) rfl rfl) rfl (λU=>rfl)) (aG (n:=6) rfl) rfl) (b5 (aE .eq (ax (f:=0) (af (i:=1) rfl rfl) rfl (λU=>rfl)) (aG (n:=17) rfl) rfl) bS)) (ah (bj (aE .ne (ax (f:=1) (af (i:=1) rfl rfl) rfl (λU=>rfl)) (c7 ap) rfl) (ah bT ao) ao) ao) (ah (bj (b5 (aE .eq (ax (f:=0) (af (i:=1) rfl rfl) rfl (λU=>rfl)) (aG (n:=4) rfl) rfl) (b5 (aE .eq (ax (f:=0) (af (i:=1) rfl rfl) rfl (λU=>rfl)) (aG (n:=20) rfl) rfl) bS)) (ah (bj (eJ (fj .le .lt (c7 ap) (ax (f:=1) (af (i:=1) rfl rfl) rfl (λU=>rfl)) (ax (f:=14) (af (i:=0) rfl rfl) rfl (λU=>rfl)) rfl)) (ah bT ao) ao) ao) (ah (bj (eJ (fj .le .lt ap (ax (f:=1) (af (i:=1) rfl rfl) rfl (λU=>rfl)) (ax (f:=14) (af (i:=0) rfl rfl) rfl (λU=>rfl)) rfl)) (ah bT ao) ao) ao)) ao)) ao)))))
noncomputable def sd:Ctx:=⟨[("func",false),("block",false),("where",false),("end",false),("number",false),("operand",false),("wanted",false)],["ENDS","check_operand","followers","len","str"],false,true⟩
noncomputable def eA (hB:Heap):ST:=(aj (au (aD (ai 1) 8) (aw 3)) (aj (sIf (bOr (aM .is_ (ai 3) gY) (bOr (aM .notIn (aD (ai 3) 0) (vG 2)) ck)) (aj bM ay) ay) (aj (sIf (aM .eq (aD (ai 3) 0) (aQ 11)) (aj (au (eIf (eX (aD (ai 0) 15)) (az 1) (az 0)) (aw 6)) ay) (aj (au (eIf (aM .eq (aD (ai 3) 0) (aQ 8)) (az 0) (az 1)) (aw 6)) ay)) (aj (sIf (aM .ne (aI (ae (aD (ai 3) 2) am) gb) (ai 6)) (aj bM ay) ay) (aj (cv (bD (aD (ai 3) 2)) (aw 5) (aj (bC (aI (ae (ai 0) (ae (ai 5) (ae (ai 2) am))) (cf hB))) ay)) (aj (cv (bD (aI (ae (ai 1) am) (bE hB))) (aw 4) (aj (sIf (fS (dG .le .lt (az 0) (ai 4) (aI (ae (aD (ai 0) 13) am) gb))) (aj bM ay) ay) ay)) ay))))))
noncomputable def ip (hB:Heap):FT:=ci 3 7 (eA hB)
private theorem qD (k:Nat) (hk:2≤k):SF w hB k 142 (ip hB):=by
 obtain ⟨k,rfl⟩:=ba hk
 refine aV (f:=142) (Γ:=sd) (n:=3) rfl rfl (by kernel_rfl!) rfl (by kernel_rfl!) (by decide +kernel) (by decide) (λvs h=>?_) rfl rfl ?_ (λU=>by kernel_rfl!) rfl rfl
 ·obtain ⟨a0,a1,a2,rfl⟩:=ty h
  kernel_rfl!
 ·exact (ah (av (ax (f:=8) (af (i:=1) rfl rfl) rfl (λU=>rfl)) (aq (i:=3) rfl rfl) (λU=>rfl) (λU U=>rfl) (λU=>rfl)) (ah (bj (b5 (aE .is_ (af (i:=3) rfl rfl) eW rfl) (b5 (aE .notIn (ax (f:=0) (af (i:=3) rfl rfl) rfl (λU=>rfl)) (tr (t:=2) (by decide +kernel) (zK) rfl) rfl) bS)) (ah bT ao) ao) (ah (bj (aE .eq (ax (f:=0) (af (i:=3) rfl rfl) rfl (λU=>rfl)) (aG (n:=11) rfl) rfl) (ah (av (fv (dk (ax (f:=15) (af (i:=0) rfl rfl) rfl (λU=>rfl)) (λU U=>rfl)) ap ap) (aq (i:=6) rfl rfl) (λU=>rfl) (λU U=>rfl) (λU=>rfl)) ao) (ah (av (fv (aE .eq (ax (f:=0) (af (i:=3) rfl rfl) rfl (λU=>rfl)) (aG (n:=8) rfl) rfl) ap ap) (aq (i:=6) rfl rfl) (λU=>rfl) (λU U=>rfl) (λU=>rfl)) ao)) (ah (bj (aE .ne (aC (by decide +kernel) (eY w) (.inr (.inl ⟨_,rfl⟩)) (ac (ax (f:=2) (af (i:=3) rfl rfl) rfl (λU=>rfl)) ak rfl) df rfl) (af (i:=6) rfl rfl) rfl) (ah bT ao) ao) (ah (b9 (bp (ax (f:=2) (af (i:=3) rfl rfl) rfl (λU=>rfl)) (λU U=>rfl)) (aq (i:=5) rfl rfl) (ah (bY (aC (by decide +kernel) (gU w) (gV w) (ac (af (i:=0) rfl rfl) (ac (af (i:=5) rfl rfl) (ac (af (i:=2) rfl rfl) ak rfl) rfl) rfl) (aF (fR _ (dp hk rfl))) rfl) (λU=>rfl)) ao) aR) (ah (b9 (bp (aC (by decide +kernel) (dv w) (dz w) (ac (af (i:=1) rfl rfl) ak rfl) (aF (cX _ (dp hk rfl))) rfl) (λU U=>rfl)) (aq (i:=4) rfl rfl) (ah (bj (eJ (fj .le .lt ap (af (i:=4) rfl rfl) (aC (by decide +kernel) (eY w) (.inr (.inl ⟨_,rfl⟩)) (ac (ax (f:=13) (af (i:=0) rfl rfl) rfl (λU=>rfl)) ak rfl) df rfl) rfl)) (ah bT ao) ao) ao) aR) ao))))))
noncomputable def k6:Ctx:=⟨[("block",false)],[],false,false⟩
noncomputable def oO:Ctx:=⟨[("func",false),("at",false),("known",false),("now",false),("number",false),("step",false),("waiting",false)],["followers","set"],false,true⟩
noncomputable def iR (hB:Heap):ST:=(aj (au (cE (bD (aD (ai 0) 13)) (aw 0) bG gY 1 []) (aw 2)) (aj (au (aI (ae (aD (ai 0) 10) am) wz) (eS (ai 2) (az 0))) (aj (au (aW (ae (az 0) am)) (aw 6)) (aj (gD (aM .ne (ai 6) (aW am)) (aj (au (iq .list (ai 6) rO) (aw 1)) (aj (au (aI (ae (aP (ai 2) (ai 1)) am) nO) (aw 3)) (aj (cv (bD (aD (aP (aD (ai 0) 13) (ai 1)) 7)) (aw 5) (aj (sIf (aM .ge (aD (ai 5) 1) (az 0)) (aj (bC (bW .set (ai 3) (ae (aD (ai 5) 1) am) oj)) ay) ay) ay)) (aj (cv (bD (aI (ae (aP (aD (ai 0) 13) (ai 1)) am) (bE hB))) (aw 4) (aj (sIf (aM .is_ (aP (ai 2) (ai 4)) gY) (aj (au (aI (ae (ai 3) am) nO) (eS (ai 2) (ai 4))) (aj (bC (bW .list (ai 6) (ae (ai 4) am) b7)) ay)) (aj (sIf (fS (aM .le (aP (ai 2) (ai 4)) (ai 3))) (aj (au v5 (eS (ai 2) (ai 4))) (aj (bC (bW .list (ai 6) (ae (ai 4) am) b7)) ay)) ay) ay)) ay)) ay))))) (aj (bq (ai 2)) ay)))))
noncomputable def fJ (hB:Heap):FT:=ci 1 7 (iR hB)
private theorem mz (k:Nat) (hk:2≤k):SF w hB k 147 (fJ hB):=by
 obtain ⟨k,rfl⟩:=ba hk
 refine aV (f:=147) (Γ:=oO) (n:=1) rfl rfl (by kernel_rfl!) rfl (by kernel_rfl!) (by decide +kernel) (by decide) (λvs h=>?_) rfl rfl ?_ (λU=>by kernel_rfl!) rfl rfl
 ·obtain ⟨a0,rfl⟩:=fy h
  kernel_rfl!
 ·exact (ah (bO (i:=2) rfl rfl rfl (Γc:=k6) (n:=1) (cap:=[]) (by kernel_rfl!) (bp (ax (f:=13) (af (i:=0) rfl rfl) rfl (λU=>rfl)) (λU U=>rfl)) (aq (i:=0) rfl rfl) cZ eW aR da) (ah (av (aC (by decide +kernel) (sJ w) (.inl ⟨_,rfl⟩) (ac (ax (f:=10) (af (i:=0) rfl rfl) rfl (λU=>rfl)) ak rfl) yf rfl) (dD (af (i:=2) rfl rfl) ap) (λU=>rfl) (λU U=>rfl) (λU=>rfl)) (ah (av (aO (ac ap ak rfl)) (aq (i:=6) rfl rfl) (λU=>rfl) (λU U=>rfl) (λU=>rfl)) (ah (iA (aE .ne (af (i:=6) rfl rfl) (aO ak) rfl) (ah (av (m9 (af (i:=6) rfl rfl) qR tQ (λU=>rfl) rfl) (aq (i:=1) rfl rfl) (λU=>rfl) (λU U=>rfl) (λU=>rfl)) (ah (av (aC (by decide +kernel) (sJ w) (.inl ⟨_,rfl⟩) (ac (aK (af (i:=2) rfl rfl) (af (i:=1) rfl rfl) (λU U=>rfl)) ak rfl) qM rfl) (aq (i:=3) rfl rfl) (λU=>rfl) (λU U=>rfl) (λU=>rfl)) (ah (b9 (bp (ax (f:=7) (aK (ax (f:=13) (af (i:=0) rfl rfl) rfl (λU=>rfl)) (af (i:=1) rfl rfl) (λU U=>rfl)) rfl (λU=>rfl)) (λU U=>rfl)) (aq (i:=5) rfl rfl) (ah (bj (aE .ge (ax (f:=1) (af (i:=5) rfl rfl) rfl (λU=>rfl)) ap rfl) (ah (bY (bL (af (i:=3) rfl rfl) jP (ac (ax (f:=1) (af (i:=5) rfl rfl) rfl (λU=>rfl)) ak rfl) mH (λU=>rfl) rfl (of_decide_eq_true rfl)) (λU=>rfl)) ao) ao) ao) aR) (ah (b9 (bp (aC (by decide +kernel) (dv w) (dz w) (ac (aK (ax (f:=13) (af (i:=0) rfl rfl) rfl (λU=>rfl)) (af (i:=1) rfl rfl) (λU U=>rfl)) ak rfl) (aF (cX _ (dp hk rfl))) rfl) (λU U=>rfl)) (aq (i:=4) rfl rfl) (ah (bj (aE .is_ (aK (af (i:=2) rfl rfl) (af (i:=4) rfl rfl) (λU U=>rfl)) eW rfl) (ah (av (aC (by decide +kernel) (sJ w) (.inl ⟨_,rfl⟩) (ac (af (i:=3) rfl rfl) ak rfl) qM rfl) (dD (af (i:=2) rfl rfl) (af (i:=4) rfl rfl)) (λU=>rfl) (λU U=>rfl) (λU=>rfl)) (ah (bY (bL (af (i:=6) rfl rfl) cr (ac (af (i:=4) rfl rfl) ak rfl) cB (λU=>rfl) rfl (of_decide_eq_true rfl)) (λU=>rfl)) ao)) (ah (bj (eJ (aE .le (aK (af (i:=2) rfl rfl) (af (i:=4) rfl rfl) (λU U=>rfl)) (af (i:=3) rfl rfl) rfl)) (ah (av xn (dD (af (i:=2) rfl rfl) (af (i:=4) rfl rfl)) (λU=>rfl) (λU U=>rfl) (λU=>rfl)) (ah (bY (bL (af (i:=6) rfl rfl) cr (ac (af (i:=4) rfl rfl) ak rfl) cB (λU=>rfl) rfl (of_decide_eq_true rfl)) (λU=>rfl)) ao)) ao) ao)) ao) aR) ao))))) (ah (aZ (af (i:=2) rfl rfl)) ao)))))
noncomputable def sR:Ctx:=⟨[("args",false),("now",false),("where",false),("kind",false),("value",false)],["str"],false,true⟩
noncomputable def lC (hB:Heap):ST:=(aj (cv (bD (ai 0)) (cu [(aw 3),(aw 4)]) (aj (sIf (cz (aM .eq (ai 3) (aQ 0)) (cz (aM .notIn (ai 4) (ai 1)) bG)) (aj bM ay) ay) ay)) ay)
noncomputable def fk (hB:Heap):FT:=ci 3 5 (lC hB)
private theorem jZ (k:Nat) (hk:1≤k):SF w hB k 154 (fk hB):=by
 obtain ⟨k,rfl⟩:=ba hk
 refine aV (f:=154) (Γ:=sR) (n:=3) rfl rfl (by kernel_rfl!) rfl (by kernel_rfl!) (by decide +kernel) (by decide) (λvs h=>?_) rfl rfl ?_ (λU=>by kernel_rfl!) rfl rfl
 ·obtain ⟨a0,a1,a2,rfl⟩:=ty h
  kernel_rfl!
 ·exact (ah (b9 (bp (af (i:=0) rfl rfl) (λU U=>rfl)) (bI (aH (aq (i:=3) rfl rfl) (aH (aq (i:=4) rfl rfl) bw (λU=>rfl)) (λU=>rfl))) (ah (bj (bJ (aE .eq (af (i:=3) rfl rfl) (aG (n:=0) rfl) rfl) (bJ (aE .notIn (af (i:=4) rfl rfl) (af (i:=1) rfl rfl) rfl) bQ)) (ah bT ao) ao) ao) dt) ao)
noncomputable def qc:Ctx:=⟨[("func",false),("align",false),("at",false),("block",false),("known",false),("now",false),("number",false),("size",false),("step",false),("where",false)],["check_end","check_set","check_step","enumerate","set","set_at_ends","str"],false,true⟩
noncomputable def jL (hB:Heap):ST:=(aj (sIf (aM .eq (aD (ai 0) 13) (aW am)) (aj bM ay) ay) (aj (cv (bD (aD (ai 0) 10)) (aw 6) (aj (sIf (bOr (fS (dG .le .lt (az 0) (ai 6) (aD (ai 0) 14))) (bOr (aM .gt (bW .list (aD (ai 0) 10) (ae (ai 6) am) qt) (az 1)) ck)) (aj bM ay) ay) ay)) (aj (cv (bD (aD (ai 0) 12)) (cu [(aw 7),(aw 1)]) (aj (sIf (bOr (aM .lt (ai 7) (az 1)) (bOr (aM .notIn (ai 1) (aY (ae (az 1) (ae (az 2) (ae (az 4) am))))) ck)) (aj bM ay) ay) ay)) (aj (cv (jX (ae (aD (ai 0) 13) am)) (cu [(aw 2),(aw 3)]) (aj (au (bZ (bZ (aD (ai 0) 9) (aQ 16)) (aI (ae (ai 2) am) yb)) (aw 9)) (aj (sIf (aM .ne (aD (ai 3) 6) (ai 2)) (aj bM ay) ay) (aj (cv (bD (aD (ai 3) 7)) (aw 8) (aj (bC (aI (ae (ai 0) (ae (ai 8) (ae (ai 9) am))) (gp hB))) ay)) (aj (bC (aI (ae (ai 0) (ae (ai 3) (ae (ai 9) am))) (ip hB))) ay))))) (aj (au (aI (ae (ai 0) am) (fJ hB)) (aw 4)) (aj (cv (jX (ae (aD (ai 0) 13) am)) (cu [(aw 2),(aw 3)]) (aj (sIf (aM .isNot (aP (ai 4) (ai 2)) gY) (aj (au (aI (ae (aP (ai 4) (ai 2)) am) nO) (aw 5)) (aj (au (bZ (bZ (aD (ai 0) 9) (aQ 16)) (aI (ae (ai 2) am) yb)) (aw 9)) (aj (cv (bD (aD (ai 3) 7)) (aw 8) (aj (bC (aI (ae (aD (ai 8) 2) (ae (ai 5) (ae (ai 9) am))) (fk hB))) (aj (sIf (aM .ge (aD (ai 8) 1) (az 0)) (aj (bC (bW .set (ai 5) (ae (aD (ai 8) 1) am) oj)) ay) ay) ay))) (aj (bC (aI (ae (aD (aD (ai 3) 8) 2) (ae (ai 5) (ae (ai 9) am))) (fk hB))) ay)))) ay) ay)) ay))))))
noncomputable def eT (hB:Heap):FT:=ci 1 10 (jL hB)
private theorem iU (k:Nat) (hk:3≤k):SF w hB k 161 (eT hB):=by
 obtain ⟨k,rfl⟩:=ba hk
 refine aV (f:=161) (Γ:=qc) (n:=1) rfl rfl (by kernel_rfl!) rfl (by kernel_rfl!) (by decide +kernel) (by decide) (λvs h=>?_) rfl rfl ?_ (λU=>by kernel_rfl!) rfl rfl
 ·obtain ⟨a0,rfl⟩:=fy h
  kernel_rfl!
 ·exact (ah (bj (aE .eq (ax (f:=13) (af (i:=0) rfl rfl) rfl (λU=>rfl)) (aO ak) rfl) (ah bT ao) ao) (ah (b9 (bp (ax (f:=10) (af (i:=0) rfl rfl) rfl (λU=>rfl)) (λU U=>rfl)) (aq (i:=6) rfl rfl) (ah (bj (b5 (eJ (fj .le .lt ap (af (i:=6) rfl rfl) (ax (f:=14) (af (i:=0) rfl rfl) rfl (λU=>rfl)) rfl)) (b5 (aE .gt (bL (ax (f:=10) (af (i:=0) rfl rfl) rfl (λU=>rfl)) o9 (ac (af (i:=6) rfl rfl) ak rfl) rC (λU=>rfl) rfl (of_decide_eq_true rfl)) ap rfl) bS)) (ah bT ao) ao) ao) aR) (ah (b9 (bp (ax (f:=12) (af (i:=0) rfl rfl) rfl (λU=>rfl)) (λU U=>rfl)) (bI (aH (aq (i:=7) rfl rfl) (aH (aq (i:=1) rfl rfl) bw (λU=>rfl)) (λU=>rfl))) (ah (bj (b5 (aE .lt (af (i:=7) rfl rfl) ap rfl) (b5 (aE .notIn (af (i:=1) rfl rfl) (aN (ac ap (ac ap (ac ap ak rfl) rfl) rfl)) rfl) bS)) (ah bT ao) ao) ao) dt) (ah (b9 (gO (by decide +kernel) (cP w) (ac (ax (f:=13) (af (i:=0) rfl rfl) rfl (λU=>rfl)) ak rfl) rfl) (bI (aH (aq (i:=2) rfl rfl) (aH (aq (i:=3) rfl rfl) bw (λU=>rfl)) (λU=>rfl))) (ah (av (bB (bB (ax (f:=9) (af (i:=0) rfl rfl) rfl (λU=>rfl)) (aG (n:=16) rfl)) (aC (by decide +kernel) (yF w) (.inl ⟨_,rfl⟩) (ac (af (i:=2) rfl rfl) ak rfl) wI rfl)) (aq (i:=9) rfl rfl) (λU=>rfl) (λU U=>rfl) (λU=>rfl)) (ah (bj (aE .ne (ax (f:=6) (af (i:=3) rfl rfl) rfl (λU=>rfl)) (af (i:=2) rfl rfl) rfl) (ah bT ao) ao) (ah (b9 (bp (ax (f:=7) (af (i:=3) rfl rfl) rfl (λU=>rfl)) (λU U=>rfl)) (aq (i:=8) rfl rfl) (ah (bY (aC (by decide +kernel) (rk w) (qE w) (ac (af (i:=0) rfl rfl) (ac (af (i:=8) rfl rfl) (ac (af (i:=9) rfl rfl) ak rfl) rfl) rfl) (aF (oq _ (dp hk rfl))) rfl) (λU=>rfl)) ao) aR) (ah (bY (aC (by decide +kernel) (rX w) (rZ w) (ac (af (i:=0) rfl rfl) (ac (af (i:=3) rfl rfl) (ac (af (i:=9) rfl rfl) ak rfl) rfl) rfl) (aF (qD _ (dp hk rfl))) rfl) (λU=>rfl)) ao)))) cQ) (ah (av (aC (by decide +kernel) (n6 w) (oT w) (ac (af (i:=0) rfl rfl) ak rfl) (aF (mz _ (dp hk rfl))) rfl) (aq (i:=4) rfl rfl) (λU=>rfl) (λU U=>rfl) (λU=>rfl)) (ah (b9 (gO (by decide +kernel) (cP w) (ac (ax (f:=13) (af (i:=0) rfl rfl) rfl (λU=>rfl)) ak rfl) rfl) (bI (aH (aq (i:=2) rfl rfl) (aH (aq (i:=3) rfl rfl) bw (λU=>rfl)) (λU=>rfl))) (ah (bj (aE .isNot (aK (af (i:=4) rfl rfl) (af (i:=2) rfl rfl) (λU U=>rfl)) eW rfl) (ah (av (aC (by decide +kernel) (sJ w) (.inl ⟨_,rfl⟩) (ac (aK (af (i:=4) rfl rfl) (af (i:=2) rfl rfl) (λU U=>rfl)) ak rfl) qM rfl) (aq (i:=5) rfl rfl) (λU=>rfl) (λU U=>rfl) (λU=>rfl)) (ah (av (bB (bB (ax (f:=9) (af (i:=0) rfl rfl) rfl (λU=>rfl)) (aG (n:=16) rfl)) (aC (by decide +kernel) (yF w) (.inl ⟨_,rfl⟩) (ac (af (i:=2) rfl rfl) ak rfl) wI rfl)) (aq (i:=9) rfl rfl) (λU=>rfl) (λU U=>rfl) (λU=>rfl)) (ah (b9 (bp (ax (f:=7) (af (i:=3) rfl rfl) rfl (λU=>rfl)) (λU U=>rfl)) (aq (i:=8) rfl rfl) (ah (bY (aC (by decide +kernel) (lI w) (lm w) (ac (ax (f:=2) (af (i:=8) rfl rfl) rfl (λU=>rfl)) (ac (af (i:=5) rfl rfl) (ac (af (i:=9) rfl rfl) ak rfl) rfl) rfl) (aF (jZ _ (dp hk rfl))) rfl) (λU=>rfl)) (ah (bj (aE .ge (ax (f:=1) (af (i:=8) rfl rfl) rfl (λU=>rfl)) ap rfl) (ah (bY (bL (af (i:=5) rfl rfl) jP (ac (ax (f:=1) (af (i:=8) rfl rfl) rfl (λU=>rfl)) ak rfl) mH (λU=>rfl) rfl (of_decide_eq_true rfl)) (λU=>rfl)) ao) ao) ao)) aR) (ah (bY (aC (by decide +kernel) (lI w) (lm w) (ac (ax (f:=2) (ax (f:=8) (af (i:=3) rfl rfl) rfl (λU=>rfl)) rfl (λU=>rfl)) (ac (af (i:=5) rfl rfl) (ac (af (i:=9) rfl rfl) ak rfl) rfl) rfl) (aF (jZ _ (dp hk rfl))) rfl) (λU=>rfl)) ao)))) ao) ao) cQ) ao))))))
end
end Mine
end
section
namespace Mine
section
variable {w:World} {hB:Heap}
noncomputable def sp:Ctx:=⟨[("func",false),("found",false),("number",false),("seen",false),("stack",false),("top",false)],["followers","len"],true,true⟩
noncomputable def lk (hB:Heap):ST:=(aj (au (aW am) (aw 1)) (aj (au (t5 (az 0)) (aw 3)) (aj (au (aW (ae (aW (ae (az 0) (ae (aI (ae (aP (aD (ai 0) 13) (az 0)) am) (bE hB)) (ae (az 0) am)))) am)) (aw 4)) (aj (gD (eX (ai 4)) (aj (au (aP (ai 4) (eI (az 1))) (aw 5)) (aj (sIf (aM .eq (aP (ai 5) (az 2)) (aI (ae (aP (ai 5) (az 1)) am) gb)) (aj (bC (bW .list (ai 1) (ae (aP (ai 5) (az 0)) am) b7)) (aj (bC (iq .list (ai 4) rO)) (aj rr ay))) ay) (aj (au (aP (aP (ai 5) (az 1)) (aP (ai 5) (az 2))) (aw 2)) (aj (xA (ai 5) (az 2) (az 1)) (aj (sIf (aM .notIn (ai 2) (ai 3)) (aj (bC (bW .set (ai 3) (ae (ai 2) am) oj)) (aj (bC (bW .list (ai 4) (ae (aW (ae (ai 2) (ae (aI (ae (aP (aD (ai 0) 13) (ai 2)) am) (bE hB)) (ae (az 0) am)))) am) b7)) ay)) ay) ay)))))) (aj (bq (ai 1)) ay)))))
noncomputable def hO (hB:Heap):FT:=ci 1 6 (lk hB)
private theorem qU (k:Nat) (hk:2≤k):SF w hB k 168 (hO hB):=by
 obtain ⟨k,rfl⟩:=ba hk
 refine aV (f:=168) (Γ:=sp) (n:=1) rfl rfl (by kernel_rfl!) rfl (by kernel_rfl!) (by decide +kernel) (by decide) (λvs h=>?_) rfl rfl ?_ (λU=>by kernel_rfl!) rfl rfl
 ·obtain ⟨a0,rfl⟩:=fy h
  kernel_rfl!
 ·exact (ah (av (aO ak) (aq (i:=1) rfl rfl) (λU=>rfl) (λU U=>rfl) (λU=>rfl)) (ah (av (uA ap rfl rfl rfl rfl) (aq (i:=3) rfl rfl) (λU=>rfl) (λU U=>rfl) (λU=>rfl)) (ah (av (aO (ac (aO (ac ap (ac (aC (by decide +kernel) (dv w) (dz w) (ac (aK (ax (f:=13) (af (i:=0) rfl rfl) rfl (λU=>rfl)) ap (λU U=>rfl)) ak rfl) (aF (cX _ (dp hk rfl))) rfl) (ac ap ak rfl) rfl) rfl)) ak rfl)) (aq (i:=4) rfl rfl) (λU=>rfl) (λU U=>rfl) (λU=>rfl)) (ah (iA (dk (af (i:=4) rfl rfl) (λU U=>rfl)) (ah (av (aK (af (i:=4) rfl rfl) (c7 ap) (λU U=>rfl)) (aq (i:=5) rfl rfl) (λU=>rfl) (λU U=>rfl) (λU=>rfl)) (ah (bj (aE .eq (aK (af (i:=5) rfl rfl) ap (λU U=>rfl)) (aC (by decide +kernel) (eY w) (.inr (.inl ⟨_,rfl⟩)) (ac (aK (af (i:=5) rfl rfl) ap (λU U=>rfl)) ak rfl) df rfl) rfl) (ah (bY (bL (af (i:=1) rfl rfl) cr (ac (aK (af (i:=5) rfl rfl) ap (λU U=>rfl)) ak rfl) cB (λU=>rfl) rfl (of_decide_eq_true rfl)) (λU=>rfl)) (ah (bY (m9 (af (i:=4) rfl rfl) qR tQ (λU=>rfl) rfl) (λU=>rfl)) (ah xc ao))) ao) (ah (av (aK (aK (af (i:=5) rfl rfl) ap (λU U=>rfl)) (aK (af (i:=5) rfl rfl) ap (λU U=>rfl)) (λU U=>rfl)) (aq (i:=2) rfl rfl) (λU=>rfl) (λU U=>rfl) (λU=>rfl)) (ah (Af (af (i:=5) rfl rfl) ap ap (λU U U=>rfl)) (ah (bj (aE .notIn (af (i:=2) rfl rfl) (af (i:=3) rfl rfl) rfl) (ah (bY (bL (af (i:=3) rfl rfl) jP (ac (af (i:=2) rfl rfl) ak rfl) mH (λU=>rfl) rfl (of_decide_eq_true rfl)) (λU=>rfl)) (ah (bY (bL (af (i:=4) rfl rfl) cr (ac (aO (ac (af (i:=2) rfl rfl) (ac (aC (by decide +kernel) (dv w) (dz w) (ac (aK (ax (f:=13) (af (i:=0) rfl rfl) rfl (λU=>rfl)) (af (i:=2) rfl rfl) (λU U=>rfl)) ak rfl) (aF (cX _ (dp hk rfl))) rfl) (ac ap ak rfl) rfl) rfl)) ak rfl) cB (λU=>rfl) rfl (of_decide_eq_true rfl)) (λU=>rfl)) ao)) ao) ao)))))) (ah (aZ (af (i:=1) rfl rfl)) ao)))))
noncomputable def xG:Ctx:=⟨[("func",false)],["postorder"],false,true⟩
noncomputable def uq (hB:Heap):ST:=(aj (bq (yh (aI (ae (ai 0) am) (hO hB)))) ay)
noncomputable def qH (hB:Heap):FT:=ci 1 1 (uq hB)
private theorem wg (k:Nat) (hk:3≤k):SF w hB k 175 (qH hB):=by
 obtain ⟨k,rfl⟩:=ba hk
 refine aV (f:=175) (Γ:=xG) (n:=1) rfl rfl (by kernel_rfl!) rfl (by kernel_rfl!) (by decide +kernel) (by decide) (λvs h=>?_) rfl rfl ?_ (λU=>by kernel_rfl!) rfl rfl
 ·obtain ⟨a0,rfl⟩:=fy h
  kernel_rfl!
 ·exact (ah (aZ (xg (aC (by decide +kernel) (r6 w) (si w) (ac (af (i:=0) rfl rfl) ak rfl) (aF (qU _ (dp hk rfl))) rfl))) ao)
noncomputable def oE:Ctx:=⟨[("step",false),("op",false),("dst",false),("args",false),("more",false),("found",false)],["Step"],false,true⟩
noncomputable def iQ (hB:Heap):ST:=(aj (au (aI (ae (ai 1) (ae (ai 2) (ae (ai 3) (ae (ai 4) am)))) (mB 0 (eB hB))) (aw 5)) (aj (au (aD (ai 0) 5) (cn (ai 5) 5)) (aj (bq (ai 5)) ay)))
noncomputable def cw (hB:Heap):FT:=ci 5 6 (iQ hB)
private theorem dA (k:Nat) (hk:3≤k):SF w hB k 182 (cw hB):=by
 obtain ⟨k,rfl⟩:=ba hk
 refine aV (f:=182) (Γ:=oE) (n:=5) rfl rfl (by kernel_rfl!) rfl (by kernel_rfl!) (by decide +kernel) (by decide) (λvs h=>?_) rfl rfl ?_ (λU=>by kernel_rfl!) rfl rfl
 ·obtain ⟨a0,a1,a2,a3,a4,rfl⟩:=Ai h
  kernel_rfl!
 ·exact (ah (av (aC (by decide +kernel) (tJ w) (th w) (ac (af (i:=1) rfl rfl) (ac (af (i:=2) rfl rfl) (ac (af (i:=3) rfl rfl) (ac (af (i:=4) rfl rfl) ak rfl) rfl) rfl) rfl) (f6 (c:=0) (f:=51) (by kernel_rfl!) (by kernel_rfl!) gQ (dp hk rfl)) rfl) (aq (i:=5) rfl rfl) (λU=>rfl) (λU U=>rfl) (λU=>rfl)) (ah (av (ax (f:=5) (af (i:=0) rfl rfl) rfl (λU=>rfl)) (bA (f:=5) (af (i:=5) rfl rfl) rfl) (λU=>rfl) (λU U=>rfl) (λU=>rfl)) (ah (aZ (af (i:=5) rfl rfl)) ao)))
noncomputable def qe:Ctx:=⟨[("number",false),("lead",true)],[],false,false⟩
noncomputable def uD:Ctx:=⟨[("end",false),("lead",true),("low",false),("numbers",false),("other",false),("row",false),("then",false)],["in_place_of"],false,true⟩
noncomputable def gc (hB:Heap):ST:=(aj (sIf (aM .eq (aD (ai 0) 0) (aQ 8)) (aj (bq (aI (ae (ai 0) (ae (aQ 8) (ae (eI (az 1)) (ae (aW am) (ae (bW .dict (ai 1) (ae (aD (ai 0) 3) (ae (aD (ai 0) 3) am)) rH) am))))) (cw hB))) ay) ay) (aj (sIf (aM .eq (aD (ai 0) 0) (aQ 9)) (aj (au (aD (ai 0) 3) (cu [(aw 6),(aw 4)])) (aj (bq (aI (ae (ai 0) (ae (aQ 9) (ae (eI (az 1)) (ae (aD (ai 0) 2) (ae (aY (ae (bW .dict (ai 1) (ae (ai 6) (ae (ai 6) am)) rH) (ae (bW .dict (ai 1) (ae (ai 4) (ae (ai 4) am)) rH) am))) am))))) (cw hB))) ay)) ay) (aj (sIf (aM .eq (aD (ai 0) 0) (aQ 10)) (aj (au (aD (ai 0) 3) (cu [(aw 2),(aw 3),(aw 4)])) (aj (au (cE (bD (ai 3)) (aw 0) bG (bW .dict (ai 1) (ae (ai 0) (ae (ai 0) am)) rH) 1 [1]) (aw 5)) (aj (bq (aI (ae (ai 0) (ae (aQ 10) (ae (eI (az 1)) (ae (aD (ai 0) 2) (ae (aY (ae (ai 2) (ae (ai 5) (ae (bW .dict (ai 1) (ae (ai 4) (ae (ai 4) am)) rH) am)))) am))))) (cw hB))) ay))) ay) (aj (bq (ai 0)) ay))))
noncomputable def f8 (hB:Heap):FT:=ci 2 7 (gc hB)
private theorem mQ (k:Nat) (hk:4≤k):SF w hB k 187 (f8 hB):=by
 obtain ⟨k,rfl⟩:=ba hk
 refine aV (f:=187) (Γ:=uD) (n:=2) rfl rfl (by kernel_rfl!) rfl (by kernel_rfl!) (by decide +kernel) (by decide) (λvs h=>?_) rfl rfl ?_ (λU=>by kernel_rfl!) rfl rfl
 ·obtain ⟨a0,a1,rfl⟩:=hH h
  kernel_rfl!
 ·exact (ah (bj (aE .eq (ax (f:=0) (af (i:=0) rfl rfl) rfl (λU=>rfl)) (aG (n:=8) rfl) rfl) (ah (aZ (aC (by decide +kernel) (ew w) (d9 w) (ac (af (i:=0) rfl rfl) (ac (aG (n:=8) rfl) (ac (c7 ap) (ac (aO ak) (ac (bL (af (i:=1) rfl rfl) iD (ac (ax (f:=3) (af (i:=0) rfl rfl) rfl (λU=>rfl)) (ac (ax (f:=3) (af (i:=0) rfl rfl) rfl (λU=>rfl)) ak rfl) rfl) k7 (λU=>rfl) rfl (of_decide_eq_true rfl)) ak rfl) rfl) rfl) rfl) rfl) (aF (dA _ (dp hk rfl))) rfl)) ao) ao) (ah (bj (aE .eq (ax (f:=0) (af (i:=0) rfl rfl) rfl (λU=>rfl)) (aG (n:=9) rfl) rfl) (ah (av (ax (f:=3) (af (i:=0) rfl rfl) rfl (λU=>rfl)) (bI (aH (aq (i:=6) rfl rfl) (aH (aq (i:=4) rfl rfl) bw (λU=>rfl)) (λU=>rfl))) (λU=>rfl) (λU U=>rfl) (λU=>rfl)) (ah (aZ (aC (by decide +kernel) (ew w) (d9 w) (ac (af (i:=0) rfl rfl) (ac (aG (n:=9) rfl) (ac (c7 ap) (ac (ax (f:=2) (af (i:=0) rfl rfl) rfl (λU=>rfl)) (ac (aN (ac (bL (af (i:=1) rfl rfl) iD (ac (af (i:=6) rfl rfl) (ac (af (i:=6) rfl rfl) ak rfl) rfl) k7 (λU=>rfl) rfl (of_decide_eq_true rfl)) (ac (bL (af (i:=1) rfl rfl) iD (ac (af (i:=4) rfl rfl) (ac (af (i:=4) rfl rfl) ak rfl) rfl) k7 (λU=>rfl) rfl (of_decide_eq_true rfl)) ak rfl) rfl)) ak rfl) rfl) rfl) rfl) rfl) (aF (dA _ (dp hk rfl))) rfl)) ao)) ao) (ah (bj (aE .eq (ax (f:=0) (af (i:=0) rfl rfl) rfl (λU=>rfl)) (aG (n:=10) rfl) rfl) (ah (av (ax (f:=3) (af (i:=0) rfl rfl) rfl (λU=>rfl)) (bI (aH (aq (i:=2) rfl rfl) (aH (aq (i:=3) rfl rfl) (aH (aq (i:=4) rfl rfl) bw (λU=>rfl)) (λU=>rfl)) (λU=>rfl))) (λU=>rfl) (λU U=>rfl) (λU=>rfl)) (ah (bO (i:=5) rfl rfl rfl (Γc:=qe) (n:=1) (cap:=[1]) (by kernel_rfl!) (bp (af (i:=3) rfl rfl) (λU U=>rfl)) (aq (i:=0) rfl rfl) cZ (bL (af (i:=1) rfl rfl) iD (ac (af (i:=0) rfl rfl) (ac (af (i:=0) rfl rfl) ak rfl) rfl) k7 (λU=>rfl) rfl (of_decide_eq_true rfl)) aR da) (ah (aZ (aC (by decide +kernel) (ew w) (d9 w) (ac (af (i:=0) rfl rfl) (ac (aG (n:=10) rfl) (ac (c7 ap) (ac (ax (f:=2) (af (i:=0) rfl rfl) rfl (λU=>rfl)) (ac (aN (ac (af (i:=2) rfl rfl) (ac (af (i:=5) rfl rfl) (ac (bL (af (i:=1) rfl rfl) iD (ac (af (i:=4) rfl rfl) (ac (af (i:=4) rfl rfl) ak rfl) rfl) k7 (λU=>rfl) rfl (of_decide_eq_true rfl)) ak rfl) rfl) rfl)) ak rfl) rfl) rfl) rfl) rfl) (aF (dA _ (dp hk rfl))) rfl)) ao))) ao) (ah (aZ (af (i:=0) rfl rfl)) ao))))
noncomputable def tS:Ctx:=⟨[("one",false),("other",false)],[],false,true⟩
noncomputable def nP (hB:Heap):ST:=(aj (bq (xh (kI .eq (aD (ai 0) 0) (aD (ai 1) 0)) (xh (kI .eq (aD (ai 0) 2) (aD (ai 1) 2)) (kI .eq (aD (ai 0) 3) (aD (ai 1) 3))))) ay)
noncomputable def je (hB:Heap):FT:=ci 2 2 (nP hB)
private theorem r9 (k:Nat) (hk:1≤k):SF w hB k 194 (je hB):=by
 obtain ⟨k,rfl⟩:=ba hk
 refine aV (f:=194) (Γ:=tS) (n:=2) rfl rfl (by kernel_rfl!) rfl (by kernel_rfl!) (by decide +kernel) (by decide) (λvs h=>?_) rfl rfl ?_ (λU=>by kernel_rfl!) rfl rfl
 ·obtain ⟨a0,a1,rfl⟩:=hH h
  kernel_rfl!
 ·exact (ah (aZ (tL (fH .eq (ax (f:=0) (af (i:=0) rfl rfl) rfl (λU=>rfl)) (ax (f:=0) (af (i:=1) rfl rfl) rfl (λU=>rfl)) rfl) (tL (fH .eq (ax (f:=2) (af (i:=0) rfl rfl) rfl (λU=>rfl)) (ax (f:=2) (af (i:=1) rfl rfl) rfl (λU=>rfl)) rfl) (vS (fH .eq (ax (f:=3) (af (i:=0) rfl rfl) rfl (λU=>rfl)) (ax (f:=3) (af (i:=1) rfl rfl) rfl (λU=>rfl)) rfl))))) ao)
noncomputable def oQ:Ctx:=⟨[("block",false),("operand",false),("kind",false),("step",false),("value",false)],["ROUND"],false,true⟩
noncomputable def fE (hB:Heap):ST:=(aj (au (ai 1) (cu [(aw 2),(aw 4)])) (aj (sIf (aM .eq (ai 2) (aQ 1)) (aj (bq (dH (ai 4) (az 4294967296))) ay) ay) (aj (cv (bD (yh (aD (ai 0) 7))) (aw 3) (aj (sIf (aM .eq (aD (ai 3) 1) (ai 4)) (aj (sIf (cz (aM .in_ (aD (ai 3) 0) (aY (ae (aQ 2) (ae (aQ 3) am)))) (cz (aM .eq (aP (aP (aD (ai 3) 2) (az 0)) (az 0)) (aQ 1)) bG)) (aj (bq (dH (aP (aP (aD (ai 3) 2) (az 0)) (az 1)) (az 4294967296))) ay) ay) (aj (bq gY) ay)) ay) ay)) (aj (bq gY) ay))))
noncomputable def ee (hB:Heap):FT:=ci 2 5 (fE hB)
private theorem hM (k:Nat) (hk:1≤k):SF w hB k 201 (ee hB):=by
 obtain ⟨k,rfl⟩:=ba hk
 refine aV (f:=201) (Γ:=oQ) (n:=2) rfl rfl (by kernel_rfl!) rfl (by kernel_rfl!) (by decide +kernel) (by decide) (λvs h=>?_) rfl rfl ?_ (λU=>by kernel_rfl!) rfl rfl
 ·obtain ⟨a0,a1,rfl⟩:=hH h
  kernel_rfl!
 ·exact (ah (av (af (i:=1) rfl rfl) (bI (aH (aq (i:=2) rfl rfl) (aH (aq (i:=4) rfl rfl) bw (λU=>rfl)) (λU=>rfl))) (λU=>rfl) (λU U=>rfl) (λU=>rfl)) (ah (bj (aE .eq (af (i:=2) rfl rfl) (aG (n:=1) rfl) rfl) (ah (aZ (cx (af (i:=4) rfl rfl) (d8 (by decide +kernel) (qL) rfl))) ao) ao) (ah (b9 (bp (xg (ax (f:=7) (af (i:=0) rfl rfl) rfl (λU=>rfl))) (λU U=>rfl)) (aq (i:=3) rfl rfl) (ah (bj (aE .eq (ax (f:=1) (af (i:=3) rfl rfl) rfl (λU=>rfl)) (af (i:=4) rfl rfl) rfl) (ah (bj (bJ (aE .in_ (ax (f:=0) (af (i:=3) rfl rfl) rfl (λU=>rfl)) (aN (ac (aG (n:=2) rfl) (ac (aG (n:=3) rfl) ak rfl) rfl)) rfl) (bJ (aE .eq (aK (aK (ax (f:=2) (af (i:=3) rfl rfl) rfl (λU=>rfl)) ap (λU U=>rfl)) ap (λU U=>rfl)) (aG (n:=1) rfl) rfl) bQ)) (ah (aZ (cx (aK (aK (ax (f:=2) (af (i:=3) rfl rfl) rfl (λU=>rfl)) ap (λU U=>rfl)) ap (λU U=>rfl)) (d8 (by decide +kernel) (qL) rfl))) ao) ao) (ah (aZ eW) ao)) ao) ao) aR) (ah (aZ eW) ao))))
end
end Mine
end
section
namespace Mine
section
variable {w:World} {hB:Heap}
noncomputable def kM:Ctx:=⟨[("block",false),("end",false),("other",false),("then",false),("value",false)],["known_value"],false,true⟩
noncomputable def fU (hB:Heap):ST:=(aj (au (aD (ai 1) 3) (cu [(aw 3),(aw 2)])) (aj (sIf (aM .eq (ai 3) (ai 2)) (aj (bq (ai 3)) ay) ay) (aj (au (aI (ae (ai 0) (ae (aP (aD (ai 1) 2) (az 0)) am)) (ee hB)) (aw 4)) (aj (sIf (aM .is_ (ai 4) gY) (aj (bq (eI (az 1))) ay) ay) (aj (bq (eIf (aM .ne (ai 4) (az 0)) (ai 3) (ai 2))) ay)))))
noncomputable def dW (hB:Heap):FT:=ci 2 5 (fU hB)
private theorem ju (k:Nat) (hk:2≤k):SF w hB k 208 (dW hB):=by
 obtain ⟨k,rfl⟩:=ba hk
 refine aV (f:=208) (Γ:=kM) (n:=2) rfl rfl (by kernel_rfl!) rfl (by kernel_rfl!) (by decide +kernel) (by decide) (λvs h=>?_) rfl rfl ?_ (λU=>by kernel_rfl!) rfl rfl
 ·obtain ⟨a0,a1,rfl⟩:=hH h
  kernel_rfl!
 ·exact (ah (av (ax (f:=3) (af (i:=1) rfl rfl) rfl (λU=>rfl)) (bI (aH (aq (i:=3) rfl rfl) (aH (aq (i:=2) rfl rfl) bw (λU=>rfl)) (λU=>rfl))) (λU=>rfl) (λU U=>rfl) (λU=>rfl)) (ah (bj (aE .eq (af (i:=3) rfl rfl) (af (i:=2) rfl rfl) rfl) (ah (aZ (af (i:=3) rfl rfl)) ao) ao) (ah (av (aC (by decide +kernel) (iW w) (iS w) (ac (af (i:=0) rfl rfl) (ac (aK (ax (f:=2) (af (i:=1) rfl rfl) rfl (λU=>rfl)) ap (λU U=>rfl)) ak rfl) rfl) (aF (hM _ (dp hk rfl))) rfl) (aq (i:=4) rfl rfl) (λU=>rfl) (λU U=>rfl) (λU=>rfl)) (ah (bj (aE .is_ (af (i:=4) rfl rfl) eW rfl) (ah (aZ (c7 ap)) ao) ao) (ah (aZ (fv (aE .ne (af (i:=4) rfl rfl) ap rfl) (af (i:=3) rfl rfl) (af (i:=2) rfl rfl))) ao)))))
noncomputable def lK:Ctx:=⟨[("block",false),("end",false),("low",false),("numbers",false),("other",false),("place",false),("value",false)],["ROUND","known_value","len"],false,true⟩
noncomputable def gS (hB:Heap):ST:=(aj (au (aD (ai 1) 3) (cu [(aw 2),(aw 3),(aw 4)])) (aj (sIf (aM .eq (bW .list (ai 3) (ae (ai 4) am) qt) (aI (ae (ai 3) am) gb)) (aj (bq (ai 4)) ay) ay) (aj (au (aI (ae (ai 0) (ae (aP (aD (ai 1) 2) (az 0)) am)) (ee hB)) (aw 6)) (aj (sIf (aM .is_ (ai 6) gY) (aj (bq (eI (az 1))) ay) ay) (aj (au (dH (dj (ai 6) (ai 2)) (az 4294967296)) (aw 5)) (aj (bq (eIf (aM .lt (ai 5) (aI (ae (ai 3) am) gb)) (aP (ai 3) (ai 5)) (ai 4))) ay))))))
noncomputable def eH (hB:Heap):FT:=ci 2 7 (gS hB)
private theorem kQ (k:Nat) (hk:2≤k):SF w hB k 215 (eH hB):=by
 obtain ⟨k,rfl⟩:=ba hk
 refine aV (f:=215) (Γ:=lK) (n:=2) rfl rfl (by kernel_rfl!) rfl (by kernel_rfl!) (by decide +kernel) (by decide) (λvs h=>?_) rfl rfl ?_ (λU=>by kernel_rfl!) rfl rfl
 ·obtain ⟨a0,a1,rfl⟩:=hH h
  kernel_rfl!
 ·exact (ah (av (ax (f:=3) (af (i:=1) rfl rfl) rfl (λU=>rfl)) (bI (aH (aq (i:=2) rfl rfl) (aH (aq (i:=3) rfl rfl) (aH (aq (i:=4) rfl rfl) bw (λU=>rfl)) (λU=>rfl)) (λU=>rfl))) (λU=>rfl) (λU U=>rfl) (λU=>rfl)) (ah (bj (aE .eq (bL (af (i:=3) rfl rfl) o9 (ac (af (i:=4) rfl rfl) ak rfl) rC (λU=>rfl) rfl (of_decide_eq_true rfl)) (aC (by decide +kernel) (eY w) (.inr (.inl ⟨_,rfl⟩)) (ac (af (i:=3) rfl rfl) ak rfl) df rfl) rfl) (ah (aZ (af (i:=4) rfl rfl)) ao) ao) (ah (av (aC (by decide +kernel) (iW w) (iS w) (ac (af (i:=0) rfl rfl) (ac (aK (ax (f:=2) (af (i:=1) rfl rfl) rfl (λU=>rfl)) ap (λU U=>rfl)) ak rfl) rfl) (aF (hM _ (dp hk rfl))) rfl) (aq (i:=6) rfl rfl) (λU=>rfl) (λU U=>rfl) (λU=>rfl)) (ah (bj (aE .is_ (af (i:=6) rfl rfl) eW rfl) (ah (aZ (c7 ap)) ao) ao) (ah (av (cx (cR (af (i:=6) rfl rfl) (af (i:=2) rfl rfl)) (d8 (by decide +kernel) (qL) rfl)) (aq (i:=5) rfl rfl) (λU=>rfl) (λU U=>rfl) (λU=>rfl)) (ah (aZ (fv (aE .lt (af (i:=5) rfl rfl) (aC (by decide +kernel) (eY w) (.inr (.inl ⟨_,rfl⟩)) (ac (af (i:=3) rfl rfl) ak rfl) df rfl) rfl) (aK (af (i:=3) rfl rfl) (af (i:=5) rfl rfl) (λU U=>rfl)) (af (i:=4) rfl rfl))) ao))))))
noncomputable def oJ:Ctx:=⟨[("block",false),("end",false),("number",false)],["in_place_of","settled_branch","settled_table"],false,true⟩
noncomputable def c8 (hB:Heap):ST:=(aj (sIf (aM .eq (aD (ai 1) 0) (aQ 9)) (aj (au (aI (ae (ai 0) (ae (ai 1) am)) (dW hB)) (aw 2)) ay) (aj (sIf (aM .eq (aD (ai 1) 0) (aQ 10)) (aj (au (aI (ae (ai 0) (ae (ai 1) am)) (eH hB)) (aw 2)) ay) (aj (bq (ai 1)) ay)) ay)) (aj (bq (eIf (aM .lt (ai 2) (az 0)) (ai 1) (aI (ae (ai 1) (ae (aQ 8) (ae (eI (az 1)) (ae (aW am) (ae (ai 2) am))))) (cw hB)))) ay))
noncomputable def fM (hB:Heap):FT:=ci 2 3 (c8 hB)
private theorem nq (k:Nat) (hk:4≤k):SF w hB k 222 (fM hB):=by
 obtain ⟨k,rfl⟩:=ba hk
 refine aV (f:=222) (Γ:=oJ) (n:=2) rfl rfl (by kernel_rfl!) rfl (by kernel_rfl!) (by decide +kernel) (by decide) (λvs h=>?_) rfl rfl ?_ (λU=>by kernel_rfl!) rfl rfl
 ·obtain ⟨a0,a1,rfl⟩:=hH h
  kernel_rfl!
 ·exact (ah (bj (aE .eq (ax (f:=0) (af (i:=1) rfl rfl) rfl (λU=>rfl)) (aG (n:=9) rfl) rfl) (ah (av (aC (by decide +kernel) (kP w) (kR w) (ac (af (i:=0) rfl rfl) (ac (af (i:=1) rfl rfl) ak rfl) rfl) (aF (ju _ (dp hk rfl))) rfl) (aq (i:=2) rfl rfl) (λU=>rfl) (λU U=>rfl) (λU=>rfl)) ao) (ah (bj (aE .eq (ax (f:=0) (af (i:=1) rfl rfl) rfl (λU=>rfl)) (aG (n:=10) rfl) rfl) (ah (av (aC (by decide +kernel) (lO w) (lL w) (ac (af (i:=0) rfl rfl) (ac (af (i:=1) rfl rfl) ak rfl) rfl) (aF (kQ _ (dp hk rfl))) rfl) (aq (i:=2) rfl rfl) (λU=>rfl) (λU U=>rfl) (λU=>rfl)) ao) (ah (aZ (af (i:=1) rfl rfl)) ao)) ao)) (ah (aZ (fv (aE .lt (af (i:=2) rfl rfl) ap rfl) (af (i:=1) rfl rfl) (aC (by decide +kernel) (ew w) (d9 w) (ac (af (i:=1) rfl rfl) (ac (aG (n:=8) rfl) (ac (c7 ap) (ac (aO ak) (ac (af (i:=2) rfl rfl) ak rfl) rfl) rfl) rfl) rfl) (aF (dA _ (dp hk rfl))) rfl))) ao))
noncomputable def oG:Ctx:=⟨[("func",false),("block",false),("found",false)],[],false,true⟩
noncomputable def iL (hB:Heap):ST:=(aj (au kO (aw 2)) (aj (cv (bD (aD (ai 0) 13)) (aw 1) (aj (sIf (cz (aM .eq (aD (aD (ai 1) 8) 0) (aQ 8)) (cz (fS (eX (aD (ai 1) 7))) (cz (aM .ne (aD (aD (ai 1) 8) 3) (aD (ai 1) 6)) bG))) (aj (au (aD (aD (ai 1) 8) 3) (eS (ai 2) (aD (ai 1) 6))) ay) ay) ay)) (aj (bq (ai 2)) ay)))
noncomputable def fB (hB:Heap):FT:=ci 1 3 (iL hB)
private theorem nL (k:Nat) (hk:1≤k):SF w hB k 229 (fB hB):=by
 obtain ⟨k,rfl⟩:=ba hk
 refine aV (f:=229) (Γ:=oG) (n:=1) rfl rfl (by kernel_rfl!) rfl (by kernel_rfl!) (by decide +kernel) (by decide) (λvs h=>?_) rfl rfl ?_ (λU=>by kernel_rfl!) rfl rfl
 ·obtain ⟨a0,rfl⟩:=fy h
  kernel_rfl!
 ·exact (ah (av jq (aq (i:=2) rfl rfl) (λU=>rfl) (λU U=>rfl) (λU=>rfl)) (ah (b9 (bp (ax (f:=13) (af (i:=0) rfl rfl) rfl (λU=>rfl)) (λU U=>rfl)) (aq (i:=1) rfl rfl) (ah (bj (bJ (aE .eq (ax (f:=0) (ax (f:=8) (af (i:=1) rfl rfl) rfl (λU=>rfl)) rfl (λU=>rfl)) (aG (n:=8) rfl) rfl) (bJ (eJ (dk (ax (f:=7) (af (i:=1) rfl rfl) rfl (λU=>rfl)) (λU U=>rfl))) (bJ (aE .ne (ax (f:=3) (ax (f:=8) (af (i:=1) rfl rfl) rfl (λU=>rfl)) rfl (λU=>rfl)) (ax (f:=6) (af (i:=1) rfl rfl) rfl (λU=>rfl)) rfl) bQ))) (ah (av (ax (f:=3) (ax (f:=8) (af (i:=1) rfl rfl) rfl (λU=>rfl)) rfl (λU=>rfl)) (dD (af (i:=2) rfl rfl) (ax (f:=6) (af (i:=1) rfl rfl) rfl (λU=>rfl))) (λU=>rfl) (λU U=>rfl) (λU=>rfl)) ao) ao) ao) aR) (ah (aZ (af (i:=2) rfl rfl)) ao)))
noncomputable def sx:Ctx:=⟨[("jumps",false),("number",false),("goal",false),("seen",false)],[],true,true⟩
noncomputable def lF (hB:Heap):ST:=(aj (au (t5 (ai 1)) (aw 3)) (aj (au (ai 1) (aw 2)) (aj (gD (cz (aM .in_ (ai 2) (ai 0)) (cz (aM .notIn (aP (ai 0) (ai 2)) (ai 3)) bG)) (aj (au (aP (ai 0) (ai 2)) (aw 2)) (aj (bC (bW .set (ai 3) (ae (ai 2) am) oj)) ay))) (aj (bq (ai 2)) ay))))
noncomputable def ii (hB:Heap):FT:=ci 2 4 (lF hB)
private theorem qw (k:Nat) (hk:1≤k):SF w hB k 236 (ii hB):=by
 obtain ⟨k,rfl⟩:=ba hk
 refine aV (f:=236) (Γ:=sx) (n:=2) rfl rfl (by kernel_rfl!) rfl (by kernel_rfl!) (by decide +kernel) (by decide) (λvs h=>?_) rfl rfl ?_ (λU=>by kernel_rfl!) rfl rfl
 ·obtain ⟨a0,a1,rfl⟩:=hH h
  kernel_rfl!
 ·exact (ah (av (uA (af (i:=1) rfl rfl) rfl rfl rfl rfl) (aq (i:=3) rfl rfl) (λU=>rfl) (λU U=>rfl) (λU=>rfl)) (ah (av (af (i:=1) rfl rfl) (aq (i:=2) rfl rfl) (λU=>rfl) (λU U=>rfl) (λU=>rfl)) (ah (iA (bJ (aE .in_ (af (i:=2) rfl rfl) (af (i:=0) rfl rfl) rfl) (bJ (aE .notIn (aK (af (i:=0) rfl rfl) (af (i:=2) rfl rfl) (λU U=>rfl)) (af (i:=3) rfl rfl) rfl) bQ)) (ah (av (aK (af (i:=0) rfl rfl) (af (i:=2) rfl rfl) (λU U=>rfl)) (aq (i:=2) rfl rfl) (λU=>rfl) (λU U=>rfl) (λU=>rfl)) (ah (bY (bL (af (i:=3) rfl rfl) jP (ac (af (i:=2) rfl rfl) ak rfl) mH (λU=>rfl) rfl (of_decide_eq_true rfl)) (λU=>rfl)) ao))) (ah (aZ (af (i:=2) rfl rfl)) ao))))
noncomputable def uU:Ctx:=⟨[("func",false),("found",false),("jumps",false),("number",false)],["last_goal","plain_jumps","sorted"],false,true⟩
noncomputable def pu (hB:Heap):ST:=(aj (au (aI (ae (ai 0) am) (fB hB)) (aw 2)) (aj (au kO (aw 1)) (aj (cv (bD (aI (ae (ai 2) am) gK)) (aw 3) (aj (au (aI (ae (ai 2) (ae (ai 3) am)) (ii hB)) (eS (ai 1) (ai 3))) ay)) (aj (bq (ai 1)) ay))))
noncomputable def j5 (hB:Heap):FT:=ci 1 4 (pu hB)
private theorem tF (k:Nat) (hk:2≤k):SF w hB k 243 (j5 hB):=by
 obtain ⟨k,rfl⟩:=ba hk
 refine aV (f:=243) (Γ:=uU) (n:=1) rfl rfl (by kernel_rfl!) rfl (by kernel_rfl!) (by decide +kernel) (by decide) (λvs h=>?_) rfl rfl ?_ (λU=>by kernel_rfl!) rfl rfl
 ·obtain ⟨a0,rfl⟩:=fy h
  kernel_rfl!
 ·exact (ah (av (aC (by decide +kernel) (oN w) (nZ w) (ac (af (i:=0) rfl rfl) ak rfl) (aF (nL _ (dp hk rfl))) rfl) (aq (i:=2) rfl rfl) (λU=>rfl) (λU U=>rfl) (λU=>rfl)) (ah (av jq (aq (i:=1) rfl rfl) (λU=>rfl) (λU U=>rfl) (λU=>rfl)) (ah (b9 (bp (aC (by decide +kernel) (mP w) (.inr (.inl ⟨_,rfl⟩)) (ac (af (i:=2) rfl rfl) ak rfl) ke rfl) (λU U=>rfl)) (aq (i:=3) rfl rfl) (ah (av (aC (by decide +kernel) (sP w) (rF w) (ac (af (i:=2) rfl rfl) (ac (af (i:=3) rfl rfl) ak rfl) rfl) (aF (qw _ (dp hk rfl))) rfl) (dD (af (i:=1) rfl rfl) (af (i:=3) rfl rfl)) (λU=>rfl) (λU U=>rfl) (λU=>rfl)) ao) aR) (ah (aZ (af (i:=1) rfl rfl)) ao))))
end
end Mine
end
section
namespace Mine
section
variable {w:World} {hB:Heap}
noncomputable def hZ:Ctx:=⟨[("number",false),("lead",true)],[],false,false⟩
noncomputable def jz:Ctx:=⟨[("func",false),("block",false),("end",false),("is_changed",false),("lead",true)],["any","followers","led_end","same_end","settled_end","threads"],false,true⟩
noncomputable def fq (hB:Heap):ST:=(aj (au (aI (ae (ai 0) am) (j5 hB)) (aw 4)) (aj (au (b6 false) (aw 3)) (aj (cv (bD (aD (ai 0) 13)) (aw 1) (aj (au (aD (ai 1) 8) (aw 2)) (aj (sIf (cz (eX (ai 4)) (cz (eX (aI (ae (cE (bD (aI (ae (ai 1) am) (bE hB))) (aw 0) bG (kI .in_ (ai 0) (ai 1)) 1 [4]) am) yg)) bG)) (aj (au (aI (ae (ai 2) (ae (ai 4) am)) (f8 hB)) (aw 2)) ay) ay) (aj (au (aI (ae (ai 1) (ae (ai 2) am)) (fM hB)) (aw 2)) (aj (sIf (cz (aM .isNot (ai 2) (aD (ai 1) 8)) (cz (fS (eX (aI (ae (ai 2) (ae (aD (ai 1) 8) am)) (je hB)))) bG)) (aj (au (ai 2) (cn (ai 1) 8)) (aj (au (b6 true) (aw 3)) ay)) ay) ay))))) (aj (bq (ai 3)) ay))))
noncomputable def dK (hB:Heap):FT:=ci 1 5 (fq hB)
private theorem i8 (k:Nat) (hk:5≤k):SF w hB k 248 (dK hB):=by
 obtain ⟨k,rfl⟩:=ba hk
 refine aV (f:=248) (Γ:=jz) (n:=1) rfl rfl (by kernel_rfl!) rfl (by kernel_rfl!) (by decide +kernel) (by decide) (λvs h=>?_) rfl rfl ?_ (λU=>by kernel_rfl!) rfl rfl
 ·obtain ⟨a0,rfl⟩:=fy h
  kernel_rfl!
 ·exact (ah (av (aC (by decide +kernel) (uS w) (uP w) (ac (af (i:=0) rfl rfl) ak rfl) (aF (tF _ (dp hk rfl))) rfl) (aq (i:=4) rfl rfl) (λU=>rfl) (λU U=>rfl) (λU=>rfl)) (ah (av bz (aq (i:=3) rfl rfl) (λU=>rfl) (λU U=>rfl) (λU=>rfl)) (ah (b9 (bp (ax (f:=13) (af (i:=0) rfl rfl) rfl (λU=>rfl)) (λU U=>rfl)) (aq (i:=1) rfl rfl) (ah (av (ax (f:=8) (af (i:=1) rfl rfl) rfl (λU=>rfl)) (aq (i:=2) rfl rfl) (λU=>rfl) (λU U=>rfl) (λU=>rfl)) (ah (bj (bJ (dk (af (i:=4) rfl rfl) (λU U=>rfl)) (bJ (dk (aC (by decide +kernel) (zS w) (.inr (.inl ⟨_,rfl⟩)) (ac (lU (Γc:=hZ) (n:=1) (cap:=[4]) (by kernel_rfl!) (bp (aC (by decide +kernel) (dv w) (dz w) (ac (af (i:=1) rfl rfl) ak rfl) (aF (cX _ (dp hk rfl))) rfl) (λU U=>rfl)) (aq (i:=0) rfl rfl) cZ (fH .in_ (af (i:=0) rfl rfl) (af (i:=1) rfl rfl) rfl) aR da) ak rfl) zm rfl) (λU U=>rfl)) bQ)) (ah (av (aC (by decide +kernel) (pH w) (pU w) (ac (af (i:=2) rfl rfl) (ac (af (i:=4) rfl rfl) ak rfl) rfl) (aF (mQ _ (dp hk rfl))) rfl) (aq (i:=2) rfl rfl) (λU=>rfl) (λU U=>rfl) (λU=>rfl)) ao) ao) (ah (av (aC (by decide +kernel) (ow w) (oC w) (ac (af (i:=1) rfl rfl) (ac (af (i:=2) rfl rfl) ak rfl) rfl) (aF (nq _ (dp hk rfl))) rfl) (aq (i:=2) rfl rfl) (λU=>rfl) (λU U=>rfl) (λU=>rfl)) (ah (bj (bJ (aE .isNot (af (i:=2) rfl rfl) (ax (f:=8) (af (i:=1) rfl rfl) rfl (λU=>rfl)) rfl) (bJ (eJ (dk (aC (by decide +kernel) (tf w) (tj w) (ac (af (i:=2) rfl rfl) (ac (ax (f:=8) (af (i:=1) rfl rfl) rfl (λU=>rfl)) ak rfl) rfl) (aF (r9 _ (dp hk rfl))) rfl) (λU U=>rfl))) bQ)) (ah (av (af (i:=2) rfl rfl) (bA (f:=8) (af (i:=1) rfl rfl) rfl) (λU=>rfl) (λU U=>rfl) (λU=>rfl)) (ah (av bz (aq (i:=3) rfl rfl) (λU=>rfl) (λU U=>rfl) (λU=>rfl)) ao)) ao) ao)))) aR) (ah (aZ (af (i:=3) rfl rfl)) ao))))
noncomputable def qP:Ctx:=⟨[("func",false),("row",false),("follower",false),("found",false),("number",false)],["followers"],false,true⟩
noncomputable def jJ (hB:Heap):ST:=(aj (au kO (aw 3)) (aj (cv (bD (ai 1)) (aw 4) (aj (cv (bD (aI (ae (aP (aD (ai 0) 13) (ai 4)) am) (bE hB))) (aw 2) (aj (au (bZ (bW .dict (ai 3) (ae (ai 2) (ae (az 0) am)) rH) (az 1)) (eS (ai 3) (ai 2))) ay)) ay)) (aj (bq (ai 3)) ay)))
noncomputable def gB (hB:Heap):FT:=ci 2 5 (jJ hB)
private theorem oo (k:Nat) (hk:2≤k):SF w hB k 255 (gB hB):=by
 obtain ⟨k,rfl⟩:=ba hk
 refine aV (f:=255) (Γ:=qP) (n:=2) rfl rfl (by kernel_rfl!) rfl (by kernel_rfl!) (by decide +kernel) (by decide) (λvs h=>?_) rfl rfl ?_ (λU=>by kernel_rfl!) rfl rfl
 ·obtain ⟨a0,a1,rfl⟩:=hH h
  kernel_rfl!
 ·exact (ah (av jq (aq (i:=3) rfl rfl) (λU=>rfl) (λU U=>rfl) (λU=>rfl)) (ah (b9 (bp (af (i:=1) rfl rfl) (λU U=>rfl)) (aq (i:=4) rfl rfl) (ah (b9 (bp (aC (by decide +kernel) (dv w) (dz w) (ac (aK (ax (f:=13) (af (i:=0) rfl rfl) rfl (λU=>rfl)) (af (i:=4) rfl rfl) (λU U=>rfl)) ak rfl) (aF (cX _ (dp hk rfl))) rfl) (λU U=>rfl)) (aq (i:=2) rfl rfl) (ah (av (bB (bL (af (i:=3) rfl rfl) iD (ac (af (i:=2) rfl rfl) (ac ap ak rfl) rfl) k7 (λU=>rfl) rfl (of_decide_eq_true rfl)) ap) (dD (af (i:=3) rfl rfl) (af (i:=2) rfl rfl)) (λU=>rfl) (λU U=>rfl) (λU=>rfl)) ao) aR) ao) aR) (ah (aZ (af (i:=3) rfl rfl)) ao)))
noncomputable def oA:Ctx:=⟨[("func",false),("row",false),("block",false),("edges",false),("goal",false),("gone",false),("number",false)],["edges_into","set"],false,true⟩
noncomputable def iN (hB:Heap):ST:=(aj (au (aI (ae (ai 0) (ae (ai 1) am)) (gB hB)) (aw 3)) (aj (au (ta vR) (aw 5)) (aj (cv (bD (ai 1)) (aw 6) (aj (sIf (aM .in_ (ai 6) (ai 5)) (aj rr ay) ay) (aj (au (aP (aD (ai 0) 13) (ai 6)) (aw 2)) (aj (gD (aM .eq (aD (aD (ai 2) 8) 0) (aQ 8)) (aj (au (aD (aD (ai 2) 8) 3) (aw 4)) (aj (sIf (bOr (aM .eq (ai 4) (az 0)) (bOr (aM .eq (ai 4) (ai 6)) (bOr (aM .ne (aP (ai 3) (ai 4)) (az 1)) ck))) (aj xq ay) ay) (aj (au (bZ (aD (ai 2) 7) (aD (aP (aD (ai 0) 13) (ai 4)) 7)) (cn (ai 2) 7)) (aj (au (aD (aP (aD (ai 0) 13) (ai 4)) 8) (cn (ai 2) 8)) (aj (bC (bW .set (ai 5) (ae (ai 4) am) oj)) ay)))))) ay)))) (aj (bq (ai 5)) ay))))
noncomputable def fG (hB:Heap):FT:=ci 2 7 (iN hB)
private theorem nz (k:Nat) (hk:3≤k):SF w hB k 262 (fG hB):=by
 obtain ⟨k,rfl⟩:=ba hk
 refine aV (f:=262) (Γ:=oA) (n:=2) rfl rfl (by kernel_rfl!) rfl (by kernel_rfl!) (by decide +kernel) (by decide) (λvs h=>?_) rfl rfl ?_ (λU=>by kernel_rfl!) rfl rfl
 ·obtain ⟨a0,a1,rfl⟩:=hH h
  kernel_rfl!
 ·exact (ah (av (aC (by decide +kernel) (pW w) (rm w) (ac (af (i:=0) rfl rfl) (ac (af (i:=1) rfl rfl) ak rfl) rfl) (aF (oo _ (dp hk rfl))) rfl) (aq (i:=3) rfl rfl) (λU=>rfl) (λU U=>rfl) (λU=>rfl)) (ah (av (vL (by decide +kernel) (sJ w) (.inl ⟨_,rfl⟩) xF rfl) (aq (i:=5) rfl rfl) (λU=>rfl) (λU U=>rfl) (λU=>rfl)) (ah (b9 (bp (af (i:=1) rfl rfl) (λU U=>rfl)) (aq (i:=6) rfl rfl) (ah (bj (aE .in_ (af (i:=6) rfl rfl) (af (i:=5) rfl rfl) rfl) (ah xc ao) ao) (ah (av (aK (ax (f:=13) (af (i:=0) rfl rfl) rfl (λU=>rfl)) (af (i:=6) rfl rfl) (λU U=>rfl)) (aq (i:=2) rfl rfl) (λU=>rfl) (λU U=>rfl) (λU=>rfl)) (ah (iA (aE .eq (ax (f:=0) (ax (f:=8) (af (i:=2) rfl rfl) rfl (λU=>rfl)) rfl (λU=>rfl)) (aG (n:=8) rfl) rfl) (ah (av (ax (f:=3) (ax (f:=8) (af (i:=2) rfl rfl) rfl (λU=>rfl)) rfl (λU=>rfl)) (aq (i:=4) rfl rfl) (λU=>rfl) (λU U=>rfl) (λU=>rfl)) (ah (bj (b5 (aE .eq (af (i:=4) rfl rfl) ap rfl) (b5 (aE .eq (af (i:=4) rfl rfl) (af (i:=6) rfl rfl) rfl) (b5 (aE .ne (aK (af (i:=3) rfl rfl) (af (i:=4) rfl rfl) (λU U=>rfl)) ap rfl) bS))) (ah z8 ao) ao) (ah (av (bB (ax (f:=7) (af (i:=2) rfl rfl) rfl (λU=>rfl)) (ax (f:=7) (aK (ax (f:=13) (af (i:=0) rfl rfl) rfl (λU=>rfl)) (af (i:=4) rfl rfl) (λU U=>rfl)) rfl (λU=>rfl))) (bA (f:=7) (af (i:=2) rfl rfl) rfl) (λU=>rfl) (λU U=>rfl) (λU=>rfl)) (ah (av (ax (f:=8) (aK (ax (f:=13) (af (i:=0) rfl rfl) rfl (λU=>rfl)) (af (i:=4) rfl rfl) (λU U=>rfl)) rfl (λU=>rfl)) (bA (f:=8) (af (i:=2) rfl rfl) rfl) (λU=>rfl) (λU U=>rfl) (λU=>rfl)) (ah (bY (bL (af (i:=5) rfl rfl) jP (ac (af (i:=4) rfl rfl) ak rfl) mH (λU=>rfl) rfl (of_decide_eq_true rfl)) (λU=>rfl)) ao)))))) ao))) aR) (ah (aZ (af (i:=5) rfl rfl)) ao))))
noncomputable def kj:Ctx:=⟨[("number",false),("func",true)],[],false,false⟩
noncomputable def nY:Ctx:=⟨[("func",true),("kept",false),("block",false),("lead",false),("number",false),("place",false)],["enumerate","led_end"],false,true⟩
noncomputable def iV (hB:Heap):ST:=(aj (au kO (aw 3)) (aj (cv (jX (ae (ai 1) am)) (cu [(aw 5),(aw 4)]) (aj (au (ai 5) (eS (ai 3) (ai 4))) ay)) (aj (au (cE (bD (ai 1)) (aw 0) bG (aP (aD (ai 1) 13) (ai 0)) 1 [0]) (cn (ai 0) 13)) (aj (cv (jX (ae (aD (ai 0) 13) am)) (cu [(aw 5),(aw 2)]) (aj (au (ai 5) (cn (ai 2) 6)) (aj (au (aI (ae (aD (ai 2) 8) (ae (ai 3) am)) (f8 hB)) (cn (ai 2) 8)) ay))) ay))))
noncomputable def eh (hB:Heap):FT:=ci 2 6 (iV hB)
private theorem m5 (k:Nat) (hk:5≤k):SF w hB k 267 (eh hB):=by
 obtain ⟨k,rfl⟩:=ba hk
 refine aV (f:=267) (Γ:=nY) (n:=2) rfl rfl (by kernel_rfl!) rfl (by kernel_rfl!) (by decide +kernel) (by decide) (λvs h=>?_) rfl rfl ?_ (λU=>by kernel_rfl!) rfl rfl
 ·obtain ⟨a0,a1,rfl⟩:=hH h
  kernel_rfl!
 ·exact (ah (av jq (aq (i:=3) rfl rfl) (λU=>rfl) (λU U=>rfl) (λU=>rfl)) (ah (b9 (gO (by decide +kernel) (cP w) (ac (af (i:=1) rfl rfl) ak rfl) rfl) (bI (aH (aq (i:=5) rfl rfl) (aH (aq (i:=4) rfl rfl) bw (λU=>rfl)) (λU=>rfl))) (ah (av (af (i:=5) rfl rfl) (dD (af (i:=3) rfl rfl) (af (i:=4) rfl rfl)) (λU=>rfl) (λU U=>rfl) (λU=>rfl)) ao) cQ) (ah (av (lU (Γc:=kj) (n:=1) (cap:=[0]) (by kernel_rfl!) (bp (af (i:=1) rfl rfl) (λU U=>rfl)) (aq (i:=0) rfl rfl) cZ (aK (ax (f:=13) (af (i:=1) rfl rfl) rfl (λU=>rfl)) (af (i:=0) rfl rfl) (λU U=>rfl)) aR da) (bA (f:=13) (af (i:=0) rfl rfl) rfl) (λU=>rfl) (λU U=>rfl) (λU=>rfl)) (ah (b9 (gO (by decide +kernel) (cP w) (ac (ax (f:=13) (af (i:=0) rfl rfl) rfl (λU=>rfl)) ak rfl) rfl) (bI (aH (aq (i:=5) rfl rfl) (aH (aq (i:=2) rfl rfl) bw (λU=>rfl)) (λU=>rfl))) (ah (av (af (i:=5) rfl rfl) (bA (f:=6) (af (i:=2) rfl rfl) rfl) (λU=>rfl) (λU U=>rfl) (λU=>rfl)) (ah (av (aC (by decide +kernel) (pH w) (pU w) (ac (ax (f:=8) (af (i:=2) rfl rfl) rfl (λU=>rfl)) (ac (af (i:=3) rfl rfl) ak rfl) rfl) (aF (mQ _ (dp hk rfl))) rfl) (bA (f:=8) (af (i:=2) rfl rfl) rfl) (λU=>rfl) (λU U=>rfl) (λU=>rfl)) ao)) cQ) ao))))
noncomputable def hN:Ctx:=⟨[("number",false),("gone",true)],[],false,false⟩
noncomputable def jC:Ctx:=⟨[("func",false),("gone",true),("is_changed",false),("row",false)],["join_blocks","keep_blocks","len","order","sorted","straighten_ends"],false,true⟩
noncomputable def ft (hB:Heap):ST:=(aj (au (aI (ae (ai 0) am) (dK hB)) (aw 2)) (aj (au (aI (ae (ai 0) am) (qH hB)) (aw 3)) (aj (au (aI (ae (ai 0) (ae (ai 3) am)) (fG hB)) (aw 1)) (aj (sIf (bOr (eX (ai 1)) (bOr (aM .lt (aI (ae (ai 3) am) gb) (aI (ae (aD (ai 0) 13) am) gb)) ck)) (aj (bC (aI (ae (ai 0) (ae (aI (ae (cE (bD (ai 3)) (aw 0) (aM .notIn (ai 0) (ai 1)) (ai 0) 1 [1]) am) gK) am)) (eh hB))) (aj (au (b6 true) (aw 2)) ay)) ay) (aj (bq (ai 2)) ay)))))
noncomputable def dI (hB:Heap):FT:=ci 1 4 (ft hB)
private theorem i6 (k:Nat) (hk:6≤k):SF w hB k 272 (dI hB):=by
 obtain ⟨k,rfl⟩:=ba hk
 refine aV (f:=272) (Γ:=jC) (n:=1) rfl rfl (by kernel_rfl!) rfl (by kernel_rfl!) (by decide +kernel) (by decide) (λvs h=>?_) rfl rfl ?_ (λU=>by kernel_rfl!) rfl rfl
 ·obtain ⟨a0,rfl⟩:=fy h
  kernel_rfl!
 ·exact (ah (av (aC (by decide +kernel) (jE w) (jp w) (ac (af (i:=0) rfl rfl) ak rfl) (aF (i8 _ (dp hk rfl))) rfl) (aq (i:=2) rfl rfl) (λU=>rfl) (λU U=>rfl) (λU=>rfl)) (ah (av (aC (by decide +kernel) (xo w) (xz w) (ac (af (i:=0) rfl rfl) ak rfl) (aF (wg _ (dp hk rfl))) rfl) (aq (i:=3) rfl rfl) (λU=>rfl) (λU U=>rfl) (λU=>rfl)) (ah (av (aC (by decide +kernel) (nV w) (nS w) (ac (af (i:=0) rfl rfl) (ac (af (i:=3) rfl rfl) ak rfl) rfl) (aF (nz _ (dp hk rfl))) rfl) (aq (i:=1) rfl rfl) (λU=>rfl) (λU U=>rfl) (λU=>rfl)) (ah (bj (b5 (dk (af (i:=1) rfl rfl) (λU U=>rfl)) (b5 (aE .lt (aC (by decide +kernel) (eY w) (.inr (.inl ⟨_,rfl⟩)) (ac (af (i:=3) rfl rfl) ak rfl) df rfl) (aC (by decide +kernel) (eY w) (.inr (.inl ⟨_,rfl⟩)) (ac (ax (f:=13) (af (i:=0) rfl rfl) rfl (λU=>rfl)) ak rfl) df rfl) rfl) bS)) (ah (bY (aC (by decide +kernel) (oW w) (oL w) (ac (af (i:=0) rfl rfl) (ac (aC (by decide +kernel) (mP w) (.inr (.inl ⟨_,rfl⟩)) (ac (lU (Γc:=hN) (n:=1) (cap:=[1]) (by kernel_rfl!) (bp (af (i:=3) rfl rfl) (λU U=>rfl)) (aq (i:=0) rfl rfl) (ue (aE .notIn (af (i:=0) rfl rfl) (af (i:=1) rfl rfl) rfl)) (af (i:=0) rfl rfl) aR da) ak rfl) ke rfl) ak rfl) rfl) (aF (m5 _ (dp hk rfl))) rfl) (λU=>rfl)) (ah (av bz (aq (i:=2) rfl rfl) (λU=>rfl) (λU U=>rfl) (λU=>rfl)) ao)) ao) (ah (aZ (af (i:=2) rfl rfl)) ao)))))
noncomputable def qW:Ctx:=⟨[("func",false),("is_changed",false)],["straighten_once"],false,true⟩
noncomputable def j4 (hB:Heap):ST:=(aj (au (b6 false) (aw 1)) (aj (gD (eX (aI (ae (ai 0) am) (dI hB))) (aj (au (b6 true) (aw 1)) ay)) (aj (bq (ai 1)) ay)))
noncomputable def eQ (hB:Heap):FT:=ci 1 2 (j4 hB)
private theorem iO (k:Nat) (hk:7≤k):SF w hB k 279 (eQ hB):=by
 obtain ⟨k,rfl⟩:=ba hk
 refine aV (f:=279) (Γ:=qW) (n:=1) rfl rfl (by kernel_rfl!) rfl (by kernel_rfl!) (by decide +kernel) (by decide) (λvs h=>?_) rfl rfl ?_ (λU=>by kernel_rfl!) rfl rfl
 ·obtain ⟨a0,rfl⟩:=fy h
  kernel_rfl!
 ·exact (ah (av bz (aq (i:=1) rfl rfl) (λU=>rfl) (λU U=>rfl) (λU=>rfl)) (ah (iA (dk (aC (by decide +kernel) (jn w) (jA w) (ac (af (i:=0) rfl rfl) ak rfl) (aF (i6 _ (dp hk rfl))) rfl) (λU U=>rfl)) (ah (av bz (aq (i:=1) rfl rfl) (λU=>rfl) (λU U=>rfl) (λU=>rfl)) ao)) (ah (aZ (af (i:=1) rfl rfl)) ao)))
end
end Mine
end
section
namespace Mine
section
variable {w:World} {hB:Heap}
noncomputable def oK:Ctx:=⟨[("number",false)],[],false,false⟩
noncomputable def s9:Ctx:=⟨[("script",false),("mixed",false),("number",false),("numbers",false)],[],false,true⟩
noncomputable def mD (hB:Heap):ST:=(aj (au (cE (bD (vU hB 0 63)) (aw 0) bG (dH (ai 0) (az 1000000)) 1 []) (aw 3)) (aj (au (az 5) (aw 1)) (aj (cv (bD (ai 3)) (aw 2) (aj (au (dH (bZ (mF (ai 1) (az 7)) (ai 2)) (az 1009)) (aw 1)) ay)) (aj (bq (aW (ae (ai 3) (ae (az 0) (ae (ai 1) am))))) ay))))
noncomputable def iZ (hB:Heap):FT:=ci 1 4 (mD hB)
private theorem rG (k:Nat) (hk:1≤k):SF w hB k 284 (iZ hB):=by
 obtain ⟨k,rfl⟩:=ba hk
 refine aV (f:=284) (Γ:=s9) (n:=1) rfl rfl (by kernel_rfl!) rfl (by kernel_rfl!) (by decide +kernel) (by decide) (λvs h=>?_) rfl rfl ?_ (λU=>by kernel_rfl!) rfl rfl
 ·obtain ⟨a0,rfl⟩:=fy h
  kernel_rfl!
 ·exact (ah (bO (i:=3) rfl rfl rfl (Γc:=oK) (n:=1) (cap:=[]) (by kernel_rfl!) (bp (xR (i:=0) rfl rfl) (λU U=>rfl)) (aq (i:=0) rfl rfl) cZ (cx (af (i:=0) rfl rfl) ap) aR da) (ah (av ap (aq (i:=1) rfl rfl) (λU=>rfl) (λU U=>rfl) (λU=>rfl)) (ah (b9 (bp (af (i:=3) rfl rfl) (λU U=>rfl)) (aq (i:=2) rfl rfl) (ah (av (cx (bB (kC (af (i:=1) rfl rfl) ap) (af (i:=2) rfl rfl)) ap) (aq (i:=1) rfl rfl) (λU=>rfl) (λU U=>rfl) (λU=>rfl)) ao) aR) (ah (aZ (aO (ac (af (i:=3) rfl rfl) (ac ap (ac (af (i:=1) rfl rfl) ak rfl) rfl) rfl))) ao))))
noncomputable def td:Ctx:=⟨[("well",false),("size",false),("mixed",false),("numbers",false),("place",false)],["len"],false,true⟩
noncomputable def m6 (hB:Heap):ST:=(aj (au (ai 0) (cu [(aw 3),(aw 4),(aw 2)])) (aj (au (bZ (ai 4) (az 1)) (eS (ai 0) (az 1))) (aj (sIf (aM .lt (ai 4) (aI (ae (ai 3) am) gb)) (aj (bq (dH (aP (ai 3) (ai 4)) (ai 1))) ay) ay) (aj (bq (dH (dH (bZ (ai 2) (mF (ai 4) (bZ (az 37) (mF (az 11) (ai 4))))) (az 1009)) (ai 1))) ay))))
noncomputable def aU (hB:Heap):FT:=ci 2 5 (m6 hB)
private theorem bh (k:Nat) (hk:1≤k):SF w hB k 291 (aU hB):=by
 obtain ⟨k,rfl⟩:=ba hk
 refine aV (f:=291) (Γ:=td) (n:=2) rfl rfl (by kernel_rfl!) rfl (by kernel_rfl!) (by decide +kernel) (by decide) (λvs h=>?_) rfl rfl ?_ (λU=>by kernel_rfl!) rfl rfl
 ·obtain ⟨a0,a1,rfl⟩:=hH h
  kernel_rfl!
 ·exact (ah (av (af (i:=0) rfl rfl) (bI (aH (aq (i:=3) rfl rfl) (aH (aq (i:=4) rfl rfl) (aH (aq (i:=2) rfl rfl) bw (λU=>rfl)) (λU=>rfl)) (λU=>rfl))) (λU=>rfl) (λU U=>rfl) (λU=>rfl)) (ah (av (bB (af (i:=4) rfl rfl) ap) (dD (af (i:=0) rfl rfl) ap) (λU=>rfl) (λU U=>rfl) (λU=>rfl)) (ah (bj (aE .lt (af (i:=4) rfl rfl) (aC (by decide +kernel) (eY w) (.inr (.inl ⟨_,rfl⟩)) (ac (af (i:=3) rfl rfl) ak rfl) df rfl) rfl) (ah (aZ (cx (aK (af (i:=3) rfl rfl) (af (i:=4) rfl rfl) (λU U=>rfl)) (af (i:=1) rfl rfl))) ao) ao) (ah (aZ (cx (cx (bB (af (i:=2) rfl rfl) (kC (af (i:=4) rfl rfl) (bB ap (kC ap (af (i:=4) rfl rfl))))) ap) (af (i:=1) rfl rfl))) ao))))
noncomputable def uO:Ctx:=⟨[("code",false),("kind",false),("number",false),("one",false)],[],false,true⟩
noncomputable def pz (hB:Heap):ST:=(aj (au (dH (ai 0) (az 7)) (aw 1)) (aj (au (dH (sk (ai 0) (az 7)) (az 3)) (aw 3)) (aj (au (sk (ai 0) (az 21)) (aw 2)) (aj (sIf (aM .eq (ai 1) (az 0)) (aj (bq (aY (ae (aQ 2) (ae (ai 3) (ae (aW (ae (aY (ae (aQ 1) (ae (ai 2) am))) am)) (ae (az 0) (ae (b6 false) am))))))) ay) ay) (aj (sIf (aM .eq (ai 1) (az 1)) (aj (bq (aY (ae (aQ 3) (ae (ai 3) (ae (aW (ae (aY (ae (aQ 1) (ae (sk (ai 2) (az 2)) am))) am)) (ae (az 0) (ae (b6 false) am))))))) ay) ay) (aj (sIf (aM .eq (ai 1) (az 2)) (aj (bq (aY (ae (aQ 4) (ae (ai 3) (ae (aW (ae (aY (ae (aQ 0) (ae (dH (ai 2) (az 3)) am))) am)) (ae (aQ 12) (ae (b6 false) am))))))) ay) ay) (aj (sIf (aM .eq (ai 1) (az 3)) (aj (bq (aY (ae (aQ 4) (ae (eI (az 1)) (ae (aW (ae (aY (ae (aQ 0) (ae (ai 3) am))) (ae (aY (ae (aQ 1) (ae (ai 2) am))) am))) (ae (aQ 12) (ae (b6 false) am))))))) ay) ay) (aj (sIf (aM .eq (ai 1) (az 4)) (aj (bq (aY (ae (aQ 5) (ae (ai 3) (ae (aW (ae (aY (ae (aQ 0) (ae (ai 3) am))) (ae (aY (ae (aQ 1) (ae (ai 2) am))) am))) (ae (az 0) (ae (b6 false) am))))))) ay) ay) (aj (sIf (aM .eq (ai 1) (az 5)) (aj (bq (aY (ae (aQ 6) (ae (eI (az 1)) (ae (aW (ae (aY (ae (aQ 1) (ae (az 64) am))) (ae (aY (ae (aQ 0) (ae (ai 3) am))) am))) (ae (az 4) (ae (kI .eq (dH (ai 2) (az 2)) (az 1)) am))))))) ay) ay) (aj (bq (aY (ae (aQ 7) (ae (ai 3) (ae (aW (ae (aY (ae (aQ 1) (ae (az 64) am))) am)) (ae (aY (ae (az 4) (ae (b6 false) am))) (ae (kI .eq (dH (ai 2) (az 2)) (az 1)) am))))))) ay))))))))))
noncomputable def f9 (hB:Heap):FT:=ci 1 4 (pz hB)
private theorem ny (k:Nat) (hk:1≤k):SF w hB k 298 (f9 hB):=by
 obtain ⟨k,rfl⟩:=ba hk
 refine aV (f:=298) (Γ:=uO) (n:=1) rfl rfl (by kernel_rfl!) rfl (by kernel_rfl!) (by decide +kernel) (by decide) (λvs h=>?_) rfl rfl ?_ (λU=>by kernel_rfl!) rfl rfl
 ·obtain ⟨a0,rfl⟩:=fy h
  kernel_rfl!
 ·exact (ah (av (cx (af (i:=0) rfl rfl) ap) (aq (i:=1) rfl rfl) (λU=>rfl) (λU U=>rfl) (λU=>rfl)) (ah (av (cx (qd (af (i:=0) rfl rfl) ap) ap) (aq (i:=3) rfl rfl) (λU=>rfl) (λU U=>rfl) (λU=>rfl)) (ah (av (qd (af (i:=0) rfl rfl) ap) (aq (i:=2) rfl rfl) (λU=>rfl) (λU U=>rfl) (λU=>rfl)) (ah (bj (aE .eq (af (i:=1) rfl rfl) ap rfl) (ah (aZ (aN (ac (aG (n:=2) rfl) (ac (af (i:=3) rfl rfl) (ac (aO (ac (aN (ac (aG (n:=1) rfl) (ac (af (i:=2) rfl rfl) ak rfl) rfl)) ak rfl)) (ac ap (ac bz ak rfl) rfl) rfl) rfl) rfl))) ao) ao) (ah (bj (aE .eq (af (i:=1) rfl rfl) ap rfl) (ah (aZ (aN (ac (aG (n:=3) rfl) (ac (af (i:=3) rfl rfl) (ac (aO (ac (aN (ac (aG (n:=1) rfl) (ac (qd (af (i:=2) rfl rfl) ap) ak rfl) rfl)) ak rfl)) (ac ap (ac bz ak rfl) rfl) rfl) rfl) rfl))) ao) ao) (ah (bj (aE .eq (af (i:=1) rfl rfl) ap rfl) (ah (aZ (aN (ac (aG (n:=4) rfl) (ac (af (i:=3) rfl rfl) (ac (aO (ac (aN (ac (aG (n:=0) rfl) (ac (cx (af (i:=2) rfl rfl) ap) ak rfl) rfl)) ak rfl)) (ac (aG (n:=12) rfl) (ac bz ak rfl) rfl) rfl) rfl) rfl))) ao) ao) (ah (bj (aE .eq (af (i:=1) rfl rfl) ap rfl) (ah (aZ (aN (ac (aG (n:=4) rfl) (ac (c7 ap) (ac (aO (ac (aN (ac (aG (n:=0) rfl) (ac (af (i:=3) rfl rfl) ak rfl) rfl)) (ac (aN (ac (aG (n:=1) rfl) (ac (af (i:=2) rfl rfl) ak rfl) rfl)) ak rfl) rfl)) (ac (aG (n:=12) rfl) (ac bz ak rfl) rfl) rfl) rfl) rfl))) ao) ao) (ah (bj (aE .eq (af (i:=1) rfl rfl) ap rfl) (ah (aZ (aN (ac (aG (n:=5) rfl) (ac (af (i:=3) rfl rfl) (ac (aO (ac (aN (ac (aG (n:=0) rfl) (ac (af (i:=3) rfl rfl) ak rfl) rfl)) (ac (aN (ac (aG (n:=1) rfl) (ac (af (i:=2) rfl rfl) ak rfl) rfl)) ak rfl) rfl)) (ac ap (ac bz ak rfl) rfl) rfl) rfl) rfl))) ao) ao) (ah (bj (aE .eq (af (i:=1) rfl rfl) ap rfl) (ah (aZ (aN (ac (aG (n:=6) rfl) (ac (c7 ap) (ac (aO (ac (aN (ac (aG (n:=1) rfl) (ac ap ak rfl) rfl)) (ac (aN (ac (aG (n:=0) rfl) (ac (af (i:=3) rfl rfl) ak rfl) rfl)) ak rfl) rfl)) (ac ap (ac (fH .eq (cx (af (i:=2) rfl rfl) ap) ap rfl) ak rfl) rfl) rfl) rfl) rfl))) ao) ao) (ah (aZ (aN (ac (aG (n:=7) rfl) (ac (af (i:=3) rfl rfl) (ac (aO (ac (aN (ac (aG (n:=1) rfl) (ac ap ak rfl) rfl)) ak rfl)) (ac (aN (ac ap (ac bz ak rfl) rfl)) (ac (fH .eq (cx (af (i:=2) rfl rfl) ap) ap rfl) ak rfl) rfl) rfl) rfl) rfl))) ao))))))))))
noncomputable def uC:Ctx:=⟨[("well",false),("goals",false),("code",false),("first",false),("kind",false),("low",false),("operand",false),("pick",false),("second",false)],["_law_ALL","_law_draw","len"],false,true⟩
noncomputable def pe (hB:Heap):ST:=(aj (au (aI (ae (ai 0) (ae (az 30) am)) (aU hB)) (aw 2)) (aj (au (dH (ai 2) (az 6)) (aw 4)) (aj (au (sk (ai 2) (az 6)) (aw 7)) (aj (au (eIf (aM .lt (ai 7) (az 3)) (aY (ae (aQ 0) (ae (ai 7) am))) (aY (ae (aQ 1) (ae (dj (ai 7) (az 3)) am)))) (aw 6)) (aj (au (aI (ae (ai 0) (ae (aI (ae (ai 1) am) gb) am)) (aU hB)) (aw 3)) (aj (au (aI (ae (ai 0) (ae (aI (ae (ai 1) am) gb) am)) (aU hB)) (aw 8)) (aj (sIf (aM .in_ (ai 4) (aY (ae (az 0) (ae (az 2) am)))) (aj (bq (aY (ae (aQ 8) (ae (aW am) (ae (aP (ai 1) (ai 3)) am))))) ay) ay) (aj (sIf (aM .in_ (ai 4) (aY (ae (az 1) (ae (az 4) am)))) (aj (bq (aY (ae (aQ 9) (ae (aW (ae (ai 6) am)) (ae (aY (ae (aP (ai 1) (ai 3)) (ae (aP (ai 1) (ai 8)) am))) am))))) ay) ay) (aj (sIf (aM .eq (ai 4) (az 3)) (aj (au (aP (aY (ae (az 0) (ae (az 1) (ae (dj (az 4294967296) (az 1)) am)))) (dH (bZ (ai 3) (ai 8)) (az 3))) (aw 5)) (aj (bq (aY (ae (aQ 10) (ae (aW (ae (ai 6) am)) (ae (aY (ae (ai 5) (ae (aW (ae (aP (ai 1) (ai 3)) (ae (aP (ai 1) (ai 8)) am))) (ae (aP (ai 1) (dH (bZ (bZ (ai 3) (mF (az 2) (ai 8))) (az 1)) (aI (ae (ai 1) am) gb))) am)))) am))))) ay)) ay) (aj (bq (aY (ae (aQ 11) (ae (aW (ae (ai 6) am)) (ae (az 0) am))))) ay))))))))))
noncomputable def iw (hB:Heap):FT:=ci 2 9 (pe hB)
private theorem tP (k:Nat) (hk:2≤k):SF w hB k 305 (iw hB):=by
 obtain ⟨k,rfl⟩:=ba hk
 refine aV (f:=305) (Γ:=uC) (n:=2) rfl rfl (by kernel_rfl!) rfl (by kernel_rfl!) (by decide +kernel) (by decide) (λvs h=>?_) rfl rfl ?_ (λU=>by kernel_rfl!) rfl rfl
 ·obtain ⟨a0,a1,rfl⟩:=hH h
  kernel_rfl!
 ·exact (ah (av (aC (by decide +kernel) (bu w) (bt w) (ac (af (i:=0) rfl rfl) (ac ap ak rfl) rfl) (aF (bh _ (dp hk rfl))) rfl) (aq (i:=2) rfl rfl) (λU=>rfl) (λU U=>rfl) (λU=>rfl)) (ah (av (cx (af (i:=2) rfl rfl) ap) (aq (i:=4) rfl rfl) (λU=>rfl) (λU U=>rfl) (λU=>rfl)) (ah (av (qd (af (i:=2) rfl rfl) ap) (aq (i:=7) rfl rfl) (λU=>rfl) (λU U=>rfl) (λU=>rfl)) (ah (av (fv (aE .lt (af (i:=7) rfl rfl) ap rfl) (aN (ac (aG (n:=0) rfl) (ac (af (i:=7) rfl rfl) ak rfl) rfl)) (aN (ac (aG (n:=1) rfl) (ac (cR (af (i:=7) rfl rfl) ap) ak rfl) rfl))) (aq (i:=6) rfl rfl) (λU=>rfl) (λU U=>rfl) (λU=>rfl)) (ah (av (aC (by decide +kernel) (bu w) (bt w) (ac (af (i:=0) rfl rfl) (ac (aC (by decide +kernel) (eY w) (.inr (.inl ⟨_,rfl⟩)) (ac (af (i:=1) rfl rfl) ak rfl) df rfl) ak rfl) rfl) (aF (bh _ (dp hk rfl))) rfl) (aq (i:=3) rfl rfl) (λU=>rfl) (λU U=>rfl) (λU=>rfl)) (ah (av (aC (by decide +kernel) (bu w) (bt w) (ac (af (i:=0) rfl rfl) (ac (aC (by decide +kernel) (eY w) (.inr (.inl ⟨_,rfl⟩)) (ac (af (i:=1) rfl rfl) ak rfl) df rfl) ak rfl) rfl) (aF (bh _ (dp hk rfl))) rfl) (aq (i:=8) rfl rfl) (λU=>rfl) (λU U=>rfl) (λU=>rfl)) (ah (bj (aE .in_ (af (i:=4) rfl rfl) (aN (ac ap (ac ap ak rfl) rfl)) rfl) (ah (aZ (aN (ac (aG (n:=8) rfl) (ac (aO ak) (ac (aK (af (i:=1) rfl rfl) (af (i:=3) rfl rfl) (λU U=>rfl)) ak rfl) rfl) rfl))) ao) ao) (ah (bj (aE .in_ (af (i:=4) rfl rfl) (aN (ac ap (ac ap ak rfl) rfl)) rfl) (ah (aZ (aN (ac (aG (n:=9) rfl) (ac (aO (ac (af (i:=6) rfl rfl) ak rfl)) (ac (aN (ac (aK (af (i:=1) rfl rfl) (af (i:=3) rfl rfl) (λU U=>rfl)) (ac (aK (af (i:=1) rfl rfl) (af (i:=8) rfl rfl) (λU U=>rfl)) ak rfl) rfl)) ak rfl) rfl) rfl))) ao) ao) (ah (bj (aE .eq (af (i:=4) rfl rfl) ap rfl) (ah (av (aK (aN (ac ap (ac ap (ac (cR (d8 (by decide +kernel) (dU) rfl) ap) ak rfl) rfl) rfl)) (cx (bB (af (i:=3) rfl rfl) (af (i:=8) rfl rfl)) ap) (λU U=>rfl)) (aq (i:=5) rfl rfl) (λU=>rfl) (λU U=>rfl) (λU=>rfl)) (ah (aZ (aN (ac (aG (n:=10) rfl) (ac (aO (ac (af (i:=6) rfl rfl) ak rfl)) (ac (aN (ac (af (i:=5) rfl rfl) (ac (aO (ac (aK (af (i:=1) rfl rfl) (af (i:=3) rfl rfl) (λU U=>rfl)) (ac (aK (af (i:=1) rfl rfl) (af (i:=8) rfl rfl) (λU U=>rfl)) ak rfl) rfl)) (ac (aK (af (i:=1) rfl rfl) (cx (bB (bB (af (i:=3) rfl rfl) (kC ap (af (i:=8) rfl rfl))) ap) (aC (by decide +kernel) (eY w) (.inr (.inl ⟨_,rfl⟩)) (ac (af (i:=1) rfl rfl) ak rfl) df rfl)) (λU U=>rfl)) ak rfl) rfl) rfl)) ak rfl) rfl) rfl))) ao)) ao) (ah (aZ (aN (ac (aG (n:=11) rfl) (ac (aO (ac (af (i:=6) rfl rfl) ak rfl)) (ac ap ak rfl) rfl) rfl))) ao))))))))))
noncomputable def mq:Ctx:=⟨[("name",false)],[],false,false⟩
noncomputable def sG:Ctx:=⟨[("well",false),("many",false),("names",false),("at",false),("end",false),("given",false),("placed",false),("rows",false)],["_law_draw","_law_row","range"],false,true⟩
noncomputable def ls (hB:Heap):ST:=(aj (au (aW (ae (aI (ae (ai 0) (ae (az 4) am)) (aU hB)) (ae (aI (ae (ai 0) (ae (az 4) am)) (aU hB)) (ae (aI (ae (ai 0) (ae (az 4) am)) (aU hB)) (ae (bZ (az 1) (aI (ae (ai 0) (ae (az 3) am)) (aU hB))) am))))) (aw 5)) (aj (au (cE (bD (ai 2)) (aw 0) bG (aY (ae (aW am) (ae (aY (ae (aQ 11) (ae (aW (ae (aY (ae (aQ 0) (ae (az 2) am))) am)) (ae (az 0) am)))) am))) 1 []) (aw 6)) (aj (cv (eK (ae (ai 1) am)) (aw 3) (aj (au (aW (ae (aI (ae (aI (ae (ai 0) (ae (az 84) am)) (aU hB)) am) (f9 hB)) (ae (aY (ae (aQ 4) (ae (eI (az 1)) (ae (aW (ae (aY (ae (aQ 0) (ae (az 0) am))) (ae (aY (ae (aQ 1) (ae (ai 3) am))) am))) (ae (aQ 12) (ae (b6 false) am)))))) am))) (aw 7)) (aj (au (eIf (aM .eq (ai 3) (dj (ai 1) (az 1))) (aY (ae (aQ 11) (ae (aW (ae (aY (ae (aQ 0) (ae (az 2) am))) am)) (ae (az 0) am)))) (aY (ae (aQ 8) (ae (aW am) (ae (aP (ai 2) (bZ (ai 3) (az 1))) am))))) (aw 4)) (aj (sIf (cz (aM .lt (ai 3) (dj (ai 1) (az 2))) (cz (aM .eq (aI (ae (ai 0) (ae (az 3) am)) (aU hB)) (az 0)) bG)) (aj (au (aY (ae (aQ 9) (ae (aW (ae (aY (ae (aQ 0) (ae (aI (ae (ai 0) (ae (az 3) am)) (aU hB)) am))) am)) (ae (aY (ae (aP (ai 2) (bZ (ai 3) (az 1))) (ae (aP (ai 2) (dj (ai 1) (az 1))) am))) am)))) (aw 4)) ay) ay) (aj (au (aY (ae (ai 7) (ae (ai 4) am))) (eS (ai 6) (aP (ai 2) (ai 3)))) ay))))) (aj (bq (aY (ae (ai 6) (ae (ai 5) am)))) ay))))
noncomputable def eC (hB:Heap):FT:=ci 3 8 (ls hB)
private theorem rg (k:Nat) (hk:2≤k):SF w hB k 310 (eC hB):=by
 obtain ⟨k,rfl⟩:=ba hk
 refine aV (f:=310) (Γ:=sG) (n:=3) rfl rfl (by kernel_rfl!) rfl (by kernel_rfl!) (by decide +kernel) (by decide) (λvs h=>?_) rfl rfl ?_ (λU=>by kernel_rfl!) rfl rfl
 ·obtain ⟨a0,a1,a2,rfl⟩:=ty h
  kernel_rfl!
 ·exact (ah (av (aO (ac (aC (by decide +kernel) (bu w) (bt w) (ac (af (i:=0) rfl rfl) (ac ap ak rfl) rfl) (aF (bh _ (dp hk rfl))) rfl) (ac (aC (by decide +kernel) (bu w) (bt w) (ac (af (i:=0) rfl rfl) (ac ap ak rfl) rfl) (aF (bh _ (dp hk rfl))) rfl) (ac (aC (by decide +kernel) (bu w) (bt w) (ac (af (i:=0) rfl rfl) (ac ap ak rfl) rfl) (aF (bh _ (dp hk rfl))) rfl) (ac (bB ap (aC (by decide +kernel) (bu w) (bt w) (ac (af (i:=0) rfl rfl) (ac ap ak rfl) rfl) (aF (bh _ (dp hk rfl))) rfl)) ak rfl) rfl) rfl) rfl)) (aq (i:=5) rfl rfl) (λU=>rfl) (λU U=>rfl) (λU=>rfl)) (ah (bO (i:=6) rfl rfl rfl (Γc:=mq) (n:=1) (cap:=[]) (by kernel_rfl!) (bp (af (i:=2) rfl rfl) (λU U=>rfl)) (aq (i:=0) rfl rfl) cZ (aN (ac (aO ak) (ac (aN (ac (aG (n:=11) rfl) (ac (aO (ac (aN (ac (aG (n:=0) rfl) (ac ap ak rfl) rfl)) ak rfl)) (ac ap ak rfl) rfl) rfl)) ak rfl) rfl)) aR da) (ah (b9 (fP (dF (by decide +kernel) (eU w) (ac (af (i:=1) rfl rfl) ak rfl) rfl) (λU U=>rfl)) (aq (i:=3) rfl rfl) (ah (av (aO (ac (aC (by decide +kernel) (pF w) (pT w) (ac (aC (by decide +kernel) (bu w) (bt w) (ac (af (i:=0) rfl rfl) (ac ap ak rfl) rfl) (aF (bh _ (dp hk rfl))) rfl) ak rfl) (aF (ny _ (dp hk rfl))) rfl) (ac (aN (ac (aG (n:=4) rfl) (ac (c7 ap) (ac (aO (ac (aN (ac (aG (n:=0) rfl) (ac ap ak rfl) rfl)) (ac (aN (ac (aG (n:=1) rfl) (ac (af (i:=3) rfl rfl) ak rfl) rfl)) ak rfl) rfl)) (ac (aG (n:=12) rfl) (ac bz ak rfl) rfl) rfl) rfl) rfl)) ak rfl) rfl)) (aq (i:=7) rfl rfl) (λU=>rfl) (λU U=>rfl) (λU=>rfl)) (ah (av (fv (aE .eq (af (i:=3) rfl rfl) (cR (af (i:=1) rfl rfl) ap) rfl) (aN (ac (aG (n:=11) rfl) (ac (aO (ac (aN (ac (aG (n:=0) rfl) (ac ap ak rfl) rfl)) ak rfl)) (ac ap ak rfl) rfl) rfl)) (aN (ac (aG (n:=8) rfl) (ac (aO ak) (ac (aK (af (i:=2) rfl rfl) (bB (af (i:=3) rfl rfl) ap) (λU U=>rfl)) ak rfl) rfl) rfl))) (aq (i:=4) rfl rfl) (λU=>rfl) (λU U=>rfl) (λU=>rfl)) (ah (bj (bJ (aE .lt (af (i:=3) rfl rfl) (cR (af (i:=1) rfl rfl) ap) rfl) (bJ (aE .eq (aC (by decide +kernel) (bu w) (bt w) (ac (af (i:=0) rfl rfl) (ac ap ak rfl) rfl) (aF (bh _ (dp hk rfl))) rfl) ap rfl) bQ)) (ah (av (aN (ac (aG (n:=9) rfl) (ac (aO (ac (aN (ac (aG (n:=0) rfl) (ac (aC (by decide +kernel) (bu w) (bt w) (ac (af (i:=0) rfl rfl) (ac ap ak rfl) rfl) (aF (bh _ (dp hk rfl))) rfl) ak rfl) rfl)) ak rfl)) (ac (aN (ac (aK (af (i:=2) rfl rfl) (bB (af (i:=3) rfl rfl) ap) (λU U=>rfl)) (ac (aK (af (i:=2) rfl rfl) (cR (af (i:=1) rfl rfl) ap) (λU U=>rfl)) ak rfl) rfl)) ak rfl) rfl) rfl)) (aq (i:=4) rfl rfl) (λU=>rfl) (λU U=>rfl) (λU=>rfl)) ao) ao) (ah (av (aN (ac (af (i:=7) rfl rfl) (ac (af (i:=4) rfl rfl) ak rfl) rfl)) (dD (af (i:=6) rfl rfl) (aK (af (i:=2) rfl rfl) (af (i:=3) rfl rfl) (λU U=>rfl))) (λU=>rfl) (λU U=>rfl) (λU=>rfl)) ao)))) cL) (ah (aZ (aN (ac (af (i:=6) rfl rfl) (ac (af (i:=5) rfl rfl) ak rfl) rfl))) ao))))
noncomputable def k8:Ctx:=⟨[("at",false),("total",true),("turn",true),("way",true)],[],false,false⟩
noncomputable def kh:Ctx:=⟨[("name",false),("far",true)],[],false,false⟩
noncomputable def kr:Ctx:=⟨[("each",false),("well",true)],["_law_draw","_law_row"],false,false⟩
noncomputable def ku:Ctx:=⟨[("each",false),("names",true)],[],false,false⟩
noncomputable def n9:Ctx:=⟨[("well",true),("at",false),("end",false),("far",true),("given",false),("goal",false),("goals",false),("last",false),("many",false),("names",true),("near",false),("placed",false),("rounds",false),("rows",false),("total",true),("turn",true),("way",true)],["_law_chain","_law_draw","_law_end","list","range"],false,true⟩
noncomputable def iX (hB:Heap):ST:=(aj (au (bZ (az 3) (aI (ae (ai 0) (ae (az 3) am)) (aU hB))) (aw 8)) (aj (au (bZ (ai 8) (az 4)) (aw 14)) (aj (au (aP (aY (ae (az 1) (ae (dj (ai 14) (az 2)) am))) (aI (ae (ai 0) (ae (az 2) am)) (aU hB))) (aw 16)) (aj (au (aI (ae (ai 0) (ae (dj (ai 14) (az 1)) am)) (aU hB)) (aw 15)) (aj (sIf (aM .eq (dH (ai 15) (az 3)) (az 1)) (aj (bq (aI (ae (ai 0) (ae (ai 8) (ae (eIf (aM .eq (ai 16) (az 1)) (dq (ae (ai 8) am)) (bZ (aW (ae (az 0) am)) (dq (ae (dj (ai 8) (az 1)) (ae (az 0) (ae (eI (az 1)) am)))))) am))) (eC hB))) ay) ay) (aj (au (bZ (aW (ae (az 0) am)) (cE (eK (ae (dj (ai 14) (az 1)) am)) (aw 0) bG (bZ (az 1) (dH (bZ (mF (ai 0) (ai 3)) (ai 2)) (dj (ai 1) (az 1)))) 1 [14,15,16])) (aw 9)) (aj (au (aY (ae (aP (ai 9) (dj (ai 8) (az 1))) (ae (aP (ai 9) (bZ (ai 8) (az 2))) (ae (aP (ai 9) (bZ (ai 8) (az 3))) am)))) (cu [(aw 7),(aw 10),(aw 3)])) (aj (au (aW (ae (aY (ae (aQ 8) (ae (aW am) (ae (ai 10) am)))) (ae (aY (ae (aQ 9) (ae (aW (ae (aY (ae (aQ 1) (ae (az 1) am))) am)) (ae (aY (ae (ai 10) (ae (az 0) am))) am)))) (ae (aY (ae (aQ 10) (ae (aW (ae (aY (ae (aQ 0) (ae (az 1) am))) am)) (ae (aY (ae (az 0) (ae (aW (ae (ai 10) am)) (ae (ai 10) am)))) am)))) am)))) (aw 12)) (aj (au (cE (bD (ai 9)) (aw 0) bG (aY (ae (aW am) (ae (aY (ae (aQ 8) (ae (aW am) (ae (ai 1) am)))) am))) 1 [3]) (aw 11)) (aj (au (aY (ae (aW am) (ae (aP (ai 12) (aI (ae (ai 0) (ae (az 3) am)) (aU hB))) am))) (eS (ai 11) (ai 3))) (aj (cv (xf (aY (ae (ai 8) (ae (bZ (ai 8) (az 1)) am)))) (aw 1) (aj (au (aP (ai 9) (aI (ae (ai 0) (ae (dj (ai 8) (az 1)) am)) (aU hB))) (aw 5)) (aj (au (aY (ae (aW (ae (aY (ae (aQ 5) (ae (az 3) (ae (aW (ae (aY (ae (aQ 0) (ae (az 3) am))) (ae (aY (ae (aQ 1) (ae (az 1) am))) am))) (ae (az 0) (ae (b6 false) am)))))) am)) (ae (aY (ae (aQ 9) (ae (aW (ae (aY (ae (aQ 0) (ae (az 3) am))) am)) (ae (aY (ae (ai 5) (ae (ai 7) am))) am)))) am))) (eS (ai 11) (aP (ai 9) (ai 1)))) ay))) (aj (au (aW (ae (aI (ae (ai 0) (ae (az 4) am)) (aU hB)) (ae (aI (ae (ai 0) (ae (az 4) am)) (aU hB)) (ae (aI (ae (ai 0) (ae (az 4) am)) (aU hB)) (ae (bZ (az 1) (aI (ae (ai 0) (ae (az 3) am)) (aU hB))) am))))) (aw 4)) (aj (cv (eK (ae (ai 8) am)) (aw 1) (aj (au (cE (eK (ae (aI (ae (ai 0) (ae (az 3) am)) (aU hB)) am)) (aw 0) bG (aI (ae (aI (ae (ai 1) (ae (az 84) am)) (aU hB)) am) (f9 hB)) 1 [0]) (aw 13)) (aj (au (cE (eK (ae (bZ (ai 1) (az 1)) (ae (bZ (ai 8) (az 3)) am))) (aw 0) bG (aP (ai 1) (ai 0)) 1 [9]) (aw 6)) (aj (au (eIf (aM .eq (ai 1) (dj (ai 8) (az 1))) (aY (ae (aQ 11) (ae (aW (ae (aY (ae (aQ 0) (ae (az 2) am))) am)) (ae (az 0) am)))) (aI (ae (ai 0) (ae (ai 6) am)) (iw hB))) (aw 2)) (aj (au (aY (ae (ai 13) (ae (ai 2) am))) (eS (ai 11) (aP (ai 9) (ai 1)))) ay))))) (aj (bq (aY (ae (ai 11) (ae (ai 4) am)))) ay))))))))))))))
noncomputable def fK (hB:Heap):FT:=ci 1 17 (iX hB)
private theorem ml (k:Nat) (hk:3≤k):SF w hB k 315 (fK hB):=by
 obtain ⟨k,rfl⟩:=ba hk
 refine aV (f:=315) (Γ:=n9) (n:=1) rfl rfl (by kernel_rfl!) rfl (by kernel_rfl!) (by decide +kernel) (by decide) (λvs h=>?_) rfl rfl ?_ (λU=>by kernel_rfl!) rfl rfl
 ·obtain ⟨a0,rfl⟩:=fy h
  kernel_rfl!
 ·exact (ah (av (bB ap (aC (by decide +kernel) (bu w) (bt w) (ac (af (i:=0) rfl rfl) (ac ap ak rfl) rfl) (aF (bh _ (dp hk rfl))) rfl)) (aq (i:=8) rfl rfl) (λU=>rfl) (λU U=>rfl) (λU=>rfl)) (ah (av (bB (af (i:=8) rfl rfl) ap) (aq (i:=14) rfl rfl) (λU=>rfl) (λU U=>rfl) (λU=>rfl)) (ah (av (aK (aN (ac ap (ac (cR (af (i:=14) rfl rfl) ap) ak rfl) rfl)) (aC (by decide +kernel) (bu w) (bt w) (ac (af (i:=0) rfl rfl) (ac ap ak rfl) rfl) (aF (bh _ (dp hk rfl))) rfl) (λU U=>rfl)) (aq (i:=16) rfl rfl) (λU=>rfl) (λU U=>rfl) (λU=>rfl)) (ah (av (aC (by decide +kernel) (bu w) (bt w) (ac (af (i:=0) rfl rfl) (ac (cR (af (i:=14) rfl rfl) ap) ak rfl) rfl) (aF (bh _ (dp hk rfl))) rfl) (aq (i:=15) rfl rfl) (λU=>rfl) (λU U=>rfl) (λU=>rfl)) (ah (bj (aE .eq (cx (af (i:=15) rfl rfl) ap) ap rfl) (ah (aZ (aC (by decide +kernel) (rE w) (sh w) (ac (af (i:=0) rfl rfl) (ac (af (i:=8) rfl rfl) (ac (fv (aE .eq (af (i:=16) rfl rfl) ap rfl) (gl (by decide +kernel) (fz w) (dF (by decide +kernel) (eU w) (ac (af (i:=8) rfl rfl) ak rfl) rfl) rfl rfl) (bB (aO (ac ap ak rfl)) (gl (by decide +kernel) (fz w) (dF (by decide +kernel) (eU w) (ac (cR (af (i:=8) rfl rfl) ap) (ac ap (ac (c7 ap) ak rfl) rfl) rfl) rfl) rfl rfl))) ak rfl) rfl) rfl) (aF (rg _ (dp hk rfl))) rfl)) ao) ao) (ah (av (bB (aO (ac ap ak rfl)) (lU (Γc:=k8) (n:=1) (cap:=[14,15,16]) (by kernel_rfl!) (fP (dF (by decide +kernel) (eU w) (ac (cR (af (i:=14) rfl rfl) ap) ak rfl) rfl) (λU U=>rfl)) (aq (i:=0) rfl rfl) cZ (bB ap (cx (bB (kC (af (i:=0) rfl rfl) (af (i:=3) rfl rfl)) (af (i:=2) rfl rfl)) (cR (af (i:=1) rfl rfl) ap))) cL nv)) (aq (i:=9) rfl rfl) (λU=>rfl) (λU U=>rfl) (λU=>rfl)) (ah (av (aN (ac (aK (af (i:=9) rfl rfl) (cR (af (i:=8) rfl rfl) ap) (λU U=>rfl)) (ac (aK (af (i:=9) rfl rfl) (bB (af (i:=8) rfl rfl) ap) (λU U=>rfl)) (ac (aK (af (i:=9) rfl rfl) (bB (af (i:=8) rfl rfl) ap) (λU U=>rfl)) ak rfl) rfl) rfl)) (bI (aH (aq (i:=7) rfl rfl) (aH (aq (i:=10) rfl rfl) (aH (aq (i:=3) rfl rfl) bw (λU=>rfl)) (λU=>rfl)) (λU=>rfl))) (λU=>rfl) (λU E=>tE E (by decide +kernel)) (λU=>rfl)) (ah (av (aO (ac (aN (ac (aG (n:=8) rfl) (ac (aO ak) (ac (af (i:=10) rfl rfl) ak rfl) rfl) rfl)) (ac (aN (ac (aG (n:=9) rfl) (ac (aO (ac (aN (ac (aG (n:=1) rfl) (ac ap ak rfl) rfl)) ak rfl)) (ac (aN (ac (af (i:=10) rfl rfl) (ac ap ak rfl) rfl)) ak rfl) rfl) rfl)) (ac (aN (ac (aG (n:=10) rfl) (ac (aO (ac (aN (ac (aG (n:=0) rfl) (ac ap ak rfl) rfl)) ak rfl)) (ac (aN (ac ap (ac (aO (ac (af (i:=10) rfl rfl) ak rfl)) (ac (af (i:=10) rfl rfl) ak rfl) rfl) rfl)) ak rfl) rfl) rfl)) ak rfl) rfl) rfl)) (aq (i:=12) rfl rfl) (λU=>rfl) (λU U=>rfl) (λU=>rfl)) (ah (bO (i:=11) rfl rfl rfl (Γc:=kh) (n:=1) (cap:=[3]) (by kernel_rfl!) (bp (af (i:=9) rfl rfl) (λU U=>rfl)) (aq (i:=0) rfl rfl) cZ (aN (ac (aO ak) (ac (aN (ac (aG (n:=8) rfl) (ac (aO ak) (ac (af (i:=1) rfl rfl) ak rfl) rfl) rfl)) ak rfl) rfl)) aR da) (ah (av (aN (ac (aO ak) (ac (aK (af (i:=12) rfl rfl) (aC (by decide +kernel) (bu w) (bt w) (ac (af (i:=0) rfl rfl) (ac ap ak rfl) rfl) (aF (bh _ (dp hk rfl))) rfl) (λU U=>rfl)) ak rfl) rfl)) (dD (af (i:=11) rfl rfl) (af (i:=3) rfl rfl)) (λU=>rfl) (λU U=>rfl) (λU=>rfl)) (ah (b9 (vZ (aN (ac (af (i:=8) rfl rfl) (ac (bB (af (i:=8) rfl rfl) ap) ak rfl) rfl)) (λU U=>rfl)) (aq (i:=1) rfl rfl) (ah (av (aK (af (i:=9) rfl rfl) (aC (by decide +kernel) (bu w) (bt w) (ac (af (i:=0) rfl rfl) (ac (cR (af (i:=8) rfl rfl) ap) ak rfl) rfl) (aF (bh _ (dp hk rfl))) rfl) (λU U=>rfl)) (aq (i:=5) rfl rfl) (λU=>rfl) (λU U=>rfl) (λU=>rfl)) (ah (av (aN (ac (aO (ac (aN (ac (aG (n:=5) rfl) (ac ap (ac (aO (ac (aN (ac (aG (n:=0) rfl) (ac ap ak rfl) rfl)) (ac (aN (ac (aG (n:=1) rfl) (ac ap ak rfl) rfl)) ak rfl) rfl)) (ac ap (ac bz ak rfl) rfl) rfl) rfl) rfl)) ak rfl)) (ac (aN (ac (aG (n:=9) rfl) (ac (aO (ac (aN (ac (aG (n:=0) rfl) (ac ap ak rfl) rfl)) ak rfl)) (ac (aN (ac (af (i:=5) rfl rfl) (ac (af (i:=7) rfl rfl) ak rfl) rfl)) ak rfl) rfl) rfl)) ak rfl) rfl)) (dD (af (i:=11) rfl rfl) (aK (af (i:=9) rfl rfl) (af (i:=1) rfl rfl) (λU U=>rfl))) (λU=>rfl) (λU U=>rfl) (λU=>rfl)) ao)) lz) (ah (av (aO (ac (aC (by decide +kernel) (bu w) (bt w) (ac (af (i:=0) rfl rfl) (ac ap ak rfl) rfl) (aF (bh _ (dp hk rfl))) rfl) (ac (aC (by decide +kernel) (bu w) (bt w) (ac (af (i:=0) rfl rfl) (ac ap ak rfl) rfl) (aF (bh _ (dp hk rfl))) rfl) (ac (aC (by decide +kernel) (bu w) (bt w) (ac (af (i:=0) rfl rfl) (ac ap ak rfl) rfl) (aF (bh _ (dp hk rfl))) rfl) (ac (bB ap (aC (by decide +kernel) (bu w) (bt w) (ac (af (i:=0) rfl rfl) (ac ap ak rfl) rfl) (aF (bh _ (dp hk rfl))) rfl)) ak rfl) rfl) rfl) rfl)) (aq (i:=4) rfl rfl) (λU=>rfl) (λU U=>rfl) (λU=>rfl)) (ah (b9 (fP (dF (by decide +kernel) (eU w) (ac (af (i:=8) rfl rfl) ak rfl) rfl) (λU U=>rfl)) (aq (i:=1) rfl rfl) (ah (bO (i:=13) rfl rfl rfl (Γc:=kr) (n:=1) (cap:=[0]) (by kernel_rfl!) (fP (dF (by decide +kernel) (eU w) (ac (aC (by decide +kernel) (bu w) (bt w) (ac (af (i:=0) rfl rfl) (ac ap ak rfl) rfl) (aF (bh _ (dp hk rfl))) rfl) ak rfl) rfl) (λU U=>rfl)) (aq (i:=0) rfl rfl) cZ (aC (by decide +kernel) (pF w) (pT w) (ac (aC (by decide +kernel) (bu w) (bt w) (ac (af (i:=1) rfl rfl) (ac ap ak rfl) rfl) (aF (bh _ (dp hk rfl))) rfl) ak rfl) (aF (ny _ (dp hk rfl))) rfl) cL nv) (ah (bO (i:=6) rfl rfl rfl (Γc:=ku) (n:=1) (cap:=[9]) (by kernel_rfl!) (fP (dF (by decide +kernel) (eU w) (ac (bB (af (i:=1) rfl rfl) ap) (ac (bB (af (i:=8) rfl rfl) ap) ak rfl) rfl) rfl) (λU U=>rfl)) (aq (i:=0) rfl rfl) cZ (aK (af (i:=1) rfl rfl) (af (i:=0) rfl rfl) (λU U=>rfl)) cL nv) (ah (av (fv (aE .eq (af (i:=1) rfl rfl) (cR (af (i:=8) rfl rfl) ap) rfl) (aN (ac (aG (n:=11) rfl) (ac (aO (ac (aN (ac (aG (n:=0) rfl) (ac ap ak rfl) rfl)) ak rfl)) (ac ap ak rfl) rfl) rfl)) (aC (by decide +kernel) (vh w) (uH w) (ac (af (i:=0) rfl rfl) (ac (af (i:=6) rfl rfl) ak rfl) rfl) (aF (tP _ (dp hk rfl))) rfl)) (aq (i:=2) rfl rfl) (λU=>rfl) (λU U=>rfl) (λU=>rfl)) (ah (av (aN (ac (af (i:=13) rfl rfl) (ac (af (i:=2) rfl rfl) ak rfl) rfl)) (dD (af (i:=11) rfl rfl) (aK (af (i:=9) rfl rfl) (af (i:=1) rfl rfl) (λU U=>rfl))) (λU=>rfl) (λU U=>rfl) (λU=>rfl)) ao)))) cL) (ah (aZ (aN (ac (af (i:=11) rfl rfl) (ac (af (i:=4) rfl rfl) ak rfl) rfl))) ao))))))))))))))
end
end Mine
end
section
namespace Mine
section
variable {w:World} {hB:Heap}
noncomputable def tq:Ctx:=⟨[("placed",false),("args",false),("block",false),("drawn",false),("dst",false),("end",false),("free",false),("more",false),("new_step",false),("number",false),("op",false),("rows",false)],["Block","Func","Step","enumerate","list"],false,true⟩
noncomputable def nK (hB:Heap):ST:=(aj (au (aI (ae (aQ 13) am) (mB 2 (hU hB))) (aw 3)) (aj (au (aW (ae (az 0) (ae (az 1) (ae (az 2) (ae (az 3) am))))) (cn (ai 3) 10)) (aj (au (az 4) (cn (ai 3) 14)) (aj (au (b6 true) (cn (ai 3) 15)) (aj (cv (jX (ae (ai 0) am)) (cu [(aw 9),(cu [(aw 11),(aw 5)])]) (aj (au (aI (ae (ai 9) am) (mB 1 (gf hB))) (aw 2)) (aj (cv (bD (ai 11)) (cu [(aw 10),(aw 4),(aw 1),(aw 7),(aw 6)]) (aj (au (aI (ae (ai 10) (ae (ai 4) (ae (aI (ae (ai 1) am) jY) (ae (ai 7) am)))) (mB 0 (eB hB))) (aw 8)) (aj (au (ai 6) (cn (ai 8) 4)) (aj (bC (bW .list (aD (ai 2) 7) (ae (ai 8) am) b7)) ay)))) (aj (au (aI (ae (aP (ai 5) (az 0)) (ae (eI (az 1)) (ae (aI (ae (aP (ai 5) (az 1)) am) jY) (ae (aP (ai 5) (az 2)) am)))) (mB 0 (eB hB))) (cn (ai 2) 8)) (aj (bC (bW .list (aD (ai 3) 13) (ae (ai 2) am) b7)) ay))))) (aj (bq (ai 3)) ay))))))
noncomputable def gz (hB:Heap):FT:=ci 1 12 (nK hB)
private theorem k9 (k:Nat) (hk:3≤k):SF w hB k 322 (gz hB):=by
 obtain ⟨k,rfl⟩:=ba hk
 refine aV (f:=322) (Γ:=tq) (n:=1) rfl rfl (by kernel_rfl!) rfl (by kernel_rfl!) (by decide +kernel) (by decide) (λvs h=>?_) rfl rfl ?_ (λU=>by kernel_rfl!) rfl rfl
 ·obtain ⟨a0,rfl⟩:=fy h
  kernel_rfl!
 ·exact (ah (av (aC (by decide +kernel) (zb w) (y8 w) (ac (aG (n:=13) rfl) ak rfl) (f6 (c:=2) (f:=93) (by kernel_rfl!) (by kernel_rfl!) qn (dp hk rfl)) rfl) (aq (i:=3) rfl rfl) (λU=>rfl) (λU U=>rfl) (λU=>rfl)) (ah (av (aO (ac ap (ac ap (ac ap (ac ap ak rfl) rfl) rfl) rfl)) (bA (f:=10) (af (i:=3) rfl rfl) rfl) (λU=>rfl) (λU U=>rfl) (λU=>rfl)) (ah (av ap (bA (f:=14) (af (i:=3) rfl rfl) rfl) (λU=>rfl) (λU U=>rfl) (λU=>rfl)) (ah (av bz (bA (f:=15) (af (i:=3) rfl rfl) rfl) (λU=>rfl) (λU U=>rfl) (λU=>rfl)) (ah (b9 (gO (by decide +kernel) (cP w) (ac (af (i:=0) rfl rfl) ak rfl) rfl) (bI (aH (aq (i:=9) rfl rfl) (aH (bI (aH (aq (i:=11) rfl rfl) (aH (aq (i:=5) rfl rfl) bw (λU=>rfl)) (λU=>rfl))) bw (λU=>rfl)) (λU=>rfl))) (ah (av (aC (by decide +kernel) (xP w) (xT w) (ac (af (i:=9) rfl rfl) ak rfl) (f6 (c:=1) (f:=72) (by kernel_rfl!) (by kernel_rfl!) ot (dp hk rfl)) rfl) (aq (i:=2) rfl rfl) (λU=>rfl) (λU U=>rfl) (λU=>rfl)) (ah (b9 (bp (af (i:=11) rfl rfl) (λU U=>rfl)) (bI (aH (aq (i:=10) rfl rfl) (aH (aq (i:=4) rfl rfl) (aH (aq (i:=1) rfl rfl) (aH (aq (i:=7) rfl rfl) (aH (aq (i:=6) rfl rfl) bw (λU=>rfl)) (λU=>rfl)) (λU=>rfl)) (λU=>rfl)) (λU=>rfl))) (ah (av (aC (by decide +kernel) (tJ w) (th w) (ac (af (i:=10) rfl rfl) (ac (af (i:=4) rfl rfl) (ac (aC (by decide +kernel) (fz w) (.inl ⟨_,rfl⟩) (ac (af (i:=1) rfl rfl) ak rfl) gE rfl) (ac (af (i:=7) rfl rfl) ak rfl) rfl) rfl) rfl) (f6 (c:=0) (f:=51) (by kernel_rfl!) (by kernel_rfl!) gQ (dp hk rfl)) rfl) (aq (i:=8) rfl rfl) (λU=>rfl) (λU U=>rfl) (λU=>rfl)) (ah (av (af (i:=6) rfl rfl) (bA (f:=4) (af (i:=8) rfl rfl) rfl) (λU=>rfl) (λU U=>rfl) (λU=>rfl)) (ah (bY (bL (ax (f:=7) (af (i:=2) rfl rfl) rfl (λU=>rfl)) cr (ac (af (i:=8) rfl rfl) ak rfl) cB (λU=>rfl) rfl (of_decide_eq_true rfl)) (λU=>rfl)) ao))) dt) (ah (av (aC (by decide +kernel) (tJ w) (th w) (ac (aK (af (i:=5) rfl rfl) ap (λU U=>rfl)) (ac (c7 ap) (ac (aC (by decide +kernel) (fz w) (.inl ⟨_,rfl⟩) (ac (aK (af (i:=5) rfl rfl) ap (λU U=>rfl)) ak rfl) gE rfl) (ac (aK (af (i:=5) rfl rfl) ap (λU U=>rfl)) ak rfl) rfl) rfl) rfl) (f6 (c:=0) (f:=51) (by kernel_rfl!) (by kernel_rfl!) gQ (dp hk rfl)) rfl) (bA (f:=8) (af (i:=2) rfl rfl) rfl) (λU=>rfl) (λU U=>rfl) (λU=>rfl)) (ah (bY (bL (ax (f:=13) (af (i:=3) rfl rfl) rfl (λU=>rfl)) cr (ac (af (i:=2) rfl rfl) ak rfl) cB (λU=>rfl) rfl (of_decide_eq_true rfl)) (λU=>rfl)) ao)))) cQ) (ah (aZ (af (i:=3) rfl rfl)) ao))))))
noncomputable def oz:Ctx:=⟨[("each",false)],["list"],false,false⟩
noncomputable def tR:Ctx:=⟨[("func",false),("block",false),("placed",false),("rows",false)],["list"],false,true⟩
noncomputable def nI (hB:Heap):ST:=(aj (au (aW am) (aw 2)) (aj (cv (bD (aD (ai 0) 13)) (aw 1) (aj (au (cE (bD (aD (ai 1) 7)) (aw 0) bG (aY (ae (aD (ai 0) 0) (ae (aD (ai 0) 1) (ae (aI (ae (aD (ai 0) 2) am) jY) (ae (aD (ai 0) 3) (ae (aD (ai 0) 4) am)))))) 1 []) (aw 3)) (aj (bC (bW .list (ai 2) (ae (aY (ae (ai 3) (ae (aY (ae (aD (aD (ai 1) 8) 0) (ae (aI (ae (aD (aD (ai 1) 8) 2) am) jY) (ae (aD (aD (ai 1) 8) 3) am)))) am))) am) b7)) ay))) (aj (bq (ai 2)) ay)))
noncomputable def gP (hB:Heap):FT:=ci 1 4 (nI hB)
private theorem lr (k:Nat) (hk:1≤k):SF w hB k 327 (gP hB):=by
 obtain ⟨k,rfl⟩:=ba hk
 refine aV (f:=327) (Γ:=tR) (n:=1) rfl rfl (by kernel_rfl!) rfl (by kernel_rfl!) (by decide +kernel) (by decide) (λvs h=>?_) rfl rfl ?_ (λU=>by kernel_rfl!) rfl rfl
 ·obtain ⟨a0,rfl⟩:=fy h
  kernel_rfl!
 ·exact (ah (av (aO ak) (aq (i:=2) rfl rfl) (λU=>rfl) (λU U=>rfl) (λU=>rfl)) (ah (b9 (bp (ax (f:=13) (af (i:=0) rfl rfl) rfl (λU=>rfl)) (λU U=>rfl)) (aq (i:=1) rfl rfl) (ah (bO (i:=3) rfl rfl rfl (Γc:=oz) (n:=1) (cap:=[]) (by kernel_rfl!) (bp (ax (f:=7) (af (i:=1) rfl rfl) rfl (λU=>rfl)) (λU U=>rfl)) (aq (i:=0) rfl rfl) cZ (aN (ac (ax (f:=0) (af (i:=0) rfl rfl) rfl (λU=>rfl)) (ac (ax (f:=1) (af (i:=0) rfl rfl) rfl (λU=>rfl)) (ac (aC (by decide +kernel) (fz w) (.inl ⟨_,rfl⟩) (ac (ax (f:=2) (af (i:=0) rfl rfl) rfl (λU=>rfl)) ak rfl) gE rfl) (ac (ax (f:=3) (af (i:=0) rfl rfl) rfl (λU=>rfl)) (ac (ax (f:=4) (af (i:=0) rfl rfl) rfl (λU=>rfl)) ak rfl) rfl) rfl) rfl) rfl)) aR da) (ah (bY (bL (af (i:=2) rfl rfl) cr (ac (aN (ac (af (i:=3) rfl rfl) (ac (aN (ac (ax (f:=0) (ax (f:=8) (af (i:=1) rfl rfl) rfl (λU=>rfl)) rfl (λU=>rfl)) (ac (aC (by decide +kernel) (fz w) (.inl ⟨_,rfl⟩) (ac (ax (f:=2) (ax (f:=8) (af (i:=1) rfl rfl) rfl (λU=>rfl)) rfl (λU=>rfl)) ak rfl) gE rfl) (ac (ax (f:=3) (ax (f:=8) (af (i:=1) rfl rfl) rfl (λU=>rfl)) rfl (λU=>rfl)) ak rfl) rfl) rfl)) ak rfl) rfl)) ak rfl) cB (λU=>rfl) rfl (of_decide_eq_true rfl)) (λU=>rfl)) ao)) aR) (ah (aZ (af (i:=2) rfl rfl)) ao)))
noncomputable def qV:Ctx:=⟨[("args",false)],["_law_ALL","len"],false,true⟩
noncomputable def jD (hB:Heap):ST:=(aj (bq (dH (bZ (mF (aP (ai 0) (az 0)) (az 5)) (aI (ae (ai 0) am) gb)) (az 4294967296))) ay)
noncomputable def eO (hB:Heap):FT:=ci 1 1 (jD hB)
private theorem oh (k:Nat) (hk:1≤k):SF w hB k 334 (eO hB):=by
 obtain ⟨k,rfl⟩:=ba hk
 refine aV (f:=334) (Γ:=qV) (n:=1) rfl rfl (by kernel_rfl!) rfl (by kernel_rfl!) (by decide +kernel) (by decide) (λvs h=>?_) rfl rfl ?_ (λU=>by kernel_rfl!) rfl rfl
 ·obtain ⟨a0,rfl⟩:=fy h
  kernel_rfl!
 ·exact (ah (aZ (cx (bB (kC (aK (af (i:=0) rfl rfl) ap (λU U=>rfl)) ap) (aC (by decide +kernel) (eY w) (.inr (.inl ⟨_,rfl⟩)) (ac (af (i:=0) rfl rfl) ak rfl) df rfl)) (d8 (by decide +kernel) (dU) rfl))) ao)
noncomputable def ti:Ctx:=⟨[("end",false),("values",false),("args",false),("goal",false),("goals",false),("low",false),("more",false),("op",false),("other",false),("place",false),("value",false)],["_law_ALL","enumerate"],false,true⟩
noncomputable def dT (hB:Heap):ST:=(aj (au (ai 0) (cu [(aw 7),(aw 2),(aw 6)])) (aj (sIf (aM .eq (ai 7) (aQ 8)) (aj (bq (ai 6)) ay) ay) (aj (au (eIf (aM .eq (aP (aP (ai 2) (az 0)) (az 0)) (aQ 0)) (aP (ai 1) (aP (aP (ai 2) (az 0)) (az 1))) (aP (aP (ai 2) (az 0)) (az 1))) (aw 10)) (aj (sIf (aM .eq (ai 7) (aQ 9)) (aj (bq (eIf (aM .eq (ai 10) (az 0)) (aP (ai 6) (az 1)) (aP (ai 6) (az 0)))) ay) ay) (aj (au (ai 6) (cu [(aw 5),(aw 4),(aw 8)])) (aj (cv (jX (ae (ai 4) am)) (cu [(aw 9),(aw 3)]) (aj (sIf (aM .eq (dH (bZ (ai 5) (ai 9)) (az 4294967296)) (ai 10)) (aj (bq (ai 3)) ay) ay) ay)) (aj (bq (ai 8)) ay)))))))
noncomputable def jm (hB:Heap):FT:=ci 2 11 (dT hB)
private theorem sD (k:Nat) (hk:1≤k):SF w hB k 341 (jm hB):=by
 obtain ⟨k,rfl⟩:=ba hk
 refine aV (f:=341) (Γ:=ti) (n:=2) rfl rfl (by kernel_rfl!) rfl (by kernel_rfl!) (by decide +kernel) (by decide) (λvs h=>?_) rfl rfl ?_ (λU=>by kernel_rfl!) rfl rfl
 ·obtain ⟨a0,a1,rfl⟩:=hH h
  kernel_rfl!
 ·exact (ah (av (af (i:=0) rfl rfl) (bI (aH (aq (i:=7) rfl rfl) (aH (aq (i:=2) rfl rfl) (aH (aq (i:=6) rfl rfl) bw (λU=>rfl)) (λU=>rfl)) (λU=>rfl))) (λU=>rfl) (λU U=>rfl) (λU=>rfl)) (ah (bj (aE .eq (af (i:=7) rfl rfl) (aG (n:=8) rfl) rfl) (ah (aZ (af (i:=6) rfl rfl)) ao) ao) (ah (av (fv (aE .eq (aK (aK (af (i:=2) rfl rfl) ap (λU U=>rfl)) ap (λU U=>rfl)) (aG (n:=0) rfl) rfl) (aK (af (i:=1) rfl rfl) (aK (aK (af (i:=2) rfl rfl) ap (λU U=>rfl)) ap (λU U=>rfl)) (λU U=>rfl)) (aK (aK (af (i:=2) rfl rfl) ap (λU U=>rfl)) ap (λU U=>rfl))) (aq (i:=10) rfl rfl) (λU=>rfl) (λU U=>rfl) (λU=>rfl)) (ah (bj (aE .eq (af (i:=7) rfl rfl) (aG (n:=9) rfl) rfl) (ah (aZ (fv (aE .eq (af (i:=10) rfl rfl) ap rfl) (aK (af (i:=6) rfl rfl) ap (λU U=>rfl)) (aK (af (i:=6) rfl rfl) ap (λU U=>rfl)))) ao) ao) (ah (av (af (i:=6) rfl rfl) (bI (aH (aq (i:=5) rfl rfl) (aH (aq (i:=4) rfl rfl) (aH (aq (i:=8) rfl rfl) bw (λU=>rfl)) (λU=>rfl)) (λU=>rfl))) (λU=>rfl) (λU U=>rfl) (λU=>rfl)) (ah (b9 (gO (by decide +kernel) (cP w) (ac (af (i:=4) rfl rfl) ak rfl) rfl) (bI (aH (aq (i:=9) rfl rfl) (aH (aq (i:=3) rfl rfl) bw (λU=>rfl)) (λU=>rfl))) (ah (bj (aE .eq (cx (bB (af (i:=5) rfl rfl) (af (i:=9) rfl rfl)) (d8 (by decide +kernel) (dU) rfl)) (af (i:=10) rfl rfl) rfl) (ah (aZ (af (i:=3) rfl rfl)) ao) ao) ao) cQ) (ah (aZ (af (i:=8) rfl rfl)) ao)))))))
noncomputable def oX:Ctx:=⟨[("kind",false),("which",false),("values",true)],[],false,false⟩
noncomputable def tw:Ctx:=⟨[("placed",false),("given",false),("args",false),("at",false),("dst",false),("end",false),("free",false),("kept",false),("kind",false),("known",false),("more",false),("op",false),("rows",false),("seen",false),("touched",false),("value",false),("values",true),("visit",false),("which",false)],["_law_ALL","_law_answer","_law_next","list","range"],false,true⟩
noncomputable def nH (hB:Heap):ST:=(aj (au (aI (ae (ai 1) am) jY) (aw 16)) (aj (au (aW am) (aw 13)) (aj (au (aW am) (aw 14)) (aj (au (az 0) (aw 7)) (aj (au (az 0) (aw 3)) (aj (cv (eK (ae (az 40) am)) (aw 17) (aj (au (aP (ai 0) (ai 3)) (cu [(aw 12),(aw 5)])) (aj (cv (bD (ai 12)) (cu [(aw 11),(aw 4),(aw 2),(aw 10),(aw 6)]) (aj (au (cE (bD (ai 2)) (cu [(aw 0),(aw 1)]) bG (eIf (aM .eq (ai 0) (aQ 0)) (aP (ai 2) (ai 1)) (ai 1)) 2 [16]) (aw 9)) (aj (au (aP (ai 9) (az 0)) (aw 15)) (aj (sIf (aM .eq (ai 11) (aQ 4)) (aj (bC (bW .list (ai 13) (ae (ai 9) am) b7)) (aj (au (aI (ae (ai 9) am) (eO hB)) (aw 15)) ay)) (aj (sIf (aM .eq (ai 11) (aQ 5)) (aj (au (dH (dj (bZ (aP (ai 9) (az 0)) (az 4294967296)) (aP (ai 9) (az 1))) (az 4294967296)) (aw 15)) ay) (aj (sIf (aM .eq (ai 11) (aQ 6)) (aj (au (aP (ai 9) (az 1)) (aw 7)) ay) (aj (sIf (aM .eq (ai 11) (aQ 7)) (aj (au (ai 7) (aw 15)) ay) ay) ay)) ay)) ay)) (aj (sIf (eX (ai 6)) (aj (bC (bW .list (ai 14) (ae (aY (ae (ai 11) (ae (ai 9) (ae (ai 10) (ae (ai 7) am))))) am) b7)) ay) ay) (aj (sIf (aM .ge (ai 4) (az 0)) (aj (au (ai 15) (eS (ai 16) (ai 4))) ay) ay) ay)))))) (aj (sIf (aM .eq (aP (ai 5) (az 0)) (aQ 11)) (aj (au (aP (aP (ai 5) (az 1)) (az 0)) (cu [(aw 8),(aw 18)])) (aj (bq (aY (ae (aQ 14) (ae (eIf (aM .eq (ai 8) (aQ 0)) (aP (ai 16) (ai 18)) (ai 18)) (ae (ai 13) (ae (ai 14) am)))))) ay)) ay) (aj (au (aI (ae (ai 5) (ae (ai 16) am)) (jm hB)) (aw 3)) ay))))) (aj (bq (aY (ae (aQ 15) (ae (az 0) (ae (ai 13) (ae (ai 14) am)))))) ay)))))))
noncomputable def gF (hB:Heap):FT:=ci 2 19 (nH hB)
private theorem lu (k:Nat) (hk:2≤k):SF w hB k 346 (gF hB):=by
 obtain ⟨k,rfl⟩:=ba hk
 refine aV (f:=346) (Γ:=tw) (n:=2) rfl rfl (by kernel_rfl!) rfl (by kernel_rfl!) (by decide +kernel) (by decide) (λvs h=>?_) rfl rfl ?_ (λU=>by kernel_rfl!) rfl rfl
 ·obtain ⟨a0,a1,rfl⟩:=hH h
  kernel_rfl!
 ·exact (ah (av (aC (by decide +kernel) (fz w) (.inl ⟨_,rfl⟩) (ac (af (i:=1) rfl rfl) ak rfl) gE rfl) (aq (i:=16) rfl rfl) (λU=>rfl) (λU U=>rfl) (λU=>rfl)) (ah (av (aO ak) (aq (i:=13) rfl rfl) (λU=>rfl) (λU U=>rfl) (λU=>rfl)) (ah (av (aO ak) (aq (i:=14) rfl rfl) (λU=>rfl) (λU U=>rfl) (λU=>rfl)) (ah (av ap (aq (i:=7) rfl rfl) (λU=>rfl) (λU U=>rfl) (λU=>rfl)) (ah (av ap (aq (i:=3) rfl rfl) (λU=>rfl) (λU U=>rfl) (λU=>rfl)) (ah (b9 (fP (dF (by decide +kernel) (eU w) (ac ap ak rfl) rfl) (λU U=>rfl)) (aq (i:=17) rfl rfl) (ah (av (aK (af (i:=0) rfl rfl) (af (i:=3) rfl rfl) (λU U=>rfl)) (bI (aH (aq (i:=12) rfl rfl) (aH (aq (i:=5) rfl rfl) bw (λU=>rfl)) (λU=>rfl))) (λU=>rfl) (λU U=>rfl) (λU=>rfl)) (ah (b9 (bp (af (i:=12) rfl rfl) (λU U=>rfl)) (bI (aH (aq (i:=11) rfl rfl) (aH (aq (i:=4) rfl rfl) (aH (aq (i:=2) rfl rfl) (aH (aq (i:=10) rfl rfl) (aH (aq (i:=6) rfl rfl) bw (λU=>rfl)) (λU=>rfl)) (λU=>rfl)) (λU=>rfl)) (λU=>rfl))) (ah (bO (i:=9) rfl rfl rfl (Γc:=oX) (n:=2) (cap:=[16]) (by kernel_rfl!) (bp (af (i:=2) rfl rfl) (λU U=>rfl)) (bI (aH (aq (i:=0) rfl rfl) (aH (aq (i:=1) rfl rfl) bw (λU=>rfl)) (λU=>rfl))) cZ (fv (aE .eq (af (i:=0) rfl rfl) (aG (n:=0) rfl) rfl) (aK (af (i:=2) rfl rfl) (af (i:=1) rfl rfl) (λU U=>rfl)) (af (i:=1) rfl rfl)) dt da) (ah (av (aK (af (i:=9) rfl rfl) ap (λU U=>rfl)) (aq (i:=15) rfl rfl) (λU=>rfl) (λU U=>rfl) (λU=>rfl)) (ah (bj (aE .eq (af (i:=11) rfl rfl) (aG (n:=4) rfl) rfl) (ah (bY (bL (af (i:=13) rfl rfl) cr (ac (af (i:=9) rfl rfl) ak rfl) cB (λU=>rfl) rfl (of_decide_eq_true rfl)) (λU=>rfl)) (ah (av (aC (by decide +kernel) (pY w) (rl w) (ac (af (i:=9) rfl rfl) ak rfl) (aF (oh _ (dp hk rfl))) rfl) (aq (i:=15) rfl rfl) (λU=>rfl) (λU U=>rfl) (λU=>rfl)) ao)) (ah (bj (aE .eq (af (i:=11) rfl rfl) (aG (n:=5) rfl) rfl) (ah (av (cx (cR (bB (aK (af (i:=9) rfl rfl) ap (λU U=>rfl)) (d8 (by decide +kernel) (dU) rfl)) (aK (af (i:=9) rfl rfl) ap (λU U=>rfl))) (d8 (by decide +kernel) (dU) rfl)) (aq (i:=15) rfl rfl) (λU=>rfl) (λU U=>rfl) (λU=>rfl)) ao) (ah (bj (aE .eq (af (i:=11) rfl rfl) (aG (n:=6) rfl) rfl) (ah (av (aK (af (i:=9) rfl rfl) ap (λU U=>rfl)) (aq (i:=7) rfl rfl) (λU=>rfl) (λU U=>rfl) (λU=>rfl)) ao) (ah (bj (aE .eq (af (i:=11) rfl rfl) (aG (n:=7) rfl) rfl) (ah (av (af (i:=7) rfl rfl) (aq (i:=15) rfl rfl) (λU=>rfl) (λU U=>rfl) (λU=>rfl)) ao) ao) ao)) ao)) ao)) (ah (bj (dk (af (i:=6) rfl rfl) (λU U=>rfl)) (ah (bY (bL (af (i:=14) rfl rfl) cr (ac (aN (ac (af (i:=11) rfl rfl) (ac (af (i:=9) rfl rfl) (ac (af (i:=10) rfl rfl) (ac (af (i:=7) rfl rfl) ak rfl) rfl) rfl) rfl)) ak rfl) cB (λU=>rfl) rfl (of_decide_eq_true rfl)) (λU=>rfl)) ao) ao) (ah (bj (aE .ge (af (i:=4) rfl rfl) ap rfl) (ah (av (af (i:=15) rfl rfl) (dD (af (i:=16) rfl rfl) (af (i:=4) rfl rfl)) (λU=>rfl) (λU U=>rfl) (λU=>rfl)) ao) ao) ao))))) dt) (ah (bj (aE .eq (aK (af (i:=5) rfl rfl) ap (λU U=>rfl)) (aG (n:=11) rfl) rfl) (ah (av (aK (aK (af (i:=5) rfl rfl) ap (λU U=>rfl)) ap (λU U=>rfl)) (bI (aH (aq (i:=8) rfl rfl) (aH (aq (i:=18) rfl rfl) bw (λU=>rfl)) (λU=>rfl))) (λU=>rfl) (λU U=>rfl) (λU=>rfl)) (ah (aZ (aN (ac (aG (n:=14) rfl) (ac (fv (aE .eq (af (i:=8) rfl rfl) (aG (n:=0) rfl) rfl) (aK (af (i:=16) rfl rfl) (af (i:=18) rfl rfl) (λU U=>rfl)) (af (i:=18) rfl rfl)) (ac (af (i:=13) rfl rfl) (ac (af (i:=14) rfl rfl) ak rfl) rfl) rfl) rfl))) ao)) ao) (ah (av (aC (by decide +kernel) (tK w) (sW w) (ac (af (i:=5) rfl rfl) (ac (af (i:=16) rfl rfl) ak rfl) rfl) (aF (sD _ (dp hk rfl))) rfl) (aq (i:=3) rfl rfl) (λU=>rfl) (λU U=>rfl) (λU=>rfl)) ao)))) cL) (ah (aZ (aN (ac (aG (n:=15) rfl) (ac ap (ac (af (i:=13) rfl rfl) (ac (af (i:=14) rfl rfl) ak rfl) rfl) rfl) rfl))) ao)))))))
noncomputable def sM:Ctx:=⟨[("end",false),("args",false),("more",false),("op",false)],["list"],false,true⟩
noncomputable def eE (hB:Heap):ST:=(aj (au (ai 0) (cu [(aw 3),(aw 1),(aw 2)])) (aj (sIf (aM .eq (ai 3) (aQ 8)) (aj (bq (aW (ae (ai 2) am))) ay) ay) (aj (sIf (aM .eq (ai 3) (aQ 9)) (aj (bq (aW (ae (aP (ai 2) (az 0)) (ae (aP (ai 2) (az 1)) am)))) ay) ay) (aj (bq (eIf (aM .eq (ai 3) (aQ 10)) (bZ (aI (ae (aP (ai 2) (az 1)) am) jY) (aW (ae (aP (ai 2) (az 2)) am))) (aW am))) ay))))
noncomputable def cD (hB:Heap):FT:=ci 1 4 (eE hB)
private theorem gu (k:Nat) (hk:1≤k):SF w hB k 353 (cD hB):=by
 obtain ⟨k,rfl⟩:=ba hk
 refine aV (f:=353) (Γ:=sM) (n:=1) rfl rfl (by kernel_rfl!) rfl (by kernel_rfl!) (by decide +kernel) (by decide) (λvs h=>?_) rfl rfl ?_ (λU=>by kernel_rfl!) rfl rfl
 ·obtain ⟨a0,rfl⟩:=fy h
  kernel_rfl!
 ·exact (ah (av (af (i:=0) rfl rfl) (bI (aH (aq (i:=3) rfl rfl) (aH (aq (i:=1) rfl rfl) (aH (aq (i:=2) rfl rfl) bw (λU=>rfl)) (λU=>rfl)) (λU=>rfl))) (λU=>rfl) (λU U=>rfl) (λU=>rfl)) (ah (bj (aE .eq (af (i:=3) rfl rfl) (aG (n:=8) rfl) rfl) (ah (aZ (aO (ac (af (i:=2) rfl rfl) ak rfl))) ao) ao) (ah (bj (aE .eq (af (i:=3) rfl rfl) (aG (n:=9) rfl) rfl) (ah (aZ (aO (ac (aK (af (i:=2) rfl rfl) ap (λU U=>rfl)) (ac (aK (af (i:=2) rfl rfl) ap (λU U=>rfl)) ak rfl) rfl))) ao) ao) (ah (aZ (fv (aE .eq (af (i:=3) rfl rfl) (aG (n:=10) rfl) rfl) (bB (aC (by decide +kernel) (fz w) (.inl ⟨_,rfl⟩) (ac (aK (af (i:=2) rfl rfl) ap (λU U=>rfl)) ak rfl) gE rfl) (aO (ac (aK (af (i:=2) rfl rfl) ap (λU U=>rfl)) ak rfl))) (aO ak))) ao))))
end
end Mine
end
section
namespace Mine
section
variable {w:World} {hB:Heap}
noncomputable def iE:Ctx:=⟨[("args",false),("dst",false),("free",false),("more",false),("op",false),("which",true)],[],false,false⟩
noncomputable def kE:Ctx:=⟨[("rows",false),("end",false),("args",false),("goals",false),("kind",false),("op",false),("sets",false),("which",true)],["_law_goals","max","min"],false,true⟩
noncomputable def fV (hB:Heap):ST:=(aj (au (aI (ae (ai 1) am) (cD hB)) (aw 3)) (aj (sIf (aM .eq (aI (ae (ai 3) am) (so (·≤·))) (aI (ae (ai 3) am) (so (λa b=>b≤a)))) (aj (bq (b6 true)) ay) ay) (aj (au (aP (aP (ai 1) (az 1)) (az 0)) (cu [(aw 4),(aw 7)])) (aj (au (cE (bD (ai 0)) (cu [(aw 4),(aw 1),(aw 0),(aw 3),(aw 2)]) (aM .eq (ai 1) (ai 5)) (aY (ae (ai 4) (ae (ai 0) am))) 5 [7]) (aw 6)) (aj (sIf (bOr (aM .eq (ai 4) (aQ 1)) (bOr (aM .eq (ai 6) (aW am)) ck)) (aj (bq (kI .eq (ai 4) (aQ 1))) ay) ay) (aj (au (aP (ai 6) (eI (az 1))) (cu [(aw 5),(aw 2)])) (aj (bq (xh (kI .in_ (ai 5) (aY (ae (aQ 2) (ae (aQ 3) am)))) (kI .eq (aP (aP (ai 2) (az 0)) (az 0)) (aQ 1)))) ay)))))))
noncomputable def cW (hB:Heap):FT:=ci 2 8 (fV hB)
private theorem jv (k:Nat) (hk:2≤k):SF w hB k 358 (cW hB):=by
 obtain ⟨k,rfl⟩:=ba hk
 refine aV (f:=358) (Γ:=kE) (n:=2) rfl rfl (by kernel_rfl!) rfl (by kernel_rfl!) (by decide +kernel) (by decide) (λvs h=>?_) rfl rfl ?_ (λU=>by kernel_rfl!) rfl rfl
 ·obtain ⟨a0,a1,rfl⟩:=hH h
  kernel_rfl!
 ·exact (ah (av (aC (by decide +kernel) (ib w) (ik w) (ac (af (i:=1) rfl rfl) ak rfl) (aF (gu _ (dp hk rfl))) rfl) (aq (i:=3) rfl rfl) (λU=>rfl) (λU U=>rfl) (λU=>rfl)) (ah (bj (aE .eq (aC (by decide +kernel) (z4 w) (.inr (.inl ⟨_,rfl⟩)) (ac (af (i:=3) rfl rfl) ak rfl) zv rfl) (aC (by decide +kernel) (zX w) (.inr (.inl ⟨_,rfl⟩)) (ac (af (i:=3) rfl rfl) ak rfl) zh rfl) rfl) (ah (aZ bz) ao) ao) (ah (av (aK (aK (af (i:=1) rfl rfl) ap (λU U=>rfl)) ap (λU U=>rfl)) (bI (aH (aq (i:=4) rfl rfl) (aH (aq (i:=7) rfl rfl) bw (λU=>rfl)) (λU=>rfl))) (λU=>rfl) (λU U=>rfl) (λU=>rfl)) (ah (bO (i:=6) rfl rfl rfl (Γc:=iE) (n:=5) (cap:=[7]) (by kernel_rfl!) (bp (af (i:=0) rfl rfl) (λU U=>rfl)) (bI (aH (aq (i:=4) rfl rfl) (aH (aq (i:=1) rfl rfl) (aH (aq (i:=0) rfl rfl) (aH (aq (i:=3) rfl rfl) (aH (aq (i:=2) rfl rfl) bw (λU=>rfl)) (λU=>rfl)) (λU=>rfl)) (λU=>rfl)) (λU=>rfl))) (ue (aE .eq (af (i:=1) rfl rfl) (af (i:=5) rfl rfl) rfl)) (aN (ac (af (i:=4) rfl rfl) (ac (af (i:=0) rfl rfl) ak rfl) rfl)) dt da) (ah (bj (b5 (aE .eq (af (i:=4) rfl rfl) (aG (n:=1) rfl) rfl) (b5 (aE .eq (af (i:=6) rfl rfl) (aO ak) rfl) bS)) (ah (aZ (fH .eq (af (i:=4) rfl rfl) (aG (n:=1) rfl) rfl)) ao) ao) (ah (av (aK (af (i:=6) rfl rfl) (c7 ap) (λU U=>rfl)) (bI (aH (aq (i:=5) rfl rfl) (aH (aq (i:=2) rfl rfl) bw (λU=>rfl)) (λU=>rfl))) (λU=>rfl) (λU U=>rfl) (λU=>rfl)) (ah (aZ (tL (fH .in_ (af (i:=5) rfl rfl) (aN (ac (aG (n:=2) rfl) (ac (aG (n:=3) rfl) ak rfl) rfl)) rfl) (vS (fH .eq (aK (aK (af (i:=2) rfl rfl) ap (λU U=>rfl)) ap (λU U=>rfl)) (aG (n:=1) rfl) rfl)))) ao)))))))
noncomputable def hJ:Ctx:=⟨[("block",false)],[],false,false⟩
noncomputable def jw:Ctx:=⟨[("placed",false),("at",false),("end",false),("goal",false),("many",false),("named",false),("reached",false),("rows",false),("waiting",false)],["_law_goals","_law_is_settled","enumerate","len","list","range","sorted"],false,true⟩
noncomputable def fu (hB:Heap):ST:=(aj (au (aI (ae (ai 0) am) gb) (aw 4)) (aj (au (cE (bD (ai 0)) (aw 0) bG (az 0) 1 []) (aw 5)) (aj (au (aW (ae (az 0) am)) (aw 8)) (aj (au (aW (ae (az 0) am)) (aw 6)) (aj (gD (eX (ai 8)) (aj (cv (bD (aI (ae (aP (aP (ai 0) (iq .list (ai 8) rO)) (az 1)) am) (cD hB))) (aw 3) (aj (au (bZ (aP (ai 5) (ai 3)) (az 1)) (eS (ai 5) (ai 3))) (aj (sIf (aM .notIn (ai 3) (ai 6)) (aj (bC (bW .list (ai 6) (ae (ai 3) am) b7)) (aj (bC (bW .list (ai 8) (ae (ai 3) am) b7)) ay)) ay) ay))) ay)) (aj (sIf (aM .ne (aI (ae (ai 6) am) gK) (dq (ae (ai 4) am))) (aj (bq (b6 false)) ay) ay) (aj (cv (jX (ae (ai 0) am)) (cu [(aw 1),(cu [(aw 7),(aw 2)])]) (aj (sIf (cz (aM .in_ (aP (ai 2) (az 0)) (aY (ae (aQ 9) (ae (aQ 10) am)))) (cz (eX (aI (ae (ai 7) (ae (ai 2) am)) (cW hB))) bG)) (aj (bq (b6 false)) ay) ay) (aj (sIf (cz (aM .eq (aP (ai 2) (az 0)) (aQ 8)) (cz (aM .notIn (aP (ai 2) (az 2)) (aY (ae (az 0) (ae (ai 1) am)))) (cz (aM .eq (aP (ai 5) (aP (ai 2) (az 2))) (az 1)) bG))) (aj (bq (b6 false)) ay) ay) (aj (cv (bD (aI (ae (ai 2) am) (cD hB))) (aw 3) (aj (sIf (cz (aM .eq (aP (aP (ai 0) (ai 3)) (az 0)) (aW am)) (cz (aM .eq (aP (aP (aP (ai 0) (ai 3)) (az 1)) (az 0)) (aQ 8)) (cz (aM .ne (aP (aP (aP (ai 0) (ai 3)) (az 1)) (az 2)) (ai 3)) bG))) (aj (bq (b6 false)) ay) ay) ay)) ay)))) (aj (bq (b6 true)) ay))))))))
noncomputable def dM (hB:Heap):FT:=ci 1 9 (fu hB)
private theorem jj (k:Nat) (hk:3≤k):SF w hB k 363 (dM hB):=by
 obtain ⟨k,rfl⟩:=ba hk
 refine aV (f:=363) (Γ:=jw) (n:=1) rfl rfl (by kernel_rfl!) rfl (by kernel_rfl!) (by decide +kernel) (by decide) (λvs h=>?_) rfl rfl ?_ (λU=>by kernel_rfl!) rfl rfl
 ·obtain ⟨a0,rfl⟩:=fy h
  kernel_rfl!
 ·exact (ah (av (aC (by decide +kernel) (eY w) (.inr (.inl ⟨_,rfl⟩)) (ac (af (i:=0) rfl rfl) ak rfl) df rfl) (aq (i:=4) rfl rfl) (λU=>rfl) (λU U=>rfl) (λU=>rfl)) (ah (bO (i:=5) rfl rfl rfl (Γc:=hJ) (n:=1) (cap:=[]) (by kernel_rfl!) (bp (af (i:=0) rfl rfl) (λU U=>rfl)) (aq (i:=0) rfl rfl) cZ ap aR da) (ah (av (aO (ac ap ak rfl)) (aq (i:=8) rfl rfl) (λU=>rfl) (λU U=>rfl) (λU=>rfl)) (ah (av (aO (ac ap ak rfl)) (aq (i:=6) rfl rfl) (λU=>rfl) (λU U=>rfl) (λU=>rfl)) (ah (iA (dk (af (i:=8) rfl rfl) (λU U=>rfl)) (ah (b9 (bp (aC (by decide +kernel) (ib w) (ik w) (ac (aK (aK (af (i:=0) rfl rfl) (m9 (af (i:=8) rfl rfl) qR tQ (λU=>rfl) rfl) (λU U=>rfl)) ap (λU U=>rfl)) ak rfl) (aF (gu _ (dp hk rfl))) rfl) (λU U=>rfl)) (aq (i:=3) rfl rfl) (ah (av (bB (aK (af (i:=5) rfl rfl) (af (i:=3) rfl rfl) (λU U=>rfl)) ap) (dD (af (i:=5) rfl rfl) (af (i:=3) rfl rfl)) (λU=>rfl) (λU U=>rfl) (λU=>rfl)) (ah (bj (aE .notIn (af (i:=3) rfl rfl) (af (i:=6) rfl rfl) rfl) (ah (bY (bL (af (i:=6) rfl rfl) cr (ac (af (i:=3) rfl rfl) ak rfl) cB (λU=>rfl) rfl (of_decide_eq_true rfl)) (λU=>rfl)) (ah (bY (bL (af (i:=8) rfl rfl) cr (ac (af (i:=3) rfl rfl) ak rfl) cB (λU=>rfl) rfl (of_decide_eq_true rfl)) (λU=>rfl)) ao)) ao) ao)) aR) ao)) (ah (bj (aE .ne (aC (by decide +kernel) (mP w) (.inr (.inl ⟨_,rfl⟩)) (ac (af (i:=6) rfl rfl) ak rfl) ke rfl) (gl (by decide +kernel) (fz w) (dF (by decide +kernel) (eU w) (ac (af (i:=4) rfl rfl) ak rfl) rfl) rfl rfl) rfl) (ah (aZ bz) ao) ao) (ah (b9 (gO (by decide +kernel) (cP w) (ac (af (i:=0) rfl rfl) ak rfl) rfl) (bI (aH (aq (i:=1) rfl rfl) (aH (bI (aH (aq (i:=7) rfl rfl) (aH (aq (i:=2) rfl rfl) bw (λU=>rfl)) (λU=>rfl))) bw (λU=>rfl)) (λU=>rfl))) (ah (bj (bJ (aE .in_ (aK (af (i:=2) rfl rfl) ap (λU U=>rfl)) (aN (ac (aG (n:=9) rfl) (ac (aG (n:=10) rfl) ak rfl) rfl)) rfl) (bJ (dk (aC (by decide +kernel) (kg w) (j7 w) (ac (af (i:=7) rfl rfl) (ac (af (i:=2) rfl rfl) ak rfl) rfl) (aF (jv _ (dp hk rfl))) rfl) (λU U=>rfl)) bQ)) (ah (aZ bz) ao) ao) (ah (bj (bJ (aE .eq (aK (af (i:=2) rfl rfl) ap (λU U=>rfl)) (aG (n:=8) rfl) rfl) (bJ (aE .notIn (aK (af (i:=2) rfl rfl) ap (λU U=>rfl)) (aN (ac ap (ac (af (i:=1) rfl rfl) ak rfl) rfl)) rfl) (bJ (aE .eq (aK (af (i:=5) rfl rfl) (aK (af (i:=2) rfl rfl) ap (λU U=>rfl)) (λU U=>rfl)) ap rfl) bQ))) (ah (aZ bz) ao) ao) (ah (b9 (bp (aC (by decide +kernel) (ib w) (ik w) (ac (af (i:=2) rfl rfl) ak rfl) (aF (gu _ (dp hk rfl))) rfl) (λU U=>rfl)) (aq (i:=3) rfl rfl) (ah (bj (bJ (aE .eq (aK (aK (af (i:=0) rfl rfl) (af (i:=3) rfl rfl) (λU U=>rfl)) ap (λU U=>rfl)) (aO ak) rfl) (bJ (aE .eq (aK (aK (aK (af (i:=0) rfl rfl) (af (i:=3) rfl rfl) (λU U=>rfl)) ap (λU U=>rfl)) ap (λU U=>rfl)) (aG (n:=8) rfl) rfl) (bJ (aE .ne (aK (aK (aK (af (i:=0) rfl rfl) (af (i:=3) rfl rfl) (λU U=>rfl)) ap (λU U=>rfl)) ap (λU U=>rfl)) (af (i:=3) rfl rfl) rfl) bQ))) (ah (aZ bz) ao) ao) ao) aR) ao))) cQ) (ah (aZ bz) ao))))))))
noncomputable def Ac:Ctx:=⟨[("script",false),("args",false),("changed",false),("func",false),("given",false),("left",false),("placed",false),("plain",false)],["_law_ALL","_law_is_straight","_law_made","_law_program","_law_read","_law_walk","_law_well","bool","check_func","isinstance","straighten"],false,true⟩
noncomputable def yA (hB:Heap):ST:=(aj (au (aI (ae (aI (ae (ai 0) am) (iZ hB)) am) (fK hB)) (cu [(aw 6),(aw 4)])) (aj (au (aI (ae (ai 6) am) (gz hB)) (aw 7)) (aj (au (aI (ae (ai 6) am) (gz hB)) (aw 3)) (aj (zG (aj (bC (aI (ae (ai 7) am) (eT hB))) (aj (au (aI (ae (ai 3) am) (eQ hB)) (aw 2)) (aj (bC (aI (ae (ai 3) am) (eT hB))) ay))) ay) (aj (au (aI (ae (ai 3) am) (gP hB)) (aw 5)) (aj (sIf (bOr (fS (eX (qY (ai 2)))) (bOr (aM .ne (ai 2) (kI .ne (ai 5) (ai 6))) ck)) (aj (bq (b6 false)) ay) ay) (aj (sIf (aM .ne (aY (ae (aD (ai 3) 9) (ae (aD (ai 3) 10) (ae (aD (ai 3) 14) (ae (aD (ai 3) 12) (ae (aD (ai 3) 15) am)))))) (aY (ae (aQ 13) (ae (aW (ae (az 0) (ae (az 1) (ae (az 2) (ae (az 3) am))))) (ae (az 4) (ae (aW am) (ae (b6 true) am))))))) (aj (bq (b6 false)) ay) ay) (aj (sIf (bOr (fS (eX (aI (ae (ai 5) am) (dM hB)))) (bOr (eX (aI (ae (ai 3) am) (eQ hB))) (bOr (aM .ne (aI (ae (ai 3) am) (gP hB)) (ai 5)) ck))) (aj (bq (b6 false)) ay) ay) (aj (cv (xf (aY (ae (ai 4) (ae (aW (ae (dj (dj (az 4294967296) (az 1)) (aP (ai 4) (az 1))) (ae (aP (ai 4) (az 2)) (ae (bZ (aP (ai 4) (az 0)) (az 1)) (ae (az 2) am))))) am)))) (aw 1) (aj (sIf (aM .ne (aI (ae (ai 5) (ae (ai 1) am)) (gF hB)) (aI (ae (ai 6) (ae (ai 1) am)) (gF hB))) (aj (bq (b6 false)) ay) ay) ay)) (aj (bq (b6 true)) ay))))))))))
noncomputable def yT (hB:Heap):FT:=ci 1 8 (yA hB)
private theorem zn (k:Nat) (hk:8≤k):SF w hB k 370 (yT hB):=by
 obtain ⟨k,rfl⟩:=ba hk
 refine aV (f:=370) (Γ:=Ac) (n:=1) rfl rfl (by kernel_rfl!) rfl (by kernel_rfl!) (by decide +kernel) (by decide) (λvs h=>?_) rfl rfl ?_ (λU=>by kernel_rfl!) rfl rfl
 ·obtain ⟨a0,rfl⟩:=fy h
  kernel_rfl!
 ·exact (ah (av (aC (by decide +kernel) (nW w) (oM w) (ac (aC (by decide +kernel) (tA w) (tV w) (ac (af (i:=0) rfl rfl) ak rfl) (aF (rG _ (dp hk rfl))) rfl) ak rfl) (aF (ml _ (dp hk rfl))) rfl) (bI (aH (aq (i:=6) rfl rfl) (aH (aq (i:=4) rfl rfl) bw (λU=>rfl)) (λU=>rfl))) (λU=>rfl) (λU U=>rfl) (λU=>rfl)) (ah (av (aC (by decide +kernel) (nu w) (mx w) (ac (af (i:=6) rfl rfl) ak rfl) (aF (k9 _ (dp hk rfl))) rfl) (aq (i:=7) rfl rfl) (λU=>rfl) (λU U=>rfl) (λU=>rfl)) (ah (av (aC (by decide +kernel) (nu w) (mx w) (ac (af (i:=6) rfl rfl) ak rfl) (aF (k9 _ (dp hk rfl))) rfl) (aq (i:=3) rfl rfl) (λU=>rfl) (λU U=>rfl) (λU=>rfl)) (ah (Ag (ah (bY (aC (by decide +kernel) (jR w) (j3 w) (ac (af (i:=7) rfl rfl) ak rfl) (aF (iU _ (dp hk rfl))) rfl) (λU=>rfl)) (ah (av (aC (by decide +kernel) (jF w) (jB w) (ac (af (i:=3) rfl rfl) ak rfl) (aF (iO _ (dp hk rfl))) rfl) (aq (i:=2) rfl rfl) (λU=>rfl) (λU U=>rfl) (λU=>rfl)) (ah (bY (aC (by decide +kernel) (jR w) (j3 w) (ac (af (i:=3) rfl rfl) ak rfl) (aF (iU _ (dp hk rfl))) rfl) (λU=>rfl)) ao))) ao) (ah (av (aC (by decide +kernel) (mX w) (mL w) (ac (af (i:=3) rfl rfl) ak rfl) (aF (lr _ (dp hk rfl))) rfl) (aq (i:=5) rfl rfl) (λU=>rfl) (λU U=>rfl) (λU=>rfl)) (ah (bj (b5 (eJ (dk (vi (by decide +kernel) (by decide +kernel) (rn w) (zf w) (af (i:=2) rfl rfl) rfl rfl rfl) (λU U=>rfl))) (b5 (aE .ne (af (i:=2) rfl rfl) (fH .ne (af (i:=5) rfl rfl) (af (i:=6) rfl rfl) rfl) rfl) bS)) (ah (aZ bz) ao) ao) (ah (bj (aE .ne (aN (ac (ax (f:=9) (af (i:=3) rfl rfl) rfl (λU=>rfl)) (ac (ax (f:=10) (af (i:=3) rfl rfl) rfl (λU=>rfl)) (ac (ax (f:=14) (af (i:=3) rfl rfl) rfl (λU=>rfl)) (ac (ax (f:=12) (af (i:=3) rfl rfl) rfl (λU=>rfl)) (ac (ax (f:=15) (af (i:=3) rfl rfl) rfl (λU=>rfl)) ak rfl) rfl) rfl) rfl) rfl)) (aN (ac (aG (n:=13) rfl) (ac (aO (ac ap (ac ap (ac ap (ac ap ak rfl) rfl) rfl) rfl)) (ac ap (ac (aO ak) (ac bz ak rfl) rfl) rfl) rfl) rfl)) rfl) (ah (aZ bz) ao) ao) (ah (bj (b5 (eJ (dk (aC (by decide +kernel) (jo w) (jW w) (ac (af (i:=5) rfl rfl) ak rfl) (aF (jj _ (dp hk rfl))) rfl) (λU U=>rfl))) (b5 (dk (aC (by decide +kernel) (jF w) (jB w) (ac (af (i:=3) rfl rfl) ak rfl) (aF (iO _ (dp hk rfl))) rfl) (λU U=>rfl)) (b5 (aE .ne (aC (by decide +kernel) (mX w) (mL w) (ac (af (i:=3) rfl rfl) ak rfl) (aF (lr _ (dp hk rfl))) rfl) (af (i:=5) rfl rfl) rfl) bS))) (ah (aZ bz) ao) ao) (ah (b9 (vZ (aN (ac (af (i:=4) rfl rfl) (ac (aO (ac (cR (cR (d8 (by decide +kernel) (dU) rfl) ap) (aK (af (i:=4) rfl rfl) ap (λU U=>rfl))) (ac (aK (af (i:=4) rfl rfl) ap (λU U=>rfl)) (ac (bB (aK (af (i:=4) rfl rfl) ap (λU U=>rfl)) ap) (ac ap ak rfl) rfl) rfl) rfl)) ak rfl) rfl)) (λU U=>rfl)) (aq (i:=1) rfl rfl) (ah (bj (aE .ne (aC (by decide +kernel) (nB w) (np w) (ac (af (i:=5) rfl rfl) (ac (af (i:=1) rfl rfl) ak rfl) rfl) (aF (lu _ (dp hk rfl))) rfl) (aC (by decide +kernel) (nB w) (np w) (ac (af (i:=6) rfl rfl) (ac (af (i:=1) rfl rfl) ak rfl) rfl) (aF (lu _ (dp hk rfl))) rfl) rfl) (ah (aZ bz) ao) ao) ao) lz) (ah (aZ bz) ao))))))))))
end
end Mine
end
section
namespace Mine
section
variable {H X:MH} {i n:Nat} {o p:MObj}
private theorem app (h:H[i]? = some o) (X:MH):(H++X)[i]? = some o:=by
 rw [List.getElem?_append_left (List.getElem?_eq_some_iff.mp h).1];exact h
private theorem c6 {p q:Prop} (h:p):(p∧q) = q:=propext ⟨λh=>h.2,λq=>⟨h,q⟩⟩
@[simp] private theorem hl0:(H++X)[H.length]? = X[0]?:=by
 rw [List.getElem?_append_right (Nat.le_refl _),Nat.sub_self]
@[simp 10005] private theorem hl1:(H++X)[H.length + n]? = X[n]?:=by
 rw [List.getElem?_append_right (Nat.le_add_right _ _),Nat.add_sub_cancel_left]
@[simp] private theorem hs0:(H++X).set H.length o = H++X.set 0 o:=by
 rw [List.set_append_right _ _ (Nat.le_refl _),Nat.sub_self]
@[simp 10005] private theorem hs1:(H++X).set (H.length + n) o = H++X.set n o:=by
 rw [List.set_append_right _ _ (Nat.le_add_right _ _),Nat.add_sub_cancel_left]
@[simp 10005] private theorem cO:(H++p :: X)[H.length]? = some p:=hl0
@[simp 10005] private theorem hs00:(H++p :: X).set H.length o = H++o :: X:=hs0
@[simp 10010] private theorem hG {p1:MObj}:(H++p :: p1 :: X)[H.length + 1]? = some p1:=hl1
@[simp 10010] private theorem hs11 {p1:MObj}:(H++p :: p1 :: X).set (H.length + 1) o = H++p :: o :: X:=hs1
@[simp 10010] private theorem uZ {p1 p2:MObj}:(H++p :: p1 :: p2 :: X)[H.length + 2]? = some p2:=hl1
@[simp 10010] private theorem hs22 {p1 p2:MObj}:(H++p :: p1 :: p2 :: X).set (H.length + 2) o = H++p :: p1 :: o :: X:=hs1
private theorem bv (h:H[i]? = some o):i < H.length:=(List.getElem?_eq_some_iff.mp h).1
private theorem aJ (h:H[i]? = some o) (ne:n≠i):(H.set n p)[i]? = some o:=by rw [List.getElem?_set_ne ne];exact h
private theorem eV (h:H[i]? = some o):(H.set i p)[i]? = some p:=List.getElem?_set_self (bv h)
end
noncomputable abbrev QV:=MV→MH→Prop
noncomputable abbrev QL:=List MV→MH→Prop
noncomputable abbrev QB:=Bool→MH→Prop
noncomputable abbrev QS:=Fl→Loc→MH→Prop
noncomputable abbrev QA:=Loc→MH→Prop
noncomputable abbrev Th:=Unit→Prop
section
variable {L:Loc} {H:MH} {i f n:Nat} {x y:Int} {b c:Bool} {v u:MV} {vs l l':List MV}
@[simp] private theorem th2_run {α β:Type} {f:α→β→Prop} {x:α} {y:β}:th2 f x y () = f x y:=rfl
@[simp] private theorem th3_run {α β γ:Type} {f:α→β→γ→Prop} {x:α} {y:β} {z:γ}:th3 f x y z () = f x y z:=rfl
@[simp] private theorem ifV_true {p q:Th}:ifV true p q = p ():=rfl
@[simp] private theorem ifV_false {p q:Th}:ifV false p q = q ():=rfl
private theorem aL {p q:Th} (h1:c = true→p ()) (h2:c = false→q ()):ifV c p q:=by
 cases c
 ·exact h2 rfl
 ·exact h1 rfl
@[simp] private theorem optB_some {p q:Th}:sF (some c) p q = ifV c p q:=rfl
@[simp] private theorem oV_some {r:MV} {Q:QV}:oV (some r) Q H = Q r H:=rfl
@[simp] private theorem oB_some {r:Bool} {Q:QB}:oB (some r) Q H = Q r H:=rfl
noncomputable def vV (o:Option (Option MV)) (Q:QV) (H:MH):Prop:=match o with | some (some v)=>Q v H | _=>False
@[simp] private theorem vV_some {r:MV} {Q:QV}:vV (some (some r)) Q H = Q r H:=rfl
@[simp] private theorem lstV_some {K:List MV→Prop}:dO (some (.list l)) K = K l:=rfl
@[simp] private theorem s_int {Q:QV}:az x L H Q = Q (.int x) H:=rfl
@[simp] private theorem s_sym {Q:QV}:aQ n L H Q = Q (.sym n) H:=rfl
@[simp] private theorem s_bool {Q:QV}:b6 b L H Q = Q (.bool b) H:=rfl
@[simp] private theorem s_none {Q:QV}:gY L H Q = Q .none H:=rfl
@[simp] private theorem s_tab {Q:QV}:vG n L H Q = Q (.tab n) H:=rfl
@[simp] private theorem s_dict0 {Q:QV}:kO L H Q = Q (.ref H.length) (H++[.dict []]):=rfl
@[simp] private theorem s_var0 {r:Loc} {Q:QV}:ai 0 (some v :: r) H Q = Q v H:=rfl
@[simp] private theorem s_var1 {a0:Option MV} {r:Loc} {Q:QV}:ai 1 (a0 :: some v :: r) H Q = Q v H:=rfl
@[simp] private theorem s_var2 {a0 a1:Option MV} {r:Loc} {Q:QV}:ai 2 (a0 :: a1 :: some v :: r) H Q = Q v H:=rfl
@[simp] private theorem s_var3 {a0 a1 a2:Option MV} {r:Loc} {Q:QV}:ai 3 (a0 :: a1 :: a2 :: some v :: r) H Q = Q v H:=rfl
@[simp] private theorem s_var4 {a0 a1 a2 a3:Option MV} {r:Loc} {Q:QV}:ai 4 (a0 :: a1 :: a2 :: a3 :: some v :: r) H Q = Q v H:=rfl
@[simp] private theorem s_var5 {a0 a1 a2 a3 a4:Option MV} {r:Loc} {Q:QV}:ai 5 (a0 :: a1 :: a2 :: a3 :: a4 :: some v :: r) H Q = Q v H:=rfl
@[simp] private theorem s_var6 {a0 a1 a2 a3 a4 a5:Option MV} {r:Loc} {Q:QV}:ai 6 (a0 :: a1 :: a2 :: a3 :: a4 :: a5 :: some v :: r) H Q = Q v H:=rfl
@[simp] private theorem s_var7 {a0 a1 a2 a3 a4 a5 a6:Option MV} {r:Loc} {Q:QV}:ai 7 (a0 :: a1 :: a2 :: a3 :: a4 :: a5 :: a6 :: some v :: r) H Q = Q v H:=rfl
@[simp] private theorem s_var8 {a0 a1 a2 a3 a4 a5 a6 a7:Option MV} {r:Loc} {Q:QV}:ai 8 (a0 :: a1 :: a2 :: a3 :: a4 :: a5 :: a6 :: a7 :: some v :: r) H Q = Q v H:=rfl
@[simp] private theorem s_var9 {a0 a1 a2 a3 a4 a5 a6 a7 a8:Option MV} {r:Loc} {Q:QV}:ai 9 (a0 :: a1 :: a2 :: a3 :: a4 :: a5 :: a6 :: a7 :: a8 :: some v :: r) H Q = Q v H:=rfl
@[simp] private theorem s_var10 {a0 a1 a2 a3 a4 a5 a6 a7 a8 a9:Option MV} {r:Loc} {Q:QV}:ai 10 (a0 :: a1 :: a2 :: a3 :: a4 :: a5 :: a6 :: a7 :: a8 :: a9 :: some v :: r) H Q = Q v H:=rfl
@[simp] private theorem s_var11 {a0 a1 a2 a3 a4 a5 a6 a7 a8 a9 a10:Option MV} {r:Loc} {Q:QV}:ai 11 (a0 :: a1 :: a2 :: a3 :: a4 :: a5 :: a6 :: a7 :: a8 :: a9 :: a10 :: some v :: r) H Q = Q v H:=rfl
@[simp] private theorem s_var12 {a0 a1 a2 a3 a4 a5 a6 a7 a8 a9 a10 a11:Option MV} {r:Loc} {Q:QV}:ai 12 (a0 :: a1 :: a2 :: a3 :: a4 :: a5 :: a6 :: a7 :: a8 :: a9 :: a10 :: a11 :: some v :: r) H Q = Q v H:=rfl
@[simp] private theorem s_var13 {a0 a1 a2 a3 a4 a5 a6 a7 a8 a9 a10 a11 a12:Option MV} {r:Loc} {Q:QV}:ai 13 (a0 :: a1 :: a2 :: a3 :: a4 :: a5 :: a6 :: a7 :: a8 :: a9 :: a10 :: a11 :: a12 :: some v :: r) H Q = Q v H:=rfl
@[simp] private theorem s_var14 {a0 a1 a2 a3 a4 a5 a6 a7 a8 a9 a10 a11 a12 a13:Option MV} {r:Loc} {Q:QV}:ai 14 (a0 :: a1 :: a2 :: a3 :: a4 :: a5 :: a6 :: a7 :: a8 :: a9 :: a10 :: a11 :: a12 :: a13 :: some v :: r) H Q = Q v H:=rfl
@[simp] private theorem s_var15 {a0 a1 a2 a3 a4 a5 a6 a7 a8 a9 a10 a11 a12 a13 a14:Option MV} {r:Loc} {Q:QV}:ai 15 (a0 :: a1 :: a2 :: a3 :: a4 :: a5 :: a6 :: a7 :: a8 :: a9 :: a10 :: a11 :: a12 :: a13 :: a14 :: some v :: r) H Q = Q v H:=rfl
@[simp] private theorem s_var16 {a0 a1 a2 a3 a4 a5 a6 a7 a8 a9 a10 a11 a12 a13 a14 a15:Option MV} {r:Loc} {Q:QV}:ai 16 (a0 :: a1 :: a2 :: a3 :: a4 :: a5 :: a6 :: a7 :: a8 :: a9 :: a10 :: a11 :: a12 :: a13 :: a14 :: a15 :: some v :: r) H Q = Q v H:=rfl
@[simp] private theorem s_var17 {a0 a1 a2 a3 a4 a5 a6 a7 a8 a9 a10 a11 a12 a13 a14 a15 a16:Option MV} {r:Loc} {Q:QV}:ai 17 (a0 :: a1 :: a2 :: a3 :: a4 :: a5 :: a6 :: a7 :: a8 :: a9 :: a10 :: a11 :: a12 :: a13 :: a14 :: a15 :: a16 :: some v :: r) H Q = Q v H:=rfl
@[simp] private theorem s_var18 {a0 a1 a2 a3 a4 a5 a6 a7 a8 a9 a10 a11 a12 a13 a14 a15 a16 a17:Option MV} {r:Loc} {Q:QV}:ai 18 (a0 :: a1 :: a2 :: a3 :: a4 :: a5 :: a6 :: a7 :: a8 :: a9 :: a10 :: a11 :: a12 :: a13 :: a14 :: a15 :: a16 :: a17 :: some v :: r) H Q = Q v H:=rfl
noncomputable def yJ (f:Nat) (Q:QV):QV:=λv H'=>oV (md H' v f) Q H'
@[simp] private theorem s_attr {e:ET} {Q:QV}:aD e f L H Q = e L H (yJ f Q):=rfl
@[simp] private theorem k_attr {Q:QV}:yJ f Q v H = oV (md H v f) Q H:=rfl
@[simp] private theorem atO_inst {c:Nat} {fs:List (Nat×MV)}:atO (some (.inst c fs)) f = fs.lookup f:=rfl
@[simp] private theorem s_attrOf:md H (.ref i) f = atO H[i]? f:=rfl
@[simp] private theorem s_nil {Q:QL}:am L H Q = Q [] H:=rfl
noncomputable def zO (Q:QL):QV:=λv H'=>Q [v] H'
@[simp] private theorem s_one {e:ET} {Q:QL}:ae e am L H Q = e L H (zO Q):=rfl
@[simp] private theorem k_one {Q:QL}:zO Q v H = Q [v] H:=rfl
noncomputable def y5 (e:ET) (L:Loc) (Q:QL):QV:=λv H'=>e L H' λu H''=>Q [v,u] H''
noncomputable def yQ (v:MV) (Q:QL):QV:=λu H'=>Q [v,u] H'
@[simp] private theorem s_two {e e':ET} {Q:QL}:ae e (ae e' am) L H Q = e L H (y5 e' L Q):=rfl
@[simp] private theorem k_two1 {e:ET} {Q:QL}:y5 e L Q v H = e L H (yQ v Q):=rfl
@[simp] private theorem k_two2 {Q:QL}:yQ v Q u H = Q [v,u] H:=rfl
noncomputable def yx (e e':ET) (L:Loc) (Q:QL):QV:=λv H'=>e L H' λu H''=>e' L H'' λt H3=>Q [v,u,t] H3
noncomputable def yM (e':ET) (v:MV) (L:Loc) (Q:QL):QV:=λu H''=>e' L H'' λt H3=>Q [v,u,t] H3
noncomputable def yX (v u:MV) (Q:QL):QV:=λt H'=>Q [v,u,t] H'
@[simp] private theorem s_thr {e e' e'':ET} {Q:QL}:ae e (ae e' (ae e'' am)) L H Q = e L H (yx e' e'' L Q):=rfl
@[simp] private theorem k_thr1 {e e':ET} {Q:QL}:yx e e' L Q v H = e L H (yM e' v L Q):=rfl
@[simp] private theorem k_thr2 {e:ET} {Q:QL}:yM e v L Q u H = e L H (yX v u Q):=rfl
@[simp] private theorem k_thr3 {t:MV} {Q:QL}:yX v u Q t H = Q [v,u,t] H:=rfl
noncomputable def xb (es:EsT) (L:Loc) (Q:QL):QV:=λv H'=>es L H' λvs H''=>Q (v :: vs) H''
noncomputable def wH (v:MV) (Q:QL):QL:=λvs H''=>Q (v :: vs) H''
@[simp] private theorem s_four {e e' e'' e3:ET} {es:EsT} {Q:QL}:ae e (ae e' (ae e'' (ae e3 es))) L H Q = e L H (xb (ae e' (ae e'' (ae e3 es))) L Q):=rfl
@[simp] private theorem k_cons1 {es:EsT} {Q:QL}:xb es L Q v H = es L H (wH v Q):=rfl
@[simp] private theorem k_cons2 {Q:QL}:wH v Q vs H = Q (v :: vs) H:=rfl
noncomputable def mS (Q:QV):QL:=λvs H'=>vs.length≤1000∧Q (.tup vs) H'
@[simp] private theorem s_tup {es:EsT} {Q:QV}:aY es L H Q = es L H (mS Q):=rfl
@[simp] private theorem k_tup {Q:QV}:mS Q vs H = (vs.length≤1000∧Q (.tup vs) H):=rfl
@[simp high] private theorem k_tup1 {a:MV} {Q:QV}:mS Q [a] H = Q (.tup [a]) H:=c6 (Nat.le_of_ble_eq_true rfl)
@[simp high] private theorem k_tup2 {a b:MV} {Q:QV}:mS Q [a,b] H = Q (.tup [a,b]) H:=c6 (Nat.le_of_ble_eq_true rfl)
@[simp high] private theorem k_tup3 {a b c:MV} {Q:QV}:mS Q [a,b,c] H = Q (.tup [a,b,c]) H:=c6 (Nat.le_of_ble_eq_true rfl)
@[simp high] private theorem k_tup4 {a b c d:MV} {Q:QV}:mS Q [a,b,c,d] H = Q (.tup [a,b,c,d]) H:=c6 (Nat.le_of_ble_eq_true rfl)
@[simp high] private theorem k_tup5 {a b c d e:MV} {Q:QV}:mS Q [a,b,c,d,e] H = Q (.tup [a,b,c,d,e]) H:=c6 (Nat.le_of_ble_eq_true rfl)
noncomputable def jb (Q:QV):QL:=λvs H'=>vs.length≤1000000∧Q (.ref H'.length) (H'++[.list vs])
@[simp] private theorem s_list {es:EsT} {Q:QV}:aW es L H Q = es L H (jb Q):=rfl
@[simp] private theorem k_list {Q:QV}:jb Q vs H = (vs.length≤1000000∧Q (.ref H.length) (H++[.list vs])):=rfl
@[simp high] private theorem k_list0 {Q:QV}:jb Q [] H = Q (.ref H.length) (H++[.list []]):=c6 (Nat.le_of_ble_eq_true rfl)
@[simp high] private theorem k_list1 {a:MV} {Q:QV}:jb Q [a] H = Q (.ref H.length) (H++[.list [a]]):=c6 (Nat.le_of_ble_eq_true rfl)
@[simp high] private theorem k_list2 {a b:MV} {Q:QV}:jb Q [a,b] H = Q (.ref H.length) (H++[.list [a,b]]):=c6 (Nat.le_of_ble_eq_true rfl)
@[simp high] private theorem k_list3 {a b c:MV} {Q:QV}:jb Q [a,b,c] H = Q (.ref H.length) (H++[.list [a,b,c]]):=c6 (Nat.le_of_ble_eq_true rfl)
@[simp high] private theorem k_list4 {a b c d:MV} {Q:QV}:jb Q [a,b,c,d] H = Q (.ref H.length) (H++[.list [a,b,c,d]]):=c6 (Nat.le_of_ble_eq_true rfl)
noncomputable def y7 (ie:ET) (L:Loc) (Q:QV):QV:=λv H'=>ie L H' λu H''=>oV (cy H'' v u) Q H''
noncomputable def yD (v:MV) (Q:QV):QV:=λu H''=>oV (cy H'' v u) Q H''
@[simp] private theorem s_idx {e ie:ET} {Q:QV}:aP e ie L H Q = e L H (y7 ie L Q):=rfl
@[simp] private theorem k_idx1 {ie:ET} {Q:QV}:y7 ie L Q v H = ie L H (yD v Q):=rfl
@[simp] private theorem k_idx2 {Q:QV}:yD v Q u H = oV (cy H v u) Q H:=rfl
@[simp] private theorem vF:itO (some (.list l)) x = (ce x l.length).bind λj=>l[j]?:=rfl
@[simp] private theorem wr {d:List (Int×Int)}:itO (some (.dict d)) x = (d.lookup x).map .int:=rfl
@[simp] private theorem uy:cy H (.tup l) (.int x) = (ce x l.length).bind λj=>l[j]?:=rfl
@[simp] private theorem s_itemR {a:Nat}:cy H (.ref a) (.int x) = itO H[a]? x:=rfl
private theorem ff {k:Nat} (h:k < n):ce (k:Int) n = some k:=by unfold ce;rw [if_pos (by exact Int.natCast_nonneg _),if_pos (by exact Int.ofNat_lt.mpr ‹_›)];simp
@[simp] private theorem Aj:ce 0 (n + 1) = some 0:=ff (k:=0) (by exact Nat.le_add_left _ _)
@[simp] private theorem zP:ce 1 (n + 1 + 1) = some 1:=ff (k:=1) (by exact Nat.le_add_left _ _)
@[simp] private theorem Ab:ce 2 (n + 1 + 1 + 1) = some 2:=ff (k:=2) (by exact Nat.le_add_left _ _)
@[simp] private theorem xQ:ce (-1) (n + 1) = some n:=by unfold ce;rw [if_neg (by omega),if_pos (by omega)];rw [Int.natCast_add,Int.add_comm,Int.natCast_one,Int.add_neg_cancel_right];rfl
@[simp high] private theorem it_0_2 {a0 a1:MV}:cy H (.tup [a0,a1]) (.int 0) = some a0:=rfl
@[simp high] private theorem it_0_3 {a0 a1 a2:MV}:cy H (.tup [a0,a1,a2]) (.int 0) = some a0:=rfl
@[simp high] private theorem it_0_5 {a0 a1 a2 a3 a4:MV}:cy H (.tup [a0,a1,a2,a3,a4]) (.int 0) = some a0:=rfl
@[simp high] private theorem zD {a0 a1:MV}:cy H (.tup [a0,a1]) (.int 1) = some a1:=rfl
@[simp high] private theorem it_1_3 {a0 a1 a2:MV}:cy H (.tup [a0,a1,a2]) (.int 1) = some a1:=rfl
@[simp high] private theorem it_1_5 {a0 a1 a2 a3 a4:MV}:cy H (.tup [a0,a1,a2,a3,a4]) (.int 1) = some a1:=rfl
@[simp high] private theorem it_2_3 {a0 a1 a2:MV}:cy H (.tup [a0,a1,a2]) (.int 2) = some a2:=rfl
@[simp high] private theorem it_2_5 {a0 a1 a2 a3 a4:MV}:cy H (.tup [a0,a1,a2,a3,a4]) (.int 2) = some a2:=rfl
@[simp high] private theorem it_3_5 {a0 a1 a2 a3 a4:MV}:cy H (.tup [a0,a1,a2,a3,a4]) (.int 3) = some a3:=rfl
@[simp high] private theorem it_4_5 {a0 a1 a2 a3 a4:MV}:cy H (.tup [a0,a1,a2,a3,a4]) (.int 4) = some a4:=rfl
@[simp high] private theorem itL_0 {a0:MV} {r:List MV}:itO (some (.list (a0 :: r))) 0 = some a0:=by
 show (ce 0 (r.length + 1)).bind _ = _
 rw [Aj];rfl
@[simp high] private theorem itL_1 {a0 a1:MV} {r:List MV}:itO (some (.list (a0 :: a1 :: r))) 1 = some a1:=by
 show (ce 1 (r.length + 1 + 1)).bind _ = _
 rw [zP];rfl
@[simp high] private theorem Ak {a0 a1 a2:MV} {r:List MV}:itO (some (.list (a0 :: a1 :: a2 :: r))) 2 = some a2:=by
 show (ce 2 (r.length + 1 + 1 + 1)).bind _ = _
 rw [Ab];rfl
noncomputable def yH (F:FT) (Q:QV):QL:=λvs H'=>F vs H' Q
@[simp] private theorem s_call {es:EsT} {F:FT} {Q:QV}:aI es F L H Q = es L H (yH F Q):=rfl
@[simp] private theorem k_call {F:FT} {Q:QV}:yH F Q vs H = F vs H Q:=rfl
@[simp] private theorem s_call0 {F:FT} {Q:QV}:ta F L H Q = F [] H Q:=rfl
noncomputable def isL (o:Option MObj):Prop:=∃ l,o = some (.list l)
noncomputable def isD (o:Option MObj):Prop:=∃ l,o = some (.dict l)
noncomputable def isS (o:Option MObj):Prop:=o = some .full∨∃ l,o = some (.set l)
@[simp] private theorem isL_list:isL (some (.list l)) = True:=eq_true ⟨_,rfl⟩
@[simp] private theorem isD_dict {l:List (Int×Int)}:isD (some (.dict l)) = True:=eq_true ⟨_,rfl⟩
@[simp] private theorem isS_set {l:List Int}:isS (some (.set l)) = True:=eq_true (.inr ⟨_,rfl⟩)
@[simp] private theorem isS_full:isS (some .full) = True:=eq_true (.inl rfl)
@[simp] private theorem kd_list:kL H (.ref i) .list = isL H[i]?:=by
 refine propext ⟨λ⟨j,l,e,h⟩=>?_,λ⟨l,h⟩=>⟨i,l,rfl,h⟩⟩
 cases e;exact ⟨l,h⟩
@[simp] private theorem kd_dict:kL H (.ref i) .dict = isD H[i]?:=by
 refine propext ⟨λ⟨j,l,e,h⟩=>?_,λ⟨l,h⟩=>⟨i,l,rfl,h⟩⟩
 cases e;exact ⟨l,h⟩
@[simp] private theorem kd_set:kL H (.ref i) .set = isS H[i]?:=by
 refine propext ⟨λ⟨j,o,e,h,k⟩=>?_,λh=>?_⟩
 ·cases e;rcases k with rfl | ⟨l,rfl⟩
  ·exact .inl h
  ·exact .inr ⟨l,h⟩
 ·rcases h with h | ⟨l,h⟩
  ·exact ⟨i,_,rfl,h,.inl rfl⟩
  ·exact ⟨i,_,rfl,h,.inr ⟨l,rfl⟩⟩
noncomputable def yr (d:Kd) (es:EsT) (F:FT) (L:Loc) (Q:QV):QV:=λv H'=>kL H' v d∧es L H' λvs H''=>F (v :: vs) H'' Q
noncomputable def wb (v:MV) (F:FT) (Q:QV):QL:=λvs H''=>F (v :: vs) H'' Q
@[simp] private theorem s_meth {d:Kd} {o:ET} {es:EsT} {F:FT} {Q:QV}:bW d o es F L H Q = o L H (yr d es F L Q):=rfl
@[simp] private theorem k_meth {d:Kd} {es:EsT} {F:FT} {Q:QV}:yr d es F L Q v H = (kL H v d∧es L H (wb v F Q)):=rfl
@[simp] private theorem k_meth2 {F:FT} {Q:QV}:wb v F Q vs H = F (v :: vs) H Q:=rfl
noncomputable def wc (d:Kd) (F:FT) (Q:QV):QV:=λv H'=>kL H' v d∧F [v] H' Q
@[simp] private theorem s_meth0 {d:Kd} {o:ET} {F:FT} {Q:QV}:iq d o F L H Q = o L H (wc d F Q):=rfl
@[simp] private theorem k_meth0 {d:Kd} {F:FT} {Q:QV}:wc d F Q v H = (kL H v d∧F [v] H Q):=rfl
@[simp] private theorem s_if {t:BoT} {p q:ET} {Q:QV}:eIf t p q L H Q = t L H (kIf p q L Q):=rfl
@[simp high] private theorem k_ift {p q:ET} {Q:QV}:kIf p q L Q true H = p L H Q:=rfl
@[simp high] private theorem k_iff {p q:ET} {Q:QV}:kIf p q L Q false H = q L H Q:=rfl
@[simp] private theorem k_if {p q:ET} {Q:QV}:kIf p q L Q c H = ifV c (th3 p L H Q) (th3 q L H Q):=rfl
@[simp] private theorem s_and {p q:ET} {Q:QV}:xh p q L H Q = p L H (za q L Q):=rfl
@[simp] private theorem k_and {q:ET} {Q:QV}:za q L Q v H = sF (gT H v) (th3 q L H Q) (th2 Q v H):=rfl
@[simp] private theorem tr_list:trO (some (.list l)) = some (!l.isEmpty):=rfl
@[simp] private theorem tr_dict {l:List (Int×Int)}:trO (some (.dict l)) = some (!l.isEmpty):=rfl
@[simp] private theorem tr_set {l:List Int}:trO (some (.set l)) = some (!l.isEmpty):=rfl
@[simp] private theorem truth_bool:gT H (.bool c) = some c:=rfl
@[simp] private theorem truth_int:gT H (.int x) = some (x != 0):=rfl
@[simp] private theorem truth_ref:gT H (.ref i) = trO H[i]?:=rfl
noncomputable def kB (Q:QV):QB:=λc H'=>Q (.bool c) H'
@[simp] private theorem s_ecmp {op:COp} {p q:ET} {Q:QV}:kI op p q L H Q = aM op p q L H (kB Q):=rfl
@[simp] private theorem k_b {Q:QV}:kB Q c H = Q (.bool c) H:=rfl
noncomputable def z7 (Q:QV):QV:=λv H'=>match v with | .int i=>Q (.int (-i)) H' | _=>False
@[simp] private theorem s_neg {p:ET} {Q:QV}:eI p L H Q = p L H (z7 Q):=rfl
@[simp] private theorem k_neg {Q:QV}:z7 Q (.int x) H = Q (.int (-x)) H:=rfl
noncomputable def yy (op:COp) (q:ET) (L:Loc) (Q:QB):QV:=λv H'=>q L H' λu H''=>oB (cp H'' op v u) Q H''
@[simp] private theorem s_bcmp {op:COp} {p q:ET} {Q:QB}:aM op p q L H Q = p L H (yy op q L Q):=rfl
@[simp] private theorem k_cmp1 {op:COp} {q:ET} {Q:QB}:yy op q L Q v H = q L H (uz op v Q):=rfl
@[simp] private theorem k_cmp2 {op:COp} {Q:QB}:uz op v Q u H = oB (cp H op v u) Q H:=rfl
noncomputable def t9 (o1 o2:COp) (q r:ET) (L:Loc) (Q:QB):QV:=λv H'=>q L H' (qZ o1 o2 r v L Q)
@[simp] private theorem s_chain {o1 o2:COp} {p q r:ET} {Q:QB}:dG o1 o2 p q r L H Q = p L H (t9 o1 o2 q r L Q):=rfl
@[simp] private theorem k_chain1 {o1 o2:COp} {q r:ET} {Q:QB}:t9 o1 o2 q r L Q v H = q L H (qZ o1 o2 r v L Q):=rfl
@[simp] private theorem k_chain2 {o1 o2:COp} {r:ET} {Q:QB}:qZ o1 o2 r v L Q u H = sF (cp H o1 v u) (th3 r L H (uz o2 u Q)) (th2 Q false H):=rfl
noncomputable def zV (Q:QB):QV:=λv H'=>oB (gT H' v) Q H'
@[simp] private theorem s_bval {p:ET} {Q:QB}:eX p L H Q = p L H (zV Q):=rfl
@[simp] private theorem k_val {Q:QB}:zV Q v H = oB (gT H v) Q H:=rfl
noncomputable def zW (Q:QB):QB:=λc H'=>Q (!c) H'
@[simp] private theorem s_bnot {p:BoT} {Q:QB}:fS p L H Q = p L H (zW Q):=rfl
@[simp] private theorem k_not {Q:QB}:zW Q c H = Q (!c) H:=rfl
@[simp] private theorem s_btrue {Q:QB}:bG L H Q = Q true H:=rfl
@[simp] private theorem s_bfalse {Q:QB}:ck L H Q = Q false H:=rfl
@[simp high] private theorem k_last {Q:QB}:pR bG L Q c H = Q c H:=by cases c <;> rfl
@[simp high] private theorem k_lastO {Q:QB}:vt ck L Q c H = Q c H:=by cases c <;> rfl
@[simp] private theorem s_band {p q:BoT} {Q:QB}:cz p q L H Q = p L H (pR q L Q):=rfl
@[simp high] private theorem k_bandt {q:BoT} {Q:QB}:pR q L Q true H = q L H Q:=rfl
@[simp high] private theorem k_bandf {q:BoT} {Q:QB}:pR q L Q false H = Q false H:=rfl
@[simp] private theorem k_band {q:BoT} {Q:QB}:pR q L Q c H = ifV c (th3 q L H Q) (th2 Q false H):=rfl
@[simp] private theorem s_bor {p q:BoT} {Q:QB}:bOr p q L H Q = p L H (vt q L Q):=rfl
@[simp high] private theorem k_bort {q:BoT} {Q:QB}:vt q L Q true H = Q true H:=rfl
@[simp high] private theorem k_borf {q:BoT} {Q:QB}:vt q L Q false H = q L H Q:=rfl
@[simp] private theorem k_bor {q:BoT} {Q:QB}:vt q L Q c H = ifV c (th2 Q true H) (th3 q L H Q):=rfl
noncomputable def z6 (Q:QV):QV:=λv H'=>match v with | .bool _=>Q (.bool true) H' | _=>False
@[simp] private theorem s_isbool {e:ET} {Q:QV}:qY e L H Q = e L H (z6 Q):=rfl
@[simp] private theorem k_isb {Q:QV}:z6 Q (.bool c) H = Q (.bool true) H:=rfl
noncomputable def yY (Q:QV) (H:MH) (l l':List MV):Prop:=l.length + l'.length≤1000000∧Q (.ref H.length) (H++[.list (l++l')])
noncomputable def l2V (o o':Option MObj) (K:List MV→List MV→Prop):Prop:=dO o λl=>dO o' (K l)
@[simp] private theorem l2V_some {K:List MV→List MV→Prop}:l2V (some (.list l)) (some (.list l')) K = K l l':=rfl
@[simp] private theorem k_addL {Q:QV}:yY Q H l l' = (l.length + l'.length≤1000000∧Q (.ref H.length) (H++[.list (l++l')])):=rfl
noncomputable def yR (q:ET) (L:Loc) (Q:QV):QV:=λx H'=>bZ (λU H Q=>Q x H) q L H' Q
noncomputable def rU (x:MV) (Q:QV):QV:=λy H'=>bZ (λU H Q=>Q x H) (λU H Q=>Q y H) [] H' Q
@[simp] private theorem s_add {p q:ET} {Q:QV}:bZ p q L H Q = p L H (yR q L Q):=rfl
@[simp] private theorem k_add1 {q:ET} {Q:QV}:yR q L Q v H = q L H (rU v Q):=rfl
@[simp] private theorem k_addI {Q:QV}:rU (.int x) Q (.int y) H = Q (.int (x + y)) H:=rfl
@[simp] private theorem k_addR {j:Nat} {Q:QV}:rU (.ref i) Q (.ref j) H = l2V H[i]? H[j]? (yY Q H):=rfl
@[simp] private theorem k_addT {m n:Nat} {Q:QV}:rU (.text m) Q (.text n) H = (m + n≤1000∧Q (.text (m + n)) H):=rfl
@[simp] private theorem k_addF {Q:QV}:rU (.sym 13) Q (.sym 16) H = Q (.text 8) H:=by
 refine c6 (Nat.le_of_ble_eq_true rfl)
noncomputable def yq (q:ET) (L:Loc) (Q:QV):QV:=λx H'=>dj (λU H Q=>Q x H) q L H' Q
noncomputable def yG (x:MV) (Q:QV):QV:=λy H'=>dj (λU H Q=>Q x H) (λU H Q=>Q y H) [] H' Q
@[simp] private theorem s_sub {p q:ET} {Q:QV}:dj p q L H Q = p L H (yq q L Q):=rfl
@[simp] private theorem k_sub1 {q:ET} {Q:QV}:yq q L Q v H = q L H (yG v Q):=rfl
@[simp] private theorem k_sub2 {Q:QV}:yG (.int x) Q (.int y) H = Q (.int (x - y)) H:=rfl
noncomputable def yZ (q:ET) (L:Loc) (Q:QV):QV:=λx H'=>mF (λU H Q=>Q x H) q L H' Q
noncomputable def yt (x:MV) (Q:QV):QV:=λy H'=>mF (λU H Q=>Q x H) (λU H Q=>Q y H) [] H' Q
@[simp] private theorem s_mul {p q:ET} {Q:QV}:mF p q L H Q = p L H (yZ q L Q):=rfl
@[simp] private theorem k_mul1 {q:ET} {Q:QV}:yZ q L Q v H = q L H (yt v Q):=rfl
@[simp] private theorem k_mul2 {Q:QV}:yt (.int x) Q (.int y) H = ((-18446744073709551616 < x∧x < 18446744073709551616)∧Q (.int (x * y)) H):=rfl
noncomputable def yV (q:ET) (L:Loc) (Q:QV):QV:=λx H'=>dH (λU H Q=>Q x H) q L H' Q
noncomputable def yS (x:MV) (Q:QV):QV:=λy H'=>dH (λU H Q=>Q x H) (λU H Q=>Q y H) [] H' Q
@[simp] private theorem s_mod {p q:ET} {Q:QV}:dH p q L H Q = p L H (yV q L Q):=rfl
@[simp] private theorem k_mod1 {q:ET} {Q:QV}:yV q L Q v H = q L H (yS v Q):=rfl
@[simp] private theorem k_mod2 {Q:QV}:yS (.int x) Q (.int y) H = (0 < y∧Q (.int (x % y)) H):=rfl
noncomputable def yL (q:ET) (L:Loc) (Q:QV):QV:=λx H'=>sk (λU H Q=>Q x H) q L H' Q
noncomputable def yE (x:MV) (Q:QV):QV:=λy H'=>sk (λU H Q=>Q x H) (λU H Q=>Q y H) [] H' Q
@[simp] private theorem s_div {p q:ET} {Q:QV}:sk p q L H Q = p L H (yL q L Q):=rfl
@[simp] private theorem k_div1 {q:ET} {Q:QV}:yL q L Q v H = q L H (yE v Q):=rfl
@[simp] private theorem k_div2 {Q:QV}:yE (.int x) Q (.int y) H = ((0 < y∧y < 18446744073709551616)∧Q (.int (x / y)) H):=rfl
@[simp high] private theorem o_eqsym {m:Nat} {Q:QB}:oB (cp H .eq (.sym m) (.sym n)) Q H = Q (m == n) H:=rfl
@[simp high] private theorem o_eqint {Q:QB}:oB (cp H .eq (.int x) (.int y)) Q H = Q (x == y) H:=rfl
@[simp] private theorem s_eqsym {m:Nat}:cp H .eq (.sym m) (.sym n) = some (m == n):=rfl
@[simp] private theorem s_nesym {m:Nat}:cp H .ne (.sym m) (.sym n) = some (!(m == n)):=rfl
@[simp] private theorem s_eqint:cp H .eq (.int x) (.int y) = some (x == y):=rfl
@[simp] private theorem s_neint:cp H .ne (.int x) (.int y) = some (!(x == y)):=rfl
@[simp] private theorem s_eqbool:cp H .eq (.bool b) (.bool c) = some (b == c):=rfl
@[simp] private theorem s_nebool:cp H .ne (.bool b) (.bool c) = some (!(b == c)):=rfl
@[simp] private theorem s_ltint:cp H .lt (.int x) (.int y) = some (decide (x < y)):=rfl
@[simp] private theorem s_leint:cp H .le (.int x) (.int y) = some (decide (x≤y)):=rfl
@[simp] private theorem s_gtint:cp H .gt (.int x) (.int y) = some (decide (y < x)):=rfl
@[simp] private theorem s_geint:cp H .ge (.int x) (.int y) = some (decide (y≤x)):=rfl
@[simp] private theorem s_isnn:cp H .is_ .none .none = some true:=rfl
@[simp] private theorem s_isin:cp H .is_ (.int x) .none = some false:=rfl
@[simp] private theorem s_isrn:cp H .is_ (.ref i) .none = some false:=rfl
@[simp] private theorem s_isrr {j:Nat}:cp H .is_ (.ref i) (.ref j) = some (i == j):=rfl
@[simp] private theorem s_isnotrr {j:Nat}:cp H .isNot (.ref i) (.ref j) = some (!(i == j)):=rfl
@[simp] private theorem s_isnotrn:cp H .isNot (.ref i) .none = some true:=rfl
@[simp] private theorem s_isnotnn:cp H .isNot .none .none = some false:=rfl
@[simp] private theorem s_intup:cp H .in_ v (.tup l) = fx v l:=rfl
@[simp] private theorem s_notintup:cp H .notIn v (.tup l) = (fx v l).map (!·):=rfl
@[simp] private theorem s_intab {t:Nat}:cp H .in_ (.sym n) (.tab t) = if n < 21 then some (dZ t n) else none:=rfl
@[simp] private theorem s_notintab {t:Nat}:cp H .notIn (.sym n) (.tab t) = (if n < 21 then some (dZ t n) else none).map (!·):=rfl
@[simp] private theorem inO_list:inO (some (.list l)) v = fx v l:=rfl
@[simp] private theorem inO_dict {d:List (Int×Int)}:inO (some (.dict d)) (.int x) = some (d.lookup x).isSome:=rfl
@[simp] private theorem inO_set {d:List Int}:inO (some (.set d)) (.int x) = some (decide (x∈d)):=rfl
@[simp] private theorem inO_full:inO (some .full) (.int x) = some (decide (0≤x∧x < 4)):=rfl
@[simp] private theorem s_inref:cp H .in_ v (.ref i) = inO H[i]? v:=rfl
@[simp] private theorem s_notinref:cp H .notIn v (.ref i) = (inO H[i]? v).map (!·):=rfl
@[simp] private theorem any0:fx v [] = some false:=rfl
@[simp] private theorem uF {a b:Bool}:xV (some a) (some b) = some (a || b):=rfl
@[simp] private theorem Aq:fx v (u :: l) = xV (eqS u v) (fx v l):=rfl
@[simp] private theorem xE:eqS (.int x) (.int y) = some (x == y):=rfl
@[simp] private theorem eqS_sym {m:Nat}:eqS (.sym m) (.sym n) = some (m == n):=rfl
@[simp] private theorem s_an0 {a0:Option MV} {r:Loc} {Q:QA}:aw 0 v (a0 :: r) H Q = Q (some v :: r) H:=rfl
@[simp] private theorem Ah {a0 a1:Option MV} {r:Loc} {Q:QA}:aw 1 v (a0 :: a1 :: r) H Q = Q (a0 :: some v :: r) H:=rfl
@[simp] private theorem s_an2 {a0 a1 a2:Option MV} {r:Loc} {Q:QA}:aw 2 v (a0 :: a1 :: a2 :: r) H Q = Q (a0 :: a1 :: some v :: r) H:=rfl
@[simp] private theorem s_an3 {a0 a1 a2 a3:Option MV} {r:Loc} {Q:QA}:aw 3 v (a0 :: a1 :: a2 :: a3 :: r) H Q = Q (a0 :: a1 :: a2 :: some v :: r) H:=rfl
@[simp] private theorem s_an4 {a0 a1 a2 a3 a4:Option MV} {r:Loc} {Q:QA}:aw 4 v (a0 :: a1 :: a2 :: a3 :: a4 :: r) H Q = Q (a0 :: a1 :: a2 :: a3 :: some v :: r) H:=rfl
@[simp] private theorem s_an5 {a0 a1 a2 a3 a4 a5:Option MV} {r:Loc} {Q:QA}:aw 5 v (a0 :: a1 :: a2 :: a3 :: a4 :: a5 :: r) H Q = Q (a0 :: a1 :: a2 :: a3 :: a4 :: some v :: r) H:=rfl
@[simp] private theorem s_an6 {a0 a1 a2 a3 a4 a5 a6:Option MV} {r:Loc} {Q:QA}:aw 6 v (a0 :: a1 :: a2 :: a3 :: a4 :: a5 :: a6 :: r) H Q = Q (a0 :: a1 :: a2 :: a3 :: a4 :: a5 :: some v :: r) H:=rfl
@[simp] private theorem s_an7 {a0 a1 a2 a3 a4 a5 a6 a7:Option MV} {r:Loc} {Q:QA}:aw 7 v (a0 :: a1 :: a2 :: a3 :: a4 :: a5 :: a6 :: a7 :: r) H Q = Q (a0 :: a1 :: a2 :: a3 :: a4 :: a5 :: a6 :: some v :: r) H:=rfl
@[simp] private theorem s_an8 {a0 a1 a2 a3 a4 a5 a6 a7 a8:Option MV} {r:Loc} {Q:QA}:aw 8 v (a0 :: a1 :: a2 :: a3 :: a4 :: a5 :: a6 :: a7 :: a8 :: r) H Q = Q (a0 :: a1 :: a2 :: a3 :: a4 :: a5 :: a6 :: a7 :: some v :: r) H:=rfl
@[simp] private theorem s_an9 {a0 a1 a2 a3 a4 a5 a6 a7 a8 a9:Option MV} {r:Loc} {Q:QA}:aw 9 v (a0 :: a1 :: a2 :: a3 :: a4 :: a5 :: a6 :: a7 :: a8 :: a9 :: r) H Q = Q (a0 :: a1 :: a2 :: a3 :: a4 :: a5 :: a6 :: a7 :: a8 :: some v :: r) H:=rfl
@[simp] private theorem s_an10 {a0 a1 a2 a3 a4 a5 a6 a7 a8 a9 a10:Option MV} {r:Loc} {Q:QA}:aw 10 v (a0 :: a1 :: a2 :: a3 :: a4 :: a5 :: a6 :: a7 :: a8 :: a9 :: a10 :: r) H Q = Q (a0 :: a1 :: a2 :: a3 :: a4 :: a5 :: a6 :: a7 :: a8 :: a9 :: some v :: r) H:=rfl
@[simp] private theorem s_an11 {a0 a1 a2 a3 a4 a5 a6 a7 a8 a9 a10 a11:Option MV} {r:Loc} {Q:QA}:aw 11 v (a0 :: a1 :: a2 :: a3 :: a4 :: a5 :: a6 :: a7 :: a8 :: a9 :: a10 :: a11 :: r) H Q = Q (a0 :: a1 :: a2 :: a3 :: a4 :: a5 :: a6 :: a7 :: a8 :: a9 :: a10 :: some v :: r) H:=rfl
@[simp] private theorem s_an12 {a0 a1 a2 a3 a4 a5 a6 a7 a8 a9 a10 a11 a12:Option MV} {r:Loc} {Q:QA}:aw 12 v (a0 :: a1 :: a2 :: a3 :: a4 :: a5 :: a6 :: a7 :: a8 :: a9 :: a10 :: a11 :: a12 :: r) H Q = Q (a0 :: a1 :: a2 :: a3 :: a4 :: a5 :: a6 :: a7 :: a8 :: a9 :: a10 :: a11 :: some v :: r) H:=rfl
@[simp] private theorem s_an13 {a0 a1 a2 a3 a4 a5 a6 a7 a8 a9 a10 a11 a12 a13:Option MV} {r:Loc} {Q:QA}:aw 13 v (a0 :: a1 :: a2 :: a3 :: a4 :: a5 :: a6 :: a7 :: a8 :: a9 :: a10 :: a11 :: a12 :: a13 :: r) H Q = Q (a0 :: a1 :: a2 :: a3 :: a4 :: a5 :: a6 :: a7 :: a8 :: a9 :: a10 :: a11 :: a12 :: some v :: r) H:=rfl
@[simp] private theorem s_an14 {a0 a1 a2 a3 a4 a5 a6 a7 a8 a9 a10 a11 a12 a13 a14:Option MV} {r:Loc} {Q:QA}:aw 14 v (a0 :: a1 :: a2 :: a3 :: a4 :: a5 :: a6 :: a7 :: a8 :: a9 :: a10 :: a11 :: a12 :: a13 :: a14 :: r) H Q = Q (a0 :: a1 :: a2 :: a3 :: a4 :: a5 :: a6 :: a7 :: a8 :: a9 :: a10 :: a11 :: a12 :: a13 :: some v :: r) H:=rfl
@[simp] private theorem s_an15 {a0 a1 a2 a3 a4 a5 a6 a7 a8 a9 a10 a11 a12 a13 a14 a15:Option MV} {r:Loc} {Q:QA}:aw 15 v (a0 :: a1 :: a2 :: a3 :: a4 :: a5 :: a6 :: a7 :: a8 :: a9 :: a10 :: a11 :: a12 :: a13 :: a14 :: a15 :: r) H Q = Q (a0 :: a1 :: a2 :: a3 :: a4 :: a5 :: a6 :: a7 :: a8 :: a9 :: a10 :: a11 :: a12 :: a13 :: a14 :: some v :: r) H:=rfl
@[simp] private theorem s_an16 {a0 a1 a2 a3 a4 a5 a6 a7 a8 a9 a10 a11 a12 a13 a14 a15 a16:Option MV} {r:Loc} {Q:QA}:aw 16 v (a0 :: a1 :: a2 :: a3 :: a4 :: a5 :: a6 :: a7 :: a8 :: a9 :: a10 :: a11 :: a12 :: a13 :: a14 :: a15 :: a16 :: r) H Q = Q (a0 :: a1 :: a2 :: a3 :: a4 :: a5 :: a6 :: a7 :: a8 :: a9 :: a10 :: a11 :: a12 :: a13 :: a14 :: a15 :: some v :: r) H:=rfl
@[simp] private theorem s_an17 {a0 a1 a2 a3 a4 a5 a6 a7 a8 a9 a10 a11 a12 a13 a14 a15 a16 a17:Option MV} {r:Loc} {Q:QA}:aw 17 v (a0 :: a1 :: a2 :: a3 :: a4 :: a5 :: a6 :: a7 :: a8 :: a9 :: a10 :: a11 :: a12 :: a13 :: a14 :: a15 :: a16 :: a17 :: r) H Q = Q (a0 :: a1 :: a2 :: a3 :: a4 :: a5 :: a6 :: a7 :: a8 :: a9 :: a10 :: a11 :: a12 :: a13 :: a14 :: a15 :: a16 :: some v :: r) H:=rfl
@[simp] private theorem s_an18 {a0 a1 a2 a3 a4 a5 a6 a7 a8 a9 a10 a11 a12 a13 a14 a15 a16 a17 a18:Option MV} {r:Loc} {Q:QA}:aw 18 v (a0 :: a1 :: a2 :: a3 :: a4 :: a5 :: a6 :: a7 :: a8 :: a9 :: a10 :: a11 :: a12 :: a13 :: a14 :: a15 :: a16 :: a17 :: a18 :: r) H Q = Q (a0 :: a1 :: a2 :: a3 :: a4 :: a5 :: a6 :: a7 :: a8 :: a9 :: a10 :: a11 :: a12 :: a13 :: a14 :: a15 :: a16 :: a17 :: some v :: r) H:=rfl
@[simp] private theorem setF_nil:lJ f v [] = [(f,v)]:=rfl
@[simp] private theorem setF_cons {g:Nat} {r:List (Nat×MV)}:lJ f v ((g,u) :: r) = if g = f then (g,v) :: r else (g,u) :: lJ f v r:=rfl
@[simp] private theorem instV_inst {c:Nat} {fs:List (Nat×MV)} {Q:Nat→List (Nat×MV)→Prop}:gZ (some (.inst c fs)) Q = Q c fs:=rfl
noncomputable def iP (j f:Nat) (v:MV) (L:Loc) (H:MH) (Q:QA):Nat→List (Nat×MV)→Prop:=λc fs=>fs.length≤100∧Q L (H.set j (.inst c (lJ f v fs)))
@[simp] private theorem setAt_eq {j:Nat} {Q:QA} {c:Nat} {fs:List (Nat×MV)}:iP j f v L H Q c fs = (fs.length≤100∧Q L (H.set j (.inst c (lJ f v fs)))):=rfl
noncomputable def wQ (f:Nat) (v:MV) (L:Loc) (Q:QA):QV:=λov H'=>match ov with | .ref j=>gZ H'[j]? (iP j f v L H' Q) | _=>False
@[simp] private theorem s_aattr {o:ET} {Q:QA}:cn o f v L H Q = o L H (wQ f v L Q):=rfl
@[simp] private theorem k_aattr {j:Nat} {Q:QA}:wQ f v L Q (.ref j) H = gZ H[j]? (iP j f v L H Q):=rfl
noncomputable def stp (op:Nat) (dst:Int) (a:Nat) (m:MV) (vol:Bool) (ln:Int):MObj:=.inst 0 [(0,.sym op),(1,.int dst),(2,.ref a),(3,m),(4,.bool vol),(5,.int ln)]
noncomputable def blk (n:Nat) (st e:Nat):MObj:=.inst 1 [(6,.int (n:Nat)),(7,.ref st),(8,.ref e)]
noncomputable def fnc (ps sl bl:Nat):MObj:=.inst 2 [(9,.sym 13),(10,.ref ps),(11,.bool false),(12,.ref sl),(13,.ref bl),(14,.int 4),(15,.bool true)]
section
variable {op a:Nat} {dst ln ln':Int} {m:MV} {vol vol':Bool} {st e ps sl bl:Nat} {j:Nat}
@[simp] private theorem stp_0:atO (some (stp op dst a m vol ln)) 0 = some (.sym op):=rfl
@[simp] private theorem stp_1:atO (some (stp op dst a m vol ln)) 1 = some (.int dst):=rfl
@[simp] private theorem stp_2:atO (some (stp op dst a m vol ln)) 2 = some (.ref a):=rfl
@[simp] private theorem stp_3:atO (some (stp op dst a m vol ln)) 3 = some (m):=rfl
@[simp] private theorem stp_4:atO (some (stp op dst a m vol ln)) 4 = some (.bool vol):=rfl
@[simp] private theorem stp_5:atO (some (stp op dst a m vol ln)) 5 = some (.int ln):=rfl
@[simp] private theorem blk_6:atO (some (blk n st e)) 6 = some (.int (n:Nat)):=rfl
@[simp] private theorem blk_7:atO (some (blk n st e)) 7 = some (.ref st):=rfl
@[simp] private theorem blk_8:atO (some (blk n st e)) 8 = some (.ref e):=rfl
@[simp] private theorem fnc_9:atO (some (fnc ps sl bl)) 9 = some (.sym 13):=rfl
@[simp] private theorem fnc_10:atO (some (fnc ps sl bl)) 10 = some (.ref ps):=rfl
@[simp] private theorem fnc_12:atO (some (fnc ps sl bl)) 12 = some (.ref sl):=rfl
@[simp] private theorem fnc_13:atO (some (fnc ps sl bl)) 13 = some (.ref bl):=rfl
@[simp] private theorem fnc_14:atO (some (fnc ps sl bl)) 14 = some (.int 4):=rfl
@[simp] private theorem fnc_15:atO (some (fnc ps sl bl)) 15 = some (.bool true):=rfl
@[simp] private theorem stp_s4 {Q:QA}:gZ (some (stp op dst a m vol ln)) (iP j 4 (.bool vol') L H Q) = Q L (H.set j (stp op dst a m vol' ln)):=c6 (Nat.le_of_ble_eq_true rfl)
@[simp] private theorem stp_s5 {Q:QA}:gZ (some (stp op dst a m vol ln)) (iP j 5 (.int ln') L H Q) = Q L (H.set j (stp op dst a m vol ln')):=c6 (Nat.le_of_ble_eq_true rfl)
@[simp] private theorem blk_s6 {n':Nat} {Q:QA}:gZ (some (blk n st e)) (iP j 6 (.int (n':Nat)) L H Q) = Q L (H.set j (blk n' st e)):=c6 (Nat.le_of_ble_eq_true rfl)
@[simp] private theorem blk_s7 {st':Nat} {Q:QA}:gZ (some (blk n st e)) (iP j 7 (.ref st') L H Q) = Q L (H.set j (blk n st' e)):=c6 (Nat.le_of_ble_eq_true rfl)
@[simp] private theorem blk_s8 {e':Nat} {Q:QA}:gZ (some (blk n st e)) (iP j 8 (.ref e') L H Q) = Q L (H.set j (blk n st e')):=c6 (Nat.le_of_ble_eq_true rfl)
@[simp] private theorem fnc_s13 {bl':Nat} {Q:QA}:gZ (some (fnc ps sl bl)) (iP j 13 (.ref bl') L H Q) = Q L (H.set j (fnc ps sl bl')):=c6 (Nat.le_of_ble_eq_true rfl)
end
noncomputable def w8 (ie:ET) (v:MV) (L:Loc) (Q:QA):QV:=λov H'=>ie L H' λiv H''=>iu ov iv v H'' (Q L)
noncomputable def vI (ov v:MV) (L:Loc) (Q:QA):QV:=λiv H''=>iu ov iv v H'' (Q L)
@[simp] private theorem s_asub {o ie:ET} {Q:QA}:eS o ie v L H Q = o L H (w8 ie v L Q):=rfl
@[simp] private theorem k_asub1 {ie:ET} {ov:MV} {Q:QA}:w8 ie v L Q ov H = ie L H (vI ov v L Q):=rfl
@[simp] private theorem k_asub2 {a:Nat} {Q:QA}:vI (.ref a) v L Q (.int x) H = stO H[a]? a x v H (Q L):=rfl
@[simp] private theorem stO_list {a:Nat} {Q:MH→Prop}:stO (some (.list l)) a x v H Q = ((0≤x∧x < l.length∧l.length≤1000000)∧Q (H.set a (.list (l.set x.toNat v)))):=rfl
@[simp] private theorem stO_dict {a:Nat} {d:List (Int×Int)} {Q:MH→Prop}:stO (some (.dict d)) a x (.int y) H Q = (d.length≤1000000∧Q (H.set a (.dict (nT x y d)))):=rfl
noncomputable def sB (ts:List AT) (vs:List MV) (Q:QA):QA:=λL' H'=>jS ts vs L' H' Q
@[simp] private theorem s_all0 {Q:QA}:jS [] [] L H Q = Q L H:=rfl
@[simp] private theorem s_all1 {t:AT} {ts:List AT} {Q:QA}:jS (t :: ts) (v :: vs) L H Q = t v L H (sB ts vs Q):=rfl
@[simp] private theorem k_all {ts:List AT} {Q:QA}:sB ts vs Q L H = jS ts vs L H Q:=rfl
@[simp] private theorem s_atup {ts:List AT} {Q:QA}:cu ts (.tup l) L H Q = (l.length = ts.length∧jS ts l L H Q):=rfl
noncomputable def kAt (ts:List AT) (L:Loc) (H:MH) (Q:QA):List MV→Prop:=λl=>l.length = ts.length∧jS ts l L H Q
@[simp] private theorem k_at {ts:List AT} {Q:QA}:kAt ts L H Q l = (l.length = ts.length∧jS ts l L H Q):=rfl
@[simp] private theorem s_atupR {ts:List AT} {j:Nat} {Q:QA}:cu ts (.ref j) L H Q = dO H[j]? (kAt ts L H Q):=rfl
@[simp high] private theorem s_at2 {v0 v1:MV} {t0 t1:AT} {Q:QA}:cu [t0,t1] (.tup [v0,v1]) L H Q = t0 v0 L H (sB [t1] [v1] Q):=c6 rfl
@[simp high] private theorem s_at3 {v0 v1 v2:MV} {t0 t1 t2:AT} {Q:QA}:cu [t0,t1,t2] (.tup [v0,v1,v2]) L H Q = t0 v0 L H (sB [t1,t2] [v1,v2] Q):=c6 rfl
@[simp high] private theorem s_at5 {v0 v1 v2 v3 v4:MV} {t0 t1 t2 t3 t4:AT} {Q:QA}:cu [t0,t1,t2,t3,t4] (.tup [v0,v1,v2,v3,v4]) L H Q = t0 v0 L H (sB [t1,t2,t3,t4] [v1,v2,v3,v4] Q):=c6 rfl
@[simp high] private theorem k_all0 {Q:QA}:sB [] [] Q L H = Q L H:=rfl
@[simp high] private theorem k_all1 {t:AT} {ts:List AT} {Q:QA}:sB (t :: ts) (v :: vs) Q L H = t v L H (sB ts vs Q):=rfl
noncomputable def uo (Q:QS):QA:=λL' H''=>Q .next L' H''
@[simp] private theorem k_next {Q:QS}:uo Q L H = Q .next L H:=rfl
noncomputable def t7 (a:AT) (L:Loc) (Q:QS):QV:=λv H'=>a v L H' (uo Q)
@[simp] private theorem s_assign {e:ET} {a:AT} {Q:QS}:au e a L H Q = e L H (t7 a L Q):=rfl
@[simp] private theorem k_assign {a:AT} {Q:QS}:t7 a L Q v H = a v L H (uo Q):=rfl
noncomputable def yB (L:Loc) (Q:QS):QV:=λU H'=>Q .next L H'
@[simp] private theorem zi {e:ET} {Q:QS}:bC e L H Q = e L H (yB L Q):=rfl
@[simp] private theorem zF {Q:QS}:yB L Q v H = Q .next L H:=rfl
noncomputable def z0 (L:Loc) (Q:QS):QV:=λv H'=>Q (.ret v) L H'
@[simp] private theorem s_ret {e:ET} {Q:QS}:bq e L H Q = e L H (z0 L Q):=rfl
@[simp] private theorem k_ret {Q:QS}:z0 L Q v H = Q (.ret v) L H:=rfl
@[simp] private theorem s_brk {Q:QS}:xq L H Q = Q .brk L H:=rfl
@[simp] private theorem s_cont {Q:QS}:rr L H Q = Q .cont L H:=rfl
@[simp] private theorem s_snil {Q:QS}:ay L H Q = Q .next L H:=rfl
@[simp] private theorem un {a c:ST} {Q:QS}:aj a c L H Q = a L H (m7 c Q):=rfl
@[simp] private theorem j6 {c:ST} {Q:QS}:m7 c Q .next L H = c L H Q:=rfl
@[simp] private theorem k_seq1 {c:ST} {Q:QS}:m7 c Q .brk L H = Q .brk L H:=rfl
@[simp] private theorem k_seq2 {c:ST} {Q:QS}:m7 c Q .cont L H = Q .cont L H:=rfl
@[simp] private theorem k_seq3 {c:ST} {Q:QS}:m7 c Q (.ret v) L H = Q (.ret v) L H:=rfl
noncomputable def kAN (i:Nat) (c:ST) (L:Loc) (Q:QS):QV:=λv H'=>aw i v L H' (uo (m7 c Q))
@[simp high] private theorem s_asn {e:ET} {c:ST} {Q:QS}:aj (au e (aw i)) c L H Q = e L H (kAN i c L Q):=rfl
@[simp] private theorem k_an0 {a0:Option MV} {r:Loc} {c:ST} {Q:QS}:kAN 0 c (a0 :: r) Q v H = c (some v :: r) H Q:=rfl
@[simp] private theorem k_an1 {a0 a1:Option MV} {r:Loc} {c:ST} {Q:QS}:kAN 1 c (a0 :: a1 :: r) Q v H = c (a0 :: some v :: r) H Q:=rfl
@[simp] private theorem k_an2 {a0 a1 a2:Option MV} {r:Loc} {c:ST} {Q:QS}:kAN 2 c (a0 :: a1 :: a2 :: r) Q v H = c (a0 :: a1 :: some v :: r) H Q:=rfl
@[simp] private theorem k_an3 {a0 a1 a2 a3:Option MV} {r:Loc} {c:ST} {Q:QS}:kAN 3 c (a0 :: a1 :: a2 :: a3 :: r) Q v H = c (a0 :: a1 :: a2 :: some v :: r) H Q:=rfl
@[simp] private theorem k_an4 {a0 a1 a2 a3 a4:Option MV} {r:Loc} {c:ST} {Q:QS}:kAN 4 c (a0 :: a1 :: a2 :: a3 :: a4 :: r) Q v H = c (a0 :: a1 :: a2 :: a3 :: some v :: r) H Q:=rfl
@[simp] private theorem k_an5 {a0 a1 a2 a3 a4 a5:Option MV} {r:Loc} {c:ST} {Q:QS}:kAN 5 c (a0 :: a1 :: a2 :: a3 :: a4 :: a5 :: r) Q v H = c (a0 :: a1 :: a2 :: a3 :: a4 :: some v :: r) H Q:=rfl
@[simp] private theorem k_an6 {a0 a1 a2 a3 a4 a5 a6:Option MV} {r:Loc} {c:ST} {Q:QS}:kAN 6 c (a0 :: a1 :: a2 :: a3 :: a4 :: a5 :: a6 :: r) Q v H = c (a0 :: a1 :: a2 :: a3 :: a4 :: a5 :: some v :: r) H Q:=rfl
@[simp] private theorem k_an7 {a0 a1 a2 a3 a4 a5 a6 a7:Option MV} {r:Loc} {c:ST} {Q:QS}:kAN 7 c (a0 :: a1 :: a2 :: a3 :: a4 :: a5 :: a6 :: a7 :: r) Q v H = c (a0 :: a1 :: a2 :: a3 :: a4 :: a5 :: a6 :: some v :: r) H Q:=rfl
@[simp] private theorem k_an8 {a0 a1 a2 a3 a4 a5 a6 a7 a8:Option MV} {r:Loc} {c:ST} {Q:QS}:kAN 8 c (a0 :: a1 :: a2 :: a3 :: a4 :: a5 :: a6 :: a7 :: a8 :: r) Q v H = c (a0 :: a1 :: a2 :: a3 :: a4 :: a5 :: a6 :: a7 :: some v :: r) H Q:=rfl
@[simp] private theorem k_an9 {a0 a1 a2 a3 a4 a5 a6 a7 a8 a9:Option MV} {r:Loc} {c:ST} {Q:QS}:kAN 9 c (a0 :: a1 :: a2 :: a3 :: a4 :: a5 :: a6 :: a7 :: a8 :: a9 :: r) Q v H = c (a0 :: a1 :: a2 :: a3 :: a4 :: a5 :: a6 :: a7 :: a8 :: some v :: r) H Q:=rfl
@[simp] private theorem k_an10 {a0 a1 a2 a3 a4 a5 a6 a7 a8 a9 a10:Option MV} {r:Loc} {c:ST} {Q:QS}:kAN 10 c (a0 :: a1 :: a2 :: a3 :: a4 :: a5 :: a6 :: a7 :: a8 :: a9 :: a10 :: r) Q v H = c (a0 :: a1 :: a2 :: a3 :: a4 :: a5 :: a6 :: a7 :: a8 :: a9 :: some v :: r) H Q:=rfl
@[simp] private theorem k_an11 {a0 a1 a2 a3 a4 a5 a6 a7 a8 a9 a10 a11:Option MV} {r:Loc} {c:ST} {Q:QS}:kAN 11 c (a0 :: a1 :: a2 :: a3 :: a4 :: a5 :: a6 :: a7 :: a8 :: a9 :: a10 :: a11 :: r) Q v H = c (a0 :: a1 :: a2 :: a3 :: a4 :: a5 :: a6 :: a7 :: a8 :: a9 :: a10 :: some v :: r) H Q:=rfl
@[simp] private theorem k_an12 {a0 a1 a2 a3 a4 a5 a6 a7 a8 a9 a10 a11 a12:Option MV} {r:Loc} {c:ST} {Q:QS}:kAN 12 c (a0 :: a1 :: a2 :: a3 :: a4 :: a5 :: a6 :: a7 :: a8 :: a9 :: a10 :: a11 :: a12 :: r) Q v H = c (a0 :: a1 :: a2 :: a3 :: a4 :: a5 :: a6 :: a7 :: a8 :: a9 :: a10 :: a11 :: some v :: r) H Q:=rfl
@[simp] private theorem k_an13 {a0 a1 a2 a3 a4 a5 a6 a7 a8 a9 a10 a11 a12 a13:Option MV} {r:Loc} {c:ST} {Q:QS}:kAN 13 c (a0 :: a1 :: a2 :: a3 :: a4 :: a5 :: a6 :: a7 :: a8 :: a9 :: a10 :: a11 :: a12 :: a13 :: r) Q v H = c (a0 :: a1 :: a2 :: a3 :: a4 :: a5 :: a6 :: a7 :: a8 :: a9 :: a10 :: a11 :: a12 :: some v :: r) H Q:=rfl
@[simp] private theorem k_an14 {a0 a1 a2 a3 a4 a5 a6 a7 a8 a9 a10 a11 a12 a13 a14:Option MV} {r:Loc} {c:ST} {Q:QS}:kAN 14 c (a0 :: a1 :: a2 :: a3 :: a4 :: a5 :: a6 :: a7 :: a8 :: a9 :: a10 :: a11 :: a12 :: a13 :: a14 :: r) Q v H = c (a0 :: a1 :: a2 :: a3 :: a4 :: a5 :: a6 :: a7 :: a8 :: a9 :: a10 :: a11 :: a12 :: a13 :: some v :: r) H Q:=rfl
@[simp] private theorem k_an15 {a0 a1 a2 a3 a4 a5 a6 a7 a8 a9 a10 a11 a12 a13 a14 a15:Option MV} {r:Loc} {c:ST} {Q:QS}:kAN 15 c (a0 :: a1 :: a2 :: a3 :: a4 :: a5 :: a6 :: a7 :: a8 :: a9 :: a10 :: a11 :: a12 :: a13 :: a14 :: a15 :: r) Q v H = c (a0 :: a1 :: a2 :: a3 :: a4 :: a5 :: a6 :: a7 :: a8 :: a9 :: a10 :: a11 :: a12 :: a13 :: a14 :: some v :: r) H Q:=rfl
@[simp] private theorem k_an16 {a0 a1 a2 a3 a4 a5 a6 a7 a8 a9 a10 a11 a12 a13 a14 a15 a16:Option MV} {r:Loc} {c:ST} {Q:QS}:kAN 16 c (a0 :: a1 :: a2 :: a3 :: a4 :: a5 :: a6 :: a7 :: a8 :: a9 :: a10 :: a11 :: a12 :: a13 :: a14 :: a15 :: a16 :: r) Q v H = c (a0 :: a1 :: a2 :: a3 :: a4 :: a5 :: a6 :: a7 :: a8 :: a9 :: a10 :: a11 :: a12 :: a13 :: a14 :: a15 :: some v :: r) H Q:=rfl
@[simp] private theorem k_an17 {a0 a1 a2 a3 a4 a5 a6 a7 a8 a9 a10 a11 a12 a13 a14 a15 a16 a17:Option MV} {r:Loc} {c:ST} {Q:QS}:kAN 17 c (a0 :: a1 :: a2 :: a3 :: a4 :: a5 :: a6 :: a7 :: a8 :: a9 :: a10 :: a11 :: a12 :: a13 :: a14 :: a15 :: a16 :: a17 :: r) Q v H = c (a0 :: a1 :: a2 :: a3 :: a4 :: a5 :: a6 :: a7 :: a8 :: a9 :: a10 :: a11 :: a12 :: a13 :: a14 :: a15 :: a16 :: some v :: r) H Q:=rfl
@[simp] private theorem k_an18 {a0 a1 a2 a3 a4 a5 a6 a7 a8 a9 a10 a11 a12 a13 a14 a15 a16 a17 a18:Option MV} {r:Loc} {c:ST} {Q:QS}:kAN 18 c (a0 :: a1 :: a2 :: a3 :: a4 :: a5 :: a6 :: a7 :: a8 :: a9 :: a10 :: a11 :: a12 :: a13 :: a14 :: a15 :: a16 :: a17 :: a18 :: r) Q v H = c (a0 :: a1 :: a2 :: a3 :: a4 :: a5 :: a6 :: a7 :: a8 :: a9 :: a10 :: a11 :: a12 :: a13 :: a14 :: a15 :: a16 :: a17 :: some v :: r) H Q:=rfl
@[simp] private theorem s_try {a c:ST} {Q:QS}:zG a c L H Q = a L H (m7 c Q):=rfl
@[simp] private theorem s_sif {t:BoT} {a c:ST} {Q:QS}:sIf t a c L H Q = t L H (uK a c L Q):=rfl
@[simp high] private theorem k_sift {a d:ST} {Q:QS}:uK a d L Q true H = a L H Q:=rfl
@[simp high] private theorem k_siff {a d:ST} {Q:QS}:uK a d L Q false H = d L H Q:=rfl
@[simp high] private theorem k_siffn {a:ST} {Q:QS}:uK a ay L Q false H = Q .next L H:=rfl
@[simp] private theorem k_sif {a d:ST} {Q:QS}:uK a d L Q c H = ifV c (th3 a L H Q) (th3 d L H Q):=rfl
noncomputable def mZ (Q:QV):QS:=λfl U H'=>match fl with | .ret v=>Q v H' | .next=>Q .none H' | _=>False
private theorem zH {m tot:Nat} {T:ST} {ms:List MV} {Q:QV}:ci m tot T ms H Q = (ms.length = m∧T (ms.map some++List.replicate (tot - m) none) H (mZ Q)):=by rw [ci,wM];rfl
private theorem fn {m tot:Nat} {T:ST} {ms:List MV} {Q:QV} (h:ms.length = m) (L:Loc) (hL:ms.map some++List.replicate (tot - m) none = L) (t:T L H (mZ Q)):ci m tot T ms H Q:=by
 subst hL;rw [zH];exact ⟨h,t⟩
@[simp] private theorem k_fun {Q:QV}:mZ Q (.ret v) L H = Q v H:=rfl
@[simp] private theorem k_fun0 {Q:QV}:mZ Q .next L H = Q .none H:=rfl
noncomputable abbrev IN:=Nat→Loc→MH→Prop
noncomputable def lB (I:IN) (j:Nat) (Q:QS):QS:=λfl L H=>match fl with
 | .next=>I (j + 1) L H
 | .cont=>I (j + 1) L H
 | .brk=>Q .next L H
 | .ret v=>Q (.ret v) L H
noncomputable def we (b:ST) (I:IN) (j:Nat) (Q:QS):QA:=λL' H'=>b L' H' (lB I j Q)
@[simp] private theorem zx {b:ST} {I:IN} {j:Nat} {Q:QS}:we b I j Q L H = b L H (lB I j Q):=rfl
@[simp] private theorem xM {I:IN} {j:Nat} {Q:QS}:lB I j Q .next L H = I (j + 1) L H:=rfl
@[simp] private theorem k_loop1 {I:IN} {j:Nat} {Q:QS}:lB I j Q .cont L H = I (j + 1) L H:=rfl
@[simp] private theorem k_loop2 {I:IN} {j:Nat} {Q:QS}:lB I j Q .brk L H = Q .next L H:=rfl
@[simp] private theorem k_loop3 {I:IN} {j:Nat} {Q:QS}:lB I j Q (.ret v) L H = Q (.ret v) L H:=rfl
noncomputable def rL (a:AT) (b:ST) (L:Loc) (Q:QS) (X:It) (H0:MH):Prop:=∃ I:IN,I 0 L H0∧(∀ j L H,I j L H→X.ok H) ∧
 (∀ j m L H,X.at j = some m→I j L H→a m L H λL' H'=>b L' H' λfl L'' H''=>match fl with
  | .next=>I (j + 1) L'' H''
  | .cont=>I (j + 1) L'' H''
  | .brk=>Q .next L'' H''
  | .ret v=>Q (.ret v) L'' H'')∧∀ L H,I X.size L H→Q .next L H
@[simp] private theorem s_for {it:IT} {a:AT} {b:ST} {Q:QS}:cv it a b L H Q = it L H (rL a b L Q):=rfl
noncomputable def kIl (K:It→MH→Prop) (i:Nat) (H:MH):List MV→Prop:=λl=>K (.list i l) H
@[simp] private theorem k_il {K:It→MH→Prop}:kIl K i H l = K (.list i l) H:=rfl
noncomputable def vJ (K:It→MH→Prop):QV:=λv H'=>match v with | .ref i=>dO H'[i]? (kIl K i H') | _=>False
@[simp] private theorem s_ilist {T:ET} {K:It→MH→Prop}:bD T L H K = T L H (vJ K):=rfl
@[simp] private theorem k_ilist {K:It→MH→Prop}:vJ K (.ref i) H = dO H[i]? (kIl K i H):=rfl
noncomputable def yC (K:It→MH→Prop):QV:=λv H'=>match v with | .tup l=>K (.tup l) H' | _=>False
@[simp] private theorem s_itup {T:ET} {K:It→MH→Prop}:xf T L H K = T L H (yC K):=rfl
@[simp] private theorem k_itup {K:It→MH→Prop}:yC K (.tup l) H = K (.tup l) H:=rfl
noncomputable def kIe (K:It→MH→Prop) (i:Nat) (H:MH):List MV→Prop:=λl=>K (.enum i l) H
@[simp] private theorem k_ie {K:It→MH→Prop}:kIe K i H l = K (.enum i l) H:=rfl
noncomputable def vQ (K:It→MH→Prop):QL:=λvs H'=>one vs λm=>eL m λi=>dO H'[i]? (kIe K i H')
@[simp] private theorem s_ienum {T:EsT} {K:It→MH→Prop}:jX T L H K = T L H (vQ K):=rfl
@[simp] private theorem k_ienum {K:It→MH→Prop}:vQ K [.ref i] H = dO H[i]? (kIe K i H):=rfl
noncomputable def kIr (K:It→MH→Prop) (H:MH) (a:Int) (n:Nat) (c:Int):Prop:=K (.range a n c) H
@[simp] private theorem k_ir {K:It→MH→Prop} {a c:Int}:kIr K H a n c = K (.range a n c) H:=rfl
noncomputable def uj (K:It→MH→Prop):QL:=λvs H'=>fA vs (kIr K H')
@[simp] private theorem s_irange {T:EsT} {K:It→MH→Prop}:eK T L H K = T L H (uj K):=rfl
@[simp] private theorem k_irange {K:It→MH→Prop}:uj K vs H = fA vs (kIr K H):=rfl
@[simp] private theorem range1 {K:Int→Nat→Int→Prop}:fA [.int x] K = ((-400000≤x∧x≤400000)∧K 0 x.toNat 1):=rfl
@[simp] private theorem range2 {K:Int→Nat→Int→Prop}:fA [.int x,.int y] K = ((-400000≤x∧x≤400000∧-400000≤y∧y≤400000)∧K x (y - x).toNat 1):=rfl
@[simp] private theorem range3 {K:Int→Nat→Int→Prop} {z:Int}:fA [.int x,.int y,.int z] K = ((z = -1∧-400000≤y∧y≤400000∧-400000≤x∧x≤400000)∧K x (x - y).toNat (-1)):=rfl
noncomputable def kLr (Q:QV) (H:MH) (a:Int) (n:Nat) (c:Int):Prop:=Q (.ref H.length) (H++[.list ((cS a n c).map .int)])
@[simp] private theorem k_lr {Q:QV} {a c:Int}:kLr Q H a n c = Q (.ref H.length) (H++[.list ((cS a n c).map .int)]):=rfl
noncomputable def ut (Q:QV):QL:=λvs H'=>fA vs (kLr Q H')
@[simp] private theorem s_lrange {T:EsT} {Q:QV}:dq T L H Q = T L H (ut Q):=rfl
@[simp] private theorem k_lrange {Q:QV}:ut Q vs H = fA vs (kLr Q H):=rfl
private theorem bb {a:AT} {b:ST} {Q:QS} {X:It} (I:IN) (h0:I 0 L H) (ok:∀ j L H,I j L H→X.ok H) (step:∀ j m L H,X.at j = some m→I j L H→a m L H (we b I j Q)) (fin:∀ L H,I X.size L H→Q .next L H):rL a b L Q X H:=by
 refine ⟨I,h0,ok,λj m L H e h=>?_,fin⟩
 have:=step j m L H e h
 have e:we b I j Q = λL' H'=>b L' H' λfl L'' H''=>match fl with
  | .next=>I (j + 1) L'' H''
  | .cont=>I (j + 1) L'' H''
  | .brk=>Q .next L'' H''
  | .ret v=>Q (.ret v) L'' H'':=by
  funext L' H';rfl
 rw [e] at this;exact this
noncomputable abbrev IC:=Nat→List MV→Loc→MH→Prop
noncomputable def kCe (I:IC) (j:Nat) (acc:List MV) (L:Loc):QV:=λv H=>I (j + 1) (acc++[v]) L H
@[simp] private theorem k_ce {I:IC} {j:Nat} {acc:List MV}:kCe I j acc L v H = I (j + 1) (acc++[v]) L H:=rfl
noncomputable def kCt (e:ET) (I:IC) (j:Nat) (acc:List MV) (L:Loc):QB:=λc H=>ifV c (th3 e L H (kCe I j acc L)) (th3 (I (j + 1)) acc L H)
@[simp] private theorem k_ct {e:ET} {I:IC} {j:Nat} {acc:List MV}:kCt e I j acc L c H = ifV c (th3 e L H (kCe I j acc L)) (th3 (I (j + 1)) acc L H):=rfl
noncomputable def kCa (t:BoT) (e:ET) (I:IC) (j:Nat) (acc:List MV):QA:=λL H=>t L H (kCt e I j acc L)
@[simp] private theorem k_ca {t:BoT} {e:ET} {I:IC} {j:Nat} {acc:List MV}:kCa t e I j acc L H = t L H (kCt e I j acc L):=rfl
noncomputable def ub (a:AT) (t:BoT) (e:ET) (Lc:Loc) (Q:QV) (X:It) (H0:MH):Prop:=∃ I:IC,I 0 [] Lc H0 ∧
 (∀ j acc Lc H,I j acc Lc H→X.ok H∧acc.length≤500000) ∧
 (∀ j m acc Lc H,X.at j = some m→I j acc Lc H→a m Lc H λL' H'=>t L' H' λc H''=>if c then e L' H'' λv H'''=>I (j + 1) (acc++[v]) L' H''' else I (j + 1) acc L' H'') ∧
 ∀ acc Lc H,I X.size acc Lc H→Q (.ref H.length) (H++[.list acc])
@[simp] private theorem s_comp {it:IT} {a:AT} {t:BoT} {e:ET} {cap:List Nat} {Q:QV}:cE it a t e n cap L H Q = it L H (ub a t e (ql L n cap) Q):=rfl
@[simp] private theorem cap0:ql L 1 [] = [none]:=rfl
@[simp] private theorem cap1:ql L 1 [i] = [none,(L[i]?).join]:=rfl
private theorem bX {a:AT} {t:BoT} {e:ET} {Q:QV} {X:It} (I:IC) (h0:I 0 [] L H) (ok:∀ j acc L H,I j acc L H→X.ok H∧acc.length≤500000)
  (step:∀ j m acc L H,X.at j = some m→I j acc L H→a m L H (kCa t e I j acc)) (fin:∀ acc L H,I X.size acc L H→Q (.ref H.length) (H++[.list acc])):ub a t e L Q X H:=by
 refine ⟨I,h0,ok,λj m acc L H e' h=>?_,fin⟩
 have:=step j m acc L H e' h
 have e:kCa t e I j acc = λL' H'=>t L' H' λc H''=>if c then e L' H'' λv H'''=>I (j + 1) (acc++[v]) L' H''' else I (j + 1) acc L' H'':=by
  funext L' H';unfold kCa;congr 1;funext c H'';cases c <;> rfl
 rw [e] at this;exact this
noncomputable def kWb (I:IN) (n:Nat) (Q:QS):QS:=λfl L H=>match fl with
 | .next=>∃ m,m < n∧I m L H
 | .cont=>∃ m,m < n∧I m L H
 | .brk=>Q .next L H
 | .ret v=>Q (.ret v) L H
@[simp] private theorem k_wb0 {I:IN} {Q:QS}:kWb I n Q .next L H = ∃ m,m < n∧I m L H:=rfl
@[simp] private theorem k_wb1 {I:IN} {Q:QS}:kWb I n Q .cont L H = ∃ m,m < n∧I m L H:=rfl
@[simp] private theorem k_wb2 {I:IN} {Q:QS}:kWb I n Q .brk L H = Q .next L H:=rfl
@[simp] private theorem k_wb3 {I:IN} {Q:QS}:kWb I n Q (.ret v) L H = Q (.ret v) L H:=rfl
noncomputable def kWh (b:ST) (I:IN) (n:Nat) (L:Loc) (Q:QS):QB:=λc H=>ifV c (th3 b L H (kWb I n Q)) (th3 Q .next L H)
@[simp] private theorem k_wh {b:ST} {I:IN} {Q:QS}:kWh b I n L Q c H = ifV c (th3 b L H (kWb I n Q)) (th3 Q .next L H):=rfl
private theorem dX {t:BoT} {b:ST} {Q:QS} (I:IN) (n:Nat) (h0:I n L H) (step:∀ n L H,I n L H→t L H (kWh b I n L Q)):gD t b L H Q:=by
 refine ⟨I,n,h0,λn L H h=>?_⟩
 have:=step n L H h
 have e1:kWb I n Q = λfl L' H''=>match fl with
  | .next=>∃ m,m < n∧I m L' H''
  | .cont=>∃ m,m < n∧I m L' H''
  | .brk=>Q .next L' H''
  | .ret v=>Q (.ret v) L' H'':=by funext fl L' H'';cases fl <;> rfl
 have e:kWh b I n L Q = λc H'=>if c then b L H' λfl L' H''=>match fl with
  | .next=>∃ m,m < n∧I m L' H''
  | .cont=>∃ m,m < n∧I m L' H''
  | .brk=>Q .next L' H''
  | .ret v=>Q (.ret v) L' H''
 else Q .next L H':=by
  funext c H';cases c
  ·rfl
  ·unfold kWh;rw [e1];rfl
 rw [e] at this;exact this
noncomputable def Ad (Q:QV) (H:MH):List MV→Prop:=λl=>Q (.int l.length) H
@[simp] private theorem k_len {Q:QV}:Ad Q H l = Q (.int l.length) H:=rfl
@[simp] private theorem s_lenT {Q:QV}:gb [.tup l] H Q = Q (.int l.length) H:=rfl
@[simp] private theorem s_lenR {Q:QV}:gb [.ref i] H Q = dO H[i]? (Ad Q H):=rfl
noncomputable def kFl (Q:QV) (H:MH):List MV→Prop:=λl=>l.length≤1000000∧Q (.ref H.length) (H++[.list l])
@[simp] private theorem k_fl {Q:QV}:kFl Q H l = (l.length≤1000000∧Q (.ref H.length) (H++[.list l])):=rfl
@[simp] private theorem s_flist {Q:QV}:jY [.ref i] H Q = dO H[i]? (kFl Q H):=rfl
noncomputable def Am (i:Nat) (v:MV) (Q:QV) (H:MH):List MV→Prop:=λl=>l.length≤1000000∧Q .none (H.set i (.list (l++[v])))
@[simp] private theorem k_app {Q:QV}:Am i v Q H l = (l.length≤1000000∧Q .none (H.set i (.list (l++[v])))):=rfl
@[simp] private theorem s_append {Q:QV}:b7 [.ref i,v] H Q = dO H[i]? (Am i v Q H):=rfl
private theorem mT {Q:QV} (h:H[i]? = some (.list (l++[v]))) (hl:l.length < 1000000) (q:Q v (H.set i (.list l))):rO [.ref i] H Q:=by
 show dO H[i]? _
 rw [h]
 exact ⟨by rw [List.length_append];exact hl,v,l,rfl,q⟩
private theorem ly {Q:QV} {ns:List Int} (h:H[i]? = some (.list (ns.map .int))) (hl:ns.length < 64) (q:∀ ns',jT ns ns'→Q (.ref H.length) (H++[.list (ns'.map .int)])):gK [.ref i] H Q:=by
 show zl H[i]? H Q
 rw [h]
 exact ⟨ns,rfl,hl,q⟩
private theorem qO {Q:QV} {d:List (Int×Int)} (h:H[i]? = some (.dict d)) (hl:d.length < 64) (q:∀ ns',jT (d.map (·.1)) ns'→Q (.ref H.length) (H++[.list (ns'.map .int)])):gK [.ref i] H Q:=by
 show zl H[i]? H Q
 rw [h]
 exact ⟨hl,q⟩
private theorem w9 {Q:QV} {bs:List Bool} (h:H[i]? = some (.list (bs.map .bool))) (q:Q (.bool (bs.any id)) H):yg [.ref i] H Q:=by
 show dO H[i]? _
 rw [h]
 exact ⟨bs,rfl,q⟩
private theorem pO {Q:QV} {le:Int→Int→Prop} {ns:List Int} (h:H[i]? = some (.list (ns.map .int))) (hl:ns≠[]) (q:∀ m∈ns,(∀ x∈ns,le m x)→Q (.int m) H):so le [.ref i] H Q:=by
 show dO H[i]? _
 rw [h]
 exact ⟨ns,rfl,hl,q⟩
private theorem nG {Q:QV} {ns:List Int} (h:H[i]? = some (.list (ns.map .int))) (q:Q (.int (ns.countP (· == x))) H):qt [.ref i,.int x] H Q:=by
 show dO H[i]? _
 rw [h]
 exact ⟨ns,rfl,q⟩
@[simp] private theorem gtV_some:gtV (some x) v = .int x:=rfl
@[simp] private theorem gtV_none:gtV none v = v:=rfl
@[simp] private theorem gtO_dict {d:List (Int×Int)} {Q:QV}:gtO (some (.dict d)) x v Q H = Q (gtV (d.lookup x) v) H:=rfl
@[simp] private theorem s_get {Q:QV}:rH [.ref i,.int x,v] H Q = gtO H[i]? x v Q H:=rfl
@[simp] private theorem adO_set {l:List Int} {Q:QV}:adO (some (.set l)) i x Q H = (l.length≤1000∧Q .none (H.set i (.set (fh x l)))):=rfl
@[simp] private theorem adO_full {Q:QV}:adO (some .full) i x Q H = ((0≤x∧x < 4)∧Q .none H):=rfl
@[simp] private theorem s_fadd {Q:QV}:oj [.ref i,.int x] H Q = adO H[i]? i x Q H:=rfl
@[simp] private theorem s_set0 {Q:QV}:vR [] H Q = Q (.ref H.length) (H++[.set []]):=by
 refine c6 rfl
noncomputable def yI (Q:QV):QV:=λv H'=>match v with | .int x=>Q (.ref H'.length) (H'++[.set [x]]) | _=>False
@[simp] private theorem s_set1 {e:ET} {Q:QV}:t5 e L H Q = e L H (yI Q):=rfl
@[simp] private theorem k_set1 {Q:QV}:yI Q (.int x) H = Q (.ref H.length) (H++[.set [x]]):=rfl
@[simp] private theorem s_setL {Q:QV}:wz [.ref i] H Q = (H[i]? = some (.list [.int 0,.int 1,.int 2,.int 3])∧Q (.ref H.length) (H++[.full])):=rfl
@[simp] private theorem s_setF {Q:QV}:nO [.ref i] H Q = (H[i]? = some .full∧Q (.ref H.length) (H++[.full])):=rfl
@[simp] private theorem s_fstr {Q:QV}:yb [.int x] H Q = ((0≤x∧x < 100)∧Q (.text 102) H):=rfl
noncomputable def kRv (Q:QV) (H:MH):List MV→Prop:=λl=>l.length≤1000000∧Q (.ref H.length) (H++[.list l.reverse])
@[simp] private theorem k_rv {Q:QV}:kRv Q H l = (l.length≤1000000∧Q (.ref H.length) (H++[.list l.reverse])):=rfl
noncomputable def Ae (Q:QV):QV:=λv H'=>match v with | .ref i=>dO H'[i]? (kRv Q H') | _=>False
@[simp] private theorem s_rev {e:ET} {Q:QV}:yh e L H Q = e L H (Ae Q):=rfl
@[simp] private theorem k_rev {Q:QV}:Ae Q (.ref i) H = dO H[i]? (kRv Q H):=rfl
noncomputable def zT (n:Nat) (Q:QV):QV:=λv H'=>v = .none∧Q (.ref n) H'
@[simp] private theorem k_new {Q:QV}:zT n Q v H = (v = .none∧Q (.ref n) H):=rfl
@[simp] private theorem l0 {c:Nat} {F:FT} {Q:QV}:mB c F vs H Q = F (.ref H.length :: vs) (H++[.inst c []]) (zT H.length Q):=rfl
end
section
inductive LI (H:MH) (F:Option MV→Loc):Loc→MH→Prop
 | mk (u:Option MV):LI H F (F u) H
inductive LXI (H:MH) (F:MH→Option MV→Loc):Loc→MH→Prop
 | mk (X:MH) (u:Option MV):LXI H F (F X u) (H++X)
private theorem LXI.nil {H:MH} {F:MH→Option MV→Loc} (u:Option MV):LXI H F (F [] u) H:=by
 have:=LXI.mk (H:=H) (F:=F) [] u
 rwa [List.append_nil] at this
inductive CI (H:MH) (A:Nat→List MV) (n:Nat) (F:Option MV→Loc) (j:Nat):List MV→Loc→MH→Prop
 | mk (u:Option MV) (le:j≤n):CI H A n F j (A j) (F u) H
end
end Mine
end
section
namespace Mine
open Classical
@[simp] private theorem cast_eq {a b:Nat}:((a:Int) = (b:Int)) = (a = b):=propext ⟨λh=>Int.ofNat.inj h,λh=>congrArg _ h⟩
@[simp] private theorem vv {a b:Nat}:((a:Int) == (b:Int)) = (a == b):=by rw [Bool.eq_iff_iff,beq_iff_eq,beq_iff_eq,cast_eq]
inductive Opd where
 | reg (n:Nat)
 | num (k:Int)
inductive Row where
 | const (d:Nat) (n:Int)
 | copy (d:Nat) (n:Int)
 | call1 (d r:Nat)
 | call2 (r:Nat) (n:Int)
 | sub (d:Nat) (n:Int)
 | store (r:Nat) (vol:Bool)
 | load (d:Nat) (vol:Bool)
inductive PEnd where
 | jump (g:Nat)
 | branch (a:Opd) (t o:Nat)
 | table (a:Opd) (low:Int) (row:List Nat) (o:Nat)
 | give (a:Opd)
structure PBlock where
 rows:List Row
 en:PEnd
noncomputable abbrev aB:=List PBlock
noncomputable def bN (e0:Opd):MV:=Opd.rec (motive:=λU=>MV) (λn=>.tup [.sym 0,.int (n:Nat)]) (λk=>.tup [.sym 1,.int k]) e0
noncomputable def Row.op (e0:Row):Nat:=Row.rec (motive:=λU=>Nat) (λU U=>2) (λU U=>3) (λU U=>4) (λU U=>4) (λU U=>5) (λU U=>6) (λU U=>7) e0
noncomputable def Row.dst (e0:Row):Int:=Row.rec (motive:=λU=>Int) (λd U=>d) (λd U=>d) (λd U=>d) (λU U=>-1) (λd U=>d) (λU U=>-1) (λd U=>d) e0
noncomputable def Row.args (e0:Row):List Opd:=Row.rec (motive:=λU=>List Opd) (λU n=>[.num n]) (λU n=>[.num n]) (λU r=>[.reg r]) (λr n=>[.reg r,.num n]) (λd n=>[.reg d,.num n]) (λr U=>[.num 64,.reg r]) (λU U=>[.num 64]) e0
noncomputable def Row.more (e0:Row):MV:=Row.rec (motive:=λU=>MV) (λU U=>.int 0) (λU U=>.int 0) (λU U=>.sym 12) (λU U=>.sym 12) (λU U=>.int 0) (λU U=>.int 4) (λU U=>.tup [.int 4,.bool false]) e0
noncomputable def Row.vol (e0:Row):Bool:=Row.rec (motive:=λU=>Bool) (λU U=>false) (λU U=>false) (λU U=>false) (λU U=>false) (λU U=>false) (λU v=>v) (λU v=>v) e0
noncomputable def PEnd.op (e0:PEnd):Nat:=PEnd.rec (motive:=λU=>Nat) (λU=>8) (λU U U=>9) (λU U U U=>10) (λU=>11) e0
noncomputable def PEnd.args (e0:PEnd):List Opd:=PEnd.rec (motive:=λU=>List Opd) (λU=>[]) (λa U U=>[a]) (λa U U U=>[a]) (λa=>[a]) e0
noncomputable def PEnd.fol (e0:PEnd):List Nat:=PEnd.rec (motive:=λU=>List Nat) (λg=>[g]) (λU t o=>[t,o]) (λU U row o=>row++[o]) (λU=>[]) e0
noncomputable def aA (l:List Nat):List MV:=l.map λn=>.int (n:Nat)
noncomputable def bc (l:List Int):List MV:=l.map .int
noncomputable def qo:MObj→Bool
 | .list _=>true
 | .inst c _=>c == 0
 | _=>false
noncomputable def Kp (H H':MH):Prop:=∀ (i:Nat) o,H[i]? = some o→qo o = true→H'[i]? = some o
private theorem Kp.refl {H:MH}:Kp H H:=λU U e U=>e
private theorem Kp.trans {H H' H'':MH} (a:Kp H H') (b:Kp H' H''):Kp H H'':=λi o e f=>b i o (a i o e f) f
private theorem Kp.app {H X:MH}:Kp H (H++X):=λU U e U=>Mine.app e X
private theorem Kp.set {H:MH} {i:Nat} {o p:MObj} (e:H[i]? = some p) (f:qo p = false):Kp H (H.set i o):=λj q e' f'=>by
 by_cases h:i = j
 ·subst h;rw [e] at e';cases e';rw [f] at f';cases f'
 ·exact aJ e' h
noncomputable def All2 {α β:Type} (R:α→β→Prop) (l:List α) (m:List β):Prop:=l.length = m.length∧∀ (i:Nat) x y,l[i]? = some x→m[i]? = some y→R x y
private theorem All2.mono {α β:Type} {R S:α→β→Prop} {l:List α} {m:List β} (h:All2 R l m) (k:∀ x y,R x y→S x y):All2 S l m:=⟨h.1,λi x y a b=>k x y (h.2 i x y a b)⟩
private theorem All2.get {α β:Type} {R:α→β→Prop} {l:List α} {m:List β} {i:Nat} {x:α} (h:All2 R l m) (e:l[i]? = some x):∃ y,m[i]? = some y∧R x y:=by
 have hi:i < m.length:=by rw [← h.1];exact (List.getElem?_eq_some_iff.mp e).1
 exact ⟨m[i],List.getElem?_eq_getElem hi,h.2 i x _ e (List.getElem?_eq_getElem hi)⟩
private theorem All2.get' {α β:Type} {R:α→β→Prop} {l:List α} {m:List β} {i:Nat} {y:β} (h:All2 R l m) (e:m[i]? = some y):∃ x,l[i]? = some x∧R x y:=by
 have hi:i < l.length:=by rw [h.1];exact (List.getElem?_eq_some_iff.mp e).1
 exact ⟨l[i],List.getElem?_eq_getElem hi,h.2 i _ y (List.getElem?_eq_getElem hi) e⟩
private theorem All2.nil {α β:Type} {R:α→β→Prop}:All2 R [] []:=⟨rfl,λi x y a=>by simp at a⟩
private theorem All2.append {α β:Type} {R:α→β→Prop} {l l':List α} {m m':List β} (h:All2 R l m) (h':All2 R l' m'):All2 R (l++l') (m++m'):=by
 refine ⟨by rw [List.length_append,List.length_append,h.1,h'.1],λi x y a b=>?_⟩
 by_cases hi:i < l.length
 ·rw [List.getElem?_append_left hi] at a
  rw [List.getElem?_append_left (h.1 ▸ hi)] at b
  exact h.2 i x y a b
 ·rw [List.getElem?_append_right (Nat.le_of_not_lt hi)] at a
  rw [List.getElem?_append_right (h.1 ▸ Nat.le_of_not_lt hi),← h.1] at b
  exact h'.2 _ x y a b
private theorem All2.one {α β:Type} {R:α→β→Prop} {x:α} {y:β} (h:R x y):All2 R [x] [y]:=by
 refine ⟨rfl,λi u v a b=>?_⟩
 cases i with
 | zero=>cases a;cases b;exact h
 | succ i=>simp at a
private theorem All2.cons {α β:Type} {R:α→β→Prop} {x:α} {y:β} {l:List α} {m:List β} (h:R x y) (h':All2 R l m):All2 R (x :: l) (y :: m):=All2.append (All2.one h) h'
private theorem All2.reverse {α β:Type} {R:α→β→Prop} {l:List α} {m:List β} (h:All2 R l m):All2 R l.reverse m.reverse:=by
 refine ⟨by rw [List.length_reverse,List.length_reverse,h.1],λi x y a b=>?_⟩
 have hi:i < l.length:=by have:=(List.getElem?_eq_some_iff.mp a).1;rwa [List.length_reverse] at this
 rw [List.getElem?_reverse hi] at a
 rw [List.getElem?_reverse (h.1 ▸ hi),← h.1] at b
 exact h.2 _ x y a b
private theorem All2.set {α β:Type} {R:α→β→Prop} {l:List α} {m:List β} {i:Nat} {x:α} {y:β} (h:All2 R l m) (r:R x y):All2 R (l.set i x) (m.set i y):=by
 refine ⟨by rw [List.length_set,List.length_set,h.1],λj u v a b=>?_⟩
 by_cases e:i = j
 ·subst e
  by_cases hi:i < l.length
  ·rw [List.getElem?_set_self hi] at a
   rw [List.getElem?_set_self (h.1 ▸ hi)] at b
   cases a;cases b;exact r
  ·rw [List.getElem?_eq_none (by rw [List.length_set];exact Nat.le_of_not_lt ‹_›)] at a;cases a
 ·rw [List.getElem?_set_ne e] at a b
  exact h.2 j u v a b
inductive IsStep (H:MH) (v:MV) (r:Row):Prop where
 | mk (i a:Nat) (ln:Int) (e:v = .ref i) (h1:H[i]? = some (stp r.op r.dst a r.more r.vol ln)) (h2:H[a]? = some (.list (r.args.map bN)))
inductive IsRow (H:MH) (v:MV) (r:Row):Prop where
 | mk (a:Nat) (e:v = .tup [.sym r.op,.int r.dst,.ref a,r.more,.bool r.vol]) (h:H[a]? = some (.list (r.args.map bN)))
noncomputable def IsMore (H:MH):PEnd→MV→Prop
 | .jump g,m=>m = .int (g:Nat)
 | .branch _ t o,m=>m = .tup [.int (t:Nat),.int (o:Nat)]
 | .table _ low row o,m=>∃ r,m = .tup [.int low,.ref r,.int (o:Nat)]∧H[r]? = some (.list (aA row))∧row.length≤100
 | .give _,m=>m = .int 0
inductive IsEnd (H:MH) (i:Nat) (e:PEnd):Prop where
 | mk (a:Nat) (m:MV) (ln:Int) (h1:H[i]? = some (stp e.op (-1) a m false ln)) (h2:H[a]? = some (.list (e.args.map bN))) (h3:IsMore H e m)
inductive IsEndT (H:MH) (v:MV) (e:PEnd):Prop where
 | mk (a:Nat) (m:MV) (h1:v = .tup [.sym e.op,.ref a,m]) (h2:H[a]? = some (.list (e.args.map bN))) (h3:IsMore H e m)
inductive IsRows (H:MH) (v:MV) (rs:List Row):Prop where
 | mk (a:Nat) (vs:List MV) (e:v = .ref a) (h1:H[a]? = some (.list vs)) (h2:All2 (IsRow H) vs rs)
inductive IsPl (H:MH) (v:MV) (p:PBlock):Prop where
 | mk (vr ve:MV) (e:v = .tup [vr,ve]) (h1:IsRows H vr p.rows) (h2:IsEndT H ve p.en)
inductive IsPlaced (H:MH) (v:MV) (c:aB):Prop where
 | mk (a:Nat) (vs:List MV) (e:v = .ref a) (h1:H[a]? = some (.list vs)) (h2:All2 (IsPl H) vs c)
inductive IsBlock (H:MH) (b:Nat) (n:Nat) (p:PBlock):Prop where
 | mk (st e:Nat) (vs:List MV) (h1:H[b]? = some (blk n st e)) (h2:H[st]? = some (.list vs)) (h3:All2 (IsStep H) vs p.rows) (h4:IsEnd H e p.en)
structure CodeAt (H:MH) (f ps sl bl:Nat) (bs:List Nat) (c:aB):Prop where
 fn:H[f]? = some (fnc ps sl bl)
 ps:H[ps]? = some (.list [.int 0,.int 1,.int 2,.int 3])
 sl:H[sl]? = some (.list [])
 bl:H[bl]? = some (.list (bs.map .ref))
 nd:bs.Nodup
 all:bs.length = c.length
 blk:∀ (i:Nat) b p,bs[i]? = some b→c[i]? = some p→IsBlock H b i p
section
variable {H H':MH}
private theorem IsStep.kp (z:Kp H H') {v:MV} {s:Row} (h:IsStep H v s):IsStep H' v s:=by
 obtain ⟨i,a,ln,e,h1,h2⟩:=h
 exact ⟨i,a,ln,e,z _ _ h1 rfl,z _ _ h2 rfl⟩
private theorem IsRow.kp (z:Kp H H') {v:MV} {s:Row} (h:IsRow H v s):IsRow H' v s:=by
 obtain ⟨a,e,h2⟩:=h
 exact ⟨a,e,z _ _ h2 rfl⟩
private theorem IsMore.kp (z:Kp H H') {e:PEnd} {m:MV} (h:IsMore H e m):IsMore H' e m:=by
 cases e with
 | table x low row o=>obtain ⟨r,h1,h2,h3⟩:=h;exact ⟨r,h1,z _ _ h2 rfl,h3⟩
 | _=>exact h
private theorem IsEnd.kp (z:Kp H H') {i:Nat} {e:PEnd} (h:IsEnd H i e):IsEnd H' i e:=by
 obtain ⟨a,m,ln,h1,h2,h3⟩:=h
 exact ⟨a,m,ln,z _ _ h1 rfl,z _ _ h2 rfl,h3.kp z⟩
private theorem IsEndT.kp (z:Kp H H') {v:MV} {e:PEnd} (h:IsEndT H v e):IsEndT H' v e:=by
 obtain ⟨a,m,h1,h2,h3⟩:=h
 exact ⟨a,m,h1,z _ _ h2 rfl,h3.kp z⟩
private theorem IsRows.kp (z:Kp H H') {v:MV} {rs:List Row} (h:IsRows H v rs):IsRows H' v rs:=by
 obtain ⟨a,vs,h1,h2,h3⟩:=h
 exact ⟨a,vs,h1,z _ _ h2 rfl,h3.mono λU U=>IsRow.kp z⟩
private theorem IsPl.kp (z:Kp H H') {v:MV} {p:PBlock} (h:IsPl H v p):IsPl H' v p:=by
 obtain ⟨a,b,h1,h2,h3⟩:=h
 exact ⟨a,b,h1,h2.kp z,h3.kp z⟩
private theorem IsPlaced.kp (z:Kp H H') {v:MV} {c:aB} (h:IsPlaced H v c):IsPlaced H' v c:=by
 obtain ⟨a,vs,h1,h2,h3⟩:=h
 exact ⟨a,vs,h1,z _ _ h2 rfl,h3.mono λU U=>IsPl.kp z⟩
private theorem IsBlock.kp (z:Kp H H') {b n:Nat} {p:PBlock} (hb:∀ o,H[b]? = some o→H'[b]? = some o) (h:IsBlock H b n p):IsBlock H' b n p:=by
 obtain ⟨st,e,vs,h1,h2,h3,h4⟩:=h
 exact ⟨st,e,vs,hb _ h1,z _ _ h2 rfl,h3.mono λU U=>IsStep.kp z,h4.kp z⟩
private theorem IsBlock.app (X:MH) {b n:Nat} {p:PBlock} (h:IsBlock H b n p):IsBlock (H++X) b n p:=h.kp .app λU e=>Mine.app e X
private theorem CodeAt.kp (z:Kp H H') {f ps sl bl:Nat} {bs:List Nat} {c:aB} (h:CodeAt H f ps sl bl bs c) (hf:H'[f]? = some (fnc ps sl bl)) (hb:∀ b∈bs,∀ o,H[b]? = some o→H'[b]? = some o):CodeAt H' f ps sl bl bs c :=
 ⟨hf,z _ _ h.ps rfl,z _ _ h.sl rfl,z _ _ h.bl rfl,h.nd,h.all,λi b p e e'=>(h.blk i b p e e').kp z (hb b (List.mem_of_getElem? e))⟩
private theorem CodeAt.app (X:MH) {f ps sl bl:Nat} {bs:List Nat} {c:aB} (h:CodeAt H f ps sl bl bs c):CodeAt (H++X) f ps sl bl bs c:=h.kp .app (Mine.app h.fn X) λU U U e=>Mine.app e X
private theorem CodeAt.get {f ps sl bl:Nat} {bs:List Nat} {c:aB} (h:CodeAt H f ps sl bl bs c) {i:Nat} {p:PBlock} (e:c[i]? = some p):∃ b,bs[i]? = some b∧IsBlock H b i p:=by
 have hi:i < bs.length:=by rw [h.all];exact (List.getElem?_eq_some_iff.mp e).1
 exact ⟨bs[i],List.getElem?_eq_getElem hi,h.blk _ _ _ (List.getElem?_eq_getElem hi) e⟩
private theorem CodeAt.gets {f ps sl bl:Nat} {bs:List Nat} {c:aB} (h:CodeAt H f ps sl bl bs c) {i b:Nat} (e:bs[i]? = some b):∃ p,c[i]? = some p∧IsBlock H b i p:=by
 have hi:i < c.length:=by rw [← h.all];exact (List.getElem?_eq_some_iff.mp e).1
 exact ⟨c[i],List.getElem?_eq_getElem hi,h.blk _ _ _ e (List.getElem?_eq_getElem hi)⟩
private theorem CodeAt.setO {f ps sl bl:Nat} {bs:List Nat} {c:aB} (h:CodeAt H f ps sl bl bs c) {g:Nat} {o p:MObj} (e:H[g]? = some o) (hf:qo o = false) (hi:∀ k fs,o≠.inst k fs):CodeAt (H.set g p) f ps sl bl bs c:=by
 refine h.kp (.set e hf) (aJ h.fn λq=>?_) λb hb o' e'=>aJ e' λq=>?_
 ·subst q;rw [h.fn] at e;cases e;exact hi _ _ rfl
 ·subst q
  obtain ⟨i,hi'⟩:=List.mem_iff_getElem?.mp hb
  obtain ⟨_,_,_,_,_,h1,_⟩:=h.gets hi'
  rw [h1] at e;cases e;exact hi _ _ rfl
private theorem CodeAt.setB {f ps sl bl:Nat} {bs:List Nat} {c:aB} (h:CodeAt H f ps sl bl bs c) {i b:Nat} {p:PBlock} {st e:Nat} {vs:List MV} (eb:bs[i]? = some b)
  (h1:H[st]? = some (.list vs)) (h2:All2 (IsStep H) vs p.rows) (h3:IsEnd H e p.en):Kp H (H.set b (Mine.blk i st e))∧CodeAt (H.set b (Mine.blk i st e)) f ps sl bl bs (c.set i p):=by
 obtain ⟨p0,e0,st0,e1,vs0,g1,_⟩:=h.gets eb
 have z:Kp H (H.set b (Mine.blk i st e)):=.set g1 rfl
 refine ⟨z,aJ h.fn λq=>?_,z _ _ h.ps rfl,z _ _ h.sl rfl,z _ _ h.bl rfl,h.nd,by rw [List.length_set];exact h.all,λj b' p' a d=>?_⟩
 ·subst q;rw [h.fn] at g1;cases g1
 ·by_cases hij:i = j
  ·subst hij
   rw [eb] at a;cases a
   have hi:i < c.length:=(List.getElem?_eq_some_iff.mp e0).1
   rw [List.getElem?_set_self hi] at d;cases d
   exact ⟨st,e,vs,eV g1,z _ _ h1 rfl,h2.mono λU U=>IsStep.kp z,h3.kp z⟩
  ·rw [List.getElem?_set_ne hij] at d
   refine (h.blk j b' p' a d).kp z λo ho=>aJ ho λq=>hij ?_
   subst q
   exact (List.getElem?_inj (List.getElem?_eq_some_iff.mp eb).1 h.nd).mp (eb.trans a.symm)
end
end Mine
end
section
namespace Mine
open Classical
section
variable {hB:Heap} {H:MH}
private theorem zB {e:PEnd} {m:MV} {a i b n st:Nat} {l:Int} {Q:QV} (hb:H[b]? = some (blk n st i)) (h1:H[i]? = some (stp e.op (-1) a m false l))
  (h3:IsMore H e m) (q:∀ X,Q (.ref (H.length + X.length)) (H++(X++[.list (aA e.fol)]))):bE hB [.ref b] H Q:=by
 refine fn rfl [some (.ref b),none] rfl ?_
 cases e with
 | jump g =>
  obtain rfl:=h3
  simpa [eD,hb,h1,aA,PEnd.fol,PEnd.op] using q []
 | branch x t o =>
  obtain rfl:=h3
  simpa [eD,hb,h1,aA,PEnd.fol,PEnd.op] using q []
 | table x low row o =>
  obtain ⟨r,rfl,h3,h4⟩:=h3
  have:=q [.list (aA row),.list [.int o]]
  have hl:(aA row).length = row.length:=by simp [aA]
  simp [eD,hb,h1,app h1,PEnd.op,h3,hl]
  refine ⟨by exact Nat.le_trans ‹_› (by decide),by exact Nat.le_trans ‹_› (by decide),?_⟩
  simpa [aA,PEnd.fol] using this
 | give x =>
  simpa [eD,hb,h1,aA,PEnd.fol,PEnd.op] using q []
private theorem gA {b n:Nat} {p:PBlock} {Q:QV} (hb:IsBlock H b n p) (q:∀ X,Q (.ref (H.length + X.length)) (H++(X++[.list (aA p.en.fol)]))):bE hB [.ref b] H Q:=by
 obtain ⟨st,e,vs,h1,h2,h3,a,m,ln,g1,g2,g3⟩:=hb
 exact zB h1 g1 g3 q
private theorem q9 {op a:Nat} {dst:Int} {more:MV} {Q:QV} (q:Q (.ref H.length) (H++[stp op dst a more false 0])):mB 0 (eB hB) [.sym op,.int dst,.ref a,more] H Q:=by
 refine fn rfl [some (.ref H.length),some (.sym op),some (.int dst),some (.ref a),some more] rfl ?_
 simpa [lH,stp] using q
private theorem dL {i op a o0 a0:Nat} {dst d0:Int} {m0 more:MV} {v0:Bool} {ln:Int} {Q:QV} (hi:H[i]? = some (stp o0 d0 a0 m0 v0 ln))
  (q:Q (.ref H.length) (H++[stp op dst a more false ln])):cw hB [.ref i,.sym op,.int dst,.ref a,more] H Q:=by
 refine fn rfl [some (.ref i),some (.sym op),some (.int dst),some (.ref a),some more,none] rfl ?_
 simp [iQ,-l0]
 refine q9 ?_
 simpa [app hi] using q
end
end Mine
end
section
namespace Mine
open Classical
noncomputable def PEnd.led (f:Nat→Nat) (e0:PEnd):PEnd:=PEnd.rec (motive:=λU=>PEnd) (λg=>.jump (f g)) (λx t o=>.branch x (f t) (f o)) (λx low row o=>.table x low (row.map f) (f o)) (λx=>.give x) e0
private theorem oY {α β:Type} {l:List α} {j:Nat} {m:α} (f:α→β) (h:l[j]? = some m):(l.map f).take (j + 1) = (l.map f).take j++[f m]:=by
 rw [List.take_add_one,List.getElem?_map,h];rfl
private theorem co {l:List Nat} {j:Nat} {m:MV} (h:(aA l)[j]? = some m):∃ g,l[j]? = some g∧m = .int (g:Nat):=by
 unfold aA at h
 rw [List.getElem?_map] at h
 obtain ⟨g,h1,h2⟩:=Option.map_eq_some_iff.mp h
 exact ⟨g,h1,h2.symm⟩
@[simp] private theorem iz {l:List Nat}:(aA l).length = l.length:=by simp [aA]
private theorem tW {l:List Nat} {j g:Nat} (h:l[j]? = some g):aA (l.take (j + 1)) = aA (l.take j)++[.int (g:Nat)]:=by
 rw [List.take_add_one,h,aA,aA,List.map_append];rfl
private theorem cA {α:Type} {l:List α} {n:Nat} (h:n = l.length):l.take n = l:=List.take_of_length_le (Nat.le_of_eq h.symm)
section
variable {hB:Heap} {H:MH}
private theorem nh {i d:Nat} {D:List (Int×Int)} {e:PEnd} {f:Nat→Nat} {Q:QV} (hd:H[d]? = some (.dict D)) (hf:∀ g:Nat,gtV (D.lookup (g:Int)) (.int (g:Nat)) = .int (f g:Nat)) (he:IsEnd H i e)
  (q:∀ X j,IsEnd (H++X) j (e.led f)→Q (.ref j) (H++X)):f8 hB [.ref i,.ref d] H Q:=by
 refine fn rfl [some (.ref i),some (.ref d),none,none,none,none,none] rfl ?_
 obtain ⟨a,m,ln,h1,h2,h3⟩:=he
 cases e with
 | jump g =>
  obtain rfl:=h3
  simp [gc,h1,app h1,hd,app hd,PEnd.op,hf]
  refine dL (app h1 _) ?_
  have:=q [.list [],stp 8 (-1) H.length (.int (f g:Nat)) false ln] (H.length + 1) ⟨H.length,_,ln,by simp [PEnd.led,PEnd.op],by simp [PEnd.led,PEnd.args],rfl⟩
  simpa using this
 | branch x t o =>
  obtain rfl:=h3
  simp [gc,h1,app h1,hd,app hd,PEnd.op,hf]
  refine dL h1 ?_
  exact q [_] _ ⟨a,_,ln,by simp [PEnd.led,PEnd.op],app h2 _,rfl⟩
 | table x low row o =>
  obtain ⟨r,rfl,h3,h4⟩:=h3
  simp [gc,h1,app h1,hd,app hd,PEnd.op,hf,h3]
  refine bX (CI H (λj=>aA ((row.map f).take j)) row.length λu=>[u,some (.ref d)]) (.mk _ (Nat.zero_le _)) ?_ ?_ ?_
  ·rintro j _ _ _ ⟨_,hj⟩
   refine ⟨h3,?_⟩
   simp;exact lh (Nat.le_trans ‹_› (by decide))
  ·rintro j m _ _ _ hm ⟨u,hj⟩
   obtain ⟨g,hg,rfl⟩:=co (l:=row) (j:=j) hm
   have hlt:=(List.getElem?_eq_some_iff.mp hg).1
   simp [hd,hf]
   have:=CI.mk (H:=H) (A:=λj=>aA ((row.map f).take j)) (n:=row.length) (F:=λu=>[u,some (.ref d)]) (j:=j + 1) (some (.int (g:Nat))) hlt
   rwa [show aA ((row.map f).take (j + 1)) = aA ((row.map f).take j)++[.int (f g:Nat)] from tW (by simp [hg])] at this
  ·rintro _ _ _ ⟨_,_⟩
   rw [cA (show (It.list r (aA row)).size = (row.map f).length by simp [It.size])]
   simp [h1,app h1,app hd,hf]
   refine dL (app h1 _) ?_
   have:=q [.list (aA (row.map f)),stp 10 (-1) a (.tup [.int low,.ref H.length,.int (f o:Nat)]) false ln] (H.length + 1)
    ⟨a,_,ln,by simp [PEnd.led,PEnd.op],app h2 _,H.length,rfl,by simp,by simpa using h4⟩
   simpa [It.size] using this
 | give x =>
  simp [gc,h1,PEnd.op]
  exact (by simpa using q [] i (by simpa using ⟨a,m,ln,h1,h2,h3⟩))
end
end Mine
end
section
namespace Mine
section
variable {H:MH}
private theorem mU {α:Type} {R:MV→α→Prop} {g:MV→Option DV} {D:α→DV} (h:∀ v x,R v x→g v = some (D x)):∀ {vs:List MV} {l:List α},All2 R vs l→e9 g vs = some (l.map D)
 | [],[],_=>rfl
 | [],_ :: _,e=>by cases e.1
 | _ :: _,[],e=>by cases e.1
 | v :: vs,x :: l,e=>by
  have h0:=h v x (e.2 0 v x rfl rfl)
  have ih:=mU h (vs:=vs) (l:=l) ⟨Nat.succ.inj e.1,λi a b p q=>e.2 (i + 1) a b p q⟩
  rw [cF,h0,ih];rfl
private theorem fO {α:Type} {D:α→DV} (h:∀ x y,eqD (D x) (D y) = true↔x = y):∀ {l m:List α},nR (l.map D) (m.map D) = true↔l = m
 | [],[]=>iff_of_true rfl rfl
 | [],_ :: _=>iff_of_false (λh=>Bool.false_ne_true h) (λh=>by cases h)
 | _ :: _,[]=>iff_of_false (λh=>Bool.false_ne_true h) (λh=>by cases h)
 | x :: l,y :: m=>by
  have ih:=fO h (l:=l) (m:=m)
  rw [List.map_cons,List.map_cons,mN,Bool.and_eq_true,h,ih,List.cons.injEq]
private theorem cC {α:Type} {R:MV→α→Prop} {D:α→DV} {f a:Nat} {vs:List MV} {l:List α} (ha:H[a]? = some (.list vs)) (h:All2 R vs l) (hR:∀ v x,R v x→deep f H v = some (D x)):deep (f + 1) H (.ref a) = some (.lst (l.map D)):=by
 rw [sq,ha];show (e9 _ _).map _ = _;rw [mU hR h];rfl
private theorem kJ {α:Type} {R:MV→α→Prop} {D:α→DV} {a b:Nat} {vs ws:List MV} {l m:List α} (ha:H[a]? = some (.list vs)) (hb:H[b]? = some (.list ws)) (h1:All2 R vs l) (h2:All2 R ws m)
  (hR:∀ v x,R v x→deep 7 H v = some (D x)) (hD:∀ x y,eqD (D x) (D y) = true↔x = y):∃ c,cp H .eq (.ref a) (.ref b) = some c∧(c = true↔l = m):=by
 show ∃ c,eqV H (.ref a) (.ref b) = some c∧_
 rw [pZ,ha,hb]
 show ∃ c,eqL a b vs ws _ = some c∧_
 unfold eqL
 by_cases hc:a≠b∧(vs.isEmpty || ws.isEmpty) = true
 ·rw [if_pos hc]
  refine ⟨_,rfl,?_⟩
  have e1:vs.isEmpty = l.isEmpty:=by cases vs <;> cases l <;> first | rfl | cases h1.1
  have e2:ws.isEmpty = m.isEmpty:=by cases ws <;> cases m <;> first | rfl | cases h2.1
  rw [e1,e2] at hc ⊢
  cases l <;> cases m <;> simp at hc ⊢
 ·rw [if_neg hc,eqX,cC ha h1 hR,cC hb h2 hR]
  exact ⟨_,rfl,fO hD⟩
private theorem dC {α:Type} {V:α→MV} {l:List α}:All2 (λv x=>v = V x) (l.map V) l:=by
 refine ⟨List.length_map _,λi x y a b=>?_⟩
 rw [List.getElem?_map,b] at a
 exact (Option.some.inj a).symm
noncomputable def vC (e0:Opd):DV:=Opd.rec (motive:=λU=>DV) (λn=>.tup [.sym 0,.int (n:Nat)]) (λk=>.tup [.sym 1,.int k]) e0
private theorem lY {f:Nat} (v:MV) (x:Opd) (h:v = bN x):deep (f + 2) H v = some (vC x):=by subst h;cases x <;> rfl
private theorem rd (x y:Opd):eqD (vC x) (vC y) = true↔x = y:=by
 cases x with
 | reg n=>cases y with
  | reg m=>show eqD (.tup [.sym 0,.int _]) (.tup [.sym 0,.int _]) = true↔_;simp [uG,mN,uX,xI,wj]
  | num k=>exact iff_of_false (λh=>Bool.false_ne_true h) (λh=>by cases h)
 | num n=>cases y with
  | num m=>show eqD (.tup [.sym 1,.int _]) (.tup [.sym 1,.int _]) = true↔_;simp [uG,mN,uX,xI,wj]
  | reg k=>exact iff_of_false (λh=>Bool.false_ne_true h) (λh=>by cases h)
private theorem vM {f:Nat} (v:MV) (x:Nat) (h:v = .int (x:Nat)):deep (f + 1) H v = some (.int (x:Nat)):=by subst h;rfl
private theorem xl (x y:Nat):eqD (.int (x:Nat)) (.int (y:Nat)) = true↔x = y:=by simp [uX]
private theorem wR {a b:Nat} {l m:List Opd} (ha:H[a]? = some (.list (l.map bN))) (hb:H[b]? = some (.list (m.map bN))):∃ c,cp H .eq (.ref a) (.ref b) = some c∧(c = true↔l = m) :=
 kJ ha hb dC dC lY rd
noncomputable def PEnd.more (e0:PEnd):Nat×Nat×Int×List Nat:=PEnd.rec (motive:=λU=>Nat×Nat×Int×List Nat) (λg=>(g,0,0,[])) (λU t o=>(t,o,0,[])) (λU low row o=>(0,o,low,row)) (λU=>(0,0,0,[])) e0
private theorem end_eq {e e':PEnd}:e = e'↔e.op = e'.op∧e.args = e'.args∧e.more = e'.more:=by
 refine ⟨λh=>by rw [h];exact ⟨rfl,rfl,rfl⟩,λ⟨ho,ha,hm⟩=>?_⟩
 cases e <;> cases e' <;> first | exact neN ho rfl | (cases hm;cases ha;rfl)
noncomputable def PEnd.moreD (e0:PEnd):DV:=PEnd.rec (motive:=λU=>DV) (λg=>.int (g:Nat)) (λU t o=>.tup [.int (t:Nat),.int (o:Nat)]) (λU low row o=>.tup [.int low,.lst (row.map λn=>.int (n:Nat)),.int (o:Nat)]) (λU=>.int 0) e0
private theorem IsMore.deep {e:PEnd} {m:MV} {f:Nat} (h:IsMore H e m):deep (f + 3) H m = some e.moreD:=by
 cases e with
 | table x low row o =>
  obtain ⟨r,rfl,h1,h2⟩:=h
  have:=cC (f:=f + 1) h1 (dC (V:=λn:Nat=>MV.int (n:Nat))) vM
  rw [eF];simp only [cF,de,this];rfl
 | _=>obtain rfl:=h;rfl
private theorem rA {e e':PEnd} (ho:e.op = e'.op):eqD e.moreD e'.moreD = true↔e.more = e'.more:=by
 have hn:=λl m=>fO xl (l:=l) (m:=m)
 cases e <;> cases e' <;> first | exact neN ho rfl | simp [PEnd.moreD,uG,xL,uX,mN,wj,PEnd.more,hn] <;> exact ⟨λh=>⟨h.2.2,h.1,h.2.1⟩,λh=>⟨h.2.1,h.2.2,h.1⟩⟩
private theorem wp {e e':PEnd} {m m':MV} (h:IsMore H e m) (h':IsMore H e' m') (ho:e.op = e'.op):∃ c,cp H .eq m m' = some c∧(c = true↔e.more = e'.more):=by
 have hx:eqX H m m' = some (eqD e.moreD e'.moreD):=by unfold eqX;rw [h.deep (f:=5),h'.deep (f:=5)];rfl
 have hd:=rA ho
 show ∃ c,eqV H m m' = some c∧_
 cases e <;> cases e' <;> first | exact neN ho rfl | skip
 ·obtain rfl:=h;obtain rfl:=h';exact ⟨_,rfl,hd⟩
 ·obtain rfl:=h;obtain rfl:=h';exact ⟨_,hx,hd⟩
 ·obtain ⟨_,rfl,_⟩:=h;obtain ⟨_,rfl,_⟩:=h';exact ⟨_,hx,hd⟩
 ·obtain rfl:=h;obtain rfl:=h';exact ⟨_,rfl,hd⟩
end
section
variable {hB:Heap} {H:MH}
private theorem sO {i j:Nat} {e e':PEnd} {Q:QV} (he:IsEnd H i e) (he':IsEnd H j e') (q:∀ b,(b = true↔e = e')→Q (.bool b) H):je hB [.ref i,.ref j] H Q:=by
 refine fn rfl [some (.ref i),some (.ref j)] rfl ?_
 obtain ⟨a,m,ln,h1,h2,h3⟩:=he
 obtain ⟨a',m',ln',h1',h2',h3'⟩:=he'
 obtain ⟨c1,hc1,hc1'⟩:=wR h2 h2'
 simp [nP,h1,h1',hc1]
 refine aL (λho=>?_) λho=>?_
 ·rw [beq_iff_eq] at ho
  obtain ⟨c2,hc2,hc2'⟩:=wp h3 h3' ho
  simp [h1,h1',hc1,hc2]
  refine aL (λhc=>?_) λhc=>?_
  ·simp [h1,h1',hc2]
   exact q _ (by rw [end_eq,hc2',← hc1'];simp [ho,hc])
  ·simp
   exact q _ (by rw [end_eq,← hc1',hc];simp)
 ·simp
  rw [ho]
  exact q _ (by rw [end_eq];simp at ho;simp [ho])
end
end Mine
end
section
namespace Mine
noncomputable def Row.kval (e0:Row):Option Int:=Row.rec (motive:=λU=>Option Int) (λU k=>some (k % 4294967296)) (λU k=>some (k % 4294967296)) (λU U=>none) (λU U=>none) (λU U=>none) (λU U=>none) (λU U=>none) e0
noncomputable def kv (rows:List Row):Opd→Option Int
 | .num k=>some (k % 4294967296)
 | .reg n=>match rows.reverse.find? λr=>r.dst == (n:Int) with
  | some r=>r.kval
  | none=>none
noncomputable def su:Option Int→MV
 | some x=>.int x
 | none=>.none
section
variable {hB:Heap} {H:MH}
inductive KVI (H:MH) (b v:Nat) (rows:List Row) (j:Nat):Loc→MH→Prop
 | mk (u:Option MV) (no:∀ i r,i < j→rows.reverse[i]? = some r→r.dst≠v):KVI H b v rows j [some (.ref b),some (bN (.reg v)),some (.sym 0),u,some (.int (v:Nat))] H
private theorem ir {b n st e:Nat} {x:Opd} {vs:List MV} {rows:List Row} {Q:QV} (hb:H[b]? = some (blk n st e)) (hst:H[st]? = some (.list vs)) (hs:All2 (IsStep H) vs rows) (hz:rows.length≤1000)
  (q:∀ X,Q (su (kv rows x)) (H++X)):ee hB [.ref b,bN x] H Q:=by
 refine fn rfl [some (.ref b),some (bN x),none,none,none] rfl ?_
 cases x with
 | num k=>simpa [fE,bN,kv,su] using q []
 | reg v =>
  simp [fE,bN,hb,hst]
  have hvl:=hs.1
  refine ⟨by exact Nat.le_trans (Nat.le_of_eq ‹_›) (Nat.le_trans ‹_› (by decide)),bb (KVI (H++[.list vs.reverse]) b v rows) (.mk _ λi s hi=>absurd hi (Nat.not_lt_zero _)) ?_ ?_ ?_⟩
  ·rintro j _ _ ⟨⟩
   exact cO
  ·rintro j m _ _ hm ⟨u,hno⟩
   obtain ⟨r,hr,i,a,ln,rfl,g1,g2⟩:=hs.reverse.get (show vs.reverse[j]? = some m from hm)
   simp [app g1]
   refine aL (λhd=>?_) λhd=>?_
   ·have hd:r.dst = (v:Int):=by simpa using hd
    have hf:(rows.reverse.find? λs=>s.dst == (v:Int)) = some r:=by
     rw [List.find?_eq_some_iff_getElem]
     have hj:=(List.getElem?_eq_some_iff.mp hr).1
     refine ⟨by simpa using hd,j,hj,(List.getElem?_eq_some_iff.mp hr).2,λi hi=>?_⟩
     have:=hno i (rows.reverse[i]'(by exact Nat.le_trans ‹_› (Nat.le_of_lt ‹_›))) hi (List.getElem?_eq_getElem (by exact Nat.le_trans ‹_› (Nat.le_of_lt ‹_›)))
     simpa using this
    have hq:=q [.list vs.reverse]
    have hk:kv rows (.reg v) = r.kval:=by unfold kv;dsimp only;rw [hf]
    rw [hk] at hq
    cases r <;> simpa [app g1,app g2,Row.op,Row.args,Row.kval,su,bN] using hq
   ·simp
    refine .mk _ λi s hi hs'=>?_
    rcases Nat.lt_succ_iff_lt_or_eq.mp hi with hi | rfl
    ·exact hno i s hi hs'
    ·rw [hr] at hs';cases hs';simpa using hd
  ·rintro _ _ ⟨u,hno⟩
   have hf:(rows.reverse.find? λs=>s.dst == (v:Int)) = none:=by
    rw [List.find?_eq_none]
    intro s hs'
    obtain ⟨i,hi⟩:=List.mem_iff_getElem?.mp hs'
    have hl:i < vs.reverse.length:=by rw [List.length_reverse,hvl,← List.length_reverse];exact (List.getElem?_eq_some_iff.mp hi).1
    simpa using hno i s hl hi
   have hk:kv rows (.reg v) = none:=by unfold kv;dsimp only;rw [hf]
   simpa [hk,su] using q [.list vs.reverse]
noncomputable def stl (rows:List Row) (e0:PEnd):Option Nat:=PEnd.rec (motive:=λU=>Option Nat) (λU=>none)
 (λx t o=>if t = o then some t else (kv rows x).map λv=>if v = 0 then o else t)
 (λx low row o=>if (row.all λg=>g == o) = true then some o else (kv rows x).map λv=>row.getD ((v - low) % 4294967296).toNat o) (λU=>none) e0
private theorem sH {rows:List Row} {x:Opd} {t o:Nat}:stl rows (.branch x t o) = if t = o then some t else (kv rows x).map λv=>if v = 0 then o else t:=rfl
private theorem sT {rows:List Row} {x:Opd} {low:Int} {row:List Nat} {o:Nat}:stl rows (.table x low row o) = if (row.all λg=>g == o) = true then some o else (kv rows x).map λv=>row.getD ((v - low) % 4294967296).toNat o:=rfl
noncomputable def PEnd.settle (rows:List Row) (e:PEnd):PEnd:=match stl rows e with
 | some g=>.jump g
 | none=>e
noncomputable def kY:Option Nat→Int
 | some g=>(g:Nat)
 | none=>-1
private theorem jQ {b n st e i:Nat} {vs:List MV} {rows:List Row} {x:Opd} {t o:Nat} {Q:QV} (hb:H[b]? = some (blk n st e)) (hst:H[st]? = some (.list vs)) (hs:All2 (IsStep H) vs rows) (hz:rows.length≤1000)
  (hi:IsEnd H i (.branch x t o)) (q:∀ X,Q (.int (kY (stl rows (.branch x t o)))) (H++X)):dW hB [.ref b,.ref i] H Q:=by
 refine fn rfl [some (.ref b),some (.ref i),none,none,none] rfl ?_
 obtain ⟨a,m,ln,h1,h2,rfl⟩:=hi
 simp [fU,h1]
 refine aL (λhto=>?_) λhto=>?_
 ·have hto:t = o:=by simpa using hto
  simpa [sH,hto,kY] using q []
 ·have hto:¬ t = o:=by simpa using hto
  simp [h1,h2,PEnd.args]
  refine ir hb hst hs hz λX=>?_
  have:=q X
  simp only [sH,hto,if_false] at this
  cases hk:kv rows x with
  | none=>simpa [hk,su,kY] using this
  | some v =>
   rw [hk] at this
   simp [su]
   refine aL (λhv=>?_) λhv=>?_
   ·have hv:¬ v = 0:=by simpa using hv
    simpa [hv,kY] using this
   ·have hv:v = 0:=by simpa using hv
    simpa [hv,kY] using this
private theorem countP_all {row:List Nat} {o:Nat}:row.countP ((λx=>x == (o:Int))∘λg:Nat=>(g:Int)) = row.length↔(row.all λg=>g == o) = true:=by
 rw [List.countP_eq_length,List.all_eq_true]
 refine forall_congr' λg=>forall_congr' λU=>?_
 simp
private theorem kZ {b n st e i:Nat} {vs:List MV} {rows:List Row} {x:Opd} {low:Int} {row:List Nat} {o:Nat} {Q:QV} (hb:H[b]? = some (blk n st e)) (hst:H[st]? = some (.list vs)) (hs:All2 (IsStep H) vs rows) (hz:rows.length≤1000)
  (hi:IsEnd H i (.table x low row o)) (q:∀ X,Q (.int (kY (stl rows (.table x low row o)))) (H++X)):eH hB [.ref b,.ref i] H Q:=by
 refine fn rfl [some (.ref b),some (.ref i),none,none,none,none,none] rfl ?_
 obtain ⟨a,m,ln,h1,h2,r,rfl,h3,h4⟩:=hi
 have h3':H[r]? = some (.list ((row.map λg=>((g:Nat):Int)).map .int)):=by rw [h3,aA,List.map_map];rfl
 simp [gS,h1,h3]
 refine nG h3' ?_
 simp [h3]
 refine aL (λhc=>?_) λhc=>?_
 ·have hc:(row.all λg=>g == o) = true:=countP_all.mp (eq_of_beq hc)
  have:=q []
  rw [sT,if_pos hc] at this
  simpa [kY] using this
 ·have hc:¬ (row.all λg=>g == o) = true:=λh=>by
   rw [countP_all.mpr h,beq_self_eq_true] at hc;cases hc
  simp [h1,h2,PEnd.args]
  refine ir hb hst hs hz λX=>?_
  have:=q X
  rw [sT,if_neg hc] at this
  cases hk:kv rows x with
  | none=>simpa [hk,su,kY] using this
  | some v =>
   rw [hk,Option.map_some] at this
   simp [su,app h3]
   have hp:0≤(v - low) % 4294967296:=Int.emod_nonneg _ (by decide)
   obtain ⟨p,hp⟩:=Int.eq_ofNat_of_zero_le hp
   rw [hp] at this ⊢
   refine aL (λhv=>?_) λhv=>?_
   ·have hv:p < row.length:=by simpa using hv
    simp [app h3,ff,hv,aA]
    simpa [kY,hv] using this
   ·have hv:¬ p < row.length:=by simpa using hv
    simpa [kY,hv] using this
private theorem nA {b n st e i:Nat} {vs:List MV} {rows:List Row} {E:PEnd} {Q:QV} (hb:H[b]? = some (blk n st e)) (hst:H[st]? = some (.list vs)) (hs:All2 (IsStep H) vs rows) (hz:rows.length≤1000)
  (hi:IsEnd H i E) (q:∀ X j,IsEnd (H++X) j (E.settle rows)→Q (.ref j) (H++X)):fM hB [.ref b,.ref i] H Q:=by
 refine fn rfl [some (.ref b),some (.ref i),none] rfl ?_
 have hi':=hi
 obtain ⟨a,m,ln,h1,h2,h3⟩:=hi
 have last:∀ X (L:Loc),L = [some (.ref b),some (.ref i),some (.int (kY (stl rows E)))]→aj (bq (eIf (aM .lt (ai 2) (az 0)) (ai 1) (aI (ae (ai 1) (ae (aQ 8) (ae (eI (az 1)) (ae (aW am) (ae (ai 2) am))))) (cw hB)))) ay L (H++X) (mZ Q):=by
  rintro X L rfl
  cases hk:stl rows E with
  | none =>
   have:=q X i
   rw [PEnd.settle,hk] at this
   simpa [kY] using this (hi'.kp .app)
  | some g =>
   have:=λY=>q (X++Y)
   simp only [PEnd.settle,hk] at this
   have hg:¬ ((g:Int) < 0):=by omega
   simp [kY,hg]
   refine dL (app h1 _) ?_
   have:=this [.list [],stp 8 (-1) (H.length + X.length) (.int (g:Nat)) false ln] (H.length + (X.length + 1)) ⟨H.length + X.length,_,ln,by simp [PEnd.op],by simp [PEnd.args],rfl⟩
   simpa [Nat.add_assoc] using this
 have go:=q []
 cases E with
 | branch x t o =>
  simp [c8,h1,PEnd.op]
  exact jQ hb hst hs hz hi' λX=>by simp;exact last X _ rfl
 | table x low row o =>
  simp [c8,h1,PEnd.op]
  exact kZ hb hst hs hz hi' λX=>by simp;exact last X _ rfl
 | jump g =>
  simp [c8,h1,PEnd.op]
  simpa using go i (by rw [List.append_nil];exact hi')
 | give x =>
  simp [c8,h1,PEnd.op]
  simpa using go i (by rw [List.append_nil];exact hi')
end
end Mine
end
section
namespace Mine
noncomputable def dn (l:List (Nat×Nat)):List (Int×Int):=l.map λp=>((p.1:Int),(p.2:Int))
noncomputable def oD (k x:Nat):List (Nat×Nat)→List (Nat×Nat)
 | []=>[(k,x)]
 | (a,b) :: r=>if a = k then (a,x) :: r else (a,b) :: oD k x r
private theorem vz {k x a b:Nat} {r:List (Nat×Nat)}:oD k x ((a,b) :: r) = if a = k then (a,x) :: r else (a,b) :: oD k x r:=rfl
@[simp] private theorem dn_len {l:List (Nat×Nat)}:(dn l).length = l.length:=List.length_map _
@[simp] private theorem du:∀ {l:List (Nat×Nat)} {g:Nat},(dn l).lookup (g:Int) = (l.lookup g).map λx=>(x:Int)
 | [],_=>rfl
 | (a,b) :: l,g=>by
  have ih:=du (l:=l) (g:=g)
  unfold dn at ih ⊢
  rw [List.map_cons,List.lookup_cons,List.lookup_cons,ih,vv]
  cases g == a <;> rfl
@[simp high] private theorem dn_some {l:List (Nat×Nat)} {g:Nat}:((dn l).lookup (g:Int)).isSome = (l.lookup g).isSome:=by rw [du];cases l.lookup g <;> rfl
@[simp] private theorem uf {k x:Nat}:∀ {l:List (Nat×Nat)},nT (k:Int) (x:Int) (dn l) = dn (oD k x l)
 | []=>rfl
 | (a,b) :: l=>by
  have ih:=uf (k:=k) (x:=x) (l:=l)
  unfold dn at ih ⊢
  rw [List.map_cons,wW,vz,ih]
  by_cases h:a = k
  ·rw [if_pos h,if_pos (by rw [h])];rfl
  ·rw [if_neg h,if_neg (by rw [cast_eq];exact h)];rfl
private theorem lkc {β:Type} {a g:Nat} {b:β} {r:List (Nat×β)}:((a,b) :: r).lookup g = if g = a then some b else r.lookup g:=by
 rw [List.lookup_cons]
 by_cases h:g = a
 ·rw [if_pos h,beq_iff_eq.mpr h]
 ·rw [if_neg h,beq_eq_false_iff_ne.mpr h]
private theorem dS {k x g:Nat}:∀ {l:List (Nat×Nat)},(oD k x l).lookup g = if g = k then some x else l.lookup g
 | []=>lkc
 | (a,b) :: l=>by
  have ih:=dS (k:=k) (x:=x) (g:=g) (l:=l)
  rw [vz]
  by_cases h:a = k
  ·subst h;rw [if_pos rfl,lkc,lkc];split <;> rfl
  ·rw [if_neg h,lkc,lkc,ih]
   by_cases h1:g = a
   ·subst h1;rw [if_pos rfl,if_neg h,if_pos rfl]
   ·rw [if_neg h1,if_neg h1]
private theorem fc {k x:Nat}:∀ {l:List (Nat×Nat)},(oD k x l).length≤l.length + 1
 | []=>Nat.le_refl _
 | (a,b) :: l=>by
  have ih:=fc (k:=k) (x:=x) (l:=l)
  rw [vz]
  split
  ·exact Nat.le_succ _
  ·exact Nat.succ_le_succ ih
set_option tactic.hygienic true in
private theorem mem_keys {g:Nat}:∀ {l:List (Nat×Nat)},g∈l.map (·.1)↔l.lookup g≠none
 | []=>by simp
 | (a,b) :: l=>by
  have ih:=mem_keys (g:=g) (l:=l)
  rw [List.map_cons,List.mem_cons,ih,lkc]
  split <;> rename_i h <;> simp [h]
noncomputable def bK (l:List Nat):List Int:=l.map λn:Nat=>(n:Int)
@[simp] private theorem fW {l:List Nat} {g:Nat}:((g:Int)∈bK l) = (g∈l):=by
 refine propext ⟨λh=>?_,λh=>List.mem_map.mpr ⟨g,h,rfl⟩⟩
 obtain ⟨x,hx,e⟩:=List.mem_map.mp h
 rw [cast_eq] at e;subst e;exact hx
@[simp] private theorem sA {l:List Nat}:(bK l).length = l.length:=List.length_map _
@[simp] private theorem ins_ints {l:List Nat} {g:Nat}:fh (g:Int) (bK l) = bK (if g∈l then l else l++[g]):=by
 unfold fh
 by_cases h:g∈l
 ·rw [if_pos (by rw [fW];exact h),if_pos h]
 ·rw [if_neg (by rw [fW];exact h),if_neg h,bK,bK,List.map_append];rfl
noncomputable def PBlock.plain (p:PBlock):Option Nat:=PEnd.rec (motive:=λU=>Option Nat) (λg=>if p.rows.isEmpty = true then some g else none) (λU U U=>none) (λU U U U=>none) (λU=>none) p.en
noncomputable def pj (c:aB) (i:Nat):Option Nat:=Option.rec (motive:=λU=>Option Nat) none (λp=>Option.rec (motive:=λU=>Option Nat) none (λg=>if g = i then none else some g) p.plain) c[i]?
private theorem my {p:PBlock} {g:Nat} (e:p.plain = some g):p.en = .jump g∧p.rows = []:=by
 obtain ⟨rows,en⟩:=p
 cases en with
 | jump x =>
  cases rows with
  | nil=>cases e;exact ⟨rfl,rfl⟩
  | cons=>exact noS e
 | _=>exact noS e
private theorem lT {c:aB} {a b:Nat} (e:pj c a = some b):∃ p,c[a]? = some p∧p.en = .jump b∧p.rows = []∧b≠a:=by
 unfold pj at e
 cases hp:c[a]? with
 | none=>rw [hp] at e;exact noS e
 | some p =>
  rw [hp] at e
  dsimp only at e
  cases hpl:p.plain with
  | none=>rw [hpl] at e;exact noS e
  | some g =>
   rw [hpl] at e
   dsimp only at e
   by_cases h:g = a
   ·rw [if_pos h] at e;exact noS e
   ·rw [if_neg h] at e;cases e;exact ⟨p,rfl,(my hpl).1,(my hpl).2,h⟩
private theorem wX {c:aB} {a x:Nat} {p:PBlock} (hp:c[a]? = some p) (he:p.en = .jump x) (hr:p.rows = []):pj c a = if x = a then none else some x:=by
 unfold pj;rw [hp];obtain ⟨rows,en⟩:=p;cases he;cases hr;rfl
private theorem yW {c:aB} {a:Nat} {p:PBlock} (hp:c[a]? = some p) (h:p.plain = none):pj c a = none:=by
 unfold pj;rw [hp];dsimp only;rw [h]
structure LG (F:Nat→Option Nat) (x y:Nat):Prop where
 path:∃ ps:List Nat,ps.Nodup∧ps[0]? = some x∧ps.getLast? = some y∧(∀ (i a b:Nat),ps[i]? = some a→ps[i + 1]? = some b→F a = some b)∧∀ z,F y = some z→z∈ps
section
variable {hB:Heap} {H:MH}
inductive LGI (H:MH) (d x m:Nat) (F:Nat→Option Nat) (n:Nat):Loc→MH→Prop
 | mk (ps:List Nat) (y:Nat) (hn:n + ps.length = m) (nd:ps.Nodup) (h0:ps[0]? = some x) (hl:ps.getLast? = some y) (hc:∀ (i a b:Nat),ps[i]? = some a→ps[i + 1]? = some b→F a = some b) :
   LGI H d x m F n [some (.ref d),some (.int (x:Nat)),some (.int (y:Nat)),some (.ref H.length)] (H++[.set (bK ps)])
private theorem qx {d x:Nat} {l:List (Nat×Nat)} {F:Nat→Option Nat} {Q:QV} (hd:H[d]? = some (.dict (dn l))) (hF:∀ g,l.lookup g = F g) (hl:l.length≤100)
  (q:∀ X y,LG F x y→Q (.int (y:Nat)) (H++X)):ii hB [.ref d,.int (x:Nat)] H Q:=by
 refine fn rfl [some (.ref d),some (.int (x:Nat)),none,none] rfl ?_
 simp [lF]
 refine dX (LGI H d x (l.length + 2) F) (l.length + 1) (.mk [x] x rfl (by simp) rfl rfl λi a b U h=>by simp at h) ?_
 rintro n _ _ ⟨ps,y,hn,hnd,h0,hlast,hch⟩
 simp [app hd,hF]
 cases hy:F y with
 | none =>
  simp
  refine q _ y ⟨ps,hnd,h0,hlast,hch,λz hz=>?_⟩
  rw [hy] at hz;cases hz
 | some z =>
  simp [app hd,hF,hy]
  refine aL (λhz=>?_) λhz=>?_
  ·have hz:z∉ps:=by simpa using hz
   have hk:∀ a∈ps,F a≠none:=by
    intro a ha
    obtain ⟨i,hi⟩:=List.mem_iff_getElem?.mp ha
    cases hi1:ps[i + 1]? with
    | some b=>rw [hch i a b hi hi1];simp
    | none =>
     have e:i = ps.length - 1:=Nat.eq_sub_of_add_eq (Nat.le_antisymm (List.getElem?_eq_some_iff.mp hi).1 (List.getElem?_eq_none_iff.mp hi1))
     rw [List.getLast?_eq_getElem?,← e,hi] at hlast
     cases hlast;rw [hy];simp
   have hle:ps.length≤l.length:=by
    have:=List.Nodup.length_le_of_subset hnd (l₂:=l.map (·.1)) λa ha=>mem_keys.mpr (by rw [hF];exact hk a ha)
    simpa using this
   simp [app hd,hF,hy,hz]
   refine ⟨by exact Nat.le_trans ‹_› (Nat.le_trans ‹_› (by decide)),n - 1,zy (by assumption) (Nat.lt_succ_of_lt (Nat.lt_succ_of_le hle)),?_⟩
   refine .mk (ps++[z]) z ?_ ?_ ?_ ?_ ?_
   ·simp;exact wEq (by assumption) (Nat.lt_succ_of_lt (Nat.lt_succ_of_le (by assumption)))
   ·rw [List.nodup_append];exact ⟨hnd,by simp,λa ha b hb e=>hz (by simp at hb;subst hb;subst e;exact ha)⟩
   ·have:0 < ps.length:=(List.getElem?_eq_some_iff.mp h0).1
    rw [List.getElem?_append_left this];exact h0
   ·simp
   ·intro i a b ha hb
    by_cases hi:i + 1 < ps.length
    ·rw [List.getElem?_append_left (Nat.lt_of_succ_lt hi)] at ha
     rw [List.getElem?_append_left hi] at hb
     exact hch i a b ha hb
    ·have h1:=(List.getElem?_eq_some_iff.mp hb).1
     rw [List.length_append] at h1
     have e':i + 1 = ps.length:=Nat.le_antisymm (Nat.le_of_lt_succ h1) (Nat.not_lt.mp hi)
     have e:i = ps.length - 1:=Nat.eq_sub_of_add_eq e'
     rw [List.getElem?_append_left (Nat.lt_of_succ_le (Nat.le_of_eq e')),e,← List.getLast?_eq_getElem?,hlast] at ha
     rw [List.getElem?_append_right (Nat.le_of_eq e'.symm),e',Nat.sub_self] at hb
     cases ha;cases hb;exact hy
  ·have hz:z∈ps:=by simpa using hz
   simp
   refine q _ y ⟨ps,hnd,h0,hlast,hch,λz' hz'=>?_⟩
   rw [hy] at hz';cases hz';exact hz
inductive PJI (H:MH) (f:Nat) (c:aB) (j:Nat):Loc→MH→Prop
 | mk (l:List (Nat×Nat)) (u:Option MV) (hl:l.length≤j) (hk:∀ g,l.lookup g = if g < j then pj c g else none):PJI H f c j [some (.ref f),u,some (.ref H.length)] (H++[.dict (dn l)])
set_option tactic.hygienic true in
private theorem me {f ps sl bl:Nat} {bs:List Nat} {c:aB} {Q:QV} (hc:CodeAt H f ps sl bl bs c) (hl:c.length≤60)
  (q:∀ X d l,(H++X)[d]? = some (.dict (dn l))→(∀ g,l.lookup g = pj c g)→l.length≤c.length→Q (.ref d) (H++X)):fB hB [.ref f] H Q:=by
 refine fn rfl [some (.ref f),none,none] rfl ?_
 simp [iL,app hc.fn,app hc.bl]
 refine bb (PJI H f c) (.mk [] _ (Nat.le_refl _) λg=>by simp) ?_ ?_ ?_
 ·rintro j _ _ ⟨⟩
  exact app hc.bl _
 ·rintro j m _ _ hm ⟨l,u,hlen,hlk⟩
  have hm':(bs.map MV.ref)[j]? = some m:=hm
  rw [List.getElem?_map] at hm'
  obtain ⟨b,hb,rfl⟩:=Option.map_eq_some_iff.mp hm'
  obtain ⟨p,hp,st,e,vs,h1,h2,h3,a,mo,ln,g1,g2,g3⟩:=hc.gets hb
  have hj:j < c.length:=(List.getElem?_eq_some_iff.mp hp).1
  have same:pj c j = none→∀ g,l.lookup g = if g < j + 1 then pj c g else none:=λhn g=>by
   rw [hlk]
   by_cases e1:g = j
   ·subst e1;simp [hn]
   ·by_cases e2:g < j
    ·simp [e2,Nat.lt_succ_of_lt e2]
    ·have:¬ g < j + 1:=by omega
     simp [e2,this]
  obtain ⟨rows,E⟩:=p
  cases E with
  | jump g =>
   obtain rfl:=g3
   simp [app h1,app h2,app g1,PEnd.op]
   cases rows with
   | nil =>
    obtain rfl:vs = []:=List.eq_nil_of_length_eq_zero h3.1
    simp [app h1,app g1,PEnd.op]
    refine aL (λhg=>?_) λhg=>?_
    ·have hg:¬ g = j:=by simpa using hg
     simp [app h1,app g1]
     refine ⟨by omega,.mk _ _ (Nat.le_trans fc (by exact Nat.lt_succ_of_le ‹_›)) λx=>?_⟩
     rw [dS,hlk]
     by_cases e1:x = j
     ·subst e1;rw [if_pos rfl,if_pos (Nat.lt_succ_self _),wX hp rfl rfl,if_neg hg]
     ·by_cases e2:x < j
      ·simp [e1,e2,Nat.lt_succ_of_lt e2]
      ·have:¬ x < j + 1:=by omega
       simp [e1,e2,this]
    ·have hg:g = j:=by simpa using hg
     simp
     exact .mk _ _ (Nat.le_succ_of_le hlen) (same (by rw [wX hp rfl rfl,if_pos hg]))
   | cons r rows =>
    have hne:vs.isEmpty = false:=by
     cases vs with
     | nil=>cases h3.1
     | cons _ _=>rfl
    simp [hne]
    exact .mk _ _ (Nat.le_succ_of_le hlen) (same (yW hp rfl))
  | _ =>
   simp [app h1,app h2,app g1,PEnd.op]
   exact .mk _ _ (Nat.le_succ_of_le hlen) (same (yW hp rfl))
 ·rintro _ _ ⟨l,u,hlen,hlk⟩
  have hsz:(It.list bl (bs.map MV.ref)).size = c.length:=by simp [It.size,hc.all]
  rw [hsz] at hlen hlk
  simp
  refine q [_] _ l cO (λg=>?_) hlen
  rw [hlk]
  split
  ·rfl
  ·rename_i h
   unfold pj
   rw [List.getElem?_eq_none (by exact Nat.le_of_not_lt ‹_›)]
private theorem tp {P:MH→Prop} (q:∀ X,P (H++X)) (X:MH):∀ Y,P ((H++X)++Y):=λY=>by rw [List.append_assoc];exact q _
inductive ThI (H:MH) (f d:Nat) (ns:List Int) (c:aB) (j:Nat):Loc→MH→Prop
 | mk (l:List (Nat×Nat)) (Y:MH) (u:Option MV) (hl:l.length≤j) (hk:∀ g y,l.lookup g = some y→LG (pj c) g y) (hd:∀ (i:Nat) g,i < j→ns[i]? = some ((g:Nat):Int)→∃ y,l.lookup g = some y) :
   ThI H f d ns c j [some (.ref f),some (.ref H.length),some (.ref d),u] (H++.dict (dn l) :: .list (ns.map .int) :: Y)
set_option tactic.hygienic true in
private theorem tx {f ps sl bl:Nat} {bs:List Nat} {c:aB} {Q:QV} (hc:CodeAt H f ps sl bl bs c) (hl:c.length≤60)
  (q:∀ X d l,(H++X)[d]? = some (.dict (dn l))→(∀ g y,l.lookup g = some y→LG (pj c) g y)→(∀ g,l.lookup g = none→pj c g = none)→Q (.ref d) (H++X)):j5 hB [.ref f] H Q:=by
 refine fn rfl [some (.ref f),none,none,none] rfl ?_
 simp [pu]
 refine me hc hl λX d lj hd hj hlj=>?_
 replace q:=tp (P:=λH'=>∀ d l,H'[d]? = some (.dict (dn l))→(∀ g y,l.lookup g = some y→LG (pj c) g y)→(∀ g,l.lookup g = none→pj c g = none)→Q (.ref d) H') q X
 clear hc
 generalize H++X = H1 at *
 simp
 refine qO (by simpa using app hd _) (by simp;exact Nat.lt_of_le_of_lt ‹_› (Nat.lt_of_le_of_lt ‹_› (by decide))) λns hns=>?_
 simp
 have hkeys:∀ x∈ns,∃ g:Nat,x = g∧pj c g≠none:=λx hx=>by
  have:=hns.1.mem_iff.mp hx
  simp only [dn,List.map_map] at this
  obtain ⟨⟨a,b⟩,ha,rfl⟩:=List.mem_map.mp this
  exact ⟨a,rfl,by rw [← hj];exact mem_keys.mp (List.mem_map.mpr ⟨_,ha,rfl⟩)⟩
 have hin:∀ g,pj c g≠none→((g:Nat):Int)∈ns:=λg hg=>by
  rw [← hj] at hg
  obtain ⟨⟨a,b⟩,ha,rfl⟩:=List.mem_map.mp (mem_keys.mpr hg)
  exact hns.1.mem_iff.mpr (List.mem_map.mpr ⟨_,List.mem_map.mpr ⟨_,ha,rfl⟩,rfl⟩)
 have hlen:ns.length≤60:=by
  have:=hns.1.length_eq
  simp at this;omega
 refine bb (ThI H1 f d ns c) (.mk [] [] _ (Nat.le_refl _) (λg y h=>(nomatch h)) λi g h=>absurd h (Nat.not_lt_zero _)) ?_ ?_ ?_
 ·rintro j _ _ ⟨⟩
  exact hG
 ·rintro j m _ _ hm ⟨l,Y,u,hlen',hlk,hdone⟩
  have hm':(ns.map MV.int)[j]? = some m:=hm
  rw [List.getElem?_map] at hm'
  obtain ⟨x,hx,rfl⟩:=Option.map_eq_some_iff.mp hm'
  obtain ⟨g,rfl,hg⟩:=hkeys x (List.mem_of_getElem? hx)
  have hjl:j < ns.length:=(List.getElem?_eq_some_iff.mp hx).1
  simp
  refine qx (F:=pj c) (app hd _) hj (by exact Nat.le_trans ‹_› (Nat.le_trans ‹_› (by decide))) λZ y hy=>?_
  simp
  refine ⟨by omega,.mk (oD g y l) _ _ (Nat.le_trans fc (by exact Nat.lt_succ_of_le ‹_›)) (λg' y' h=>?_) λi g' hi hg'=>?_⟩
  ·rw [dS] at h
   split at h
   ·rename_i e;subst e;cases h;exact hy
   ·exact hlk g' y' h
  ·rw [dS]
   split
   ·exact ⟨_,rfl⟩
   ·rename_i e
    rcases Nat.lt_succ_iff_lt_or_eq.mp hi with hi | rfl
    ·exact hdone i g' hi hg'
    ·rw [hx] at hg'
     exact absurd (by simpa using hg'.symm) e
 ·rintro _ _ ⟨l,Y,u,hlen',hlk,hdone⟩
  simp
  refine q _ _ l cO hlk λg hg=>Classical.byContradiction λhne=>?_
  obtain ⟨i,hi⟩:=List.mem_iff_getElem?.mp (hin g hne)
  obtain ⟨y,hy⟩:=hdone i g (by simpa [It.size] using (List.getElem?_eq_some_iff.mp hi).1) hi
  rw [hg] at hy;cases hy
end
end Mine
end
section
namespace Mine
noncomputable def bH (l:List (Nat×Nat)) (g:Nat):Nat:=(l.lookup g).getD g
noncomputable def upd (l:List (Nat×Nat)) (p:PBlock):PBlock:=⟨p.rows,(p.en.led (bH l)).settle p.rows⟩
structure Lead (c:aB) (l:List (Nat×Nat)):Prop where
 some:∀ g y,l.lookup g = some y→LG (pj c) g y
 none:∀ g,l.lookup g = none→pj c g = none
private theorem rh {f:Nat→Nat} {e:PEnd} (h:∀ g∈e.fol,f g = g):e.led f = e:=by
 cases e with
 | jump g=>exact congrArg PEnd.jump (h g (.head _))
 | branch x t o=>show PEnd.branch x (f t) (f o) = _;rw [h t (.head _),h o (.tail _ (.head _))]
 | table x low row o =>
  show PEnd.table x low (row.map f) (f o) = _
  rw [h o (List.mem_append_right _ (.head _))]
  congr 1
  exact (List.map_congr_left λg hg=>h g (List.mem_append_left _ hg)).trans (List.map_id _)
 | give x=>rfl
private theorem xY {l:List (Nat×Nat)} (g:Nat):gtV ((dn l).lookup (g:Int)) (.int (g:Nat)) = .int (bH l g:Nat):=by
 rw [du,bH]
 cases l.lookup g <;> rfl
private theorem IsMore.inj {H:MH} {e e':PEnd} {m:MV} (h:IsMore H e m) (h':IsMore H e' m) (ho:e.op = e'.op):e.more = e'.more:=by
 cases e <;> cases e' <;> first | exact neN ho rfl | skip
 ·obtain rfl:=h
  exact congrArg (λg:Nat=>(g,0,(0:Int),([]:List Nat))) (cast_eq.mp (MV.int.inj h'))
 ·obtain rfl:=h
  have:=MV.tup.inj h'
  simp only [List.cons.injEq,MV.int.injEq,cast_eq] at this
  show (_,_,(0:Int),([]:List Nat)) = _
  rw [this.1,this.2.1];rfl
 ·obtain ⟨r,rfl,h1,_⟩:=h;obtain ⟨r',h2,h3,_⟩:=h'
  have:=MV.tup.inj h2
  simp only [List.cons.injEq,MV.int.injEq,cast_eq,MV.ref.injEq] at this
  obtain ⟨e1,e2,e3,_⟩:=this
  subst e2
  rw [h1] at h3
  show ((0:Nat),_,_,_) = _
  rw [e1,e3,(List.map_inj_right λa b h=>cast_eq.mp (MV.int.inj h)).mp (MObj.list.inj (Option.some.inj h3))];rfl
 ·rfl
private theorem vx {a b:Opd} (h:bN a = bN b):a = b:=by
 cases a <;> cases b <;> simp [bN] at h <;> simp [h]
private theorem IsEnd.inj {H:MH} {i:Nat} {e e':PEnd} (h:IsEnd H i e) (h':IsEnd H i e'):e = e':=by
 obtain ⟨a,m,ln,h1,h2,h3⟩:=h
 obtain ⟨a',m',ln',h1',h2',h3'⟩:=h'
 rw [h1] at h1'
 have z:=Option.some.inj h1'
 simp only [stp,MObj.inst.injEq,List.cons.injEq,Prod.mk.injEq,MV.sym.injEq,MV.ref.injEq,true_and] at z
 obtain ⟨ho,ha,hm,_⟩:=z
 subst ha hm
 rw [h2] at h2'
 exact end_eq.mpr ⟨ho,(List.map_inj_right λa b=>vx).mp (MObj.list.inj (Option.some.inj h2')),h3.inj h3' ho⟩
private theorem uu {α:Type} {A D:List α} {j:Nat} {p q:α} (h:A.length = j):(A++p :: D).set j q = A++q :: D:=by
 subst h
 rw [List.set_append_right _ _ (Nat.le_refl _),Nat.sub_self];rfl
section
variable {hB:Heap} {H:MH}
private theorem qz {f b n d e0:Nat} {p:PBlock} {l:List (Nat×Nat)} {fl:Bool} {rest:ST} {Q:QS} (hb:IsBlock H b n p) (hd:H[d]? = some (.dict (dn l))) (he:IsEnd H e0 p.en)
  (q:∀ X j,IsEnd (H++X) j (p.en.led (bH l))→rest [some (.ref f),some (.ref b),some (.ref j),some (.bool fl),some (.ref d)] (H++X) Q) :
  aj (sIf (cz (eX (ai 4)) (cz (eX (aI (ae (cE (bD (aI (ae (ai 1) am) (bE hB))) (aw 0) bG (kI .in_ (ai 0) (ai 1)) 1 [4]) am) yg)) bG)) (aj (au (aI (ae (ai 2) (ae (ai 4) am)) (f8 hB)) (aw 2)) ay) ay) rest
   [some (.ref f),some (.ref b),some (.ref e0),some (.bool fl),some (.ref d)] H Q:=by
 simp [hd]
 refine aL (λhl=>?_) λhl=>?_
 ·simp
  refine gA hb λX=>?_
  simp
  refine bX (CI (H++(X++[.list (aA p.en.fol)])) (λj=>(p.en.fol.map λg=>MV.bool (l.lookup g).isSome).take j) p.en.fol.length λu=>[u,some (.ref d)]) (.mk _ (Nat.zero_le _)) ?_ ?_ ?_
  ·rintro j _ _ _ ⟨⟩
   refine ⟨by simp [okL],?_⟩
   have:p.en.fol.length≤101:=by
    obtain ⟨_,_,_,_,_,_,a,m,ln,_,_,h3⟩:=hb
    generalize p.en = E at h3
    cases E with
    | table=>obtain ⟨r,_,_,h3⟩:=h3;simp [PEnd.fol];exact ‹_›
    | _=>exact Nat.le_of_ble_eq_true rfl
   simp;exact lh (Nat.le_trans ‹_› (by decide))
  ·rintro j m _ _ _ hm ⟨u,_⟩
   obtain ⟨g,hg,rfl⟩:=co (l:=p.en.fol) (j:=j) hm
   simp [app hd,-du]
   have:=CI.mk (H:=H++(X++[.list (aA p.en.fol)])) (A:=λj=>(p.en.fol.map λg=>MV.bool (l.lookup g).isSome).take j) (n:=p.en.fol.length) (F:=λu=>[u,some (.ref d)]) (j:=j + 1) (some (.int (g:Nat))) (List.getElem?_eq_some_iff.mp hg).1
   rwa [show (p.en.fol.map λg=>MV.bool (l.lookup g).isSome).take (j + 1) = _ from oY _ hg] at this
  ·rintro _ _ _ ⟨u,_⟩
   rw [cA (show (It.list (H.length + X.length) (aA p.en.fol)).size = (p.en.fol.map λg=>MV.bool (l.lookup g).isSome).length by simp [It.size])]
   simp
   refine w9 (bs:=p.en.fol.map λg=>(l.lookup g).isSome) (by simp) ?_
   generalize hab:List.any _ id = ab
   simp
   refine aL (λha=>?_) λha=>?_
   ·simp
    refine nh (app hd _) xY (he.kp .app) λY j hj=>?_
    simp at hj ⊢
    exact q _ j hj
   ·simp
    refine q _ e0 ?_
    rw [rh λg hg=>?_]
    ·exact he.kp .app
    ·rw [ha] at hab
     have:=List.any_eq_false.mp hab _ (List.mem_map.mpr ⟨g,hg,rfl⟩)
     rw [bH]
     cases hk:l.lookup g with
     | none=>rfl
     | some y=>rw [hk] at this;exact absurd rfl this
 ·simp
  have:=q [] e0
  simp at this
  refine this ?_
  rw [rh λg hg=>?_]
  ·exact he
  ·have:l = []:=by cases l with
    | nil=>rfl
    | cons a l=>cases hl
   subst this;rfl
set_option inductive.autoPromoteIndices false in
inductive SEnds (H:MH) (f ps sl bl:Nat) (bs:List Nat) (c:aB) (l:List (Nat×Nat)) (d:Nat):Nat→Loc→MH→Prop
 | mk (j:Nat) (H':MH) (fl:Bool) (u1 u2:Option MV) (A D:aB) (e:c = A++D) (ej:A.length = j) (kp:Kp H H') (ca:CodeAt H' f ps sl bl bs (A.map (upd l)++D)) (hd:H'[d]? = some (.dict (dn l))) (hf:fl = true↔A.map (upd l)≠A) :
   SEnds H f ps sl bl bs c l d j [some (.ref f),u1,u2,some (.bool fl),some (.ref d)] H'
private theorem jk {f ps sl bl:Nat} {bs:List Nat} {c:aB} {Q:QV} (hc:CodeAt H f ps sl bl bs c) (hl:c.length≤60) (hr:∀ p∈c,p.rows.length≤1000)
  (q:∀ H' l b,Kp H H'→CodeAt H' f ps sl bl bs (c.map (upd l))→Lead c l→(b = true↔c.map (upd l)≠c)→Q (.bool b) H'):dK hB [.ref f] H Q:=by
 refine fn rfl [some (.ref f),none,none,none,none] rfl ?_
 simp [fq]
 refine tx hc hl λX d l hd h1 h2=>?_
 simp [app hc.fn,app hc.bl]
 refine bb (SEnds H f ps sl bl bs c l d) ⟨_,_,false,_,_,[],c,rfl,rfl,.app,hc.app X,hd,by simp⟩ ?_ ?_ ?_
 ·rintro j L' H' ⟨_,_,fl,u1,u2,A,D,e,ej,kp,ca,hd',hf⟩
  exact ca.bl
 ·rintro j m L' H' hm ⟨_,_,fl,u1,u2,A,D,e,ej,kp,ca,hd',hf⟩
  have hm':(bs.map MV.ref)[j]? = some m:=hm
  rw [List.getElem?_map] at hm'
  obtain ⟨b,hb,rfl⟩:=Option.map_eq_some_iff.mp hm'
  obtain ⟨p,hp,hbl⟩:=ca.gets hb
  rw [List.getElem?_append_right (by rw [List.length_map,ej];exact Nat.le_refl _),List.length_map,ej,Nat.sub_self] at hp
  obtain ⟨D,rfl⟩:∃ D',D = p :: D':=by
   cases D with
   | nil=>cases hp
   | cons a D=>cases hp;exact ⟨_,rfl⟩
  have hpr:=hr p (by rw [e];simp)
  have hbl0:=hbl
  obtain ⟨st,e0,vs,g1,g2,g3,g4⟩:=hbl
  have next:∀ H2 fl',Kp H' H2→CodeAt H2 f ps sl bl bs (A.map (upd l)++upd l p :: D)→H2[d]? = some (.dict (dn l))→(fl' = true↔fl = true∨upd l p≠p)→∀ u1 u2,SEnds H f ps sl bl bs c l d (j + 1) [some (.ref f),u1,u2,some (.bool fl'),some (.ref d)] H2 :=
   λH2 fl' k ca2 hd2 hfl u1 u2=>⟨_,_,_,_,_,A++[p],D,by rw [e];simp,by simp [ej],kp.trans k,by simpa using ca2,hd2,by
    rw [hfl,hf];simp only [List.map_append,List.map_cons,List.map_nil]
    by_cases hA:A.map (upd l) = A
    ·rw [hA];simp
    ·simp [hA]⟩
  simp [g1]
  refine qz hbl0 hd' g4 λY j1 hj1=>?_
  simp
  refine nA (app g1 Y) (app g2 Y) (g3.mono λU U=>IsStep.kp .app) hpr hj1 λZ j2 hj2=>?_
  simp at hj2
  simp [app g1]
  have g4':IsEnd (H'++(Y++Z)) e0 p.en:=g4.kp .app
  have ca':=ca.app (Y++Z)
  refine aL (λhne=>?_) λhne=>?_
  ·simp [app g1]
   refine sO hj2 g4' λsb hsb=>?_
   simp
   have hup:(upd l p = p)↔sb = true:=by
    rw [hsb]
    constructor
    ·intro h;exact congrArg PBlock.en h
    ·intro h;unfold upd;rw [h]
   refine aL (λhs=>?_) λhs=>?_
   ·have hs:sb = false:=by simpa using hs
    simp [app g1]
    have z:=ca'.setB (p:=upd l p) hb (app g2 _) (g3.mono λU U=>IsStep.kp .app) hj2
    refine next _ _ (Kp.app.trans z.1) ?_ ?_ ?_ _ _
    ·have:=z.2
     rw [uu (by rw [List.length_map,ej])] at this
     exact this
    ·refine aJ (app hd' _) λh=>?_
     subst h;rw [g1] at hd';cases hd'
    ·exact ⟨λU=>.inr (λh=>by rw [hup.mp h] at hs;exact Bool.noConfusion hs),λU=>rfl⟩
   ·have hs:sb = true:=by simpa using hs
    simp
    refine next _ _ .app ?_ (app hd' _) ?_ _ _
    ·rw [hup.mpr hs];exact ca'
    ·exact ⟨.inl,λh=>h.resolve_right λh=>h (hup.mpr hs)⟩
  ·have hne:j2 = e0:=by simpa using hne
   subst hne
   have hup:upd l p = p:=by unfold upd;rw [hj2.inj g4']
   simp
   refine next _ _ .app ?_ (app hd' _) ?_ _ _
   ·rw [hup];exact ca'
   ·exact ⟨.inl,λh=>h.resolve_right λh=>h hup⟩
 ·rintro L' H' ⟨_,_,fl,u1,u2,A,D,e,ej,kp,ca,hd',hf⟩
  have:D = []:=by
   have h1:A.length = c.length:=by rw [ej];simp [It.size,hc.all]
   rw [e,List.length_append] at h1
   exact List.eq_nil_of_length_eq_zero (by omega)
  subst this
  rw [List.append_nil] at e ca
  subst e
  simp
  exact q _ l fl kp ca ⟨h1,h2⟩ hf
end
end Mine
end
section
namespace Mine
structure Own (H H':MH) (l:List (Nat×MObj)):Prop where
 pre:∀ (i:Nat) o,H[i]? = some o→H'[i]? = some o
 nd:(l.map (·.1)).Nodup
 has:∀ p∈l,H'[p.1]? = some p.2
 lo:∀ p∈l,H.length≤p.1
section
variable {H H':MH} {l:List (Nat×MObj)}
private theorem Own.start:Own H H []:=⟨λU U e=>e,by simp,λU h=>(nomatch h),λU h=>(nomatch h)⟩
private theorem Own.app (h:Own H H' l) (X:MH):Own H (H'++X) l:=⟨λi o e=>Mine.app (h.pre i o e) X,h.nd,λp q=>Mine.app (h.has p q) X,h.lo⟩
private theorem Own.len (h:Own H H' l):H.length≤H'.length:=by
 cases e:H.length with
 | zero=>exact Nat.zero_le _
 | succ n=>exact bv (h.pre n _ (List.getElem?_eq_getElem (by exact Nat.le_of_eq (Eq.symm ‹_›))))
private theorem Own.new (h:Own H H' l) (o:MObj):Own H (H'++[o]) ((H'.length,o) :: l):=by
 refine ⟨(h.app _).pre,?_,λp q=>?_,λp q=>?_⟩
 ·rw [List.map_cons,List.nodup_cons]
  refine ⟨λq=>?_,h.nd⟩
  obtain ⟨p,hp,e⟩:=List.mem_map.mp q
  have:=bv (h.has p hp)
  omega
 ·rcases List.mem_cons.mp q with rfl | q
  ·exact cO
  ·exact (h.app _).has p q
 ·rcases List.mem_cons.mp q with rfl | q
  ·exact h.len
  ·exact h.lo p q
private theorem Own.set {pre post:List (Nat×MObj)} {a:Nat} {o:MObj} (h:Own H H' (pre++(a,o) :: post)) (o':MObj):Own H (H'.set a o') (pre++(a,o') :: post):=by
 have ha:=h.lo (a,o) (List.mem_append_right _ (.head _))
 have hnd:=h.nd
 rw [List.map_append,List.map_cons,List.nodup_append,List.nodup_cons] at hnd
 refine ⟨λi p e=>aJ (h.pre i p e) λq=>?_,?_,λp q=>?_,λp q=>?_⟩
 ·have:=bv e;simp only at ha;omega
 ·have:=h.nd;rwa [List.map_append,List.map_cons] at this ⊢
 ·rcases List.mem_append.mp q with q | q
  ·exact aJ (h.has p (List.mem_append_left _ q)) λe=>hnd.2.2 p.1 (List.mem_map.mpr ⟨p,q,rfl⟩) a (.head _) e.symm
  ·rcases List.mem_cons.mp q with rfl | q
   ·exact eV (h.has (a,o) (List.mem_append_right _ (.head _)))
   ·exact aJ (h.has p (List.mem_append_right _ (.tail _ q))) λe=>hnd.2.1.1 (List.mem_map.mpr ⟨p,q,e.symm⟩)
 ·rcases List.mem_append.mp q with q | q
  ·exact h.lo p (List.mem_append_left _ q)
  ·rcases List.mem_cons.mp q with rfl | q
   ·exact ha
   ·exact h.lo p (List.mem_append_right _ (.tail _ q))
private theorem Own.sub {l':List (Nat×MObj)} (h:Own H H' l) (s:l'.Sublist l):Own H H' l':=⟨h.pre,(s.map _).nodup h.nd,λp q=>h.has p (s.subset q),λp q=>h.lo p (s.subset q)⟩
private theorem Own.perm {l':List (Nat×MObj)} (h:Own H H' l) (s:l'.Perm l):Own H H' l':=⟨h.pre,(s.map _).nodup_iff.mpr h.nd,λp q=>h.has p (s.subset q),λp q=>h.lo p (s.subset q)⟩
private theorem Own.eq (h:Own H H' l):∃ X,H' = H++X:=by
 refine ⟨H'.drop H.length,?_⟩
 refine List.ext_getElem? λi=>?_
 by_cases hi:i < H.length
 ·rw [List.getElem?_append_left hi,h.pre i _ (List.getElem?_eq_getElem hi),List.getElem?_eq_getElem hi]
 ·rw [List.getElem?_append_right (Nat.le_of_not_lt hi),List.getElem?_drop]
  congr 1;exact (Nat.add_sub_of_le (Nat.le_of_not_lt (by assumption))).symm
private theorem Own.kp (h:Own H H' l):Kp H H':=λi o e U=>h.pre i o e
private theorem Own.trans {H2:MH} {l':List (Nat×MObj)} (h:Own H H' l) (h':Own H' H2 l'):Own H H2 (l'++l):=by
 refine ⟨λi o e=>h'.pre i o (h.pre i o e),?_,λp q=>?_,λp q=>?_⟩
 ·rw [List.map_append,List.nodup_append]
  refine ⟨h'.nd,h.nd,λa ha b hb e=>?_⟩
  obtain ⟨p,hp,rfl⟩:=List.mem_map.mp ha
  obtain ⟨r,hr,rfl⟩:=List.mem_map.mp hb
  have h1:=h'.lo p hp
  have h2:=bv (h.has r hr)
  omega
 ·rcases List.mem_append.mp q with q | q
  ·exact h'.has p q
  ·exact h'.pre _ _ (h.has p q)
 ·rcases List.mem_append.mp q with q | q
  ·exact Nat.le_trans h.len (h'.lo p q)
  ·exact h.lo p q
private theorem Own.block (h:Own H H' l) {b n:Nat} {p:PBlock} (x:IsBlock H b n p):IsBlock H' b n p:=x.kp h.kp (h.pre b)
end
@[simp high] private theorem itL_last {l:List MV} {v:MV}:itO (some (.list (l++[v]))) (-1) = some v:=by
 show (ce (-1) (l++[v]).length).bind _ = _
 rw [List.length_append]
 show (ce (-1) (l.length + 1)).bind _ = _
 rw [xQ]
 show (l++[v])[l.length]? = some v
 rw [List.getElem?_append_right (Nat.le_refl _),Nat.sub_self];rfl
private theorem b8 {l:List MV} {i:Nat} {v:MV} (h:l[i]? = some v):itO (some (.list l)) (i:Int) = some v:=by
 show (ce (i:Int) l.length).bind _ = _
 rw [ff (List.getElem?_eq_some_iff.mp h).1];exact h
private theorem Av {H:MH} {a0 a1 a2 a3 a4:Option MV} {e fl:Nat} {v k:Int} {Q:QS} (h:H[e]? = some (.list [.int v,.ref fl,.int k])) (q:Q .next [a0,a1,a2,a3,a4,some (.ref e)] (H.set e (.list [.int v,.ref fl,.int (k + 1)]))) :
  xA (ai 5) (az 2) (az 1) [a0,a1,a2,a3,a4,some (.ref e)] H Q:=by
 show tU (itO H[e]? 2) λold=>kL H (.ref e) .list∧stO H[e]? e 2 (.int (old + 1)) H (Q .next [a0,a1,a2,a3,a4,some (.ref e)])
 rw [h,Ak]
 exact ⟨⟨_,_,rfl,h⟩,⟨by decide,Int.ofNat_lt.mpr (Nat.lt_succ_self 2),Nat.le_of_ble_eq_true rfl⟩,q⟩
@[simp] private theorem gk {l:List Nat} {v:Nat}:aA (l++[v]) = aA l++[.int (v:Nat)]:=by rw [aA,List.map_append];rfl
@[simp] private theorem nE {l:List Nat} {v:Nat}:bK (l++[v]) = bK l++[(v:Int)]:=by rw [bK,List.map_append];rfl
private theorem CodeAt.blkRef {H:MH} {f ps sl bl:Nat} {bs:List Nat} {c:aB} (h:CodeAt H f ps sl bl bs c) {i:Nat} {p:PBlock} (e:c[i]? = some p):∃ b,itO (some (.list (bs.map .ref))) (i:Int) = some (.ref b)∧bs[i]? = some b∧IsBlock H b i p:=by
 obtain ⟨b,hb,hbl⟩:=h.get e
 exact ⟨b,b8 (by rw [List.getElem?_map,hb];rfl),hb,hbl⟩
inductive Reach (c:aB):Nat→Prop
 | zero:Reach c 0
 | step {i g:Nat} {p:PBlock}:Reach c i→c[i]? = some p→g∈p.en.fol→Reach c g
noncomputable def be (c:aB) (i:Nat):List Nat:=match c[i]? with | some p=>p.en.fol | none=>[]
private theorem Reach.next {c:aB} {i g:Nat} (h:Reach c i) (hg:g∈be c i):Reach c g:=by
 unfold be at hg
 cases e:c[i]? with
 | none=>rw [e] at hg;cases hg
 | some p=>rw [e] at hg;exact .step h e hg
structure FolOk (c:aB):Prop where
 pos:0 < c.length
 len:c.length≤60
 lt:∀ p∈c,∀ g∈p.en.fol,g < c.length
 few:∀ p∈c,p.en.fol.length≤101
private theorem FolOk.at_ {c:aB} (h:FolOk c) {i:Nat} (hi:i < c.length):∃ p,c[i]? = some p∧be c i = p.en.fol∧p∈c:=by
 refine ⟨c[i],List.getElem?_eq_getElem hi,?_,List.getElem_mem hi⟩
 unfold be;rw [List.getElem?_eq_getElem hi]
structure Ent where
 e:Nat
 v:Nat
 fl:Nat
 k:Nat
noncomputable def Ent.objs (c:aB) (t:Ent):List (Nat×MObj):=[(t.e,.list [.int (t.v:Nat),.ref t.fl,.int (t.k:Nat)]),(t.fl,.list (aA (be c t.v)))]
noncomputable def jy (c:aB) (st:List Ent):Nat:=(st.map λt=>(be c t.v).length - t.k).sum
structure PO (c:aB) (found seen:List Nat) (st:List Ent):Prop where
 nd:seen.Nodup
 perm:(found++st.map (·.v)).Perm seen
 reach:∀ v∈seen,Reach c v∧v < c.length
 zero:0∈seen
 done:∀ v∈found,∀ g∈be c v,g∈seen
 part:∀ t∈st,t.k≤(be c t.v).length∧∀ g∈(be c t.v).take t.k,g∈seen
private theorem PO.pop {c:aB} {found seen:List Nat} {st:List Ent} {t:Ent} (h:PO c found seen (st++[t])) (hk:t.k = (be c t.v).length):PO c (found++[t.v]) seen st:=by
 refine ⟨h.nd,.trans ?_ h.perm,h.reach,h.zero,λv hv=>?_,λt' ht'=>h.part t' (List.mem_append_left _ ht')⟩
 ·rw [List.map_append,List.append_assoc]
  exact List.Perm.append_left _ List.perm_append_comm
 ·rcases List.mem_append.mp hv with hv | hv
  ·exact h.done v hv
  ·obtain rfl:=List.mem_singleton.mp hv
   have:=(h.part t (List.mem_append_right _ (.head _))).2
   rwa [hk,List.take_of_length_le (Nat.le_refl _)] at this
private theorem PO.advance {c:aB} {found seen:List Nat} {st:List Ent} {t:Ent} {g:Nat} (h:PO c found seen (st++[t])) (hg:(be c t.v)[t.k]? = some g) (hs:g∈seen):PO c found seen (st++[{ t with k:=t.k + 1 }]):=by
 refine ⟨h.nd,by simpa using h.perm,h.reach,h.zero,h.done,λt' ht'=>?_⟩
 rcases List.mem_append.mp ht' with ht' | ht'
 ·exact h.part t' (List.mem_append_left _ ht')
 ·obtain rfl:t' = { t with k:=t.k + 1 }:=by simpa using ht'
  have z:=h.part t (List.mem_append_right _ (.head _))
  refine ⟨(List.getElem?_eq_some_iff.mp hg).1,λx hx=>?_⟩
  rw [List.take_add_one,hg] at hx
  rcases List.mem_append.mp hx with hx | hx
  ·exact z.2 x hx
  ·obtain rfl:=List.mem_singleton.mp hx
   exact hs
private theorem PO.push {c:aB} {found seen:List Nat} {st:List Ent} {t n:Ent} {g:Nat} (h:PO c found seen (st++[t])) (hg:(be c t.v)[t.k]? = some g) (hs:g∉seen) (hlt:g < c.length) (hn:n.v = g) (hk:n.k = 0):PO c found (seen++[g]) (st++[{ t with k:=t.k + 1 }]++[n]):=by
 have h1:∀ x∈seen,x∈seen++[g]:=λx hx=>List.mem_append_left _ hx
 have z:=h.part t (List.mem_append_right _ (.head _))
 have ht:t.v∈seen:=h.perm.subset (List.mem_append_right _ (List.mem_map.mpr ⟨t,List.mem_append_right _ (.head _),rfl⟩))
 refine ⟨?_,?_,λv hv=>?_,h1 _ h.zero,λv hv x hx=>h1 _ (h.done v hv x hx),λt' ht'=>?_⟩
 ·rw [List.nodup_append]
  exact ⟨h.nd,by simp,λa ha b hb e=>hs (by simp at hb;subst hb;subst e;exact ha)⟩
 ·have:=h.perm.append_right [g]
  simpa [hn] using this
 ·rcases List.mem_append.mp hv with hv | hv
  ·exact h.reach v hv
  ·obtain rfl:=List.mem_singleton.mp hv
   exact ⟨(h.reach _ ht).1.next (List.mem_of_getElem? hg),hlt⟩
 ·rcases List.mem_append.mp ht' with ht' | ht'
  ·rcases List.mem_append.mp ht' with ht' | ht'
   ·have:=h.part t' (List.mem_append_left _ ht')
    exact ⟨this.1,λx hx=>h1 _ (this.2 x hx)⟩
   ·obtain rfl:t' = { t with k:=t.k + 1 }:=by simpa using ht'
    refine ⟨(List.getElem?_eq_some_iff.mp hg).1,λx hx=>?_⟩
    rw [List.take_add_one,hg] at hx
    rcases List.mem_append.mp hx with hx | hx
    ·exact h1 _ (z.2 x hx)
    ·exact List.mem_append_right _ (by simpa using hx)
  ·obtain rfl:t' = n:=by simpa using ht'
   rw [hk]
   exact ⟨Nat.zero_le _,λx hx=>by simp at hx⟩
private theorem PO.lenle {c:aB} {found seen:List Nat} {st:List Ent} (h:PO c found seen st):seen.length≤c.length:=by
 have:=List.Nodup.length_le_of_subset h.nd (l₂:=List.range c.length) λx hx=>List.mem_range.mpr (h.reach x hx).2
 simpa using this
private theorem PO.fin {c:aB} {found seen:List Nat} (h:PO c found seen []) (g:Nat):g∈found↔Reach c g:=by
 have hp:∀ x,x∈found↔x∈seen:=λx=>by have:=h.perm.mem_iff (a:=x);simpa using this
 refine ⟨λhg=>(h.reach g ((hp g).mp hg)).1,λhg=>?_⟩
 induction hg with
 | zero=>exact (hp 0).mpr h.zero
 | step _ e hf ih =>
  refine (hp _).mpr (h.done _ ih _ ?_)
  unfold be;rw [e];exact hf
section
variable {hB:Heap} {H:MH}
private theorem eu {b n:Nat} {p:PBlock} {Q:QV} (hb:IsBlock H b n p) (q:∀ H' a,Own H H' [(a,.list (aA p.en.fol))]→Q (.ref a) H'):bE hB [.ref b] H Q :=
 gA hb λX=>by
  have:=q _ _ ((Own.start.app X).new (.list (aA p.en.fol)))
  simpa using this
inductive POI (H:MH) (c:aB) (f fa se sa:Nat):Nat→Loc→MH→Prop
 | mk (n:Nat) (H':MH) (found seen:List Nat) (st:List Ent) (u1 u2:Option MV) (o:Own H H' ([(fa,.list (aA found)),(se,.set (bK seen)),(sa,.list (st.map λt=>.ref t.e))]++st.flatMap (Ent.objs c)))
  (po:PO c found seen st) (hn:n = (c.length - seen.length) * 200 + jy c st + st.length):POI H c f fa se sa n [some (.ref f),some (.ref fa),u1,some (.ref se),some (.ref sa),u2] H'
private theorem z9 {c s S f k p l:Nat} (h1:s + 1≤c) (h2:k < f) (h3:p≤101):(c - (s + 1)) * 200 + (S + (f - (k + 1) + p)) + (l + 2) < (c - s) * 200 + (S + (f - k)) + (l + 1):=by
 rw [rY h1,rY h2];generalize c - (s + 1) = u;generalize f - (k + 1) = v
 have h2:u * 200 + (S + (v + p)) + 1 < (u + 1) * 200 + (S + (v + 1)):=by
  rw [Nat.succ_mul,Nat.add_assoc,Nat.add_assoc (u * 200),Nat.add_comm 200]
  refine Nat.add_lt_add_left (Nat.lt_of_le_of_lt (Nat.succ_le_succ (Nat.add_le_add_left (Nat.add_le_add_left h3 v) S)) ?_) _
  rw [show v + 101 = v + 1 + 100 from (Nat.add_assoc v 1 100).symm,← Nat.add_assoc S]
  exact Nat.add_lt_add_left (by decide:101 < 200) _
 exact Nat.lt_of_le_of_lt (Nat.le_of_eq (Nat.succ_add _ _).symm) (Nat.add_lt_add_right h2 (l + 1))
private theorem xw {f ps sl bl:Nat} {bs:List Nat} {c:aB} {fa se sa n:Nat} {L:Loc} {H':MH} {Q:QS} (hc:CodeAt H f ps sl bl bs c) (hk:FolOk c) (hi:POI H c f fa se sa n L H')
  (q:∀ u1 u2 found seen H',Own H H' [(fa,.list (aA found))]→PO c found seen []→Q .next [some (.ref f),some (.ref fa),u1,some (.ref se),some (.ref sa),u2] H') :
  eX (ai 4) L H' (kWh (aj (au (aP (ai 4) (eI (az 1))) (aw 5))
   (aj
    (sIf (aM COp.eq (aP (ai 5) (az 2)) (aI (ae (aP (ai 5) (az 1)) am) gb))
     (aj (bC (bW Kd.list (ai 1) (ae (aP (ai 5) (az 0)) am) b7))
      (aj (bC (iq Kd.list (ai 4) rO)) (aj rr ay)))
     ay)
    (aj (au (aP (aP (ai 5) (az 1)) (aP (ai 5) (az 2))) (aw 2))
     (aj (xA (ai 5) (az 2) (az 1))
      (aj
       (sIf (aM COp.notIn (ai 2) (ai 3))
        (aj (bC (bW Kd.set (ai 3) (ae (ai 2) am) oj))
         (aj
          (bC
           (bW Kd.list (ai 4)
            (ae
             (aW
              (ae (ai 2)
               (ae (aI (ae (aP (aD (ai 0) 13) (ai 2)) am) (bE hB))
                (ae (az 0) am))))
             am)
            b7))
          ay))
        ay)
       ay))))) (POI H c f fa se sa) n L Q):=by
 obtain ⟨_,_,found,seen,st,u1,u2,o,po,hn⟩:=hi
 have hfa:=o.has (fa,_) (.head _)
 have hse:=o.has (se,_) (.tail _ (.head _))
 have hsa:=o.has (sa,_) (.tail _ (.tail _ (.head _)))
 have hsl:=po.lenle
 have hcl:=hk.len
 have hfl:found.length + st.length = seen.length:=by have:=po.perm.length_eq;simpa using this
 dsimp only at hfa hse hsa
 simp [hsa]
 refine aL (λhs=>?_) λhs=>?_
 ·obtain ⟨st,t,rfl⟩:∃ st' t,st = st'++[t]:=by
   rcases List.eq_nil_or_concat st with rfl | ⟨st',t,rfl⟩
   ·simp at hs
   ·exact ⟨st',t,by simp⟩
  rw [List.flatMap_append] at o
  simp only [List.flatMap_cons,List.flatMap_nil,List.append_nil] at o
  rw [← List.append_assoc] at o
  rw [List.map_append] at hsa o
  simp only [List.map_cons,List.map_nil] at hsa o
  simp only [List.length_append,List.length_cons,List.length_nil] at hfl
  have hte:=o.has (t.e,_) (List.mem_append_right _ (.head _))
  have htf:=o.has (t.fl,_) (List.mem_append_right _ (.tail _ (.head _)))
  dsimp only at hte htf
  have hpt:=(po.part t (List.mem_append_right _ (.head _))).1
  simp [hsa,hte,htf]
  refine aL (λhkk=>?_) λhkk=>?_
  ·have hkk:t.k = (be c t.v).length:=by simpa using hkk
   have o1:=Own.set (pre:=[]) (a:=fa) o (.list (aA found++[.int (t.v:Nat)]))
   have h1:=o1.has (sa,_) (.tail _ (.tail _ (.head _)))
   dsimp only at h1
   have o2:=Own.set (pre:=[(fa,.list (aA found++[.int (t.v:Nat)])),(se,.set (bK seen))]) (a:=sa) o1 (.list (st.map λt=>.ref t.e))
   simp [hfa,hte,h1]
   refine ⟨by omega,mT h1 (by simp;omega) ?_⟩
   simp
   refine ⟨_,?_,.mk _ _ (found++[t.v]) seen st _ _ ?_ (po.pop hkk) rfl⟩
   ·rw [hn];simp [jy];omega
   ·refine o2.sub ?_
    simp
  ·have hkk:¬ t.k = (be c t.v).length:=by simpa using hkk
   have hlt:t.k < (be c t.v).length:=Nat.lt_of_le_of_ne (by assumption) hkk
   obtain ⟨g,hg⟩:∃ g,(be c t.v)[t.k]? = some g:=⟨_,List.getElem?_eq_getElem hlt⟩
   have hgi:itO (some (.list (aA (be c t.v)))) (t.k:Int) = some (.int (g:Nat)):=b8 (by rw [aA,List.getElem?_map,hg];rfl)
   have htv:t.v < c.length:=(po.reach t.v (po.perm.subset (List.mem_append_right _ (List.mem_map.mpr ⟨t,List.mem_append_right _ (.head _),rfl⟩)))).2
   obtain ⟨pt,ept,fpt,mpt⟩:=hk.at_ htv
   have hgl:g < c.length:=hk.lt pt mpt g (by rw [← fpt];exact List.mem_of_getElem? hg)
   obtain ⟨pg,epg,fpg,mpg⟩:=hk.at_ hgl
   simp [hte,htf,hgi]
   refine Av hte ?_
   have o1:=Own.set (a:=t.e) o (.list [.int (t.v:Nat),.ref t.fl,.int ((t.k + 1:Nat):Int)])
   have h1:=o1.has (se,_) (.tail _ (.head _))
   dsimp only at h1
   have e1:((t.k:Int) + 1) = ((t.k + 1:Nat):Int):=rfl
   rw [e1]
   generalize H'.set t.e _ = H1 at *
   simp [h1]
   refine aL (λhm=>?_) λhm=>?_
   ·have hm:g∉seen:=by simpa using hm
    have o2:=Own.set (pre:=[(fa,.list (aA found))]) (a:=se) o1 (.set (bK (seen++[g])))
    have h2:=o2.has (sa,_) (.tail _ (.tail _ (.head _)))
    have hf2:=o2.pre _ _ hc.fn
    have hb2:=o2.pre _ _ hc.bl
    obtain ⟨b,hbi,hbs,hbl⟩:=hc.blkRef epg
    have hbl2:=o2.block hbl
    dsimp only at h2
    rw [nE] at o2 h2 hf2 hb2 hbl2
    simp [h1,hm,h2,hf2,hb2,hbi]
    refine ⟨by exact Nat.le_trans ‹_› (Nat.le_trans ‹_› (by decide)),?_⟩
    generalize H1.set se _ = H2 at *
    refine eu hbl2 λH3 a o3=>?_
    have o4:=(o2.trans o3).new (.list [.int (g:Nat),.ref a,.int 0])
    have h4:=o4.has (sa,_) (.tail _ (.tail _ (.tail _ (.tail _ (.head _)))))
    dsimp only at h4
    simp [h4]
    refine ⟨by omega,_,?_,.mk _ _ found (seen++[g]) (st++[{ t with k:=t.k + 1 }]++[⟨H3.length,g,a,0⟩]) _ _ ?_ (po.push hg hm hgl rfl rfl) rfl⟩
    ·have hfew:=hk.few pg mpg
     have:=(po.push (n:=⟨H3.length,g,a,0⟩) hg hm hgl rfl rfl).lenle
     rw [hn];simp [jy,fpg] at this ⊢;exact z9 this hlt hfew
    ·have o5:=Own.set (pre:=[(H3.length,.list [.int (g:Nat),.ref a,.int 0]),(a,.list (aA pg.en.fol)),(fa,.list (aA found)),(se,.set (bK seen++[(g:Int)]))]) (a:=sa) o4 (.list (st.map (λt=>.ref t.e)++[.ref t.e,.ref H3.length]))
     refine o5.perm ?_
     have:=List.perm_append_comm (l₁:=(fa,MObj.list (aA found)) :: (se,.set (bK seen++[(g:Int)])) :: (sa,.list (st.map (λt=>.ref t.e)++[.ref t.e,.ref H3.length])) :: st.flatMap (Ent.objs c)++Ent.objs c { t with k:=t.k + 1 })
      (l₂:=[(H3.length,.list [.int (g:Nat),.ref a,.int 0]),(a,.list (aA pg.en.fol))])
     simpa [Ent.objs,fpg] using this
   ·have hm:g∈seen:=by simpa using hm
    simp
    refine ⟨_,?_,.mk _ _ found seen (st++[{ t with k:=t.k + 1 }]) _ _ ?_ (po.advance hg hm) rfl⟩
    ·rw [hn];simp [jy];exact wn hlt
    ·simpa [Ent.objs] using o1
 ·obtain rfl:st = []:=by cases st with
   | nil=>rfl
   | cons a b=>cases hs
  simp
  exact q _ _ found seen _ (o.sub (by simp)) po
private theorem rj {f ps sl bl:Nat} {bs:List Nat} {c:aB} {Q:QV} (hc:CodeAt H f ps sl bl bs c) (hk:FolOk c)
  (q:∀ X a row,(H++X)[a]? = some (.list (aA row))→row.Nodup→(∀ g,g∈row↔Reach c g)→Q (.ref a) (H++X)):hO hB [.ref f] H Q:=by
 refine fn rfl [some (.ref f),none,none,none,none,none] rfl ?_
 obtain ⟨p0,e0,f0,m0⟩:=hk.at_ hk.pos
 obtain ⟨b0,hb0,hbl0⟩:=hc.get e0
 have hbs:(bs.map MV.ref)[0]? = some (.ref b0):=by rw [List.getElem?_map,hb0];rfl
 obtain ⟨bs',hbs'⟩:∃ r,bs.map MV.ref = .ref b0 :: r:=by
  cases h:bs.map MV.ref with
  | nil=>rw [h] at hbs;cases hbs
  | cons a r=>rw [h] at hbs;cases hbs;exact ⟨_,rfl⟩
 have hbl:=hc.bl
 rw [hbs'] at hbl
 simp [lk,app hc.fn,app hbl]
 refine eu (hbl0.app _) λH1 a o1=>?_
 simp
 have o:=((((Own.start (H:=H)).new (.list [])).new (.set [0])).trans (l':=[(a,.list (aA p0.en.fol))]) (by simpa using o1)).new (.list [.int 0,.ref a,.int 0])
 have o:=o.new (.list [.ref H1.length])
 simp at o
 refine dX (POI H c f H.length (H.length + 1) (H1.length + 1)) _ (.mk _ _ [] [0] [⟨H1.length,0,a,0⟩] none none (o.perm ?_) ?_ rfl) ?_
 ·rw [← f0]
  exact (List.perm_append_comm (l₁:=[_,_]) (l₂:=[_,_,_])).trans (List.Perm.append_left [_,_,_] (List.Perm.swap _ _ _))
 ·refine ⟨by simp,.refl _,λv hv=>?_,.head _,λv hv=>(nomatch hv),λt ht=>?_⟩
  ·obtain rfl:=List.mem_singleton.mp hv
   exact ⟨.zero,hk.pos⟩
  ·obtain rfl:=List.mem_singleton.mp ht
   exact ⟨Nat.zero_le _,λx hx=>by simp at hx⟩
 ·rintro n L' H' hi
  refine xw hc hk hi λu1 u2 found seen H' o po=>?_
  obtain ⟨X,rfl⟩:=o.eq
  simp
  refine q X _ found (o.has _ (.head _)) ?_ po.fin
  exact (po.perm.nodup_iff.mpr po.nd).sublist (by simp)
end
end Mine
end
section
namespace Mine
structure RowOk (c:aB) (row:List Nat):Prop where
 nd:row.Nodup
 mem:∀ g,g∈row↔Reach c g
private theorem Reach.lt {c:aB} (h:FolOk c) {g:Nat} (r:Reach c g):g < c.length:=by
 cases r with
 | zero=>exact h.pos
 | step _ e hg=>exact h.lt _ (List.mem_of_getElem? e) _ hg
private theorem RowOk.lt {c:aB} {row:List Nat} (h:RowOk c row) (k:FolOk c):∀ g∈row,g < c.length:=λg hg=>((h.mem g).mp hg).lt k
private theorem RowOk.len {c:aB} {row:List Nat} (h:RowOk c row) (k:FolOk c):row.length≤c.length:=by
 have:=List.Nodup.length_le_of_subset h.nd (l₂:=List.range c.length) λx hx=>List.mem_range.mpr (h.lt k x hx)
 simpa using this
structure Cnt (l:List (Nat×Nat)) (P:List Nat):Prop where
 at_:∀ g,l.lookup g = if P.count g = 0 then none else some (P.count g)
 len:l.length≤P.length
private theorem Cnt.add {l:List (Nat×Nat)} {P:List Nat} (h:Cnt l P) (x:Nat):Cnt (oD x (P.count x + 1) l) (P++[x]):=by
 refine ⟨λg=>?_,Nat.le_trans fc (by rw [List.length_append];exact Nat.succ_le_succ h.len)⟩
 rw [dS,h.at_,List.count_append,List.count_singleton]
 by_cases e:g = x
 ·subst e;simp
 ·rw [if_neg e,beq_eq_false_iff_ne.mpr (Ne.symm e)];simp
set_option tactic.hygienic true in
private theorem Cnt.get {l:List (Nat×Nat)} {P:List Nat} (h:Cnt l P) (x:Nat):gtV ((dn l).lookup (x:Int)) (.int 0) = .int (P.count x:Nat):=by
 rw [du,h.at_]
 split
 ·rename_i e;rw [e];rfl
 ·rfl
section
variable {hB:Heap} {H:MH}
private theorem wm {f ps sl bl:Nat} {bs:List Nat} {c:aB} {Q:QV} (hc:CodeAt H f ps sl bl bs c) (hk:FolOk c)
  (q:∀ X a row,(H++X)[a]? = some (.list (aA row))→RowOk c row→Q (.ref a) (H++X)):qH hB [.ref f] H Q:=by
 refine fn rfl [some (.ref f)] rfl ?_
 simp [uq]
 refine rj hc hk λX a row ha nd mem=>?_
 have hl:=RowOk.len ⟨nd,mem⟩ hk
 have:=hk.len
 simp [ha]
 refine ⟨by exact Nat.le_trans ‹_› (Nat.le_trans ‹_› (by decide)),?_⟩
 have:=q (X++[.list (aA row.reverse)]) (H++X).length row.reverse (by rw [← List.append_assoc];exact cO) ⟨(List.reverse_perm row).nodup_iff.mpr nd,λg=>by rw [List.mem_reverse];exact mem g⟩
 simpa [aA,List.map_reverse] using this
inductive EIO (H:MH) (f ra:Nat) (d:Nat) (P:List Nat):Loc→MH→Prop
 | mk (l:List (Nat×Nat)) (u1 u2:Option MV) (H':MH) (o:Own H H' [(d,.dict (dn l))]) (h:Cnt l P):EIO H f ra d P [some (.ref f),some (.ref ra),u1,some (.ref d),u2] H'
private theorem rT {c:aB} (h:FolOk c):∀ {l:List Nat},(l.flatMap (be c)).length≤l.length * 101
 | []=>Nat.le_refl _
 | a :: l=>by
  have ih:=rT h (l:=l)
  rw [List.flatMap_cons,List.length_append,List.length_cons]
  have:(be c a).length≤101:=by
   unfold be
   cases e:c[a]? with
   | none=>exact Nat.zero_le _
   | some p=>exact h.few p (List.mem_of_getElem? e)
  omega
private theorem oR {f ps sl bl ra:Nat} {bs row:List Nat} {c:aB} {Q:QV} (hc:CodeAt H f ps sl bl bs c) (hk:FolOk c) (hr:H[ra]? = some (.list (aA row))) (ho:RowOk c row)
  (q:∀ X d l,(H++X)[d]? = some (.dict (dn l))→Cnt l (row.flatMap (be c))→Q (.ref d) (H++X)):gB hB [.ref f,.ref ra] H Q:=by
 refine fn rfl [some (.ref f),some (.ref ra),none,none,none] rfl ?_
 have hrl:=ho.len hk
 have hcl:=hk.len
 simp [jJ,app hr]
 refine bb (λj=>EIO H f ra H.length ((row.take j).flatMap (be c))) (.mk [] _ _ _ (Own.start.new _) ⟨λg=>by simp,Nat.le_refl _⟩) ?_ ?_ ?_
 ·rintro j L' H' ⟨l,u1,u2,_,o,h⟩
  exact o.pre _ _ hr
 ·rintro j m L' H' hm ⟨l,u1,u2,_,o,h⟩
  obtain ⟨v,hv,rfl⟩:=co (l:=row) (j:=j) hm
  have hvl:=ho.lt hk v (List.mem_of_getElem? hv)
  obtain ⟨p,ep,fp,mp⟩:=hk.at_ hvl
  obtain ⟨b,hbi,hbs,hbl⟩:=hc.blkRef ep
  have hP:(row.take (j + 1)).flatMap (be c) = (row.take j).flatMap (be c)++p.en.fol:=by
   rw [List.take_add_one,hv,List.flatMap_append];simp [fp]
  have hlen:=rT hk (l:=row.take (j + 1))
  have hjl:(row.take (j + 1)).length≤60:=by rw [List.length_take];exact lh (Nat.le_trans (by assumption) (by assumption))
  rw [hP,List.length_append] at hlen
  have hf:=o.pre _ _ hc.fn
  have hb:=o.pre _ _ hc.bl
  simp [hf,hb,hbi]
  refine eu (o.block hbl) λH1 a o1=>?_
  have ha:=o1.has (a,_) (.head _)
  dsimp only at ha
  have o2:=o.trans o1
  simp [ha]
  refine bb (λi L H2=>EIO H f ra H.length ((row.take j).flatMap (be c)++p.en.fol.take i) L H2∧H2[a]? = some (.list (aA p.en.fol))) ⟨.mk l _ _ _ (o2.sub (List.sublist_cons_self _ _)) (by simpa using h),ha⟩ (λi L' H' h=>h.2) ?_ ?_
  ·rintro i m L' H2 hm2 ⟨⟨l2,u1,u2,_,o3,h3⟩,ha3⟩
   obtain ⟨x,hx,rfl⟩:=co (l:=p.en.fol) (j:=i) hm2
   have hd:=o3.has (H.length,_) (.head _)
   dsimp only at hd
   have hput:=h3.add x
   have hl2:l2.length≤7000:=by
    have:=h3.len
    rw [List.length_append,List.length_take] at this
    omega
   have e1:∀ (k n:Nat) (l:List (Nat×Nat)),nT (k:Int) ((n:Int) + 1) (dn l) = dn (oD k (n + 1) l):=λU U U=>uf
   generalize hPP:(row.take j).flatMap (be c)++p.en.fol.take i = P at *
   simp [hd,h3.get x,-du,e1]
   refine ⟨by exact Nat.le_trans ‹_› (by decide),?_,aJ ha3 λe=>?_⟩
   ·rw [List.take_add_one,hx]
    simp only [Option.toList_some]
    rw [← List.append_assoc,hPP]
    exact .mk _ _ _ _ (Own.set (pre:=[]) o3 _) hput
   ·subst e;rw [hd] at ha3;cases ha3
  ·rintro L' H2 ⟨hh,_⟩
   rw [cA (show (It.list a (aA p.en.fol)).size = p.en.fol.length by simp [It.size]),← hP] at hh
   simpa using hh
 ·rintro L' H' ⟨l,u1,u2,_,o,h⟩
  obtain ⟨X,rfl⟩:=o.eq
  rw [cA (show (It.list ra (aA row)).size = row.length by simp [It.size])] at h
  simp
  exact q X _ l (o.has _ (.head _)) h
end
end Mine
end
section
namespace Mine
noncomputable def dP (row gone:List Nat):List Nat:=row.filter λv=>!gone.contains v
noncomputable def cj (c:aB) (i:Nat):List Row:=match c[i]? with | some p=>p.rows | none=>[]
inductive Join (row E:List Nat) (c0:aB):aB→List Nat→Prop
 | refl:Join row E c0 c0 []
 | step (c:aB) (gone:List Nat) (v g:Nat) (p q:PBlock):Join row E c0 c gone→v∈row→v∉gone→c[v]? = some p→p.en = .jump g→g≠0→g≠v→E.count g = 1→c[g]? = some q→Join row E c0 (c.set v ⟨p.rows++q.rows,q.en⟩) (gone++[g])
private theorem mem_live {row gone:List Nat} {v:Nat}:v∈dP row gone↔v∈row∧v∉gone:=by
 unfold dP;rw [List.mem_filter];simp
private theorem kX {row gone:List Nat} {v g:Nat} {f f':Nat→Nat} (nd:row.Nodup) (hv:v∈dP row gone) (hg:g∈dP row gone) (ne:g≠v) (hf:∀ u,u≠v→f' u = f u) :
  ∃ R,((dP row gone).map f).sum = f v + f g + R∧((dP row (gone++[g])).map f').sum = f' v + R:=by
 have nl:(dP row gone).Nodup:=nd.sublist List.filter_sublist
 have e1:dP row (gone++[g]) = (dP row gone).erase g:=by
  rw [nl.erase_eq_filter]
  unfold dP
  rw [List.filter_filter]
  refine List.filter_congr λu U=>?_
  rw [Bool.eq_iff_iff]
  simp
  exact and_comm
 have p1:=List.perm_cons_erase hg
 have hv':v∈(dP row gone).erase g:=(List.mem_erase_of_ne (Ne.symm ne)).mpr hv
 have p2:=List.perm_cons_erase hv'
 refine ⟨((((dP row gone).erase g).erase v).map f).sum,?_,?_⟩
 ·have:=((p1.trans (p2.cons g)).map f).sum_nat
  rw [this,List.map_cons,List.map_cons,List.sum_cons,List.sum_cons];omega
 ·rw [e1]
  have:=(p2.map f').sum_nat
  rw [this,List.map_cons,List.sum_cons]
  congr 2
  refine List.map_congr_left λu hu=>hf u λe=>?_
  subst e
  exact (List.Nodup.not_mem_erase (nl.erase g)) hu
structure JS (c0:aB) (row E:List Nat) (S:Nat) (c:aB) (gone:List Nat):Prop where
 nd:row.Nodup
 len:c.length = c0.length
 lt:∀ v∈row,v < c0.length
 fol:∀ v∈row,∀ g∈be c v,g∈row
 cnt:∀ g,((dP row gone).map λv=>(be c v).count g).sum + (if g∈gone then 1 else 0) = E.count g
 gnd:gone.Nodup
 gsub:∀ g∈gone,g∈row∧g≠0
 sz:((dP row gone).map λv=>(cj c v).length).sum≤S
 rel:Join row E c0 c gone
private theorem dB {c:aB} {i:Nat} {p:PBlock} (h:c[i]? = some p):be c i = p.en.fol:=by unfold be;rw [h]
private theorem cY {c:aB} {i:Nat} {p:PBlock} (h:c[i]? = some p):cj c i = p.rows:=by unfold cj;rw [h]
private theorem j9 {f:Nat→Nat} {v:Nat}:∀ {l:List Nat},v∈l→f v≤(l.map f).sum
 | a :: l,h=>by
  rw [List.map_cons,List.sum_cons]
  rcases List.mem_cons.mp h with rfl | h
  ·exact Nat.le_add_right _ _
  ·exact Nat.le_trans (j9 h) (Nat.le_add_left _ _)
private theorem JS.pos {c0 c:aB} {row E gone:List Nat} {S v g:Nat} {p:PBlock} (h:JS c0 row E S c gone) (hv:v∈row) (hn:v∉gone) (ep:c[v]? = some p) (ej:p.en = .jump g):g∈row∧E.count g≠0∧(E.count g = 1→g∉gone):=by
 have hfol:be c v = [g]:=by rw [dB ep,ej];rfl
 have h1:=j9 (f:=λv=>(be c v).count g) (mem_live.mpr ⟨hv,hn⟩)
 simp only [hfol,List.count_singleton_self] at h1
 have h2:=h.cnt g
 refine ⟨h.fol v hv g (by rw [hfol];exact .head _),by omega,λe hg=>?_⟩
 rw [if_pos hg] at h2
 omega
private theorem JS.step {c0 c:aB} {row E gone:List Nat} {S v g:Nat} {p q:PBlock} (h:JS c0 row E S c gone) (hv:v∈row) (hn:v∉gone) (ep:c[v]? = some p) (ej:p.en = .jump g) (g0:g≠0) (gv:g≠v) (hE:E.count g = 1) (eq:c[g]? = some q) :
  JS c0 row E S (c.set v ⟨p.rows++q.rows,q.en⟩) (gone++[g]):=by
 obtain ⟨hgr,_,hgn⟩:=h.pos hv hn ep ej
 have hgn:=hgn hE
 have hvl:=(List.getElem?_eq_some_iff.mp ep).1
 have hl:=mem_live.mpr ⟨hv,hn⟩
 have hlg:=mem_live.mpr ⟨hgr,hgn⟩
 have ev:(c.set v ⟨p.rows++q.rows,q.en⟩)[v]? = some ⟨p.rows++q.rows,q.en⟩:=List.getElem?_set_self hvl
 have eo:∀ u,u≠v→(c.set v ⟨p.rows++q.rows,q.en⟩)[u]? = c[u]?:=λu hu=>List.getElem?_set_ne (Ne.symm hu)
 have fo:∀ u,u≠v→be (c.set v ⟨p.rows++q.rows,q.en⟩) u = be c u:=λu hu=>by unfold be;rw [eo u hu]
 have ro:∀ u,u≠v→cj (c.set v ⟨p.rows++q.rows,q.en⟩) u = cj c u:=λu hu=>by unfold cj;rw [eo u hu]
 refine ⟨h.nd,by rw [List.length_set];exact h.len,h.lt,λu hu x hx=>?_,λx=>?_,?_,λx hx=>?_,?_,.step c gone v g p q h.rel hv hn ep ej g0 gv hE eq⟩
 ·by_cases e:u = v
  ·subst e
   rw [dB ev] at hx
   exact h.fol g hgr x (by rw [dB eq];exact hx)
  ·rw [fo u e] at hx;exact h.fol u hu x hx
 ·obtain ⟨R,h1,h2⟩:=kX (f:=λu=>(be c u).count x) (f':=λu=>(be (c.set v ⟨p.rows++q.rows,q.en⟩) u).count x) h.nd hl hlg gv λu hu=>by rw [fo u hu]
  have h3:=h.cnt x
  simp only [dB ev,dB ep,dB eq,ej,PEnd.fol] at h1 h2
  rw [h1,List.count_singleton] at h3
  rw [h2]
  by_cases e:x = g
  ·subst e
   rw [if_neg hgn,if_pos (beq_self_eq_true x)] at h3
   rw [if_pos (by simp)]
   omega
  ·rw [beq_eq_false_iff_ne.mpr (Ne.symm e)] at h3
   simp only [List.mem_append,List.mem_singleton,e,or_false]
   simp only [Bool.false_eq_true,if_false] at h3
   omega
 ·rw [List.nodup_append]
  exact ⟨h.gnd,by simp,λa ha b hb e=>hgn (by simp at hb;subst hb;subst e;exact ha)⟩
 ·rcases List.mem_append.mp hx with hx | hx
  ·exact h.gsub x hx
  ·obtain rfl:x = g:=by simpa using hx
   exact ⟨hgr,g0⟩
 ·obtain ⟨R,h1,h2⟩:=kX (f:=λu=>(cj c u).length) (f':=λu=>(cj (c.set v ⟨p.rows++q.rows,q.en⟩) u).length) h.nd hl hlg gv λu hu=>by rw [ro u hu]
  have h3:=h.sz
  simp only [cY ev,cY ep,cY eq,List.length_append] at h1 h2
  omega
noncomputable def uN (c:aB) (E:List Nat) (v:Nat):Prop:=∀ p g,c[v]? = some p→p.en = .jump g→g = 0∨g = v∨E.count g≠1
end Mine
end
section
namespace Mine
section
variable {hB:Heap} {H:MH}
structure JI (H:MH) (f ps sl bl ra d gs:Nat) (bs:List Nat) (c0:aB) (row E:List Nat) (S:Nat) (l:List (Nat×Nat)) (c:aB) (gone:List Nat) (H':MH):Prop where
 kp:Kp H H'
 ca:CodeAt H' f ps sl bl bs c
 hr:H'[ra]? = some (.list (aA row))
 hd:H'[d]? = some (.dict (dn l))
 hg:H'[gs]? = some (.set (bK gone))
 js:JS c0 row E S c gone
private theorem JI.app {f ps sl bl ra d gs:Nat} {bs row E gone:List Nat} {c0 c:aB} {S:Nat} {l:List (Nat×Nat)} {H':MH} (h:JI H f ps sl bl ra d gs bs c0 row E S l c gone H') (X:MH):JI H f ps sl bl ra d gs bs c0 row E S l c gone (H'++X) :=
 ⟨h.kp.trans .app,h.ca.app X,Mine.app h.hr X,Mine.app h.hd X,Mine.app h.hg X,h.js⟩
private theorem JI.step {f ps sl bl ra d gs b v g st:Nat} {bs row E gone:List Nat} {c0 c:aB} {S:Nat} {l:List (Nat×Nat)} {H':MH} {p q:PBlock} {eg:Nat} {vs vs':List MV} (h:JI H f ps sl bl ra d gs bs c0 row E S l c gone H')
  (hv:v∈row) (hn:v∉gone) (ep:c[v]? = some p) (ej:p.en = .jump g) (g0:g≠0) (gv:g≠v) (hE:E.count g = 1) (eq:c[g]? = some q) (hb:bs[v]? = some b)
  (h1:H'[st]? = some (.list (vs++vs'))) (h2:All2 (IsStep H') vs p.rows) (h3:All2 (IsStep H') vs' q.rows) (h4:IsEnd H' eg q.en) :
  JI H f ps sl bl ra d gs bs c0 row E S l (c.set v ⟨p.rows++q.rows,q.en⟩) (gone++[g]) ((H'.set b (blk v st eg)).set gs (.set (bK gone++[(g:Int)]))):=by
 have z:=h.ca.setB (p:=⟨p.rows++q.rows,q.en⟩) hb h1 (h2.append h3) h4
 obtain ⟨_,_,st0,e0,vs0,k1,_⟩:=h.ca.gets hb
 have nd:b≠d:=λe=>by subst e;rw [h.hd] at k1;cases k1
 have ng:b≠gs:=λe=>by subst e;rw [h.hg] at k1;cases k1
 have hg:=aJ (p:=blk v st eg) h.hg ng
 have hd:=aJ (p:=blk v st eg) h.hd nd
 have dg:gs≠d:=λe=>by subst e;have:=h.hd;rw [h.hg] at this;cases this
 refine ⟨(h.kp.trans z.1).trans (.set hg rfl),z.2.setO hg rfl (λU U e=>by cases e),(Kp.set hg rfl) _ _ (z.1 _ _ h.hr rfl) rfl,aJ hd dg,?_,h.js.step hv hn ep ej g0 gv hE eq⟩
 rw [nE];exact eV hg
inductive JW (H:MH) (f ps sl bl ra d gs:Nat) (bs:List Nat) (c0:aB) (row E:List Nat) (S:Nat) (l:List (Nat×Nat)) (b v:Nat) (P:aB→List Nat→Prop):Nat→Loc→MH→Prop
 | mk (n:Nat) (c:aB) (gone:List Nat) (u:Option MV) (H':MH) (ji:JI H f ps sl bl ra d gs bs c0 row E S l c gone H') (hn:v∉gone) (hp:gone = []→P c gone) (hm:n + gone.length = row.length + 1) :
   JW H f ps sl bl ra d gs bs c0 row E S l b v P n [some (.ref f),some (.ref ra),some (.ref b),some (.ref d),u,some (.ref gs),some (.int (v:Nat))] H'
private theorem nU {f ps sl bl ra d gs b v n:Nat} {bs row E:List Nat} {c0:aB} {S:Nat} {l:List (Nat×Nat)} {P:aB→List Nat→Prop} {L:Loc} {H':MH} {Q:QS} (hl:Cnt l E) (hS:S≤1000) (hcl:c0.length≤60) (hv:v∈row) (hb:bs[v]? = some b)
  (h0:JW H f ps sl bl ra d gs bs c0 row E S l b v P n L H')
  (q:∀ c gone u H',JI H f ps sl bl ra d gs bs c0 row E S l c gone H'→(gone = []→P c gone∧uN c E v)→Q .next [some (.ref f),some (.ref ra),some (.ref b),some (.ref d),u,some (.ref gs),some (.int (v:Nat))] H') :
  gD (aM .eq (aD (aD (ai 2) 8) 0) (aQ 8)) (aj (au (aD (aD (ai 2) 8) 3) (aw 4)) (aj (sIf (bOr (aM .eq (ai 4) (az 0)) (bOr (aM .eq (ai 4) (ai 6)) (bOr (aM .ne (aP (ai 3) (ai 4)) (az 1)) ck))) (aj xq ay) ay)
   (aj (au (bZ (aD (ai 2) 7) (aD (aP (aD (ai 0) 13) (ai 4)) 7)) (cn (ai 2) 7)) (aj (au (aD (aP (aD (ai 0) 13) (ai 4)) 8) (cn (ai 2) 8)) (aj (bC (bW .set (ai 5) (ae (ai 4) am) oj)) ay))))) L H' Q:=by
 refine dX (JW H f ps sl bl ra d gs bs c0 row E S l b v P) n h0 ?_
 rintro n L H' ⟨_,c,gone,u,_,ji,hn,hp,hm⟩
 obtain ⟨p,ep,st,e0,vs,g1,g2,g3,a,m,ln,g4,g5,g6⟩:=ji.ca.gets hb
 have g7:IsEnd H' e0 p.en:=⟨a,m,ln,g4,g5,g6⟩
 have hgl:gone.length≤row.length:=List.Nodup.length_le_of_subset ji.js.gnd λx hx=>(ji.js.gsub x hx).1
 have hrl:row.length≤60:=by
  have:=List.Nodup.length_le_of_subset ji.js.nd (l₂:=List.range c0.length) λx hx=>List.mem_range.mpr (ji.js.lt x hx)
  rw [List.length_range] at this
  exact Nat.le_trans ‹_› (Nat.le_trans ‹_› (by decide))
 simp [g1,g4]
 refine aL (λho=>?_) λho=>?_
 ·obtain ⟨g,ej⟩:∃ g,p.en = .jump g:=by
   generalize p.en = X at ho
   cases X with
   | jump g=>exact ⟨g,rfl⟩
   | _=>cases ho
  rw [ej] at g6
  obtain rfl:=g6
  obtain ⟨hgr,hpos,hgn⟩:=ji.js.pos hv hn ep ej
  have brk:(g = 0∨g = v∨E.count g≠1)→gone = []→P c gone∧uN c E v:=λh e=>⟨hp e,λp' g' ep' ej'=>by rw [ep] at ep';cases ep';rw [ej] at ej';cases ej';exact h⟩
  have hE:itO (some (.dict (dn l))) (g:Int) = some (.int (E.count g:Nat)):=by
   show ((dn l).lookup (g:Int)).map MV.int = _
   rw [du,hl.at_,if_neg hpos];rfl
  simp [g1,g4]
  refine aL (λhz=>?_) λhz=>?_
  ·have hz:g = 0:=by simp at hz;exact ‹_›
   simp
   exact q c gone _ _ ji (brk (.inl hz))
  ·have hz:g≠0:=by simp at hz;exact ‹_›
   simp
   refine aL (λhz2=>?_) λhz2=>?_
   ·simp
    exact q c gone _ _ ji (brk (.inr (.inl (by simpa using hz2))))
   ·have hgv:g≠v:=by simpa using hz2
    simp [ji.hd,hE,-wr]
    refine aL (λhz3=>?_) λhz3=>?_
    ·simp
     refine q c gone _ _ ji (brk (.inr (.inr λe=>?_)))
     rw [e] at hz3;cases hz3
    ·have h1:E.count g = 1:=by simp at hz3;omega
     have hgn:=hgn h1
     obtain ⟨q',eq'⟩:∃ q,c[g]? = some q:=⟨_,List.getElem?_eq_getElem (by rw [ji.js.len];exact ji.js.lt g hgr)⟩
     obtain ⟨bg,hbi,hbg,stg,eg,vsg,k1,k2,k3,k4⟩:=ji.ca.blkRef eq'
     have hne:b≠bg:=λe=>by
      subst e
      exact hgv ((List.getElem?_inj (List.getElem?_eq_some_iff.mp hb).1 ji.ca.nd).mp (hb.trans hbg.symm)).symm
     have js':=ji.js.step hv hn ep ej hz hgv h1 eq'
     have hsz:=ji.js.sz
     have hs1:=j9 (f:=λv=>(cj c v).length) (mem_live.mpr ⟨hv,hn⟩)
     have hs2:=j9 (f:=λv=>(cj c v).length) (mem_live.mpr ⟨hgr,hgn⟩)
     simp only [cY ep,cY eq',← g3.1,← k3.1] at hs1 hs2
     have jiA:=ji.app [.list (vs++vsg)]
     have jiS:=jiA.step (p:=p) (st:=H'.length) (eg:=eg) (vs:=vs) (vs':=vsg) hv hn ep ej hz hgv h1 eq' hb cO (g3.mono λU U=>IsStep.kp .app) (k3.mono λU U=>IsStep.kp .app) (k4.kp .app)
     have A1:∀ x,((H'++[MObj.list (vs++vsg)]).set b x)[b]? = some x:=λx=>eV (app g1 _)
     have A2:∀ x,((H'++[MObj.list (vs++vsg)]).set b x)[bg]? = some (blk g stg eg):=λx=>aJ (app k1 _) hne
     have nbf:b≠f:=λe=>by subst e;have:=ji.ca.fn;rw [g1] at this;cases this
     have nbl:b≠bl:=λe=>by subst e;have:=ji.ca.bl;rw [g1] at this;cases this
     have A3:∀ x,((H'++[MObj.list (vs++vsg)]).set b x)[f]? = some (fnc ps sl bl):=λx=>aJ (app ji.ca.fn _) nbf
     have A4:∀ x,((H'++[MObj.list (vs++vsg)]).set b x)[bl]? = some (.list (bs.map .ref)):=λx=>aJ (app ji.ca.bl _) nbl
     have ngs:b≠gs:=λe=>by subst e;have:=ji.hg;rw [g1] at this;cases this
     have A5:∀ x,((H'++[MObj.list (vs++vsg)]).set b x)[gs]? = some (.set (bK gone)):=λx=>aJ (app ji.hg _) ngs
     simp [g1,g2,ji.ca.fn,ji.ca.bl,hbi,k1,k2]
     refine ⟨by omega,?_⟩
     simp [app g1,A1,A2,A3,A4,A5,hbi,List.set_set,hgn]
     exact ⟨by exact Nat.le_trans ‹_› (Nat.le_trans ‹_› (by decide)),n - 1,zy (by assumption) (Nat.lt_succ_of_le (by assumption)),.mk _ _ _ _ _ jiS (by simp;exact ⟨hn,Ne.symm hgv⟩) (λe=>by simp at e) (by simp;exact wEq (by assumption) (Nat.lt_succ_of_le (by assumption)))⟩
 ·simp
  refine q c gone u _ ji λe=>⟨hp e,λp' g' ep' ej'=>?_⟩
  rw [ep] at ep';cases ep'
  rw [ej'] at ho;cases ho
end
end Mine
end
section
namespace Mine
private theorem JS.start {c:aB} {row:List Nat} (h:RowOk c row) (k:FolOk c):JS c row (row.flatMap (be c)) ((row.map λv=>(cj c v).length).sum) c []:=by
 have hl:dP row [] = row:=by unfold dP;simp
 refine ⟨h.nd,rfl,h.lt k,λv hv g hg=>(h.mem g).mpr (((h.mem v).mp hv).next hg),λg=>?_,List.nodup_nil,λU hx=>(nomatch hx),by rw [hl];exact Nat.le_refl _,.refl⟩
 rw [hl,List.count_flatMap];rfl
section
variable {hB:Heap} {H:MH}
inductive JF (H:MH) (f ps sl bl ra d gs:Nat) (bs:List Nat) (c0:aB) (row E:List Nat) (S:Nat) (l:List (Nat×Nat)):Nat→Loc→MH→Prop
 | mk (j:Nat) (c:aB) (gone:List Nat) (u1 u2 u3:Option MV) (H':MH) (ji:JI H f ps sl bl ra d gs bs c0 row E S l c gone H') (hp:gone = []→c = c0∧∀ (i:Nat) v,i < j→row[i]? = some v→uN c0 E v) :
   JF H f ps sl bl ra d gs bs c0 row E S l j [some (.ref f),some (.ref ra),u1,some (.ref d),u2,some (.ref gs),u3] H'
private theorem mc {f ps sl bl ra:Nat} {bs row:List Nat} {c:aB} {Q:QV} (hc:CodeAt H f ps sl bl bs c) (hk:FolOk c) (hr:H[ra]? = some (.list (aA row))) (ho:RowOk c row) (hS:(row.map λv=>(cj c v).length).sum≤1000)
  (q:∀ H' c' gone gs,Kp H H'→CodeAt H' f ps sl bl bs c'→H'[gs]? = some (.set (bK gone))→JS c row (row.flatMap (be c)) ((row.map λv=>(cj c v).length).sum) c' gone →
   (gone = []→c' = c∧∀ v∈row,uN c (row.flatMap (be c)) v)→Q (.ref gs) H'):fG hB [.ref f,.ref ra] H Q:=by
 refine fn rfl [some (.ref f),some (.ref ra),none,none,none,none,none] rfl ?_
 simp [iN]
 refine oR hc hk hr ho λX d l hd hl=>?_
 simp [app hr]
 have J0:JI H f ps sl bl ra d (H.length + X.length) bs c row (row.flatMap (be c)) ((row.map λv=>(cj c v).length).sum) l c [] (H++(X++[.set []])) :=
  ⟨.app,hc.app _,app hr _,by rw [← List.append_assoc];exact app hd _,by rw [← List.append_assoc,← List.length_append];exact cO,JS.start ho hk⟩
 refine bb (JF H f ps sl bl ra d (H.length + X.length) bs c row (row.flatMap (be c)) ((row.map λv=>(cj c v).length).sum) l) (.mk _ _ _ _ _ _ _ J0 λU=>⟨rfl,λi v hi=>absurd hi (Nat.not_lt_zero _)⟩) ?_ ?_ ?_
 ·rintro j L' H' ⟨_,c',gone,u1,u2,u3,_,ji,hp⟩
  exact ji.hr
 ·rintro j m L' H' hm ⟨_,c',gone,u1,u2,u3,_,ji,hp⟩
  obtain ⟨v,hv,rfl⟩:=co (l:=row) (j:=j) hm
  have hvr:=List.mem_of_getElem? hv
  simp [ji.hg]
  refine aL (λhm=>?_) λhm=>?_
  ·simp
   exact .mk _ c' gone _ _ _ _ ji λe=>by subst e;simp at hm
  ·have hm:v∉gone:=by simpa using hm
   have hvl:v < c'.length:=by rw [ji.js.len];exact ji.js.lt v hvr
   obtain ⟨b,hbi,hb,hbl⟩:=ji.ca.blkRef (List.getElem?_eq_getElem hvl)
   simp [ji.ca.fn,ji.ca.bl,hbi]
   refine nU (P:=λc' gone=>c' = c∧∀ (i:Nat) v,i < j→row[i]? = some v→uN c (row.flatMap (be c)) v) hl hS hk.len hvr hb (.mk (row.length + 1 - gone.length) c' gone _ _ ji hm hp ?_) λc2 gone2 u H2 ji2 hp2=>?_
   ·exact Nat.sub_add_cancel (Nat.le_succ_of_le (List.Nodup.length_le_of_subset ji.js.gnd λx hx=>(ji.js.gsub x hx).1))
   ·simp
    refine .mk _ c2 gone2 _ _ _ _ ji2 λe=>?_
    obtain ⟨⟨h1,h2⟩,h3⟩:=hp2 e
    refine ⟨h1,λi v' hi hv'=>?_⟩
    rcases Nat.lt_succ_iff_lt_or_eq.mp hi with hi | rfl
    ·exact h2 i v' hi hv'
    ·rw [hv] at hv';cases hv';rw [h1] at h3;exact h3
 ·rintro L' H' ⟨_,c',gone,u1,u2,u3,_,ji,hp⟩
  simp
  refine q H' c' gone _ ji.kp ji.ca ji.hg ji.js λe=>⟨(hp e).1,λv hv=>?_⟩
  obtain ⟨i,hi⟩:=List.mem_iff_getElem?.mp hv
  exact (hp e).2 i v (by simpa [It.size] using (List.getElem?_eq_some_iff.mp hi).1) hi
noncomputable def pl (kept:List Nat) (g:Nat):Nat:=if g∈kept then kept.idxOf g else g
noncomputable def kpB (kept:List Nat) (p:PBlock):PBlock:=⟨p.rows,p.en.led (pl kept)⟩
noncomputable def dQ (kept:List Nat) (c:aB):aB:=kept.map λv=>match c[v]? with | some p=>kpB kept p | none=>⟨[],.give (.num 0)⟩
noncomputable def bAt (bs:List Nat) (v:Nat):Nat:=(bs[v]?).getD 0
private theorem uQ {kept:List Nat} (nd:kept.Nodup) {j v:Nat} (h:kept[j]? = some v):kept.idxOf v = j:=by
 have hj:=(List.getElem?_eq_some_iff.mp h).1
 have hv:v∈kept:=List.mem_of_getElem? h
 have h2:kept[kept.idxOf v]? = some v:=by
  rw [List.getElem?_eq_getElem (List.idxOf_lt_length_of_mem hv),List.getElem_idxOf]
 exact ((List.getElem?_inj hj nd).mp (h.trans h2.symm)).symm
structure KL (kept:List Nat) (j:Nat) (l:List (Nat×Nat)):Prop where
 at_:∀ g,l.lookup g = if g∈kept.take j then some (kept.idxOf g) else none
 len:l.length≤j
private theorem KL.put {kept:List Nat} {j v:Nat} {l:List (Nat×Nat)} (h:KL kept j l) (nd:kept.Nodup) (hv:kept[j]? = some v):KL kept (j + 1) (oD v j l):=by
 refine ⟨λg=>?_,Nat.le_trans fc (Nat.succ_le_succ h.len)⟩
 rw [dS,h.at_,List.take_add_one,hv]
 by_cases e:g = v
 ·subst e;rw [if_pos rfl,if_pos (by simp),uQ nd hv]
 ·rw [if_neg e];simp [e]
private theorem KL.lead {kept:List Nat} {l:List (Nat×Nat)} (h:KL kept kept.length l) (g:Nat):gtV ((dn l).lookup (g:Int)) (.int (g:Nat)) = .int (pl kept g:Nat):=by
 rw [du,h.at_,cA rfl]
 unfold pl
 split <;> rfl
structure KI (H:MH) (f ps sl bl d:Nat) (bs kept:List Nat) (c:aB) (l:List (Nat×Nat)) (j:Nat) (H':MH):Prop where
 kp:Kp H H'
 fn:H'[f]? = some (fnc ps sl bl)
 hps:H'[ps]? = some (.list [.int 0,.int 1,.int 2,.int 3])
 hsl:H'[sl]? = some (.list [])
 hbl:H'[bl]? = some (.list ((kept.map (bAt bs)).map .ref))
 hd:H'[d]? = some (.dict (dn l))
 bk:∀ (i:Nat) v p,kept[i]? = some v→c[v]? = some p→if i < j then IsBlock H' (bAt bs v) i (kpB kept p) else IsBlock H' (bAt bs v) v p
set_option tactic.hygienic true in
private theorem KI.app {f ps sl bl d j:Nat} {bs kept:List Nat} {c:aB} {l:List (Nat×Nat)} {H':MH} (h:KI H f ps sl bl d bs kept c l j H') (X:MH):KI H f ps sl bl d bs kept c l j (H'++X):=by
 refine ⟨h.kp.trans .app,Mine.app h.fn X,Mine.app h.hps X,Mine.app h.hsl X,Mine.app h.hbl X,Mine.app h.hd X,λi v p a b=>?_⟩
 have:=h.bk i v p a b
 split <;> rename_i e
 ·rw [if_pos e] at this;exact this.app X
 ·rw [if_neg e] at this;exact this.app X
private theorem KI.set {f ps sl bl d j v st e:Nat} {bs kept:List Nat} {c:aB} {l:List (Nat×Nat)} {H':MH} {o:MObj} {p:PBlock} (h:KI H f ps sl bl d bs kept c l j H') (nd:((kept.map (bAt bs))).Nodup) (hv:kept[j]? = some v) (hp:c[v]? = some p)
  (ho:H'[bAt bs v]? = some o) (hf:qo o = false) (hk:∃ fs,o = .inst 1 fs) (hb:IsBlock (H'.set (bAt bs v) (blk j st e)) (bAt bs v) j (kpB kept p)):KI H f ps sl bl d bs kept c l (j + 1) (H'.set (bAt bs v) (blk j st e)):=by
 have z:Kp H' (H'.set (bAt bs v) (blk j st e)):=.set ho hf
 obtain ⟨fs,rfl⟩:=hk
 refine ⟨h.kp.trans z,aJ h.fn λq=>?_,z _ _ h.hps rfl,z _ _ h.hsl rfl,z _ _ h.hbl rfl,aJ h.hd λq=>?_,λi u r a b=>?_⟩
 ·rw [q,h.fn] at ho;cases ho
 ·rw [q,h.hd] at ho;cases ho
 ·by_cases ei:i = j
  ·subst ei
   rw [hv] at a;cases a
   rw [hp] at b;cases b
   rw [if_pos (Nat.lt_succ_self _)];exact hb
  ·have hne:bAt bs v≠bAt bs u:=λq=>by
    have hj:=(List.getElem?_eq_some_iff.mp hv).1
    have h1:(kept.map (bAt bs))[j]? = some (bAt bs v):=by rw [List.getElem?_map,hv];rfl
    have h2:(kept.map (bAt bs))[i]? = some (bAt bs u):=by rw [List.getElem?_map,a];rfl
    exact ei ((List.getElem?_inj (by simpa using hj) nd).mp (h1.trans ((congrArg some q).trans h2.symm))).symm
   have hold:=h.bk i u r a b
   have kb:∀ o,H'[bAt bs u]? = some o→(H'.set (bAt bs v) (blk j st e))[bAt bs u]? = some o:=λo ho=>aJ ho hne
   by_cases e1:i < j
   ·rw [if_pos e1] at hold;rw [if_pos (by exact Nat.lt_succ_of_lt ‹_›)];exact hold.kp z kb
   ·rw [if_neg e1] at hold;rw [if_neg (by omega)];exact hold.kp z kb
inductive KBI (H:MH) (f ka:Nat) (kept:List Nat) (j:Nat):Loc→MH→Prop
 | mk (l:List (Nat×Nat)) (u1 u2:Option MV) (kl:KL kept j l) (hj:j≤kept.length):KBI H f ka kept j [some (.ref f),some (.ref ka),none,some (.ref H.length),u1,u2] (H++[.dict (dn l)])
inductive KBJ (H:MH) (f ps sl ka:Nat) (bs kept:List Nat) (c:aB) (l:List (Nat×Nat)) (j:Nat):Loc→MH→Prop
 | mk (u1 u2 u3:Option MV) (H':MH) (ki:KI H f ps sl (H.length + 1) H.length bs kept c l j H'):KBJ H f ps sl ka bs kept c l j [some (.ref f),some (.ref ka),u1,some (.ref H.length),u2,u3] H'
private theorem mW {f ps sl bl ka:Nat} {bs kept:List Nat} {c:aB} {Q:QV} (hc:CodeAt H f ps sl bl bs c) (hka:H[ka]? = some (.list (aA kept))) (nd:kept.Nodup) (hlt:∀ v∈kept,v < c.length) (hl:kept.length≤60)
  (q:∀ H' bl' bs',Kp H H'→CodeAt H' f ps sl bl' bs' (dQ kept c)→Q .none H'):eh hB [.ref f,.ref ka] H Q:=by
 refine fn rfl [some (.ref f),some (.ref ka),none,none,none,none] rfl ?_
 simp [iV,app hka]
 have hbat:∀ v∈kept,bs[v]? = some (bAt bs v)∧itO (some (.list (bs.map .ref))) (v:Int) = some (.ref (bAt bs v)):=λv hv=>by
  obtain ⟨b,hbi,hb,_⟩:=hc.blkRef (List.getElem?_eq_getElem (hlt v hv))
  have:bAt bs v = b:=by unfold bAt;rw [hb];rfl
  rw [this];exact ⟨hb,hbi⟩
 have ndb:(kept.map (bAt bs)).Nodup:=by
  rw [List.Nodup,List.pairwise_map]
  refine List.Pairwise.imp_of_mem (λ{a b} ha hb' hne e=>hne ?_) nd
  have h1:=(hbat a ha).1
  have h2:=(hbat b hb').1
  rw [← e] at h2
  exact (List.getElem?_inj (List.getElem?_eq_some_iff.mp h1).1 hc.nd).mp (h1.trans h2.symm)
 refine bb (KBI H f ka kept) (.mk [] _ _ ⟨λg=>by simp,Nat.le_refl _⟩ (Nat.zero_le _)) ?_ ?_ ?_
 ·rintro j _ _ ⟨⟩
  exact app hka _
 ·rintro j m _ _ hm ⟨l,u1,u2,kl,hj⟩
  obtain ⟨m',hm',rfl⟩:=Option.map_eq_some_iff.mp (show ((aA kept)[j]?).map (λv=>MV.tup [.int (j:Nat),v]) = some m from hm)
  obtain ⟨v,hv,rfl⟩:=co hm'
  have hlj:=(List.getElem?_eq_some_iff.mp hv).1
  have:=kl.len
  simp
  exact ⟨by exact Nat.le_trans ‹_› (Nat.le_trans ‹_› (Nat.le_trans ‹_› (by decide))),.mk _ _ _ (kl.put nd hv) hlj⟩
 ·rintro _ _ ⟨l,u1,u2,kl,_⟩
  have hsz:(It.enum ka (aA kept)).size = kept.length:=by simp [It.size]
  rw [hsz] at kl
  simp [app hka]
  refine bX (CI (H++[.dict (dn l)]) (λj=>(kept.map λv=>MV.ref (bAt bs v)).take j) kept.length λu=>[u,some (.ref f)]) (.mk _ (Nat.zero_le _)) ?_ ?_ ?_
  ·rintro j _ _ _ ⟨⟩
   exact ⟨app hka _,by simp;exact lh (Nat.le_trans (by assumption) (by decide))⟩
  ·rintro j m _ _ _ hm ⟨u,_⟩
   obtain ⟨v,hv,rfl⟩:=co (l:=kept) (j:=j) hm
   simp [app hc.fn,app hc.bl,(hbat v (List.mem_of_getElem? hv)).2]
   have:=CI.mk (H:=H++[.dict (dn l)]) (A:=λj=>(kept.map λv=>MV.ref (bAt bs v)).take j) (n:=kept.length) (F:=λu=>[u,some (.ref f)]) (j:=j + 1) (some (.int (v:Nat))) (List.getElem?_eq_some_iff.mp hv).1
   rwa [show (kept.map λv=>MV.ref (bAt bs v)).take (j + 1) = _ from oY _ hv] at this
  ·rintro _ _ _ ⟨u,_⟩
   rw [cA (show (It.list ka (aA kept)).size = (kept.map λv=>MV.ref (bAt bs v)).length by simp [It.size])]
   have hfl:=bv hc.fn
   have K0:KI H f ps sl (H.length + 1) H.length bs kept c l 0 ((H++[MObj.dict (dn l),.list (kept.map λv=>MV.ref (bAt bs v))]).set f (fnc ps sl (H.length + 1))):=by
    have z:Kp (H++[MObj.dict (dn l),.list (kept.map λv=>MV.ref (bAt bs v))]) ((H++[MObj.dict (dn l),.list (kept.map λv=>MV.ref (bAt bs v))]).set f (fnc ps sl (H.length + 1))):=.set (app hc.fn _) rfl
    refine ⟨Kp.app.trans z,eV (app hc.fn _),z _ _ (app hc.ps _) rfl,z _ _ (app hc.sl _) rfl,z _ _ (by rw [List.map_map];exact hG) rfl,aJ cO (Nat.ne_of_lt hfl),λi v p a b=>?_⟩
    rw [if_neg (Nat.not_lt_zero _)]
    have hb:=hc.blk v _ p (hbat v (List.mem_of_getElem? a)).1 b
    refine (hb.app _).kp z λo ho=>aJ ho λe=>?_
    subst e
    obtain ⟨_,_,_,h1,_⟩:=hb
    rw [hc.fn] at h1;cases h1
   simp [app hc.fn]
   have hF:=K0.fn
   have hB2:=K0.hbl
   rw [List.map_map] at hB2
   generalize (H++[MObj.dict (dn l),.list (kept.map λv=>MV.ref (bAt bs v))]).set f (fnc ps sl (H.length + 1)) = H1 at *
   simp [hF,hB2]
   refine bb (KBJ H f ps sl ka bs kept c l) (.mk _ _ _ _ K0) ?_ ?_ ?_
   ·rintro j _ _ ⟨u1,u2,u3,_,ki⟩
    have:=ki.hbl;rw [List.map_map] at this;exact this
   ·rintro j m _ H' hm ⟨u1,u2,u3,_,ki⟩
    obtain ⟨m',hm',rfl⟩:=Option.map_eq_some_iff.mp (show ((kept.map (MV.ref∘bAt bs))[j]?).map (λv=>MV.tup [.int (j:Nat),v]) = some m from hm)
    rw [List.getElem?_map] at hm'
    obtain ⟨v,hv,rfl⟩:=Option.map_eq_some_iff.mp hm'
    have hvl:=hlt v (List.mem_of_getElem? hv)
    have hblk:=ki.bk j v _ hv (List.getElem?_eq_getElem hvl)
    rw [if_neg (Nat.lt_irrefl _)] at hblk
    obtain ⟨st,e,vs,g1,g2,g3,g4⟩:=hblk
    have z:Kp H' (H'.set (bAt bs v) (blk j st e)):=.set g1 rfl
    have hd1:(H'.set (bAt bs v) (blk j st e))[H.length]? = some (.dict (dn l)):=aJ ki.hd λq=>by rw [q,ki.hd] at g1;cases g1
    have A1:(H'.set (bAt bs v) (blk j st e))[bAt bs v]? = some (blk j st e):=eV g1
    simp [g1,A1]
    refine nh hd1 kl.lead (g4.kp z) λX j1 hj1=>?_
    simp [app A1]
    have hb1:bAt bs v < H'.length:=bv g1
    have e2:(H'.set (bAt bs v) (blk j st e)++X).set (bAt bs v) (blk j st j1) = (H'++X).set (bAt bs v) (blk j st j1):=by
     rw [← List.set_append_left _ _ hb1,List.set_set]
    rw [e2]
    have z2:Kp (H'++X) ((H'++X).set (bAt bs v) (blk j st j1)):=.set (app g1 X) rfl
    refine .mk _ _ _ _ ((ki.app X).set ndb hv (List.getElem?_eq_getElem hvl) (app g1 X) rfl ⟨_,rfl⟩ ⟨st,j1,vs,eV (app g1 X),z2 _ _ (app g2 X) rfl,g3.mono λU U h=>(h.kp .app).kp z2,?_⟩)
    rw [← e2]
    exact hj1.kp (.set (app A1 X) rfl)
   ·rintro _ H' ⟨u1,u2,u3,_,ki⟩
    simp
    refine q H' _ (kept.map (bAt bs)) ki.kp ⟨ki.fn,ki.hps,ki.hsl,ki.hbl,ndb,by simp [dQ],λi b p a d=>?_⟩
    rw [List.getElem?_map] at a
    obtain ⟨v,hv,rfl⟩:=Option.map_eq_some_iff.mp a
    have hvl:=hlt v (List.mem_of_getElem? hv)
    have hi:=(List.getElem?_eq_some_iff.mp hv).1
    rw [dQ,List.getElem?_map,hv,Option.map_some,List.getElem?_eq_getElem hvl] at d
    cases d
    have:=ki.bk i v _ hv (List.getElem?_eq_getElem hvl)
    rwa [if_pos (by simpa [It.size] using hi)] at this
end
end Mine
end
section
namespace Mine
noncomputable def jG (c:aB):Nat:=((List.range c.length).map λv=>(cj c v).length).sum
structure Wf (c:aB):Prop where
 fol:FolOk c
 sum:jG c≤1000
private theorem qB {f:Nat→Nat}:∀ {l m:List Nat},l.Nodup→(∀ x∈l,x∈m)→(l.map f).sum≤(m.map f).sum
 | [],_,_,_=>Nat.zero_le _
 | a :: l,m,nd,h=>by
  have ha:=h a (.head _)
  rw [List.nodup_cons] at nd
  have ih:=qB (f:=f) (l:=l) (m:=m.erase a) nd.2 λx hx=>(List.mem_erase_of_ne λe=>by subst e;exact nd.1 hx).mpr (h x (.tail _ hx))
  have:=((List.perm_cons_erase ha).map f).sum_nat
  rw [this,List.map_cons,List.map_cons,List.sum_cons,List.sum_cons]
  exact Nat.add_le_add_left ‹_› _
private theorem Wf.row {c:aB} (h:Wf c) {row:List Nat} (r:RowOk c row):(row.map λv=>(cj c v).length).sum≤1000 :=
 Nat.le_trans (qB r.nd λx hx=>List.mem_range.mpr (r.lt h.fol x hx)) h.sum
private theorem Wf.few {c:aB} (h:Wf c):∀ p∈c,p.rows.length≤1000:=λp hp=>by
 obtain ⟨i,hi⟩:=List.mem_iff_getElem?.mp hp
 have:=j9 (f:=λv=>(cj c v).length) (List.mem_range.mpr (List.getElem?_eq_some_iff.mp hi).1)
 simp only [cY hi] at this
 exact Nat.le_trans this h.sum
private theorem iB {f:Nat→Nat} {e:PEnd}:(e.led f).fol = e.fol.map f:=by
 cases e <;> simp [PEnd.led,PEnd.fol]
private theorem xp {rows:List Row} {e:PEnd} {g:Nat} (h:stl rows e = some g):g∈e.fol:=by
 cases e with
 | branch x t o =>
  rw [sH] at h
  split at h
  ·cases h;exact .head _
  ·obtain ⟨v,_,rfl⟩:=Option.map_eq_some_iff.mp h
   split
   ·exact .tail _ (.head _)
   ·exact .head _
 | table x low row o =>
  rw [sT] at h
  have ho:o∈PEnd.fol (.table x low row o):=List.mem_append_right _ (.head _)
  split at h
  ·cases h;exact ho
  ·obtain ⟨v,_,rfl⟩:=Option.map_eq_some_iff.mp h
   ·rw [List.getD_eq_getElem?_getD]
    cases hk:row[((v - low) % 4294967296).toNat]? with
    | none=>exact ho
    | some y=>exact List.mem_append_left _ (List.mem_of_getElem? hk)
 | _=>cases h
private theorem settle_fol {rows:List Row} {e:PEnd}:(∀ g∈(e.settle rows).fol,g∈e.fol)∧((e.settle rows).fol.length≤101∨(e.settle rows).fol.length = e.fol.length):=by
 unfold PEnd.settle
 cases h:stl rows e with
 | none=>exact ⟨λU h=>h,.inr rfl⟩
 | some g=>exact ⟨λx hx=>by obtain rfl:=List.mem_singleton.mp hx;exact xp h,.inl (Nat.le_of_ble_eq_true rfl)⟩
private theorem zY {c:aB} (h:FolOk c) {a b:Nat} (e:pj c a = some b):b < c.length∧b≠a:=by
 obtain ⟨p,hp,he,_,hne⟩:=lT e
 exact ⟨h.lt p (List.mem_of_getElem? hp) b (by rw [he];exact .head _),hne⟩
private theorem LG.lt {c:aB} (h:FolOk c) {x y:Nat} (hx:x < c.length) (g:LG (pj c) x y):y < c.length:=by
 obtain ⟨ps,nd,h0,hl,ch,_⟩:=g
 rw [List.getLast?_eq_getElem?] at hl
 generalize hk:ps.length - 1 = k at hl
 cases k with
 | zero=>rw [h0] at hl;cases hl;exact hx
 | succ k =>
  have hk2:k < ps.length:=Nat.le_trans (Nat.le_of_eq hk.symm) (Nat.sub_le _ _)
  exact (zY h (ch k _ y (List.getElem?_eq_getElem hk2) hl)).1
private theorem Lead.lt {c:aB} {l:List (Nat×Nat)} (h:Lead c l) (k:FolOk c) {g:Nat} (hg:g < c.length):bH l g < c.length:=by
 unfold bH
 cases e:l.lookup g with
 | none=>exact hg
 | some y=>exact (h.some g y e).lt k hg
private theorem tY {c:aB} {l:List (Nat×Nat)} {v:Nat}:cj (c.map (upd l)) v = cj c v:=by
 unfold cj
 rw [List.getElem?_map]
 cases c[v]? <;> rfl
private theorem Wf.upd {c:aB} {l:List (Nat×Nat)} (h:Wf c) (k:Lead c l):Wf (c.map (upd l)):=by
 refine ⟨⟨by rw [List.length_map];exact h.fol.pos,by rw [List.length_map];exact h.fol.len,λp hp g hg=>?_,λp hp=>?_⟩,?_⟩
 ·obtain ⟨r,hr,rfl⟩:=List.mem_map.mp hp
  have:=settle_fol.1 g hg
  rw [iB] at this
  obtain ⟨x,hx,rfl⟩:=List.mem_map.mp this
  rw [List.length_map]
  exact k.lt h.fol (h.fol.lt r hr x hx)
 ·obtain ⟨r,hr,rfl⟩:=List.mem_map.mp hp
  rcases (settle_fol (rows:=r.rows) (e:=r.en.led (bH l))).2 with e | e
  ·exact e
  ·exact Nat.le_trans (Nat.le_of_eq e) (by rw [iB,List.length_map];exact h.fol.few r hr)
 ·unfold jG
  rw [List.length_map]
  simp only [tY]
  exact h.sum
private theorem Join.one {row E:List Nat} {c0 c:aB} {gone:List Nat} (h:Join row E c0 c gone):∀ g∈gone,E.count g = 1:=by
 induction h with
 | refl=>exact λU h=>(nomatch h)
 | step c gone v g p q _ _ _ _ _ _ _ hE _ ih =>
  intro x hx
  rcases List.mem_append.mp hx with hx | hx
  ·exact ih x hx
  ·rw [List.mem_singleton.mp hx];exact hE
private theorem Join.ends {row E:List Nat} {c0 c:aB} {gone:List Nat} (h:Join row E c0 c gone):∀ p∈c,∃ q∈c0,p.en = q.en:=by
 induction h with
 | refl=>exact λp hp=>⟨p,hp,rfl⟩
 | step c gone v g p q _ _ _ _ _ _ _ _ hq ih =>
  intro r hr
  rcases List.mem_or_eq_of_mem_set hr with hr | rfl
  ·exact ih r hr
  ·exact ih q (List.mem_of_getElem? hq)
structure KeptOk (row gone kept:List Nat):Prop where
 perm:kept.Perm (dP row gone)
 sorted:kept.Pairwise (·≤·)
private theorem JS.kept_fol {c0 c:aB} {row E gone kept:List Nat} {S v g:Nat} (h:JS c0 row E S c gone) (k:KeptOk row gone kept) (hv:v∈kept) (hg:g∈be c v):g∈kept:=by
 have hl:=k.perm.subset hv
 refine k.perm.mem_iff.mpr (mem_live.mpr ⟨h.fol v (mem_live.mp hl).1 g hg,λhgo=>?_⟩)
 have h1:=j9 (f:=λv=>(be c v).count g) hl
 have h2:=h.cnt g
 rw [if_pos hgo,h.rel.one g hgo] at h2
 have h3:0 < (be c v).count g:=List.count_pos_iff.mpr hg
 exact Nat.not_lt_zero _ (Nat.lt_of_lt_of_le h3 (Nat.succ.inj h2 ▸ h1))
private theorem ux {kept:List Nat} {g:Nat} (h:g∈kept):pl kept g < kept.length∧kept[pl kept g]? = some g:=by
 unfold pl
 rw [if_pos h]
 have:=List.idxOf_lt_length_of_mem h
 exact ⟨this,by rw [List.getElem?_eq_getElem this,List.getElem_idxOf]⟩
private theorem JS.kept {c0 c:aB} {row E gone kept:List Nat} {S:Nat} (h:JS c0 row E S c gone) (k:KeptOk row gone kept) (w:FolOk c0) (hS:S≤1000) (h0:0∈row):kept.Nodup∧(∀ v∈kept,v < c.length)∧kept.length≤c0.length∧Wf (dQ kept c):=by
 have nd:kept.Nodup:=k.perm.nodup_iff.mpr (h.nd.sublist List.filter_sublist)
 have lt:∀ v∈kept,v < c.length:=λv hv=>by rw [h.len];exact h.lt v (mem_live.mp (k.perm.subset hv)).1
 have len:kept.length≤c0.length:=by
  have:=List.Nodup.length_le_of_subset nd (l₂:=List.range c0.length) λx hx=>List.mem_range.mpr (by rw [← h.len];exact lt x hx)
  rwa [List.length_range] at this
 have lenC:(dQ kept c).length = kept.length:=List.length_map _
 have z:0∈kept:=k.perm.mem_iff.mpr (mem_live.mpr ⟨h0,λhg=>(h.gsub 0 hg).2 rfl⟩)
 refine ⟨nd,lt,len,⟨⟨by rw [lenC];exact List.length_pos_of_mem z,by rw [lenC];exact Nat.le_trans len w.len,λp hp g hg=>?_,λp hp=>?_⟩,?_⟩⟩
 ·obtain ⟨v,hv,rfl⟩:=List.mem_map.mp hp
  have hvl:=lt v hv
  rw [List.getElem?_eq_getElem hvl] at hg
  dsimp only [kpB] at hg
  rw [iB] at hg
  obtain ⟨x,hx,rfl⟩:=List.mem_map.mp hg
  rw [lenC]
  exact (ux (h.kept_fol k hv (by rw [dB (List.getElem?_eq_getElem hvl)];exact hx))).1
 ·obtain ⟨v,hv,rfl⟩:=List.mem_map.mp hp
  have hvl:=lt v hv
  rw [List.getElem?_eq_getElem hvl]
  dsimp only [kpB]
  rw [iB,List.length_map]
  obtain ⟨q,hq,e⟩:=h.rel.ends _ (List.getElem_mem hvl)
  rw [e];exact w.few q hq
 ·have e:jG (dQ kept c) = (kept.map λv=>(cj c v).length).sum:=by
   unfold jG
   rw [lenC]
   congr 1
   refine List.ext_getElem? λi=>?_
   rw [List.getElem?_map,List.getElem?_map]
   by_cases hi:i < kept.length
   ·have hvl:=lt _ (List.getElem_mem hi)
    rw [List.getElem?_range hi,List.getElem?_eq_getElem hi,Option.map_some,Option.map_some]
    congr 1
    have:(dQ kept c)[i]? = some (kpB kept (c[kept[i]]'hvl)):=by
     rw [dQ,List.getElem?_map,List.getElem?_eq_getElem hi,Option.map_some,List.getElem?_eq_getElem hvl]
    rw [cY this,cY (List.getElem?_eq_getElem hvl)];rfl
   ·rw [List.getElem?_eq_none (by simpa using hi),List.getElem?_eq_none (by simpa using hi)];rfl
  rw [e,(k.perm.map _).sum_nat]
  exact Nat.le_trans h.sz hS
inductive Once (c c':aB) (b:Bool):Prop
 | mk (l:List (Nat×Nat)) (row:List Nat) (c2:aB) (gone:List Nat) (ld:Lead c l) (ro:RowOk (c.map (upd l)) row)
  (js:JS (c.map (upd l)) row (row.flatMap (be (c.map (upd l)))) ((row.map λv=>(cj (c.map (upd l)) v).length).sum) c2 gone)
  (nj:gone = []→c2 = c.map (upd l)∧∀ v∈row,uN (c.map (upd l)) (row.flatMap (be (c.map (upd l)))) v)
  (fin:((gone≠[]∨row.length < c.length)∧b = true∧∃ kept,KeptOk row gone kept∧c' = dQ kept c2)∨(gone = []∧¬ row.length < c.length∧c' = c2∧(b = true↔c.map (upd l)≠c)))
private theorem Once.wf {c c':aB} {b:Bool} (w:Wf c) (o:Once c c' b):Wf c':=by
 obtain ⟨l,row,c2,gone,ld,ro,js,nj,fin⟩:=o
 have w1:=w.upd ld
 rcases fin with ⟨_,_,kept,k,rfl⟩ | ⟨h1,_,rfl,_⟩
 ·exact (js.kept k w1.fol (w1.row ro) ((ro.mem 0).mpr .zero)).2.2.2
 ·rw [(nj h1).1];exact w1
private theorem uE {ns:List Int} {l:List Nat} (h:ns.Perm (bK l)):∃ k,ns = bK k∧k.Perm l:=by
 refine ⟨ns.map Int.toNat,?_,?_⟩
 ·rw [bK,List.map_map]
  refine (List.map_id ns).symm.trans (List.map_congr_left λx hx=>?_)
  obtain ⟨n,_,rfl⟩:=List.mem_map.mp (h.subset hx)
  rfl
 ·have:=h.map Int.toNat
  rw [bK,List.map_map] at this
  refine this.trans (.of_eq ?_)
  exact (List.map_congr_left λx U=>rfl).trans (List.map_id l)
section
variable {hB:Heap} {H:MH}
private theorem jh {f ps sl bl:Nat} {bs:List Nat} {c:aB} {Q:QV} (hc:CodeAt H f ps sl bl bs c) (w:Wf c)
  (q:∀ H' bl' bs' c' b,Kp H H'→CodeAt H' f ps sl bl' bs' c'→Once c c' b→Q (.bool b) H'):dI hB [.ref f] H Q:=by
 refine fn rfl [some (.ref f),none,none,none] rfl ?_
 simp [ft]
 refine jk hc w.fol.len w.few λH1 l b kp1 ca1 ld hb=>?_
 have w1:=w.upd ld
 simp
 refine wm ca1 w1.fol λX ra row hra ro=>?_
 simp
 have hlen:=ro.len w1.fol
 have h60:=w1.fol.len
 refine mc (ca1.app X) w1.fol hra ro (w1.row ro) λH2 c2 gone gs kp2 ca2 hgs js nj=>?_
 have hra2:=kp2 _ _ hra rfl
 simp [hgs]
 have kp:Kp H H2:=(kp1.trans .app).trans kp2
 have keep:∀ K:QS,(gone≠[]∨row.length < c.length)→(∀ H' bl' bs' c' u,Kp H H'→CodeAt H' f ps sl bl' bs' c'→Once c c' true→K .next [some (.ref f),some (.ref gs),some (.bool true),u] H') →
   aj (bC (aI (ae (ai 0) (ae (aI (ae (cE (bD (ai 3)) (aw 0) (aM .notIn (ai 0) (ai 1)) (ai 0) 1 [1]) am) gK) am)) (eh hB))) (aj (au (b6 true) (aw 2)) ay) [some (.ref f),some (.ref gs),some (.bool b),some (.ref ra)] H2 K:=by
  intro K hor hK
  simp [hra2]
  refine bX (CI H2 (λj=>aA (dP (row.take j) gone)) row.length λu=>[u,some (.ref gs)]) (.mk _ (Nat.zero_le _)) ?_ ?_ ?_
  ·rintro j _ _ _ ⟨⟩
   refine ⟨hra2,?_⟩
   have h1:(dP (row.take j) gone).length≤(row.take j).length:=List.length_filter_le _ _
   have h2:(row.take j).length≤row.length:=List.length_take_le' _ _
   have h3:(c.map (upd l)).length≤60:=h60
   rw [iz];omega
  ·rintro j m _ _ _ hm ⟨u,_⟩
   obtain ⟨v,hv,rfl⟩:=co (l:=row) (j:=j) hm
   simp [hgs]
   have hlv:dP (row.take (j + 1)) gone = dP (row.take j) gone++if v∈gone then [] else [v]:=by
    unfold dP
    rw [List.take_add_one,hv,List.filter_append]
    by_cases e:v∈gone <;> simp [e]
   have nx:=CI.mk (H:=H2) (A:=λj=>aA (dP (row.take j) gone)) (n:=row.length) (F:=λu=>[u,some (.ref gs)]) (j:=j + 1) (some (.int (v:Nat))) (List.getElem?_eq_some_iff.mp hv).1
   rw [hlv] at nx
   refine aL (λhn=>?_) λhn=>?_
   ·have hn:v∉gone:=by simpa using hn
    rw [if_neg hn] at nx
    simpa using nx
   ·have hn:v∈gone:=by simpa using hn
    rw [if_pos hn,List.append_nil] at nx
    simpa using nx
  ·rintro _ _ _ ⟨u,_⟩
   rw [cA (show (It.list ra (aA row)).size = row.length by simp [It.size])]
   simp
   have hll:(dP row gone).length≤row.length:=List.length_filter_le _ _
   refine ly (ns:=bK (dP row gone)) (by rw [cO,bK,List.map_map];rfl) (by rw [sA];have h3:(c.map (upd l)).length≤60:=h60;omega) λns hns=>?_
   obtain ⟨kept,rfl,hp⟩:=uE hns.1
   have ko:KeptOk row gone kept:=⟨hp,by
    have:=hns.2
    rw [bK,List.pairwise_map] at this
    exact this.imp λh=>Int.ofNat_le.mp h⟩
   obtain ⟨nd,lt,le,_⟩:=js.kept ko w1.fol (w1.row ro) ((ro.mem 0).mpr .zero)
   simp
   refine mW (ca2.app _) (ka:=H2.length + 1) (by rw [hG,bK,List.map_map];rfl) nd lt (Nat.le_trans le h60) λH3 bl' bs' kp3 ca3=>?_
   simp
   exact hK H3 bl' bs' _ _ ((kp.trans .app).trans kp3) ca3 ⟨l,row,c2,gone,ld,ro,js,nj,.inl ⟨hor,rfl,kept,ko,rfl⟩⟩
 refine aL (λhg=>?_) λhg=>?_
 ·have hg:gone≠[]:=λe=>by subst e;cases hg
  refine keep _ (.inl hg) λH' bl' bs' c' u k a o=>?_
  simp
  exact q H' bl' bs' c' true k a o
 ·have hg:gone = []:=by cases gone with
   | nil=>rfl
   | cons a g=>cases hg
  have hbl:bs.length = c.length:=by rw [ca1.all,List.length_map]
  simp [hra2,ca2.fn,ca2.bl,hbl]
  refine aL (λhr=>?_) λhr=>?_
  ·refine keep _ (.inr (by simpa using hr)) λH' bl' bs' c' u k a o=>?_
   simp
   exact q H' bl' bs' c' true k a o
  ·have hr:¬ row.length < c.length:=by simpa using hr
   simp
   exact q H2 bl bs c2 b kp ca2 ⟨l,row,c2,gone,ld,ro,js,nj,.inr ⟨hg,hr,rfl,hb⟩⟩
inductive Run:aB→aB→Bool→Prop
 | stop {c c':aB}:Once c c' false→Run c c' false
 | more {c c1 c':aB} {b:Bool}:Once c c1 true→Run c1 c' b→Run c c' true
inductive StI (H:MH) (f ps sl:Nat) (c:aB) (meas:aB→Nat) (n:Nat):Loc→MH→Prop
 | mk (b:Bool) (bl':Nat) (bs':List Nat) (c1:aB) (H':MH) (kp:Kp H H') (ca:CodeAt H' f ps sl bl' bs' c1) (w:Wf c1) (hn:n = meas c1) (hr:∀ c' b',Run c1 c' b'→Run c c' (b || b')):StI H f ps sl c meas n [some (.ref f),some (.bool b)] H'
private theorem iG {f ps sl bl:Nat} {bs:List Nat} {c:aB} {Q:QV} (meas:aB→Nat) (hm:∀ c c',Wf c→Once c c' true→meas c' < meas c) (hc:CodeAt H f ps sl bl bs c) (w:Wf c)
  (q:∀ H' bl' bs' c' b,Kp H H'→CodeAt H' f ps sl bl' bs' c'→Run c c' b→Q (.bool b) H'):eQ hB [.ref f] H Q:=by
 refine fn rfl [some (.ref f),none] rfl ?_
 simp [j4]
 refine dX (StI H f ps sl c meas) (meas c) (.mk false bl bs c _ .refl hc w rfl λc' b' r=>r) ?_
 rintro n _ H' ⟨b,bl',bs',c1,_,kp,ca,w1,rfl,hr⟩
 simp
 refine jh ca w1 λH2 bl2 bs2 c2 b2 kp2 ca2 o=>?_
 simp
 cases b2 with
 | true =>
  simp
  refine ⟨_,hm c1 c2 w1 o,.mk true bl2 bs2 c2 _ (kp.trans kp2) ca2 (o.wf w1) rfl λc' b' r=>?_⟩
  have h:=hr c' true (.more (b:=b') o r)
  rwa [Bool.or_true] at h
 | false =>
  simp
  have:=hr c2 false (.stop o)
  exact q H2 bl2 bs2 c2 b (kp.trans kp2) ca2 (by simpa using this)
end
end Mine
end
section
namespace Mine
noncomputable def okO:Opd→Prop
 | .reg n=>n < 4
 | .num k=>0≤k∧k≤4294967295
noncomputable def okR (e0:Row):Prop:=Row.rec (motive:=λU=>Prop) (λd n=>d < 4∧okO (.num n)) (λd n=>d < 4∧okO (.num n)) (λd r=>d < 4∧okO (.reg r)) (λr n=>okO (.reg r)∧okO (.num n)) (λd n=>d < 4∧okO (.num n)) (λr U=>okO (.reg r)) (λd U=>d < 4) e0
private theorem okR.args {r:Row} (h:okR r):∀ x∈r.args,okO x:=by
 have h64:okO (.num 64):=⟨by decide,by decide⟩
 intro x hx
 cases r with
 | sub d n =>
  rcases List.mem_cons.mp hx with rfl | hx
  ·exact h.1
  ·rw [List.mem_singleton.mp hx];exact h.2
 | call2 d n =>
  rcases List.mem_cons.mp hx with rfl | hx
  ·exact h.1
  ·rw [List.mem_singleton.mp hx];exact h.2
 | store d n =>
  rcases List.mem_cons.mp hx with rfl | hx
  ·exact h64
  ·rw [List.mem_singleton.mp hx];exact h
 | load d n=>rw [List.mem_singleton.mp hx];exact h64
 | _=>rw [List.mem_singleton.mp hx];exact h.2
private theorem okR.dst {r:Row} (h:okR r):-1≤r.dst∧r.dst < 4:=by
 cases r with
 | call2=>simp only [Row.dst];omega
 | store=>simp only [Row.dst];omega
 | load=>simp only [okR] at h;simp only [Row.dst];omega
 | _=>have:=h.1;simp only [Row.dst];omega
section
variable {hB:Heap} {H:MH}
private theorem fZ {f ps sl bl k:Nat} {x:Opd} {Q:QV} (hf:H[f]? = some (fnc ps sl bl)) (h:okO x) (q:Q .none H):cf hB [.ref f,bN x,.text k] H Q:=by
 refine fn rfl [some (.ref f),some (bN x),some (.text k),none,none] rfl ?_
 cases x with
 | reg n =>
  have h1:(n:Int) < 4:=by have:n < 4:=h;exact Int.ofNat_lt.mpr ‹_›
  simpa [eG,bN,hf,h1] using q
 | num n =>
  simpa [eG,bN,hf,h.1,h.2] using q
noncomputable def Row.want (e0:Row):Int:=Row.rec (motive:=λU=>Int) (λU U=>1) (λU U=>1) (λU U=>-1) (λU U=>-1) (λU U=>2) (λU U=>2) (λU U=>1) e0
private theorem mt {i a:Nat} {r:Row} {ln:Int} {Q:QV} (hi:H[i]? = some (stp r.op r.dst a r.more r.vol ln)) (q:Q (.int r.want) H):fI hB [.ref i] H Q:=by
 refine fn rfl [some (.ref i)] rfl ?_
 cases r <;> simpa -implicitDefEqProofs [iT,hi,Row.op,dZ,Row.want] using q
private theorem of {f ps sl bl k i a:Nat} {r:Row} {ln:Int} {Q:QV} (hf:H[f]? = some (fnc ps sl bl)) (hi:H[i]? = some (stp r.op r.dst a r.more r.vol ln)) (ha:H[a]? = some (.list (r.args.map bN))) (q:Q .none H):eP hB [.ref f,.ref i,.text k] H Q:=by
 refine fn rfl [some (.ref f),some (.ref i),some (.text k)] rfl ?_
 cases r with
 | store d v=>cases v <;> simpa -implicitDefEqProofs [eR,hi,Row.op,Row.more,Row.vol] using q
 | load d v=>cases v <;> simpa [eR,hi,Row.op,Row.more,Row.vol] using q
 | _=>simpa -implicitDefEqProofs [eR,hi,ha,Row.op,Row.more,Row.vol,Row.args,bN] using q
private theorem vP {f ps sl bl k ar:Nat} {xs:List Opd} {a1 a3 u:Option MV} {K:QS} (hf:H[f]? = some (fnc ps sl bl)) (ha:H[ar]? = some (.list (xs.map bN))) (hx:∀ x∈xs,okO x)
  (q:∀ u,K .next [some (.ref f),a1,some (.text k),a3,u] H):rL (aw 4) (aj (bC (aI (ae (ai 0) (ae (ai 4) (ae (ai 2) am))) (cf hB))) ay) [some (.ref f),a1,some (.text k),a3,u] K (.list ar (xs.map bN)) H:=by
 refine bb (λU=>LI H λu=>[some (.ref f),a1,some (.text k),a3,u]) (.mk _) ?_ ?_ ?_
 ·rintro j _ _ ⟨⟩
  exact ha
 ·rintro j m _ _ hm ⟨u⟩
  obtain ⟨x,hx',rfl⟩:=Option.map_eq_some_iff.mp (show xs[j]?.map bN = some m by rw [← List.getElem?_map];exact hm)
  simp
  exact fZ hf (hx x (List.mem_of_getElem? hx')) (by simp;exact .mk _)
 ·rintro _ _ ⟨u⟩
  exact q u
private theorem oy {f ps sl bl k:Nat} {v:MV} {r:Row} {Q:QV} (hf:H[f]? = some (fnc ps sl bl)) (hs:IsStep H v r) (ok:okR r) (q:Q .none H):gp hB [.ref f,v,.text k] H Q:=by
 obtain ⟨i,a,ln,rfl,h1,h2⟩:=hs
 refine fn rfl [some (.ref f),some (.ref i),some (.text k),none,none] rfl ?_
 simp [j0]
 refine mt h1 ?_
 have hw:r.want < 0∨(r.args.length:Int) = r.want:=by cases r <;> first | exact .inl (by show (-1:Int) < 0;decide) | exact .inr rfl
 have fin:∀ w u (K:QS),(∀ L,K .next L H)→aj (sIf (bOr (aM .eq (aD (ai 1) 0) (aQ 6)) (bOr (aM .eq (aD (ai 1) 0) (aQ 17)) ck)) (aj (sIf (aM .ne (aD (ai 1) 1) (eI (az 1))) (aj bM ay) ay) ay) (aj (sIf (bOr (aM .eq (aD (ai 1) 0) (aQ 4)) (bOr (aM .eq (aD (ai 1) 0) (aQ 20)) ck)) (aj (sIf (fS (dG .le .lt (eI (az 1)) (aD (ai 1) 1) (aD (ai 0) 14))) (aj bM ay) ay) ay) (aj (sIf (fS (dG .le .lt (az 0) (aD (ai 1) 1) (aD (ai 0) 14))) (aj bM ay) ay) ay)) ay)) ay
   [some (.ref f),some (.ref i),some (.text k),w,u] H K:=by
  intro w u K hK
  have hd:=ok.dst
  cases r with
  | call1 d n=>simp [h1,hf,Row.op,hd.1,hd.2,hK]
  | call2 d n=>simp [h1,hf,Row.op,Row.dst,hK]
  | store d n=>simp [h1,hf,Row.op,Row.dst,hK]
  | load d n =>
   have h3:(d:Int) < 4:=by have:d < 4:=ok;exact Int.ofNat_lt.mpr ‹_›
   simp [h1,hf,Row.op,Row.dst,h3,hK]
  | _ =>
   have h3:=hd.2
   simp only [Row.dst] at h3
   simp [h1,hf,Row.op,Row.dst,h3,hK]
 have lp:∀ w,rL (aw 4) (aj (bC (aI (ae (ai 0) (ae (ai 4) (ae (ai 2) am))) (cf hB))) ay) [some (.ref f),some (.ref i),some (.text k),w,none]
   (m7 (aj (bC (aI (ae (ai 0) (ae (ai 1) (ae (ai 2) am))) (eP hB))) (aj (sIf (bOr (aM .eq (aD (ai 1) 0) (aQ 6)) (bOr (aM .eq (aD (ai 1) 0) (aQ 17)) ck)) (aj (sIf (aM .ne (aD (ai 1) 1) (eI (az 1))) (aj bM ay) ay) ay) (aj (sIf (bOr (aM .eq (aD (ai 1) 0) (aQ 4)) (bOr (aM .eq (aD (ai 1) 0) (aQ 20)) ck)) (aj (sIf (fS (dG .le .lt (eI (az 1)) (aD (ai 1) 1) (aD (ai 0) 14))) (aj bM ay) ay) ay) (aj (sIf (fS (dG .le .lt (az 0) (aD (ai 1) 1) (aD (ai 0) 14))) (aj bM ay) ay) ay)) ay)) ay)) (mZ Q)) (.list a (r.args.map bN)) H :=
  λw=>vP hf h2 ok.args λu=>by
   rw [j6,un,zi]
   simp [-un]
   refine of hf h1 h2 ?_
   rw [zF,j6]
   exact fin _ _ _ λL=>by simpa using q
 simp [h1,h2]
 rcases hw with hw | hw
 ·have:¬ (0≤r.want):=by (exact Int.not_le.mpr ‹_›)
  simp [this,h1,h2]
  exact lp _
 ·have:0≤r.want:=by omega
  simp [this,hw,h1,h2]
  exact lp _
end
end Mine
end
section
namespace Mine
noncomputable def okE (n:Nat) (e:PEnd):Prop:=(∀ x∈e.args,okO x)∧∀ g∈e.fol,g < n
structure Ok (c:aB):Prop where
 fol:FolOk c
 rows:∀ p∈c,∀ r∈p.rows,okR r
 args:∀ p∈c,∀ x∈p.en.args,okO x
 few:∀ p∈c,p.rows.length≤1000
section
variable {hB:Heap} {H:MH}
private theorem iC {f ps sl bl k ar:Nat} {xs:List Opd} {l:List MV} {a1 a3 a4 a6 u:Option MV} {K:QS} (hf:H[f]? = some (fnc ps sl bl)) (ha:H[ar]? = some (.list l)) (hl:l = xs.map bN) (hx:∀ x∈xs,okO x)
  (q:∀ u,K .next [some (.ref f),a1,some (.text k),a3,a4,u,a6] H):rL (aw 5) (aj (bC (aI (ae (ai 0) (ae (ai 5) (ae (ai 2) am))) (cf hB))) ay) [some (.ref f),a1,some (.text k),a3,a4,u,a6] K (.list ar l) H:=by
 subst hl
 refine bb (λU=>LI H λu=>[some (.ref f),a1,some (.text k),a3,a4,u,a6]) (.mk _) ?_ ?_ ?_
 ·rintro j _ _ ⟨⟩
  exact ha
 ·rintro j m _ _ hm ⟨u⟩
  obtain ⟨x,hx',rfl⟩:=Option.map_eq_some_iff.mp (show xs[j]?.map bN = some m by rw [← List.getElem?_map];exact hm)
  simp
  exact fZ hf (hx x (List.mem_of_getElem? hx')) (by simp;exact .mk _)
 ·rintro _ _ ⟨u⟩
  exact q u
private theorem qm {f ps sl bl b n k:Nat} {bs:List Nat} {c:aB} {p:PBlock} {Q:QV} (hc:CodeAt H f ps sl bl bs c) (hb:IsBlock H b n p) (ha:∀ x∈p.en.args,okO x) (hg:∀ g∈p.en.fol,g < c.length) (q:∀ X,Q .none (H++X)):ip hB [.ref f,.ref b,.text k] H Q:=by
 refine fn rfl [some (.ref f),some (.ref b),some (.text k),none,none,none,none] rfl ?_
 have hb0:=hb
 obtain ⟨st,e,vs,g1,g2,g3,a,m,ln,h1,h2,h3⟩:=hb
 have hbl:bs.length = c.length:=hc.all
 have fin:∀ u w (K:QS),(∀ X u1 u2,K .next [some (.ref f),some (.ref b),some (.text k),some (.ref e),u1,u2,w] (H++X))→aj (cv (bD (aI (ae (ai 1) am) (bE hB))) (aw 4) (aj (sIf (fS (dG .le .lt (az 0) (ai 4) (aI (ae (aD (ai 0) 13) am) gb))) (aj bM ay) ay) ay)) ay
   [some (.ref f),some (.ref b),some (.text k),some (.ref e),none,u,w] H K:=by
  intro u w K hK
  simp
  refine gA hb0 λX=>?_
  simp
  refine bb (λU=>LI (H++(X++[.list (aA p.en.fol)])) λu1=>[some (.ref f),some (.ref b),some (.text k),some (.ref e),u1,u,w]) (.mk _) ?_ ?_ ?_
  ·rintro j _ _ ⟨⟩
   simp [okL]
  ·rintro j m _ _ hm ⟨u⟩
   obtain ⟨g,hgj,rfl⟩:=co (l:=p.en.fol) (j:=j) hm
   have:=hg g (List.mem_of_getElem? hgj)
   simp [app hc.fn,app hc.bl,hbl,this]
   exact .mk _
  ·rintro _ _ ⟨u1⟩
   simp
   exact hK _ _ _
 obtain ⟨rows,E⟩:=p
 cases E with
 | jump g =>
  simp -implicitDefEqProofs [eA,g1,h1,h2,PEnd.op,PEnd.args,dZ]
  refine iC (xs:=[]) hc.fn h2 rfl ha λu=>?_
  rw [j6]
  exact fin _ _ _ λX u1 u2=>by simpa using q X
 | give x =>
  simp -implicitDefEqProofs [eA,g1,h1,h2,PEnd.op,PEnd.args,dZ,hc.fn]
  refine iC (xs:=[x]) hc.fn h2 rfl ha λu=>?_
  rw [j6]
  exact fin _ _ _ λX u1 u2=>by simpa using q X
 | branch x t o =>
  simp -implicitDefEqProofs [eA,g1,h1,h2,PEnd.op,PEnd.args,dZ]
  refine iC (xs:=[x]) hc.fn h2 rfl ha λu=>?_
  rw [j6]
  exact fin _ _ _ λX u1 u2=>by simpa using q X
 | table x low row o =>
  simp -implicitDefEqProofs [eA,g1,h1,h2,PEnd.op,PEnd.args,dZ]
  refine iC (xs:=[x]) hc.fn h2 rfl ha λu=>?_
  rw [j6]
  exact fin _ _ _ λX u1 u2=>by simpa using q X
inductive CSI (H:MH) (ar now k:Nat):Loc→MH→Prop
 | mk (u v:Option MV):CSI H ar now k [some (.ref ar),some (.ref now),some (.text k),u,v] H
private theorem jr {ar now k:Nat} {xs:List Opd} {Q:QV} (ha:H[ar]? = some (.list (xs.map bN))) (hn:H[now]? = some .full) (hx:∀ x∈xs,okO x) (q:Q .none H):fk hB [.ref ar,.ref now,.text k] H Q:=by
 refine fn rfl [some (.ref ar),some (.ref now),some (.text k),none,none] rfl ?_
 simp [lC,ha]
 refine bb (λU=>CSI H ar now k) (.mk _ _) ?_ ?_ ?_
 ·rintro j _ _ ⟨⟩
  exact ha
 ·rintro j m _ _ hm ⟨u,v⟩
  obtain ⟨x,hx',rfl⟩:=Option.map_eq_some_iff.mp (show xs[j]?.map bN = some m by rw [← List.getElem?_map];exact hm)
  have ok:=hx x (List.mem_of_getElem? hx')
  cases x with
  | reg n =>
   have h1:(n:Int) < 4:=by have:n < 4:=ok;exact Int.ofNat_lt.mpr ‹_›
   simp [bN,hn,h1]
   exact .mk _ _
  | num n =>
   simp [bN]
   exact .mk _ _
 ·rintro _ _ ⟨u,v⟩
  simpa using q
private theorem iy {a b:Nat} {l:List MV} (ha:H[a]? = some (.list l)) (hb:H[b]? = some (.list [])) (ne:a≠b):cp H .eq (.ref a) (.ref b) = some l.isEmpty:=by
 show eqV H (.ref a) (.ref b) = _
 rw [pZ,ha,hb]
 show eqL a b l [] _ = _
 rw [eqL,if_pos ⟨ne,by simp⟩];simp
private theorem tM {a b:Nat} {l:List MV} (ha:H[a]? = some (.list l)) (hb:H[b]? = some (.list [])) (ne:a≠b):cp H .ne (.ref a) (.ref b) = some (!l.isEmpty):=by
 show (cp H .eq (.ref a) (.ref b)).map _ = _
 rw [iy ha hb ne];rfl
end
end Mine
end
section
namespace Mine
noncomputable def gq:MV→Bool
 | .none=>true
 | _=>false
private theorem kq {kn:List MV} {g r:Nat} (h:kn[g]? = some .none):(kn.set g (.ref r)).countP gq + 1 = kn.countP gq:=by
 have hg:=(List.getElem?_eq_some_iff.mp h).1
 have e:kn = kn.take g++MV.none :: kn.drop (g + 1):=by
  have h2:kn.drop g = MV.none :: kn.drop (g + 1):=by
   rw [List.drop_eq_getElem_cons hg,(List.getElem?_eq_some_iff.mp h).2]
  rw [← h2,List.take_append_drop]
 have hl:(kn.take g).length = g:=by rw [List.length_take];exact Nat.min_eq_left (Nat.le_of_lt ‹_›)
 generalize kn.take g = A at e hl
 generalize kn.drop (g + 1) = B at e
 subst e
 rw [uu hl,List.countP_append,List.countP_append,List.countP_cons,List.countP_cons]
 rfl
structure KN (c:aB) (kn:List MV) (H':MH):Prop where
 len:kn.length = c.length
 at_:∀ (i:Nat) v,kn[i]? = some v→v = .none∨∃ r,v = .ref r∧H'[r]? = some .full
private theorem KN.get {c:aB} {kn:List MV} {H':MH} (h:KN c kn H') {g:Nat} (hg:g < c.length):(kn[g]? = some .none∧itO (some (.list kn)) (g:Int) = some .none)∨∃ r,kn[g]? = some (.ref r)∧itO (some (.list kn)) (g:Int) = some (.ref r)∧H'[r]? = some .full:=by
 have e:=List.getElem?_eq_getElem (l:=kn) (h.len ▸ hg)
 have i:=b8 e
 rcases h.at_ g _ e with h0 | ⟨r,h0,hr⟩
 ·rw [h0] at e i;exact .inl ⟨e,i⟩
 ·rw [h0] at e i;exact .inr ⟨r,e,i,hr⟩
structure KW (H:MH) (c:aB) (ka wa:Nat) (kn:List MV) (w:List Nat) (H':MH):Prop where
 o:Own H H' [(ka,.list kn),(wa,.list (aA w))]
 kk:KN c kn H'
 ww:∀ x∈w,x < c.length∧∃ r,kn[x]? = some (.ref r)
 bd:2 * kn.countP gq + w.length≤1000
private theorem KN.app {c:aB} {kn:List MV} {H':MH} (h:KN c kn H') (X:MH):KN c kn (H'++X):=⟨h.len,λi v e=>(h.at_ i v e).imp id λ⟨r,a,b⟩=>⟨r,a,Mine.app b X⟩⟩
private theorem KN.set {c:aB} {kn l l':List MV} {H':MH} {a:Nat} (h:KN c kn H') (ha:H'[a]? = some (.list l)):KN c kn (H'.set a (.list l')):=⟨h.len,λi v e=>(h.at_ i v e).imp id λ⟨r,x,y⟩=>⟨r,x,aJ y λq=>by rw [q,y] at ha;cases ha⟩⟩
private theorem KW.app {H:MH} {c:aB} {ka wa:Nat} {kn:List MV} {w:List Nat} {H':MH} (h:KW H c ka wa kn w H') (X:MH):KW H c ka wa kn w (H'++X):=⟨h.o.app X,h.kk.app X,h.ww,h.bd⟩
private theorem KW.push {H:MH} {c:aB} {ka wa g r:Nat} {kn:List MV} {w:List Nat} {H':MH} (h:KW H c ka wa kn w H') (hg:kn[g]? = some .none) (hr:H'[r]? = some .full) :
  KW H c ka wa (kn.set g (.ref r)) (w++[g]) ((H'.set ka (.list (kn.set g (.ref r)))).set wa (.list (aA w++[.int (g:Nat)])))∧(H'.set ka (.list (kn.set g (.ref r))))[wa]? = some (.list (aA w)):=by
 have hka:=h.o.has (ka,_) (.head _)
 have o1:=Own.set (pre:=[]) h.o (.list (kn.set g (.ref r)))
 have hwa:=o1.has (wa,_) (.tail _ (.head _))
 have o2:=Own.set (pre:=[(ka,.list (kn.set g (.ref r)))]) o1 (.list (aA w++[.int (g:Nat)]))
 have hgl:=(List.getElem?_eq_some_iff.mp hg).1
 dsimp only at hka hwa
 have hr1:(H'.set ka (.list (kn.set g (.ref r))))[r]? = some .full:=aJ hr λq=>by rw [q,hr] at hka;cases hka
 have k1:KN c (kn.set g (.ref r)) (H'.set ka (.list (kn.set g (.ref r)))):=by
  refine ⟨by rw [List.length_set];exact h.kk.len,λi v e=>?_⟩
  by_cases hi:g = i
  ·subst hi
   rw [List.getElem?_set_self hgl] at e;cases e
   exact .inr ⟨r,rfl,hr1⟩
  ·rw [List.getElem?_set_ne hi] at e
   exact (h.kk.set hka).at_ i v e
 have hc:=kq (r:=r) hg
 refine ⟨⟨by rw [gk];exact o2,k1.set hwa,λx hx=>?_,by have:=h.bd;rw [List.length_append,List.length_singleton];omega⟩,hwa⟩
 rcases List.mem_append.mp hx with hx | hx
 ·obtain ⟨h1,r',h2⟩:=h.ww x hx
  refine ⟨h1,r',?_⟩
  rw [List.getElem?_set_ne λq=>by rw [q,h2] at hg;cases hg];exact h2
 ·obtain rfl:=List.mem_singleton.mp hx
  exact ⟨h.kk.len ▸ hgl,r,List.getElem?_set_self hgl⟩
private theorem wt {H:MH} {i j:Nat} (hi:H[i]? = some .full) (hj:H[j]? = some .full):cp H .le (.ref i) (.ref j) = some true:=by
 show leF H[i]? H[j]? = _
 rw [hi,hj];rfl
inductive SAI (H:MH) (c:aB) (f ka wa:Nat):Nat→Loc→MH→Prop
 | mk (n:Nat) (kn:List MV) (w:List Nat) (u1 u3 u4 u5:Option MV) (H':MH) (k:KW H c ka wa kn w H') (hn:n = 2 * kn.countP gq + w.length):SAI H c f ka wa n [some (.ref f),u1,some (.ref ka),u3,u4,u5,some (.ref wa)] H'
section
variable {hB:Heap} {H:MH}
inductive SAJ (H:MH) (c:aB) (f x ka r wa a n:Nat) (p:PBlock):Loc→MH→Prop
 | mk (kn':List MV) (w':List Nat) (u u5:Option MV) (H4:MH) (k:KW H c ka wa kn' w' H4) (h4:H4[a]? = some (.list (aA p.en.fol))) (na:a≠ka) (nw:a≠wa) (hn:H4[r]? = some .full) (lt:2 * kn'.countP gq + w'.length < n) :
   SAJ H c f x ka r wa a n p [some (.ref f),some (.int (x:Nat)),some (.ref ka),some (.ref r),u,u5,some (.ref wa)] H4
private theorem yc {f ps sl bl ka wa n:Nat} {bs:List Nat} {c:aB} {L:Loc} {H':MH} {Q:QS} (hc:CodeAt H f ps sl bl bs c) (ok:Ok c) (hi:SAI H c f ka wa n L H')
  (q:∀ u1 u3 u4 u5 kn w H',KW H c ka wa kn w H'→Q .next [some (.ref f),u1,some (.ref ka),u3,u4,u5,some (.ref wa)] H') :
  aM .ne (ai 6) (aW am) L H' (kWh (aj (au (iq .list (ai 6) rO) (aw 1)) (aj (au (aI (ae (aP (ai 2) (ai 1)) am) nO) (aw 3)) (aj (cv (bD (aD (aP (aD (ai 0) 13) (ai 1)) 7)) (aw 5) (aj (sIf (aM .ge (aD (ai 5) 1) (az 0)) (aj (bC (bW .set (ai 3) (ae (aD (ai 5) 1) am) oj)) ay) ay) ay))
   (aj (cv (bD (aI (ae (aP (aD (ai 0) 13) (ai 1)) am) (bE hB))) (aw 4) (aj (sIf (aM .is_ (aP (ai 2) (ai 4)) gY) (aj (au (aI (ae (ai 3) am) nO) (eS (ai 2) (ai 4))) (aj (bC (bW .list (ai 6) (ae (ai 4) am) b7)) ay)) (aj (sIf (fS (aM .le (aP (ai 2) (ai 4)) (ai 3))) (aj (au v5 (eS (ai 2) (ai 4))) (aj (bC (bW .list (ai 6) (ae (ai 4) am) b7)) ay)) ay) ay)) ay)) ay))))
   (SAI H c f ka wa) n L Q):=by
 obtain ⟨_,kn,w,u1,u3,u4,u5,_,k,hn⟩:=hi
 have hwa:=k.o.has (wa,_) (.tail _ (.head _))
 dsimp only at hwa
 have ne:wa≠H'.length:=Nat.ne_of_lt (bv hwa)
 have hcmp:=tM (app hwa [.list []]) (cO (p:=.list []) (X:=[])) ne
 simp [hcmp]
 refine aL (λhw=>?_) λhw=>?_
 ·obtain ⟨w,x,rfl⟩:∃ w' x,w = w'++[x]:=by
   rcases List.eq_nil_or_concat w with rfl | ⟨w',x,rfl⟩
   ·cases hw
   ·exact ⟨w',x,by simp⟩
  obtain ⟨hxl,r,hxr⟩:=k.ww x (by simp)
  have hbd:=k.bd
  rw [List.length_append,List.length_singleton] at hbd hn
  rw [gk] at hwa
  obtain ⟨p,ep,fp,mp⟩:=ok.fol.at_ hxl
  have kA:=k.app [.list []]
  have oS:=Own.set (pre:=[(ka,.list kn)]) kA.o (.list (aA w))
  have kS:KW H c ka wa kn w ((H'++[MObj.list []]).set wa (.list (aA w))):=⟨oS,kA.kk.set (app hwa _),λy hy=>k.ww y (List.mem_append_left _ hy),by exact Nat.le_of_lt ‹_›⟩
  have hka:=kS.o.has (ka,_) (.head _)
  dsimp only at hka
  have hir:itO (some (.list kn)) (x:Int) = some (.ref r):=b8 hxr
  have hrf:((H'++[MObj.list []]).set wa (.list (aA w)))[r]? = some .full:=by
   rcases kS.kk.at_ x _ hxr with e | ⟨r',e,h⟩
   ·cases e
   ·cases e;exact h
  simp [app hwa]
  refine mT (app hwa _) (by rw [iz];omega) ?_
  generalize (H'++[MObj.list []]).set wa (.list (aA w)) = H1 at *
  simp [hka,hir,hrf]
  have kF:=kS.app [.full]
  obtain ⟨b,hbi,hbs,hbl⟩:=hc.blkRef ep
  have hbl1:=(kF.o.block hbl)
  have hbl2:=hbl1
  have hf:=kF.o.pre _ _ hc.fn
  have hb:=kF.o.pre _ _ hc.bl
  have hnow:(H1++[MObj.full])[H1.length]? = some .full:=cO
  obtain ⟨st,e,vs,g1,g2,g3,g4⟩:=hbl1
  generalize hH2:H1++[MObj.full] = H2 at *
  simp [hf,hb,hbi,g1,g2]
  refine bb (λU=>LI H2 λu=>[some (.ref f),some (.int (x:Nat)),some (.ref ka),some (.ref H1.length),u4,u,some (.ref wa)]) (.mk _) ?_ ?_ ?_
  ·rintro j _ _ ⟨⟩
   exact g2
  ·rintro j m _ _ hm ⟨u⟩
   obtain ⟨r,hr,i,a,ln,rfl,t1,t2⟩:=g3.get (show vs[j]? = some m from hm)
   have hd:=(ok.rows p mp r (List.mem_of_getElem? hr)).dst
   simp [t1]
   refine aL (λhd0=>?_) λhd0=>?_
   ·have hd0:0≤r.dst:=by simpa using hd0
    simp [t1,hnow,hd0,hd.2]
    exact .mk _
   ·simp
    exact .mk _
  ·rintro _ _ ⟨u⟩
   simp [hf,hb,hbi]
   refine eu hbl2 λH3 a o3=>?_
   have ha:=o3.has (a,_) (.head _)
   dsimp only at ha
   have k3:KW H c ka wa kn w H3:=by
    obtain ⟨Y,rfl⟩:=o3.eq
    exact kF.app Y
   have hnow3:=o3.pre _ _ hnow
   simp [ha]
   refine bb (λU=>SAJ H c f x ka H1.length wa a n p) (.mk kn w _ _ H3 k3 ha ?_ ?_ hnow3 (by exact Nat.le_of_eq (Eq.symm ‹_›))) ?_ ?_ ?_
   ·intro q;have h1:=o3.lo (a,_) (.head _);have h2:=bv (kF.o.has (ka,_) (.head _));simp only at h1 h2;omega
   ·intro q;have h1:=o3.lo (a,_) (.head _);have h2:=bv (kF.o.has (wa,_) (.tail _ (.head _)));simp only at h1 h2;omega
   ·rintro j _ H4 ⟨_,_,_,_,_,_,h4⟩
    exact h4
   ·rintro j m _ H4 hm ⟨kn',w',u,u5,_,k4,h4,na,nw,hn4,hlt⟩
    obtain ⟨g,hg,rfl⟩:=co (l:=p.en.fol) (j:=j) hm
    have hgl:=ok.fol.lt p mp g (List.mem_of_getElem? hg)
    have hka4:=k4.o.has (ka,_) (.head _)
    dsimp only at hka4
    rcases k4.kk.get hgl with ⟨e1,e2⟩ | ⟨r',e1,e2,e3⟩
    ·have k5:=(k4.app [.full]).push e1 (r:=H4.length) cO
     have hl5:=k4.kk.len
     have hc5:=kq (r:=H4.length) e1
     have hbd4:=k4.bd
     have hcl:=ok.fol.len
     simp [hka4,e2,hn4,app hka4]
     refine ⟨by exact ⟨Nat.lt_of_lt_of_le ‹_› (Nat.le_of_eq (Eq.symm ‹_›)),Nat.le_trans (Nat.le_of_eq ‹_›) (Nat.le_trans ‹_› (by decide))⟩,?_⟩
     simp [k5.2]
     refine ⟨by omega,.mk _ (w'++[g]) _ _ _ k5.1 ?_ na nw ?_ (by rw [List.length_append,List.length_singleton];omega)⟩
     ·exact aJ (aJ (app h4 _) (Ne.symm na)) (Ne.symm nw)
     ·have q1:ka≠H1.length:=λq=>by rw [q,hn4] at hka4;cases hka4
      have hwa4:=k4.o.has (wa,_) (.tail _ (.head _))
      have q2:wa≠H1.length:=λq=>by dsimp only at hwa4;rw [q,hn4] at hwa4;cases hwa4
      exact aJ (aJ (app hn4 _) q1) q2
    ·simp [hka4,e2,wt e3 hn4]
     exact .mk kn' w' _ _ _ k4 h4 na nw hn4 hlt
   ·rintro _ H4 ⟨kn',w',u,u5,_,k4,h4,na,nw,hn4,hlt⟩
    simp
    exact ⟨_,hlt,.mk _ kn' w' _ _ _ _ _ k4 rfl⟩
 ·simp
  exact q _ _ _ _ kn w _ (k.app _)
private theorem mY {f ps sl bl:Nat} {bs:List Nat} {c:aB} {Q:QV} (hc:CodeAt H f ps sl bl bs c) (ok:Ok c)
  (q:∀ X a kn,(H++X)[a]? = some (.list kn)→KN c kn (H++X)→Q (.ref a) (H++X)):fJ hB [.ref f] H Q:=by
 refine fn rfl [some (.ref f),none,none,none,none,none,none] rfl ?_
 have hlen:=ok.fol.len
 have hpos:=ok.fol.pos
 have hbl:=hc.all
 simp [iR,hc.fn,hc.bl]
 refine bX (CI H (λj=>List.replicate j MV.none) bs.length λu=>[u]) (.mk _ (Nat.zero_le _)) ?_ ?_ ?_
 ·rintro j _ _ _ ⟨_,hj⟩
  exact ⟨hc.bl,by simp;omega⟩
 ·rintro j m _ _ _ hm ⟨u,hj⟩
  have:j < bs.length:=by
   have:=(List.getElem?_eq_some_iff.mp (show (bs.map MV.ref)[j]? = some m from hm)).1
   simpa using this
  simp
  rw [← List.replicate_succ']
  exact .mk _ this
 ·rintro _ _ _ ⟨u,_⟩
  have hsz:(It.list bl (bs.map MV.ref)).size = c.length:=by simp [It.size,hbl]
  rw [hsz]
  simp [app hc.fn,app hc.ps]
  refine ⟨⟨hpos,by exact Nat.le_trans ‹_› (by decide)⟩,?_⟩
  have hrep:(List.replicate c.length MV.none)[0]? = some .none:=by rw [List.getElem?_replicate,if_pos hpos]
  have o:Own H (H++[.list ((List.replicate c.length MV.none).set 0 (.ref (H.length + 1))),.full,.list [.int 0]]) [(H.length,.list ((List.replicate c.length MV.none).set 0 (.ref (H.length + 1)))),(H.length + 2,.list (aA [0]))]:=by
   have:=((((Own.start (H:=H)).new (.list ((List.replicate c.length MV.none).set 0 (.ref (H.length + 1))))).app [.full]).new (.list (aA [0])))
   refine Own.perm ?_ (List.Perm.swap _ _ _)
   simpa [aA] using this
  have kw:KW H c H.length (H.length + 2) ((List.replicate c.length MV.none).set 0 (.ref (H.length + 1))) [0] (H++[.list ((List.replicate c.length MV.none).set 0 (.ref (H.length + 1))),.full,.list [.int 0]]):=by
   refine ⟨o,⟨by simp,λi v e=>?_⟩,λx hx=>?_,?_⟩
   ·cases i with
    | zero =>
     rw [List.getElem?_set_self (by simpa using hpos)] at e;cases e
     exact .inr ⟨_,rfl,hG⟩
    | succ i =>
     rw [List.getElem?_set_ne (by omega),List.getElem?_replicate] at e
     split at e
     ·cases e;exact .inl rfl
     ·cases e
   ·obtain rfl:=List.mem_singleton.mp hx
    exact ⟨hpos,_,List.getElem?_set_self (by simpa using hpos)⟩
   ·have:=kq (r:=H.length + 1) hrep
    have h2:(List.replicate c.length MV.none).countP gq≤c.length:=by
     have:=List.countP_le_length (p:=gq) (l:=List.replicate c.length MV.none)
     rwa [List.length_replicate] at this
    simp only [List.length_singleton];omega
  refine dX (SAI H c f H.length (H.length + 2)) _ (.mk _ _ [0] _ _ _ _ _ kw rfl) ?_
  rintro n L' H2 hi
  refine yc hc ok hi λu1 u3 u4 u5 kn w H3 k=>?_
  have ha:=k.o.has (H.length,_) (.head _)
  obtain ⟨X,rfl⟩:=k.o.eq
  simp
  exact q X _ kn ha k.kk
inductive CF2 (H:MH) (f a:Nat):Loc→MH→Prop
 | mk (X:MH) (u1 u2 u3 u5 u6 u7 u8 u9:Option MV):CF2 H f a [some (.ref f),u1,u2,u3,some (.ref a),u5,u6,u7,u8,u9] (H++X)
private theorem CF2.nil {H:MH} {f a:Nat} {u1 u2 u3 u5 u6 u7 u8 u9:Option MV}:CF2 H f a [some (.ref f),u1,u2,u3,some (.ref a),u5,u6,u7,u8,u9] H:=by
 have:=CF2.mk (H:=H) (f:=f) (a:=a) [] u1 u2 u3 u5 u6 u7 u8 u9
 rwa [List.append_nil] at this
inductive CF3 (H:MH) (f:Nat):Loc→MH→Prop
 | mk (X:MH) (u1 u2 u3 u4 u5 u6 u7 u8 u9:Option MV):CF3 H f [some (.ref f),u1,u2,u3,u4,u5,u6,u7,u8,u9] (H++X)
inductive CF1 (H:MH) (f:Nat) (u0:Option MV) (X:MH):Loc→MH→Prop
 | mk (u1 u2 u3 u4 u5 u6 u7 u8 u9:Option MV):CF1 H f u0 X [some (.ref f),u1,u2,u3,u4,u5,u6,u7,u8,u9] (H++X)
private theorem iK {f ps sl bl:Nat} {bs:List Nat} {c:aB} {Q:QV} (hc:CodeAt H f ps sl bl bs c) (ok:Ok c) (q:∀ X,Q .none (H++X)):eT hB [.ref f] H Q:=by
 refine fn rfl [some (.ref f),none,none,none,none,none,none,none,none,none] rfl ?_
 have hlen:=ok.fol.len
 have hpos:=ok.fol.pos
 have hbl:=hc.all
 have hne:bl≠H.length:=Nat.ne_of_lt (bv hc.bl)
 have hemp:(bs.map MV.ref).isEmpty = false:=by
  cases bs with
  | nil=>simp at hbl;omega
  | cons a b=>rfl
 simp [jL,hc.fn,app hc.fn,iy (app hc.bl _) cO hne,hemp,app hc.ps]
 refine bb (λj L' H'=>CF1 H f none [.list []] L' H') (.mk _ _ _ _ _ _ _ _ _) ?_ ?_ ?_
 ·rintro j L' H' ⟨⟩
  exact app hc.ps _
 ·rintro j m L' H' hm ⟨u1,u2,u3,u4,u5,u6,u7,u8,u9⟩
  have hm':[MV.int 0,.int 1,.int 2,.int 3][j]? = some m:=hm
  have hj:∃ x:Int,m = .int x∧0≤x∧x < 4∧([0,1,2,3]:List Int).countP (· == x) = 1:=by
   rcases j with _ | _ | _ | _ | j
   ·cases hm';exact ⟨0,rfl,by decide⟩
   ·cases hm';exact ⟨1,rfl,by decide⟩
   ·cases hm';exact ⟨2,rfl,by decide⟩
   ·cases hm';exact ⟨3,rfl,by decide⟩
   ·simp at hm'
  obtain ⟨x,rfl,h1,h2,h3⟩:=hj
  simp [app hc.fn,h1,h2,app hc.ps]
  refine nG (ns:=[0,1,2,3]) (app hc.ps _) ?_
  rw [h3]
  simp
  exact .mk _ _ _ _ _ _ _ _ _
 ·rintro L' H' ⟨u1,u2,u3,u4,u5,u6,u7,u8,u9⟩
  simp [app hc.fn,app hc.sl]
  refine bb (λj L' H'=>CF1 H f none [.list []] L' H') (.mk _ _ _ _ _ _ _ _ _) ?_ ?_ ?_
  ·rintro j L' H' ⟨⟩
   exact app hc.sl _
  ·rintro j m L' H' hm
   have:([]:List MV)[j]? = some m:=hm
   simp at this
  ·rintro L' H' ⟨u1,u2,u3,u4,u5,u6,u7,u8,u9⟩
   simp [app hc.fn,app hc.bl]
   refine bb (λU=>CF3 H f) (.mk _ _ _ _ _ _ _ _ _ _) ?_ ?_ ?_
   ·rintro j _ _ ⟨⟩
    exact app hc.bl _
   ·rintro j m _ _ hm ⟨X,u1,u2,u3,u4,u5,u6,u7,u8,u9⟩
    obtain ⟨m',hm',rfl⟩:=Option.map_eq_some_iff.mp (show ((bs.map MV.ref)[j]?).map (λv=>MV.tup [.int (j:Nat),v]) = some m from hm)
    rw [List.getElem?_map] at hm'
    obtain ⟨b,hb,rfl⟩:=Option.map_eq_some_iff.mp hm'
    obtain ⟨p,ep,hblk⟩:=hc.gets hb
    have hj:=(List.getElem?_eq_some_iff.mp ep).1
    have mp:=List.mem_of_getElem? ep
    have hb2:=hblk
    obtain ⟨st,e,vs,g1,g2,g3,g4⟩:=hblk
    simp [app hc.fn,app g1,app g2]
    refine ⟨by exact Int.ofNat_lt.mpr (Nat.lt_of_lt_of_le ‹_› (Nat.le_trans ‹_› (by decide))),?_⟩
    refine bb (λU=>LI (H++X) λu=>[some (.ref f),u1,some (.int (j:Nat)),some (.ref b),u4,u5,u6,u7,u,some (.text 110)]) (.mk _) ?_ ?_ ?_
    ·rintro i _ _ ⟨⟩
     exact app g2 _
    ·rintro i m _ _ hm ⟨u⟩
     obtain ⟨r,hr,hs⟩:=g3.get (show vs[i]? = some m from hm)
     simp
     exact oy (app hc.fn _) (hs.kp .app) (ok.rows p mp r (List.mem_of_getElem? hr)) (by simp;exact .mk _)
    ·rintro _ _ ⟨u⟩
     simp
     refine qm (hc.app X) (hb2.app X) (ok.args p mp) (ok.fol.lt p mp) λY=>?_
     simp
     exact .mk _ _ _ _ _ _ _ _ _ _
   ·rintro _ _ ⟨X,u1,u2,u3,u4,u5,u6,u7,u8,u9⟩
    simp
    refine mY (hc.app X) ok λY a kn ha kk=>?_
    replace q:=tp (P:=λH'=>Q .none H') q X
    replace q:=tp (P:=λH'=>Q .none H') q Y
    replace hc:=(hc.app X).app Y
    generalize H++X++Y = H1 at *
    simp [hc.fn,hc.bl]
    refine bb (λU=>CF2 H1 f a) .nil ?_ ?_ ?_
    ·rintro j _ _ ⟨⟩
     exact app hc.bl _
    ·rintro j m _ _ hm ⟨X,u1,u2,u3,u5,u6,u7,u8,u9⟩
     obtain ⟨m',hm',rfl⟩:=Option.map_eq_some_iff.mp (show ((bs.map MV.ref)[j]?).map (λv=>MV.tup [.int (j:Nat),v]) = some m from hm)
     rw [List.getElem?_map] at hm'
     obtain ⟨b,hb,rfl⟩:=Option.map_eq_some_iff.mp hm'
     obtain ⟨p,ep,hblk⟩:=hc.gets hb
     have hj:=(List.getElem?_eq_some_iff.mp ep).1
     have mp:=List.mem_of_getElem? ep
     obtain ⟨st,e,vs,g1,g2,g3,ar,mo,ln,k1,k2,k3⟩:=hblk
     rcases kk.get hj with ⟨e1,e2⟩ | ⟨r,e1,e2,e3⟩
     ·simp [app ha,e2]
      exact .mk _ _ _ _ _ _ _ _ _
     ·simp [app ha,e2,app e3,app hc.fn,app g1,app g2]
      refine ⟨by exact Int.ofNat_lt.mpr (Nat.lt_of_lt_of_le ‹_› (Nat.le_trans ‹_› (by decide))),?_⟩
      refine bb (λU=>LI (H1++(X++[.full])) λu=>[some (.ref f),u1,some (.int (j:Nat)),some (.ref b),some (.ref a),some (.ref (H1.length + X.length)),u6,u7,u,some (.text 110)]) (.mk _) ?_ ?_ ?_
      ·rintro i _ _ ⟨⟩
       exact app g2 _
      ·rintro i m _ _ hm ⟨u⟩
       obtain ⟨row,hr,i',a',ln',rfl,t1,t2⟩:=g3.get (show vs[i]? = some m from hm)
       have okr:=ok.rows p mp row (List.mem_of_getElem? hr)
       simp [app t1]
       refine jr (app t2 _) (by simp) okr.args ?_
       simp [app t1]
       refine aL (λhd=>?_) λhd=>?_
       ·have hd:0≤row.dst:=by simpa using hd
        simp [app t1,hd,okr.dst.2]
        exact .mk _
       ·simp
        exact .mk _
      ·rintro _ _ ⟨u⟩
       simp [app g1,app k1]
       refine jr (app k2 _) (by simp) (ok.args p mp) ?_
       simp
       exact .mk _ _ _ _ _ _ _ _ _
    ·rintro _ _ ⟨X,u1,u2,u3,u5,u6,u7,u8,u9⟩
     simp
     exact q X
end
end Mine
end
section
namespace Mine
noncomputable def cq (H:MH) (a:Nat):MH:=H.set a (.set [])
section
variable {H:MH} {a:Nat}
private theorem dJ {X:MH} (h:a < H.length):cq (H++X) a = cq H a++X:=List.set_append_left _ _ h
private theorem fT {o:MObj}:cq (H.set a o) a = cq H a:=List.set_set ..
private theorem qK {b:Nat} {o:MObj} (h:b≠a):cq (H.set b o) a = (cq H a).set b o:=List.set_comm _ _ h
private theorem fY (h:a < H.length):Kp (cq H a) H:=by
 have e:H = (cq H a).set a H[a]:=by
  unfold cq
  rw [List.set_set,List.set_getElem_self]
 have:=Kp.set (H:=cq H a) (i:=a) (o:=H[a]) (p:=.set []) (List.getElem?_set_self h) rfl
 rwa [← e] at this
private theorem dN {i:Nat} {o:MObj} (h:H[i]? = some o) (ne:i≠a):(cq H a)[i]? = some o:=aJ h (Ne.symm ne)
end
noncomputable def mj (n st:Nat):MObj:=.inst 1 [(6,.int (n:Nat)),(7,.ref st),(8,.none)]
@[simp] private theorem inst1_7 {n st:Nat}:atO (some (mj n st)) 7 = some (.ref st):=rfl
@[simp] private theorem inst1_s8 {n st e j:Nat} {L:Loc} {H:MH} {Q:QA}:gZ (some (mj n st)) (iP j 8 (.ref e) L H Q) = Q L (H.set j (blk n st e)):=c6 (Nat.le_of_ble_eq_true rfl)
section
variable {hB:Heap} {H:MH}
private theorem wA {j:Nat} {Q:QV} (q:Q (.ref H.length) (H++[mj j (H.length + 1),.list []])):mB 1 (gf hB) [.int (j:Nat)] H Q:=by
 refine fn rfl [some (.ref H.length),some (.int (j:Nat))] rfl ?_
 simpa [jK,mj] using q
private theorem xD {Q:QV} (q:Q (.ref H.length) (H++[.inst 2 [(9,.sym 13),(10,.ref (H.length + 1)),(11,.bool false),(12,.ref (H.length + 2)),(13,.ref (H.length + 3)),(14,.int 0),(15,.bool false)],.list [],.list [],.list []])) :
  mB 2 (hU hB) [.sym 13] H Q:=by
 refine fn rfl [some (.ref H.length),some (.sym 13)] rfl ?_
 simpa [lq] using q
structure MI (H:MH) (f ps sl bl:Nat) (bs:List Nat) (c:aB) (H':MH):Prop where
 o:Own H H' [(bl,.list (bs.map .ref)),(f,fnc ps sl bl),(ps,.list [.int 0,.int 1,.int 2,.int 3]),(sl,.list [])]
 nd:bs.Nodup
 all:bs.length = c.length
 bk:∀ (i:Nat) b p,bs[i]? = some b→c[i]? = some p→IsBlock (cq H' bl) b i p
private theorem MI.bl {f ps sl bl:Nat} {bs:List Nat} {c:aB} {H':MH} (h:MI H f ps sl bl bs c H'):bl < H'.length:=bv (h.o.has (bl,_) (.head _))
private theorem MI.app {f ps sl bl:Nat} {bs:List Nat} {c:aB} {H':MH} (h:MI H f ps sl bl bs c H') (X:MH):MI H f ps sl bl bs c (H'++X) :=
 ⟨h.o.app X,h.nd,h.all,λi b p x y=>by rw [dJ h.bl];exact (h.bk i b p x y).app X⟩
private theorem MI.code {f ps sl bl:Nat} {bs:List Nat} {c:aB} {H':MH} (h:MI H f ps sl bl bs c H'):CodeAt H' f ps sl bl bs c:=by
 refine ⟨h.o.has (f,_) (.tail _ (.head _)),h.o.has (ps,_) (.tail _ (.tail _ (.head _))),h.o.has (sl,_) (.tail _ (.tail _ (.tail _ (.head _)))),h.o.has (bl,_) (.head _),h.nd,h.all,λi b p x y=>?_⟩
 have hb:=h.bk i b p x y
 refine hb.kp (fY h.bl) λo ho=>?_
 obtain ⟨_,_,_,h1,_⟩:=hb
 by_cases e:bl = b
 ·subst e
  rw [cq,List.getElem?_set_self h.bl] at h1;cases h1
 ·unfold cq at ho;rwa [List.getElem?_set_ne e] at ho
private theorem MI.more {f ps sl bl b st e:Nat} {bs:List Nat} {c:aB} {p:PBlock} {vs:List MV} {H':MH} (h:MI H f ps sl bl bs c H') (hb:H'[b]? = some (blk c.length st e)) (hn:b∉bs) (nb:b≠bl) (ns:st≠bl)
  (h1:H'[st]? = some (.list vs)) (h2:All2 (IsStep (cq H' bl)) vs p.rows) (h3:IsEnd (cq H' bl) e p.en):MI H f ps sl bl (bs++[b]) (c++[p]) (H'.set bl (.list (bs.map .ref++[.ref b]))):=by
 refine ⟨by rw [List.map_append];exact Own.set (pre:=[]) h.o _,?_,by rw [List.length_append,List.length_append,h.all];rfl,λi b' p' x y=>?_⟩
 ·rw [List.nodup_append]
  exact ⟨h.nd,by simp,λa ha b' hb e=>hn (by simp at hb;subst hb;subst e;exact ha)⟩
 ·rw [fT]
  by_cases hi:i < c.length
  ·rw [List.getElem?_append_left (h.all ▸ hi)] at x
   rw [List.getElem?_append_left hi] at y
   exact h.bk i b' p' x y
  ·have hc:=(List.getElem?_eq_some_iff.mp y).1
   rw [List.length_append,List.length_singleton] at hc
   obtain rfl:i = c.length:=by (exact Nat.eq_of_lt_succ_of_not_lt ‹_› ‹_›)
   rw [List.getElem?_append_right (Nat.le_refl _),Nat.sub_self] at y
   rw [List.getElem?_append_right (by rw [h.all];exact Nat.le_refl _),h.all,Nat.sub_self] at x
   cases x;cases y
   exact ⟨st,e,vs,dN hb nb,dN h1 ns,h2,h3⟩
private theorem bV {H:MH} {a:Nat}:(cq H a).length = H.length:=List.length_set
inductive ML (Hs:MH) (f bl b st n:Nat) (u5 v0 u11:Option MV) (rows:List Row):Loc→MH→Prop
 | mk (vs:List MV) (u1 u4 u6 u7 u8 u10:Option MV) (H':MH) (o:Own Hs H' [(b,mj n st),(st,.list vs)]) (ha:All2 (IsStep (cq (cq H' bl) st)) vs rows) :
   ML Hs f bl b st n u5 v0 u11 rows [v0,u1,some (.ref b),some (.ref f),u4,u5,u6,u7,u8,some (.int (n:Nat)),u10,u11] H'
inductive MLo (H:MH) (pa:Nat) (c:aB) (j:Nat):Loc→MH→Prop
 | mk (bs:List Nat) (u1 u2 u4 u5 u6 u7 u8 u9 u10 u11:Option MV) (H':MH) (mi:MI H H.length (H.length + 4) (H.length + 2) (H.length + 3) bs (c.take j) H') :
   MLo H pa c j [some (.ref pa),u1,u2,some (.ref H.length),u4,u5,u6,u7,u8,u9,u10,u11] H'
set_option tactic.hygienic true in
private theorem lf {v:MV} {c:aB} {Q:QV} (hp:IsPlaced H v c) (hl:c.length≤1000) (hr:∀ p∈c,p.rows.length≤900)
  (q:∀ X f ps sl bl bs,CodeAt (H++X) f ps sl bl bs c→H.length≤f→Q (.ref f) (H++X)):gz hB [v] H Q:=by
 obtain ⟨pa,pvs,rfl,hp1,hp2⟩:=hp
 refine fn rfl [some (.ref pa),none,none,none,none,none,none,none,none,none,none,none] rfl ?_
 simp [nK,-l0]
 refine xD ?_
 simp [app hp1]
 have M0:MI H H.length (H.length + 4) (H.length + 2) (H.length + 3) [] [] (H++[fnc (H.length + 4) (H.length + 2) (H.length + 3),.list [],.list [],.list [],.list [.int 0,.int 1,.int 2,.int 3]]):=by
  have o:=((((((Own.start (H:=H)).new (fnc (H.length + 4) (H.length + 2) (H.length + 3))).app [.list []]).new (.list [])).new (.list [])).new (.list [.int 0,.int 1,.int 2,.int 3]))
  simp at o
  exact ⟨o.perm ((List.perm_middle (l₁:=[_,_])).trans (.cons _ (.cons _ (.swap _ _ _)))),List.nodup_nil,rfl,λi b p x=>by simp at x⟩
 refine bb (MLo H pa c) (.mk [] _ _ _ _ _ _ _ _ _ _ _ M0) ?_ ?_ ?_
 ·rintro j _ H' ⟨bs,u1,u2,u4,u5,u6,u7,u8,u9,u10,u11,_,mi⟩
  exact mi.o.pre _ _ hp1
 ·rintro j m _ Hs hm ⟨bs,u1,u2,u4,u5,u6,u7,u8,u9,u10,u11,_,mi⟩
  obtain ⟨m',hm',rfl⟩:=Option.map_eq_some_iff.mp (show (pvs[j]?).map (λv=>MV.tup [.int (j:Nat),v]) = some m from hm)
  obtain ⟨p,ep,vr,ve,rfl,⟨ra,rvs,rfl,hr1,hr2⟩,ea,em,rfl,he1,he2⟩:=hp2.get hm'
  have mp:=List.mem_of_getElem? ep
  have hj:=(List.getElem?_eq_some_iff.mp ep).1
  have hrl:=hr p mp
  have hcj:(c.take j).length = j:=by rw [List.length_take];exact Nat.min_eq_left (Nat.le_of_lt ‹_›)
  simp [-l0]
  refine wA ?_
  simp [app (mi.o.pre _ _ hr1)]
  have bl0:=mi.bl
  have oS:=((Own.start (H:=Hs)).new (mj j (Hs.length + 1))).new (.list [])
  simp at oS
  refine bb (λi=>ML Hs H.length (H.length + 3) Hs.length (Hs.length + 1) j _ _ _ (p.rows.take i)) (.mk [] _ _ _ _ _ _ _ (oS.perm (List.Perm.swap _ _ _)) All2.nil) ?_ ?_ ?_
  ·rintro i L' H' ⟨⟩
   rename_i o ha
   exact o.pre _ _ (mi.o.pre _ _ hr1)
  ·rintro i m L' H' hm ⟨vs,v1,v4,v6,v7,v8,v10,_,o,ha⟩
   obtain ⟨r,er,a,rfl,ha1⟩:=hr2.get (show rvs[i]? = some m from hm)
   have hb:=o.has (Hs.length,_) (.head _)
   have hst:=o.has (Hs.length + 1,_) (.tail _ (.head _))
   dsimp only at hb hst
   have ha2:=o.pre _ _ (mi.o.pre _ _ ha1)
   have hra:r.args.length≤2:=by cases r <;> exact Nat.le_of_ble_eq_true rfl
   have hvs:vs.length≤900:=by rw [ha.1,List.length_take];exact lh ‹_›
   simp [ha2,-l0]
   refine ⟨by exact Nat.le_trans ‹_› (by decide),q9 ?_⟩
   simp [app hb,app hst]
   refine ⟨by exact Nat.le_trans ‹_› (by decide),?_⟩
   have ei:p.rows.take (i + 1) = p.rows.take i++[r]:=by rw [List.take_add_one,er];rfl
   rw [ei]
   have o2:=Own.set (pre:=[(Hs.length,mj j (Hs.length + 1))]) (o.app [.list (r.args.map bN),stp r.op r.dst H'.length r.more r.vol 0]) (.list (vs++[.ref (H'.length + 1)]))
   refine .mk _ _ _ _ _ _ _ _ o2 ?_
   have e1:cq (cq ((H'++[.list (r.args.map bN),stp r.op r.dst H'.length r.more r.vol 0]).set (Hs.length + 1) (.list (vs++[.ref (H'.length + 1)]))) (H.length + 3)) (Hs.length + 1) = cq (cq H' (H.length + 3)) (Hs.length + 1)++[.list (r.args.map bN),stp r.op r.dst H'.length r.more r.vol 0]:=by
    rw [qK (by omega),fT,dJ (by have:=o.len;exact Nat.le_trans ‹_› ‹_›),dJ (by rw [bV];exact bv hst)]
   rw [e1]
   have hlen:(cq (cq H' (H.length + 3)) (Hs.length + 1)).length = H'.length:=by rw [bV,bV]
   refine (ha.mono λU U=>IsStep.kp .app).append (All2.one ⟨H'.length + 1,H'.length,0,rfl,?_,?_⟩)
   ·rw [← hlen];exact hG
   ·rw [← hlen];exact cO
  ·rintro L' H' ⟨vs,v1,v4,v6,v7,v8,v10,_,o,ha⟩
   have hsz:(It.list ra rvs).size = p.rows.length:=hr2.1
   rw [hsz,cA rfl] at ha
   have he1':=o.pre _ _ (mi.o.pre _ _ he1)
   have hea:p.en.args.length≤1:=by cases p.en <;> exact Nat.le_of_ble_eq_true rfl
   have hb:=o.has (Hs.length,_) (.head _)
   have hst:=o.has (Hs.length + 1,_) (.tail _ (.head _))
   dsimp only at hb hst
   have hf:=o.pre _ _ (mi.o.has (H.length,_) (.tail _ (.head _)))
   have hbl:=o.pre _ _ (mi.o.has (H.length + 3,_) (.head _))
   have hbl':=bv hbl
   have hne:Hs.length≠H.length:=by omega
   have hne3:Hs.length≠H.length + 3:=by (exact Nat.ne_of_gt ‹_›)
   have hbsl:bs.length≤1000:=by rw [mi.all,hcj];exact Nat.le_trans (Nat.le_of_lt ‹_›) (Nat.le_trans ‹_› (by decide))
   dsimp only at hf hbl
   simp [he1',-l0]
   refine ⟨by exact Nat.le_trans ‹_› (by decide),q9 ?_⟩
   simp [app hb,aJ (app hf _) hne,aJ (app hbl _) hne3]
   refine ⟨by exact Nat.le_trans ‹_› (by decide),?_⟩
   have o3:=Own.set (pre:=[]) (o.app [.list (p.en.args.map bN),stp p.en.op (-1) H'.length em false 0]) (blk j (Hs.length + 1) (H'.length + 1))
   have hst3:=o3.has (Hs.length + 1,_) (.tail _ (.head _))
   have hb3:=o3.has (Hs.length,_) (.head _)
   have o4:=mi.o.trans o3
   dsimp only at hst3 hb3
   have z:Kp (cq H' (H.length + 3)) (cq ((H'++[.list (p.en.args.map bN),stp p.en.op (-1) H'.length em false 0]).set Hs.length (blk j (Hs.length + 1) (H'.length + 1))) (H.length + 3)):=by
    rw [qK hne3,dJ hbl']
    exact Kp.app.trans (.set (app (dN hb hne3) _) rfl)
   have kH:Kp H (cq ((H'++[.list (p.en.args.map bN),stp p.en.op (-1) H'.length em false 0]).set Hs.length (blk j (Hs.length + 1) (H'.length + 1))) (H.length + 3)):=λi o e U=>dN (o4.pre i o e) (by have:=bv e;omega)
   have hne':(H'.length≠Hs.length)∧(H'.length + 1≠Hs.length):=by have:=bv hb;omega
   have mi2:MI H H.length (H.length + 4) (H.length + 2) (H.length + 3) bs (c.take j) ((H'++[.list (p.en.args.map bN),stp p.en.op (-1) H'.length em false 0]).set Hs.length (blk j (Hs.length + 1) (H'.length + 1))):=by
    obtain ⟨Y,e⟩:=o3.eq
    rw [e];exact mi.app Y
   refine .mk (bs++[Hs.length]) _ _ _ _ _ _ _ _ _ _ _ ?_
   rw [show c.take (j + 1) = c.take j++[p] by rw [List.take_add_one,ep];rfl]
   refine mi2.more (st:=Hs.length + 1) (e:=H'.length + 1) (vs:=vs) (by rw [hcj];exact hb3) (λhmem=>?_) hne3 (by omega) hst3 ((ha.mono λU U=>IsStep.kp (fY (by rw [bV];exact bv hst))).mono λU U=>IsStep.kp z) ⟨H'.length,em,0,?_,?_,he2.kp kH⟩
   ·obtain ⟨i,hi⟩:=List.mem_iff_getElem?.mp hmem
    have hi2:i < (c.take j).length:=by rw [← mi.all];exact (List.getElem?_eq_some_iff.mp hi).1
    obtain ⟨_,_,_,k1,_⟩:=mi.bk i _ _ hi (List.getElem?_eq_getElem hi2)
    have:=bv k1
    rw [bV] at this;exact Nat.lt_irrefl _ ‹_›
   ·exact dN (aJ hG (Ne.symm hne'.2)) (by omega)
   ·exact dN (aJ cO (Ne.symm hne'.1)) (by exact Nat.ne_of_gt ‹_›)
 ·rintro _ H' ⟨bs,u1,u2,u4,u5,u6,u7,u8,u9,u10,u11,_,mi⟩
  have hsz:(It.enum pa pvs).size = c.length:=by simp [It.size,hp2.1]
  rw [hsz,cA rfl] at mi
  have hc:=mi.code
  obtain ⟨X,rfl⟩:=mi.o.eq
  simp
  exact q X _ _ _ _ bs hc (Nat.le_refl _)
end
end Mine
end
section
namespace Mine
section
variable {hB:Heap} {H:MH}
inductive LRI (H:MH) (f:Nat) (c:aB) (j:Nat):Loc→MH→Prop
 | mk (vs:List MV) (u1 u3:Option MV) (H':MH) (o:Own H H' [(H.length,.list vs)]) (ha:All2 (IsPl (cq H' H.length)) vs (c.take j)):LRI H f c j [some (.ref f),u1,some (.ref H.length),u3] H'
inductive LRJ (H:MH) (n:Nat) (p:PBlock) (i:Nat):List MV→Loc→MH→Prop
 | mk (X:MH) (u:Option MV) (acc:List MV) (h:All2 (IsRow (cq H n++X)) acc (p.rows.take i)):LRJ H n p i acc [u] (H++X)
private theorem LRJ.nil {H:MH} {n:Nat} {p:PBlock} {u:Option MV}:LRJ H n p 0 [] [u] H:=by
 have:=LRJ.mk (H:=H) (n:=n) (p:=p) (i:=0) [] u [] All2.nil
 rwa [List.append_nil] at this
private theorem lE {f ps sl bl:Nat} {bs:List Nat} {c:aB} {Q:QV} (hc:CodeAt H f ps sl bl bs c) (hl:c.length≤1000) (hr:∀ p∈c,p.rows.length≤1000)
  (q:∀ X v,IsPlaced (H++X) v c→(∃ i,v = .ref i∧H.length≤i)→Q v (H++X)):gP hB [.ref f] H Q:=by
 refine fn rfl [some (.ref f),none,none,none] rfl ?_
 simp [nI,app hc.fn,app hc.bl]
 refine bb (LRI H f c) (.mk [] _ _ _ (Own.start.new _) All2.nil) ?_ ?_ ?_
 ·rintro j _ H' ⟨_,_,_,_,o⟩
  exact o.pre _ _ hc.bl
 ·rintro j m _ H' hm ⟨vs,u1,u3,_,o,ha⟩
  have hm':(bs.map MV.ref)[j]? = some m:=hm
  rw [List.getElem?_map] at hm'
  obtain ⟨b,hb,rfl⟩:=Option.map_eq_some_iff.mp hm'
  obtain ⟨p,ep,hbl⟩:=hc.gets hb
  have mp:=List.mem_of_getElem? ep
  have hj:=(List.getElem?_eq_some_iff.mp ep).1
  have hrl:=hr p mp
  have hps:=o.has (H.length,_) (.head _)
  have hvs:vs.length = j:=by rw [ha.1,List.length_take];exact Nat.min_eq_left (Nat.le_of_lt ‹_›)
  dsimp only at hps
  obtain ⟨st,e,svs,g1,g2,g3,a,mo,ln,g4,g5,g6⟩:=hbl
  have kH:Kp H (cq H' H.length):=λi o' e U=>dN (o.pre i o' e) (by have:=bv e;exact Nat.ne_of_lt ‹_›)
  replace g1:=o.pre _ _ g1
  replace g2:=o.pre _ _ g2
  replace g3:=g3.mono λU U=>IsStep.kp o.kp
  replace g4:=o.pre _ _ g4
  replace g5:=o.pre _ _ g5
  have hhl:(cq H' H.length).length = H'.length:=bV
  have hea:p.en.args.length≤1:=by cases p.en <;> exact Nat.le_of_ble_eq_true rfl
  simp [g1,g2]
  refine bX (LRJ H' H.length p) .nil ?_ ?_ ?_
  ·rintro i acc _ _ ⟨X,u,_,hacc⟩
   refine ⟨app g2 _,?_⟩
   rw [hacc.1,List.length_take];exact lh (Nat.le_trans ‹_› (by decide))
  ·rintro i m acc _ _ hm ⟨X,u,_,hacc⟩
   obtain ⟨r,er,i',a',ln',rfl,t1,t2⟩:=g3.get (show svs[i]? = some m from hm)
   have hra:r.args.length≤2:=by cases r <;> exact Nat.le_of_ble_eq_true rfl
   simp [app t1,app t2]
   refine ⟨by exact Nat.le_trans ‹_› (by decide),.mk _ _ _ ?_⟩
   rw [show p.rows.take (i + 1) = p.rows.take i++[r] by rw [List.take_add_one,er];rfl]
   have e1:cq H' H.length++(X++[MObj.list (r.args.map bN)]) = (cq H' H.length++X)++[MObj.list (r.args.map bN)]:=by simp
   rw [e1]
   exact (hacc.mono λU U=>IsRow.kp .app).append (All2.one ⟨(cq H' H.length++X).length,by simp [hhl],cO⟩)
  ·rintro acc _ _ ⟨X,u,_,hacc⟩
   have hsz:(It.list st svs).size = p.rows.length:=g3.1
   rw [hsz,cA rfl] at hacc
   simp [app g1,app g4,app g5,app hps]
   refine ⟨by exact Nat.le_trans ‹_› (by decide),by omega,?_⟩
   have o2:=Own.set (pre:=[]) (o.app (X++[.list acc,.list (p.en.args.map bN)])) (.list (vs++[.tup [.ref (H'.length + X.length),.tup [.sym p.en.op,.ref (H'.length + (X.length + 1)),mo]]]))
   refine .mk _ _ _ _ o2 ?_
   rw [show c.take (j + 1) = c.take j++[p] by rw [List.take_add_one,ep];rfl,fT,dJ (bv hps)]
   refine (ha.mono λU U=>IsPl.kp .app).append (All2.one ⟨_,_,rfl,⟨_,acc,rfl,?_,?_⟩,⟨_,mo,rfl,?_,(g6.kp kH).kp .app⟩⟩)
   ·rw [← hhl,← List.append_assoc,← List.length_append];exact cO
   ·rw [← List.append_assoc];exact hacc.mono λU U=>IsRow.kp .app
   ·rw [← hhl,← List.append_assoc,← Nat.add_assoc,← List.length_append];exact hG
 ·rintro _ H' ⟨vs,u1,u3,_,o,ha⟩
  have hsz:(It.list bl (bs.map MV.ref)).size = c.length:=by simp [It.size,hc.all]
  rw [hsz,cA rfl] at ha
  have hps:=o.has (H.length,_) (.head _)
  have ha2:All2 (IsPl H') vs c:=ha.mono λU U=>IsPl.kp (fY (bv hps))
  obtain ⟨X,rfl⟩:=o.eq
  simp
  exact q X _ ⟨_,vs,rfl,hps,ha2⟩ ⟨_,rfl,Nat.le_refl _⟩
private theorem gx {v:MV} {e:PEnd} {Q:QV} (he:IsEndT H v e) (q:∀ X,Q (.ref (H.length + X.length)) (H++(X++[.list (aA e.fol)]))):cD hB [v] H Q:=by
 obtain ⟨a,m,rfl,h2,h3⟩:=he
 refine fn rfl [some (.tup [.sym e.op,.ref a,m]),none,none,none] rfl ?_
 cases e with
 | jump g =>
  obtain rfl:=h3
  simpa [eE,aA,PEnd.fol,PEnd.op] using q []
 | branch x t o =>
  obtain rfl:=h3
  simpa [eE,aA,PEnd.fol,PEnd.op] using q []
 | table x low row o =>
  obtain ⟨r,rfl,h3,h4⟩:=h3
  have:=q [.list (aA row),.list [.int o]]
  simp [eE,PEnd.op,h3]
  refine ⟨by exact Nat.le_trans ‹_› (by decide),by exact Nat.le_trans ‹_› (by decide),?_⟩
  simpa [aA,PEnd.fol] using this
 | give x =>
  simpa [eE,aA,PEnd.fol,PEnd.op] using q []
private theorem iI {a:Nat} {x:Int} {l:List Int} {Q:QV} (ha:H[a]? = some (.list (bc (x :: l)))) (h1:0≤x) (h2:x < 4294967296) (q:Q (.int ((x * 5 + (x :: l).length) % 4294967296)) H):eO hB [.ref a] H Q:=by
 refine fn rfl [some (.ref a)] rfl ?_
 have:(-18446744073709551616:Int) < x∧x < 18446744073709551616:=⟨Int.lt_of_lt_of_le (show (-18446744073709551616:Int) < 0 by decide) (by assumption),Int.lt_trans (by assumption) (show (4294967296:Int) < _ by decide)⟩
 simpa [jD,ha,bc,this.1,this.2] using q
noncomputable def cb (vals:List Int) (e0:Opd):Int:=Opd.rec (motive:=λU=>Int) (λn=>vals.getD n 0) (λk=>k) e0
noncomputable def gW (low:Int) (o:Nat) (v:Int):List Nat→Nat→Nat
 | [],_=>o
 | g :: r,i=>if (low + (i:Nat)) % 4294967296 = v then g else gW low o v r (i + 1)
private theorem tnc {low v:Int} {o g i:Nat} {r:List Nat}:gW low o v (g :: r) i = if (low + (i:Nat)) % 4294967296 = v then g else gW low o v r (i + 1):=rfl
noncomputable def nxt (vals:List Int) (e0:PEnd):Nat:=PEnd.rec (motive:=λU=>Nat) (λg=>g) (λx t o=>if cb vals x = 0 then o else t) (λx low row o=>gW low o (cb vals x) row 0) (λU=>0) e0
private theorem rN {low:Int} {o:Nat} {v:Int} {g:Nat}:∀ {row:List Nat} {i k:Nat},row[i]? = some g→(∀ j < i,(low + ((k + j:Nat):Int)) % 4294967296≠v)→(low + ((k + i:Nat):Int)) % 4294967296 = v→gW low o v row k = g
 | a :: r,0,k,e,_,h=>by
  cases e;rw [tnc,if_pos (by simpa using h)]
 | a :: r,i + 1,k,e,hn,h=>by
  rw [tnc,if_neg (by simpa using hn 0 (Nat.succ_pos _))]
  refine rN (i:=i) e (λj hj=>?_) ?_
  ·have:=hn (j + 1) (Nat.succ_lt_succ hj);rwa [show k + (j + 1) = k + 1 + j by omega] at this
  ·rwa [show k + (i + 1) = k + 1 + i by omega] at h
private theorem r8 {low:Int} {o:Nat} {v:Int}:∀ {row:List Nat} {k:Nat},(∀ j < row.length,(low + ((k + j:Nat):Int)) % 4294967296≠v)→gW low o v row k = o
 | [],_,_=>rfl
 | a :: r,k,hn=>by
  rw [tnc,if_neg (by simpa using hn 0 (Nat.succ_pos _))]
  exact r8 λj hj=>by have:=hn (j + 1) (Nat.succ_lt_succ hj);rwa [show k + (j + 1) = k + 1 + j by omega] at this
private theorem lX {vals:List Int} {n:Nat} (h:n < vals.length):itO (some (.list (bc vals))) (n:Int) = some (.int (vals.getD n 0)):=by
 refine b8 ?_
 rw [bc,List.getElem?_map,List.getD_eq_getElem?_getD,List.getElem?_eq_getElem h];rfl
inductive LNI (H:MH) (v0 u:Option MV) (va a r o:Nat) (low y:Int) (j:Nat):Loc→MH→Prop
 | mk (u3 u9:Option MV) (no:∀ i < j,(low + ((0 + i:Nat):Int)) % 4294967296≠y):LNI H v0 u va a r o low y j [v0,some (.ref va),some (.ref a),u3,some (.ref r),some (.int low),u,some (.sym 10),some (.int (o:Nat)),u9,some (.int y)] H
private theorem rR {v:MV} {va:Nat} {vals:List Int} {e:PEnd} {Q:QV} (he:IsEndT H v e) (hv:H[va]? = some (.list (bc vals))) (hl:vals.length = 4) (hx:∀ x∈e.args,okO x) (hg:∀ x,e≠.give x) (q:Q (.int (nxt vals e:Nat)) H):jm hB [v,.ref va] H Q:=by
 obtain ⟨a,m,rfl,h2,h3⟩:=he
 refine fn rfl [some (.tup [.sym e.op,.ref a,m]),some (.ref va),none,none,none,none,none,none,none,none,none] rfl ?_
 have hop:∀ x∈e.args,(∃ n,x = .reg n∧itO (some (.list (bc vals))) (n:Int) = some (.int (cb vals x)))∨∃ k,x = .num k:=λx hx'=>by
  cases x with
  | reg n=>exact .inl ⟨n,rfl,lX (by rw [hl];exact hx _ hx')⟩
  | num k=>exact .inr ⟨k,rfl⟩
 cases e with
 | jump g =>
  obtain rfl:=h3
  simpa [dT,PEnd.op,nxt] using q
 | give x=>exact absurd rfl (hg x)
 | branch x t o =>
  obtain rfl:=h3
  rcases hop x (.head _) with ⟨n,rfl,hn⟩ | ⟨k,rfl⟩
  ·simp [dT,PEnd.op,h2,PEnd.args,bN,hv,hn]
   refine aL (λh=>?_) λh=>?_
   ·have h:cb vals (.reg n) = 0:=by simpa using h
    simpa [nxt,h] using q
   ·have h:¬ cb vals (.reg n) = 0:=by simpa using h
    simpa [nxt,h] using q
  ·simp [dT,PEnd.op,h2,PEnd.args,bN]
   refine aL (λh=>?_) λh=>?_
   ·have h:k = 0:=by simpa using h
    simpa [nxt,cb,h] using q
   ·have h:¬ k = 0:=by simpa using h
    simpa [nxt,cb,h] using q
 | table x low row o =>
  obtain ⟨r,rfl,h3,h4⟩:=h3
  have lp:∀ (y:Int) (u:Option MV),y = cb vals x→∀ v0,rL (cu [aw 9,aw 3]) (aj (sIf (aM .eq (dH (bZ (ai 5) (ai 9)) (az 4294967296)) (ai 10)) (aj (bq (ai 3)) ay) ay) ay)
    [v0,some (.ref va),some (.ref a),none,some (.ref r),some (.int low),u,some (.sym 10),some (.int (o:Nat)),none,some (.int y)] (m7 (aj (bq (ai 8)) ay) (mZ Q)) (.enum r (aA row)) H:=by
   rintro y u rfl v0
   refine bb (LNI H v0 u va a r o low (cb vals x)) (.mk _ _ λi hi=>absurd hi (Nat.not_lt_zero _)) ?_ ?_ ?_
   ·rintro j _ _ ⟨⟩
    exact h3
   ·rintro j m _ _ hm ⟨u3,u9,hno⟩
    obtain ⟨m',hm',rfl⟩:=Option.map_eq_some_iff.mp (show ((aA row)[j]?).map (λv=>MV.tup [.int (j:Nat),v]) = some m from hm)
    obtain ⟨g,hg',rfl⟩:=co hm'
    simp
    refine aL (λh=>?_) λh=>?_
    ·have h:(low + (j:Int)) % 4294967296 = cb vals x:=by simpa using h
     have e:nxt vals (.table x low row o) = g:=rN hg' hno (by simpa using h)
     rw [e] at q
     simpa using q
    ·have h:¬ (low + (j:Int)) % 4294967296 = cb vals x:=by simpa using h
     simp
     refine .mk _ _ λi hi=>?_
     rcases Nat.lt_succ_iff_lt_or_eq.mp hi with hi | rfl
     ·exact hno i hi
     ·rw [Nat.zero_add];exact h
   ·rintro _ _ ⟨u3,u9,hno⟩
    have e:nxt vals (.table x low row o) = o:=r8 λj hj=>hno j (by simpa [It.size] using hj)
    rw [e] at q
    simpa using q
  rcases hop x (.head _) with ⟨n,rfl,hn⟩ | ⟨k,rfl⟩
  ·simp [dT,PEnd.op,h2,PEnd.args,bN,hv,hn,h3]
   exact lp _ _ rfl _
  ·simp [dT,PEnd.op,h2,PEnd.args,bN,h3]
   exact lp _ _ rfl _
end
end Mine
end
section
namespace Mine
private theorem vn {α:Type} {p:α→Bool} {l:List α}:(l.filter p).getLast? = l.reverse.find? p:=by
 rw [List.getLast?_eq_head?_reverse,← List.filter_reverse,List.head?_filter]
private theorem pE {l:List Nat}:aA l = (bK l).map .int:=by rw [aA,bK,List.map_map];rfl
set_option tactic.hygienic true in
private theorem xZ {rows:List Row} {e:PEnd} {x:Opd} (ha:e.args = [x]) (hg:∀ y,e≠.give y) (hs:stl rows e = none):(∃ a∈e.fol,∃ b∈e.fol,a≠b)∧kv rows x = none:=by
 cases e with
 | jump g=>cases ha
 | give y=>exact absurd rfl (hg y)
 | branch y t o =>
  cases ha
  rw [sH] at hs
  split at hs
  ·cases hs
  ·rename_i hne
   refine ⟨⟨t,.head _,o,.tail _ (.head _),hne⟩,?_⟩
   cases hk:kv rows x with
   | none=>rfl
   | some v=>rw [hk] at hs;cases hs
 | table y low row o =>
  cases ha
  rw [sT] at hs
  split at hs
  ·cases hs
  ·rename_i hne
   refine ⟨?_,?_⟩
   ·refine Classical.byContradiction λhno=>hne ?_
    rw [List.all_eq_true]
    intro g hg'
    rw [beq_iff_eq]
    exact Classical.byContradiction λh=>hno ⟨g,List.mem_append_left _ hg',o,List.mem_append_right _ (.head _),h⟩
   ·cases hk:kv rows x with
    | none=>rfl
    | some v=>rw [hk] at hs;cases hs
inductive IsPair (H:MH) (v:MV) (r:Row):Prop
 | mk (a:Nat) (e:v = .tup [.sym r.op,.ref a])
section
variable {hB:Heap} {H:MH}
inductive ISI (H:MH) (n:Nat) (rows:List Row) (j:Nat):List MV→Loc→MH→Prop
 | mk (u0 u1 u2 u3 u4:Option MV) (acc:List MV) (ha:All2 (IsPair H) acc ((rows.take j).filter λr=>r.dst == (n:Int))):ISI H n rows j acc [u0,u1,u2,u3,u4,some (.int (n:Nat))] H
private theorem iH {vr ve:MV} {rows:List Row} {e:PEnd} {x:Opd} {Q:QV} (hr:IsRows H vr rows) (he:IsEndT H ve e) (hl:rows.length≤1000) (hx:e.args = [x]) (hg:∀ y,e≠.give y) (hs:stl rows e = none) (q:∀ X,Q (.bool false) (H++X)):cW hB [vr,ve] H Q:=by
 obtain ⟨⟨a,haf,b,hbf,hab⟩,hkv⟩:=xZ hx hg hs
 have he0:=he
 obtain ⟨ra,rvs,rfl,hr1,hr2⟩:=hr
 obtain ⟨ea,m,rfl,h2,h3⟩:=he
 refine fn rfl [some (.ref ra),some (.tup [.sym e.op,.ref ea,m]),none,none,none,none,none,none] rfl ?_
 have hne:bK e.fol≠[]:=λh=>by
  rw [bK,List.map_eq_nil_iff] at h
  rw [h] at haf;cases haf
 simp [fV]
 refine gx he0 λX=>?_
 simp
 have hgl:(H++(X++[.list (aA e.fol)]))[H.length + X.length]? = some (.list ((bK e.fol).map .int)):=by
  rw [← pE,← List.append_assoc,← List.length_append];exact cO
 refine pO hgl hne λlo hlo hlo'=>?_
 simp
 refine pO hgl hne λhi hhi hhi'=>?_
 have hlh:¬ lo = hi:=λeq=>hab (by
  have h1:lo≤(a:Int):=hlo' a (by rw [fW];exact haf)
  have h2:(a:Int)≤hi:=hhi' a (by rw [fW];exact haf)
  have h3:lo≤(b:Int):=hlo' b (by rw [fW];exact hbf)
  have h4:(b:Int)≤hi:=hhi' b (by rw [fW];exact hbf)
  exact Int.ofNat.inj (Int.le_antisymm (Int.le_trans h2 (eq ▸ h3)) (Int.le_trans h4 (eq ▸ h1))))
 have hbq:(lo == hi) = false:=beq_eq_false_iff_ne.mpr hlh
 cases x with
 | num k=>simp [kv] at hkv
 | reg n =>
  rw [hx] at h2
  simp [hbq,app h2,bN,app hr1]
  refine bX (ISI (H++(X++[.list (aA e.fol)])) n rows) (.mk _ _ _ _ _ _ All2.nil) ?_ ?_ ?_
  ·rintro j acc _ _ ⟨_,_,_,_,_,_,ha⟩
   refine ⟨app hr1 _,?_⟩
   rw [ha.1]
   have h1:=List.length_filter_le (λr:Row=>r.dst == (n:Int)) (rows.take j)
   have h2:(rows.take j).length≤rows.length:=List.length_take_le' _ _
   exact Nat.le_trans h1 (Nat.le_trans h2 (Nat.le_trans (by assumption) (by decide)))
  ·rintro j m acc _ _ hm ⟨u0,u1,u2,u3,u4,_,ha⟩
   obtain ⟨r,er,ar,rfl,har⟩:=hr2.get (show rvs[j]? = some m from hm)
   have et:rows.take (j + 1) = rows.take j++[r]:=by rw [List.take_add_one,er];rfl
   simp
   refine aL (λhd=>?_) λhd=>?_
   ·simp
    refine .mk _ _ _ _ _ _ ?_
    simp [et,List.filter_append,hd]
    exact ha.append (All2.one ⟨ar,rfl⟩)
   ·simp
    refine .mk _ _ _ _ _ _ ?_
    simp [et,List.filter_append,hd]
    exact ha
  ·rintro acc _ _ ⟨_,_,_,_,_,_,ha⟩
   rw [cA (show (It.list ra rvs).size = rows.length from hr2.1)] at ha
   have hlast:=vn (p:=λr:Row=>r.dst == (n:Int)) (l:=rows)
   have hk2:kv rows (.reg n) = match rows.reverse.find? (λr=>r.dst == (n:Int)) with | some r=>r.kval | none=>none:=rfl
   rw [hkv] at hk2
   generalize hF:rows.filter (λr=>r.dst == (n:Int)) = F at ha hlast
   have hcmp:cp (H++(X++[MObj.list (aA e.fol),.list acc,.list []])) .eq (.ref (H.length + (X.length + 1))) (.ref (H.length + (X.length + 2))) = some acc.isEmpty:=by
    refine iy ?_ ?_ (by omega)
    ·rw [← List.append_assoc,← Nat.add_assoc,← List.length_append];exact hG
    ·rw [← List.append_assoc,← Nat.add_assoc,← List.length_append];exact uZ
   rcases List.eq_nil_or_concat F with rfl | ⟨F',r,hFr⟩
   ·obtain rfl:acc = []:=List.eq_nil_of_length_eq_zero ha.1
    simp [hcmp]
    exact q _
   ·rw [List.concat_eq_append] at hFr
    subst hFr
    rw [List.getLast?_append] at hlast
    simp at hlast
    rw [← hlast] at hk2
    obtain ⟨acc',va,rfl⟩:∃ acc' va,acc = acc'++[va]:=by
     rcases List.eq_nil_or_concat acc with rfl | ⟨a',va,h⟩
     ·have:=ha.1;simp at this
     ·exact ⟨a',va,by rw [h,List.concat_eq_append]⟩
    have hll:acc'.length = F'.length:=by have:=ha.1;simpa using this
    obtain ⟨aa,rfl⟩:=ha.2 acc'.length va r (by simp) (by rw [hll];simp)
    have hie:(acc'++[MV.tup [.sym r.op,.ref aa]]).isEmpty = false:=by cases acc' <;> rfl
    simp [hcmp,hie]
    cases r with
    | const=>cases hk2
    | copy=>cases hk2
    | _=>simpa [Row.op] using q _
end
end Mine
end
section
namespace Mine
structure Straight (c:aB):Prop where
 reach:∀ i < c.length,Reach c i
 settled:∀ p∈c,stl p.rows p.en = none
 join:∀ v p g,c[v]? = some p→p.en = .jump g→g = 0∨g = v∨((List.range c.length).flatMap (be c)).count g≠1
 plain:∀ p∈c,∀ g∈p.en.fol,pj c g = none
private theorem vo {l:List Nat} {i n:Nat}:(aA l).set i (.int (n:Nat)) = aA (l.set i n):=by rw [aA,aA,List.map_set]
structure BS (c:aB) (vis w r nm P:List Nat):Prop where
 perm:(vis++w).Perm r
 nd:r.Nodup
 reach:∀ x∈r,Reach c x
 zero:0∈r
 len:nm.length = c.length
 cnt:∀ g < c.length,nm[g]? = some (P.count g)
 sub:∀ x∈P,x∈r
private theorem BS.lenle {c:aB} {vis w r nm P:List Nat} (h:BS c vis w r nm P) (k:FolOk c):vis.length + w.length≤c.length∧r.length≤c.length:=by
 have h1:=List.Nodup.length_le_of_subset h.nd (l₂:=List.range c.length) λx hx=>List.mem_range.mpr ((h.reach x hx).lt k)
 have h2:=h.perm.length_eq
 rw [List.length_append] at h2
 rw [List.length_range] at h1
 omega
private theorem BS.named {c:aB} {vis w r nm P:List Nat} {g:Nat} (h:BS c vis w r nm P) (hg:g < c.length) (hr:g∈r):BS c vis w r (nm.set g (P.count g + 1)) (P++[g]):=by
 refine ⟨h.perm,h.nd,h.reach,h.zero,by rw [List.length_set];exact h.len,λx hx=>?_,λx hx=>?_⟩
 ·rw [List.count_append,List.count_singleton]
  by_cases e:g = x
  ·subst e;rw [List.getElem?_set_self (by rw [h.len];exact hg)];simp
  ·rw [List.getElem?_set_ne e,h.cnt x hx,beq_eq_false_iff_ne.mpr e];simp
 ·rcases List.mem_append.mp hx with hx | hx
  ·exact h.sub x hx
  ·rw [List.mem_singleton.mp hx];exact hr
private theorem BS.push {c:aB} {vis w r nm P:List Nat} {g:Nat} (h:BS c vis w r nm P) (hg:Reach c g) (hr:g∉r):BS c vis (w++[g]) (r++[g]) nm P:=by
 refine ⟨by rw [← List.append_assoc];exact h.perm.append_right _,?_,λx hx=>?_,List.mem_append_left _ h.zero,h.len,h.cnt,λx hx=>List.mem_append_left _ (h.sub x hx)⟩
 ·rw [List.nodup_append]
  exact ⟨h.nd,by simp,λa ha b hb e=>hr (by simp at hb;subst hb;subst e;exact ha)⟩
 ·rcases List.mem_append.mp hx with hx | hx
  ·exact h.reach x hx
  ·rw [List.mem_singleton.mp hx];exact hg
private theorem BS.pop {c:aB} {vis w r nm P:List Nat} {x:Nat} (h:BS c vis (w++[x]) r nm P):BS c (vis++[x]) w r nm P:=by
 refine ⟨.trans ?_ h.perm,h.nd,h.reach,h.zero,h.len,h.cnt,h.sub⟩
 rw [List.append_assoc]
 exact List.Perm.append_left _ List.perm_append_comm
private theorem vH {H:MH} {f:Nat} (v:MV) (x:Int) (h:v = .int x):deep (f + 1) H v = some (.int x):=by subst h;rfl
private theorem ya (x y:Int):eqD (.int x) (.int y) = true↔x = y:=by simp [uX]
private theorem xd {H:MH} {a b:Nat} {l:List Int} (ha:H[a]? = some (.list (l.map .int))) (hb:H[b]? = some (.list (l.map .int))):cp H .ne (.ref a) (.ref b) = some false:=by
 obtain ⟨c,h1,h2⟩:=kJ ha hb dC dC vH ya
 show (cp H .eq (.ref a) (.ref b)).map _ = _
 rw [h1,h2.mpr rfl];rfl
private theorem re {r:List Nat} {n:Nat} {ns:List Int} (h:r.Perm (List.range n)) (hs:jT (bK r) ns):ns = cS 0 n 1:=by
 have e:cS 0 n 1 = bK (List.range n):=by
  unfold cS bK
  exact List.map_congr_left λx U=>by simp
 rw [e]
 refine List.Perm.eq_of_pairwise (le:=(·≤·)) (λa b U U h1 h2=>Int.le_antisymm h1 h2) hs.2 ?_ (hs.1.trans (h.map _))
 rw [bK,List.pairwise_map]
 exact List.pairwise_lt_range.imp λh=>by omega
private theorem sg {g:Nat}:∀ {r:List Nat},fx (.int (g:Nat)) (aA r) = some (decide (g∈r))
 | []=>by simp [aA]
 | a :: l=>by
  have ih:=sg (g:=g) (r:=l)
  show fx _ (.int (a:Nat) :: aA l) = _
  rw [Aq,ih,xE,uF]
  congr 1
  rw [Bool.eq_iff_iff,Bool.or_eq_true,beq_iff_eq,cast_eq,decide_eq_true_eq,decide_eq_true_eq,List.mem_cons]
  exact or_congr eq_comm Iff.rfl
inductive BI (H:MH) (c:aB) (pa na ra wa:Nat):Nat→Loc→MH→Prop
 | mk (n:Nat) (vis w r nm:List Nat) (u1 u2 u3 u7:Option MV) (H':MH) (o:Own H H' [(na,.list (aA nm)),(wa,.list (aA w)),(ra,.list (aA r))]) (s:BS c vis w r nm (vis.flatMap (be c))) (hn:n + vis.length = c.length) :
   BI H c pa na ra wa n [some (.ref pa),u1,u2,u3,some (.int (c.length:Nat)),some (.ref na),some (.ref ra),u7,some (.ref wa)] H'
section
variable {hB:Heap} {H:MH}
inductive BJ (H:MH) (c:aB) (pa na ra wa fa:Nat) (vis v0:List Nat) (p:PBlock) (u1 u2 u7:Option MV) (j:Nat):Loc→MH→Prop
 | mk (w r nm:List Nat) (u3:Option MV) (H2:MH) (o:Own H H2 [(na,.list (aA nm)),(wa,.list (aA w)),(ra,.list (aA r))]) (h4:H2[fa]? = some (.list (aA p.en.fol))) (s:BS c vis w r nm (v0.flatMap (be c)++p.en.fol.take j)) :
   BJ H c pa na ra wa fa vis v0 p u1 u2 u7 j [some (.ref pa),u1,u2,u3,some (.int (c.length:Nat)),some (.ref na),some (.ref ra),u7,some (.ref wa)] H2
private theorem vX {pa na ra wa n:Nat} {pvs:List MV} {c:aB} {L:Loc} {H':MH} {Q:QS} (hp1:H[pa]? = some (.list pvs)) (hp2:All2 (IsPl H) pvs c) (k:FolOk c) (hi:BI H c pa na ra wa n L H')
  (q:∀ vis r nm u1 u2 u3 u7 H',Own H H' [(na,.list (aA nm)),(ra,.list (aA r))]→BS c vis [] r nm (vis.flatMap (be c))→Q .next [some (.ref pa),u1,u2,u3,some (.int (c.length:Nat)),some (.ref na),some (.ref ra),u7,some (.ref wa)] H') :
  eX (ai 8) L H' (kWh (aj (cv (bD (aI (ae (aP (aP (ai 0) (iq .list (ai 8) rO)) (az 1)) am) (cD hB))) (aw 3) (aj (au (bZ (aP (ai 5) (ai 3)) (az 1)) (eS (ai 5) (ai 3))) (aj (sIf (aM .notIn (ai 3) (ai 6)) (aj (bC (bW .list (ai 6) (ae (ai 3) am) b7)) (aj (bC (bW .list (ai 8) (ae (ai 3) am) b7)) ay)) ay) ay))) ay) (BI H c pa na ra wa) n L Q):=by
 obtain ⟨_,vis,w,r,nm,u1,u2,u3,u7,_,o,s,hn⟩:=hi
 have hwa:=o.has (wa,_) (.tail _ (.head _))
 have hlen:=s.lenle k
 have hcl:=k.len
 dsimp only at hwa
 simp [hwa]
 refine aL (λhw=>?_) λhw=>?_
 ·obtain ⟨w,x,rfl⟩:∃ w' x,w = w'++[x]:=by
   rcases List.eq_nil_or_concat w with rfl | ⟨w',x,rfl⟩
   ·cases hw
   ·exact ⟨w',x,by simp⟩
  have hxr:x∈r:=s.perm.subset (by simp)
  have hxl:=(s.reach x hxr).lt k
  obtain ⟨p,ep,fp,mp⟩:=k.at_ hxl
  obtain ⟨v',ev,vr,ve,rfl,e1,e2⟩:=hp2.get' ep
  have hit:itO (some (.list pvs)) (x:Int) = some (.tup [vr,ve]):=b8 ev
  rw [List.length_append,List.length_singleton] at hlen
  rw [gk] at hwa
  have o1:=Own.set (pre:=[(na,.list (aA nm))]) o (.list (aA w))
  have s1:=s.pop
  have hpa:=o1.pre _ _ hp1
  have e2':=e2.kp o1.kp
  simp [o.pre _ _ hp1,hwa]
  refine mT hwa (by rw [iz];omega) ?_
  generalize H'.set wa (.list (aA w)) = H1 at *
  simp [hpa,hit]
  refine gx e2' λX=>?_
  have o2:=o1.app X
  have o3:=o1.app (X++[.list (aA p.en.fol)])
  have hfl:(H1++(X++[MObj.list (aA p.en.fol)]))[H1.length + X.length]? = some (.list (aA p.en.fol)):=by
   rw [← List.append_assoc,← List.length_append];exact cO
  simp
  refine bb (BJ H c pa na ra wa (H1.length + X.length) (vis++[x]) vis p u1 u2 u7) (.mk w r nm _ _ o3 hfl (by simpa using s1)) ?_ ?_ ?_
  ·rintro j _ H2 ⟨_,_,_,_,_,_,h4⟩
   exact h4
  ·rintro j m _ H2 hm ⟨w,r,nm,u3,_,o4,h4,s4⟩
   obtain ⟨g,hg,rfl⟩:=co (l:=p.en.fol) (j:=j) hm
   have hgf:=List.mem_of_getElem? hg
   have hgl:=k.lt p mp g hgf
   have hgr:Reach c g:=(s.reach x hxr).next (by rw [fp];exact hgf)
   have hna:=o4.has (na,_) (.head _)
   have hgn:=s4.cnt g hgl
   have hin:itO (some (.list (aA nm))) (g:Int) = some (.int (((vis.flatMap (be c)++p.en.fol.take j).count g:Nat):Int)):=b8 (by rw [aA,List.getElem?_map,hgn];rfl)
   have hlen4:=s4.lenle k
   have hnl:=s4.len
   have e1:∀ n:Nat,((n:Int) + 1) = ((n + 1:Nat):Int):=λU=>rfl
   have o5:=Own.set (pre:=[]) o4 (.list (aA (nm.set g ((vis.flatMap (be c)++p.en.fol.take j).count g + 1))))
   have h5ra:=o5.has (ra,_) (.tail _ (.tail _ (.head _)))
   have et:vis.flatMap (be c)++p.en.fol.take (j + 1) = (vis.flatMap (be c)++p.en.fol.take j)++[g]:=by
    rw [List.take_add_one,hg];simp
   have hfa:(na = H1.length + X.length→False)∧(ra = H1.length + X.length→False)∧(wa = H1.length + X.length→False):=by
    have t1:=bv (o1.has (na,_) (.head _))
    have t2:=bv (o1.has (wa,_) (.tail _ (.head _)))
    have t3:=bv (o1.has (ra,_) (.tail _ (.tail _ (.head _))))
    simp only at t1 t2 t3
    omega
   obtain ⟨na',ra',wa'⟩:=hfa
   generalize hPP:vis.flatMap (be c)++p.en.fol.take j = P at *
   dsimp only at hna h5ra
   have hset:(aA nm).set g (.int ((P.count g:Int) + 1)) = aA (nm.set g (P.count g + 1)):=vo
   simp [hna,hin,hset]
   refine ⟨by exact ⟨Nat.lt_of_lt_of_le ‹_› (Nat.le_of_eq (Eq.symm ‹_›)),Nat.le_trans (Nat.le_of_eq ‹_›) (Nat.le_trans ‹_› (by decide))⟩,?_⟩
   have h5f:=aJ (p:=.list (aA (nm.set g (P.count g + 1)))) h4 na'
   have hany:=sg (g:=g) (r:=r)
   simp [h5ra,hany]
   refine aL (λhm=>?_) λhm=>?_
   ·have hm:g∉r:=by simpa using hm
    have o6:=Own.set (pre:=[(na,.list (aA (nm.set g (P.count g + 1)))),(wa,.list (aA w))]) o5 (.list (aA r++[.int (g:Nat)]))
    have h6wa:=o6.has (wa,_) (.tail _ (.head _))
    have o7:=Own.set (pre:=[(na,.list (aA (nm.set g (P.count g + 1))))]) o6 (.list (aA w++[.int (g:Nat)]))
    dsimp only at h6wa
    simp [h5ra,h6wa]
    refine ⟨by omega,by omega,.mk (w++[g]) (r++[g]) _ _ _ (by simpa using o7) (aJ (aJ h5f ra') wa') (by rw [et];exact (s4.push hgr hm).named hgl (by simp))⟩
   ·have hm:g∈r:=by simpa using hm
    simp
    exact .mk w r _ _ _ o5 h5f (by rw [et];exact s4.named hgl hm)
  ·rintro _ H2 ⟨w,r,nm,u3,_,o4,h4,s4⟩
   rw [cA (show (It.list (H1.length + X.length) (aA p.en.fol)).size = p.en.fol.length by simp [It.size])] at s4
   simp
   have hl4:=s4.lenle k
   rw [List.length_append,List.length_singleton] at hl4
   refine ⟨n - 1,zy (by assumption) (Nat.lt_of_lt_of_le (Nat.lt_succ_self _) (Nat.le_trans (Nat.le_add_right _ _) hl4.1)),.mk _ (vis++[x]) w r nm _ _ _ _ _ o4 (by rw [List.flatMap_append];simpa [fp] using s4) (by rw [List.length_append,List.length_singleton];exact wEq (by assumption) (Nat.lt_of_lt_of_le (Nat.lt_succ_self _) (Nat.le_trans (Nat.le_add_right _ _) hl4.1)))⟩
 ·obtain rfl:w = []:=by cases w with
   | nil=>rfl
   | cons a b=>cases hw
  simp
  exact q vis r nm _ _ _ _ _ (o.sub (by simp)) s
private theorem qX {c:aB} {vis r nm:List Nat} (k:FolOk c) (hr:∀ i < c.length,Reach c i) (s:BS c vis [] r nm (vis.flatMap (be c))):r.Perm (List.range c.length)∧∀ g < c.length,nm[g]? = some (((List.range c.length).flatMap (be c)).count g):=by
 have hv:vis.Perm r:=by have:=s.perm;rwa [List.append_nil] at this
 have hall:∀ x,Reach c x→x∈r:=by
  intro x hx
  induction hx with
  | zero=>exact s.zero
  | step _ e hg ih =>
   refine s.sub _ (List.mem_flatMap.mpr ⟨_,hv.mem_iff.mpr ih,?_⟩)
   rw [dB e];exact hg
 have hp:r.Perm (List.range c.length):=by
  refine (List.perm_ext_iff_of_nodup s.nd List.nodup_range).mpr λx=>?_
  rw [List.mem_range]
  exact ⟨λh=>(s.reach x h).lt k,λh=>hall x (hr x h)⟩
 refine ⟨hp,λg hg=>?_⟩
 rw [s.cnt g hg,((hv.trans hp).flatMap_right _).count_eq]
private theorem vf {v:MV} {e:PEnd} {Q:QV} (he:IsEndT H v e) (q:∀ H' a,Own H H' [(a,.list (aA e.fol))]→Q (.ref a) H'):cD hB [v] H Q :=
 gx he λX=>by
  have:=q _ _ ((Own.start.app X).new (.list (aA e.fol)))
  simpa using this
noncomputable def km (hB:Heap):ST:=cv (bD (aI (ae (ai 2) am) (cD hB))) (aw 3) (aj (sIf (cz (aM .eq (aP (aP (ai 0) (ai 3)) (az 0)) (aW am)) (cz (aM .eq (aP (aP (aP (ai 0) (ai 3)) (az 1)) (az 0)) (aQ 8)) (cz (aM .ne (aP (aP (aP (ai 0) (ai 3)) (az 1)) (az 2)) (ai 3)) bG))) (aj (bq (b6 false)) ay) ay) ay)
private theorem ma {pa:Nat} {pvs:List MV} {c:aB} {p:PBlock} {ve:MV} {u1 u3 u4 u5 u6 u7 u8:Option MV} {K:QS} (hp1:H[pa]? = some (.list pvs)) (hp2:All2 (IsPl H) pvs c) (k:FolOk c) (st:Straight c) (mp:p∈c) (hen:IsEndT H ve p.en)
  (hK:∀ Y u3,K .next [some (.ref pa),u1,some ve,u3,u4,u5,u6,u7,u8] (H++Y)):km hB [some (.ref pa),u1,some ve,u3,u4,u5,u6,u7,u8] H K:=by
 unfold km
 simp
 refine vf hen λH6 ga0 o6=>?_
 have hp6:=o6.pre _ _ hp1
 have hpl6:=hp2.mono λU U=>IsPl.kp o6.kp
 have hfl:=o6.has (ga0,_) (.head _)
 have hK6:∀ Z u3,K .next [some (.ref pa),u1,some ve,u3,u4,u5,u6,u7,u8] (H6++Z):=by
  obtain ⟨W,rfl⟩:=o6.eq
  intro Z u3
  rw [List.append_assoc];exact hK _ _
 dsimp only at hfl
 simp [hfl]
 refine bb (λU=>LXI H6 λU u3=>[some (.ref pa),u1,some ve,u3,u4,u5,u6,u7,u8]) (.nil _) ?_ ?_ ?_
 ·rintro i _ _ ⟨⟩
  exact app hfl _
 ·rintro i m _ _ hm ⟨Z,u3⟩
  obtain ⟨g,hg,rfl⟩:=co (l:=p.en.fol) (j:=i) hm
  have hgf:=List.mem_of_getElem? hg
  have hgl:=k.lt p mp g hgf
  obtain ⟨pg,epg,fpg,mpg⟩:=k.at_ hgl
  obtain ⟨vg,evg,gr,ge,rfl,⟨ga,gvs,rfl,g1,g2⟩,g3,g4,rfl,g5,g6⟩:=hpl6.get' epg
  have hit:itO (some (.list pvs)) (g:Int) = some (.tup [.ref ga,.tup [.sym pg.en.op,.ref g3,g4]]):=b8 evg
  have hpj:=st.plain p mp g hgf
  unfold pj at hpj
  rw [epg] at hpj
  dsimp only at hpj
  have hlt:=bv (app g1 Z)
  have e0:=iy (app (app g1 Z) [.list []]) (cO (p:=.list []) (X:=[])) (Nat.ne_of_lt hlt)
  simp at e0
  simp [app hp6,hit,e0]
  refine aL (λhe=>?_) λhe=>?_
  ·obtain rfl:gvs = []:=by cases gvs with
    | nil=>rfl
    | cons a b=>cases he
   have hrows:pg.rows = []:=List.eq_nil_of_length_eq_zero g2.1.symm
   simp [app hp6,hit]
   refine aL (λho=>?_) λho=>?_
   ·obtain ⟨g',eg'⟩:∃ g',pg.en = .jump g':=by
     generalize pg.en = E at ho
     cases E with
     | jump g'=>exact ⟨g',rfl⟩
     | _=>cases ho
    have hpn:pg.plain = some g':=by unfold PBlock.plain;rw [eg'];simp [hrows]
    rw [hpn] at hpj
    have hgg:g' = g:=by
     refine Classical.byContradiction λh=>?_
     dsimp only at hpj
     rw [if_neg h] at hpj;cases hpj
    rw [eg'] at g6
    obtain rfl:=g6
    simp [app hp6,hit,hgg]
    exact .mk _ _
   ·simp
    exact .mk _ _
  ·simp
   exact .mk _ _
 ·rintro _ _ ⟨Z,u3⟩
  exact hK6 _ _
inductive SEI (H:MH) (pa naa:Nat) (u4 u6 u8:Option MV):Loc→MH→Prop
 | mk (X:MH) (u1 u2 u3 u7:Option MV):SEI H pa naa u4 u6 u8 [some (.ref pa),u1,u2,u3,u4,some (.ref naa),u6,u7,u8] (H++X)
private theorem SEI.nil {H:MH} {pa naa:Nat} {u1 u2 u3 u4 u6 u7 u8:Option MV}:SEI H pa naa u4 u6 u8 [some (.ref pa),u1,u2,u3,u4,some (.ref naa),u6,u7,u8] H:=by
 have:=SEI.mk (H:=H) (pa:=pa) (naa:=naa) (u4:=u4) (u6:=u6) (u8:=u8) [] u1 u2 u3 u7
 rwa [List.append_nil] at this
private theorem oa {pa naa:Nat} {pvs:List MV} {nm:List Nat} {c:aB} {u1 u2 u3 u4 u6 u7 u8:Option MV} {K:QS} (hp1:H[pa]? = some (.list pvs)) (hp2:All2 (IsPl H) pvs c) (hna:H[naa]? = some (.list (aA nm))) (k:FolOk c) (hl:∀ p∈c,p.rows.length≤1000) (st:Straight c)
  (hcnt:∀ g < c.length,nm[g]? = some (((List.range c.length).flatMap (be c)).count g)) (hK:∀ Y u1 u2 u3 u7,K .next [some (.ref pa),u1,u2,u3,u4,some (.ref naa),u6,u7,u8] (H++Y)) :
  rL (cu [aw 1,cu [aw 7,aw 2]]) (aj (sIf (cz (aM .in_ (aP (ai 2) (az 0)) (aY (ae (aQ 9) (ae (aQ 10) am)))) (cz (eX (aI (ae (ai 7) (ae (ai 2) am)) (cW hB))) bG)) (aj (bq (b6 false)) ay) ay)
   (aj (sIf (cz (aM .eq (aP (ai 2) (az 0)) (aQ 8)) (cz (aM .notIn (aP (ai 2) (az 2)) (aY (ae (az 0) (ae (ai 1) am)))) (cz (aM .eq (aP (ai 5) (aP (ai 2) (az 2))) (az 1)) bG))) (aj (bq (b6 false)) ay) ay) (aj (km hB) ay)))
   [some (.ref pa),u1,u2,u3,u4,some (.ref naa),u6,u7,u8] K (.enum pa pvs) H:=by
 refine bb (λU=>SEI H pa naa u4 u6 u8) .nil ?_ ?_ ?_
 ·rintro j _ _ ⟨⟩
  exact app hp1 _
 ·rintro j m _ _ hm ⟨X,u1,u2,u3,u7⟩
  obtain ⟨m',hm',rfl⟩:=Option.map_eq_some_iff.mp (show (pvs[j]?).map (λv=>MV.tup [.int (j:Nat),v]) = some m from hm)
  obtain ⟨p,ep,vr,ve,rfl,hrw,hen⟩:=hp2.get hm'
  have mp:=List.mem_of_getElem? ep
  have hset:=st.settled p mp
  have hen':=hen.kp (Kp.app (X:=X))
  have hpX:=hp2.mono λU U=>IsPl.kp (Kp.app (X:=X))
  obtain ⟨ea,em,rfl,he1,he2⟩:=hen
  have go:∀ X u3 K',(∀ Y u3,K' .next [some (.ref pa),some (.int (j:Nat)),some (.tup [.sym p.en.op,.ref ea,em]),u3,u4,some (.ref naa),u6,some vr,u8] (H++Y))→km hB [some (.ref pa),some (.int (j:Nat)),some (.tup [.sym p.en.op,.ref ea,em]),u3,u4,some (.ref naa),u6,some vr,u8] (H++X) K' :=
   λX u3 K' hK'=>ma (app hp1 X) (hp2.mono λU U=>IsPl.kp Kp.app) k st mp ⟨ea,em,rfl,app he1 X,he2.kp .app⟩ λY u3=>by rw [List.append_assoc];exact hK' _ _
  obtain ⟨rows,E⟩:=p
  cases E with
  | jump g =>
   obtain rfl:=he2
   have hj:=st.join j _ g ep rfl
   have hgl:=k.lt _ mp g (.head _)
   have hnm:=hcnt g hgl
   have hin:itO (some (.list (aA nm))) (g:Int) = some (.int ((((List.range c.length).flatMap (be c)).count g:Nat):Int)):=b8 (by rw [aA,List.getElem?_map,hnm];rfl)
   generalize ((List.range c.length).flatMap (be c)).count g = cg at *
   simp only [PEnd.op]
   simp
   refine aL (λhc=>?_) λhc=>?_
   ·have hcg:¬ cg = 1:=by
     rcases hj with h | h | h
     ·subst h;simp at hc
     ·subst h;simp at hc
     ·exact h
    have hcb:((cg:Int) == 1) = false:=by
     rw [beq_eq_false_iff_ne];omega
    simp [app hna,hin,hcb]
    refine go _ _ _ λY u3=>?_
    simp
    exact .mk _ _ _ _ _
   ·simp
    refine go _ _ _ λY u3=>?_
    simp
    exact .mk _ _ _ _ _
  | give x =>
   simp only [PEnd.op]
   simp
   refine go _ _ _ λY u3=>?_
   simp
   exact .mk _ _ _ _ _
  | branch x t o =>
   have hen2:IsEndT (H++X) (.tup [.sym 9,.ref ea,em]) (.branch x t o):=hen'
   have go:∀ X u3 K',(∀ Y u3,K' .next [some (.ref pa),some (.int (j:Nat)),some (.tup [.sym 9,.ref ea,em]),u3,u4,some (.ref naa),u6,some vr,u8] (H++Y))→km hB [some (.ref pa),some (.int (j:Nat)),some (.tup [.sym 9,.ref ea,em]),u3,u4,some (.ref naa),u6,some vr,u8] (H++X) K':=go
   simp only [PEnd.op]
   simp
   refine iH (hrw.kp .app) hen2 (hl _ mp) (x:=x) rfl (λy e=>by cases e) hset λY=>?_
   simp
   refine go _ _ _ λY u3=>?_
   simp
   exact .mk _ _ _ _ _
  | table x low row o =>
   have hen2:IsEndT (H++X) (.tup [.sym 10,.ref ea,em]) (.table x low row o):=hen'
   have go:∀ X u3 K',(∀ Y u3,K' .next [some (.ref pa),some (.int (j:Nat)),some (.tup [.sym 10,.ref ea,em]),u3,u4,some (.ref naa),u6,some vr,u8] (H++Y))→km hB [some (.ref pa),some (.int (j:Nat)),some (.tup [.sym 10,.ref ea,em]),u3,u4,some (.ref naa),u6,some vr,u8] (H++X) K':=go
   simp only [PEnd.op]
   simp
   refine iH (hrw.kp .app) hen2 (hl _ mp) (x:=x) rfl (λy e=>by cases e) hset λY=>?_
   simp
   refine go _ _ _ λY u3=>?_
   simp
   exact .mk _ _ _ _ _
 ·rintro _ _ ⟨X,u1,u2,u3,u7⟩
  exact hK _ _ _ _ _
private theorem mh {v:MV} {c:aB} {Q:QV} (hp:IsPlaced H v c) (k:FolOk c) (hl:∀ p∈c,p.rows.length≤1000) (st:Straight c) (q:∀ X,Q (.bool true) (H++X)):dM hB [v] H Q:=by
 obtain ⟨pa,pvs,rfl,hp1,hp2⟩:=hp
 have hcl:=k.len
 have hlen:pvs.length = c.length:=hp2.1
 refine fn rfl [some (.ref pa),none,none,none,none,none,none,none,none] rfl ?_
 simp [fu,hp1]
 refine bX (CI H (λj=>aA (List.replicate j 0)) c.length λu=>[u]) (.mk _ (Nat.zero_le _)) ?_ ?_ ?_
 ·rintro j _ _ _ ⟨_,hj⟩
  exact ⟨hp1,by rw [iz,List.length_replicate];exact Nat.le_trans ‹_› (Nat.le_trans ‹_› (by decide))⟩
 ·rintro j m _ _ _ hm ⟨u,hj⟩
  have:j < pvs.length:=(List.getElem?_eq_some_iff.mp (show pvs[j]? = some m from hm)).1
  simp
  have e:aA (List.replicate j 0)++[.int 0] = aA (List.replicate (j + 1) 0):=by rw [List.replicate_succ',gk];rfl
  rw [e]
  exact .mk _ (by exact Nat.le_trans ‹_› (Nat.le_of_eq ‹_›))
 ·rintro _ _ _ ⟨u,_⟩
  rw [show (It.list pa pvs).size = c.length from hlen]
  simp
  have o:=(((Own.start (H:=H)).new (.list (aA (List.replicate c.length 0)))).new (.list [.int 0])).new (.list [.int 0])
  have B0:BI H c pa H.length (H.length + 2) (H.length + 1) c.length [some (.ref pa),none,none,none,some (.int (c.length:Nat)),some (.ref H.length),some (.ref (H.length + 2)),none,some (.ref (H.length + 1))] (H++[.list (aA (List.replicate c.length 0)),.list [.int 0],.list [.int 0]]):=by
   refine .mk _ [] [0] [0] (List.replicate c.length 0) _ _ _ _ _ ?_ ⟨.refl _,by simp,λx hx=>by obtain rfl:=List.mem_singleton.mp hx;exact .zero,.head _,by simp,λg hg=>by rw [List.getElem?_replicate,if_pos hg];rfl,λx hx=>(nomatch hx)⟩ rfl
   have:=o.perm (l':=[(H.length,.list (aA (List.replicate c.length 0))),((H++[MObj.list (aA (List.replicate c.length 0))]).length,.list [.int 0]),((H++[MObj.list (aA (List.replicate c.length 0))]++[MObj.list [.int 0]]).length,.list [.int 0])]) ((List.perm_append_comm (l₁:=[_]) (l₂:=[_,_])).trans (.trans (.swap _ _ _) (.cons _ (.refl _))))
   simpa [aA] using this
  rw [hlen]
  refine dX (BI H c pa H.length (H.length + 2) (H.length + 1)) _ B0 ?_
  rintro n L' H2 hi
  refine vX hp1 hp2 k hi λvis r nm u1 u2 u3 u7 H3 o3 s=>?_
  obtain ⟨hperm,hcnt⟩:=qX k st.reach s
  have hra:=o3.has (H.length + 2,_) (.tail _ (.head _))
  have hna:=o3.has (H.length,_) (.head _)
  dsimp only at hra hna
  simp
  refine ly (ns:=bK r) (by rw [hra,pE]) (by rw [sA];have:=hperm.length_eq;rw [List.length_range] at this;exact Nat.lt_of_le_of_lt (Nat.le_of_eq ‹_›) (Nat.lt_of_le_of_lt ‹_› (by decide))) λns hns=>?_
  have hsr:=re hperm hns
  subst hsr
  have hp3:=o3.pre _ _ hp1
  have hpl3:=hp2.mono λU U=>IsPl.kp o3.kp
  have hbound:(c.length:Int)≤400000:=by (exact Int.ofNat_le.mpr (Nat.le_trans ‹_› (by decide)))
  have hcm:cp (H3++[MObj.list ((cS 0 c.length 1).map .int),.list ((cS 0 c.length 1).map .int)]) .ne (.ref H3.length) (.ref (H3.length + 1)) = some false:=xd cO hG
  simp [hcm,app hp3]
  refine ⟨by exact Int.ofNat_le.mpr (Nat.le_trans ‹_› (by decide)),?_⟩
  refine oa (app hp3 _) (hpl3.mono λU U=>IsPl.kp .app) (app hna _) k hl st hcnt λY u1 u2 u3 u7=>?_
  simp
  obtain ⟨Z,rfl⟩:=o3.eq
  simpa using q (Z++(.list ((cS 0 c.length 1).map .int) :: .list ((cS 0 c.length 1).map .int) :: Y))
end
end Mine
end
section
namespace Mine
inductive IsWell (H:MH) (wl b:Nat):Prop
 | mk (na:Nat) (ns:List Int) (place mixed:Int) (h1:H[wl]? = some (.list [.ref na,.int place,.int mixed])) (h2:H[na]? = some (.list (bc ns))) (lo:na < wl) (pos:∀ x∈ns,0≤x) (p0:0≤place) (p1:place + b≤1000000) (m0:0≤mixed)
section
variable {hB:Heap} {H:MH}
private theorem bi {wl b:Nat} {size:Int} {Q:QV} (hw:IsWell H wl (b + 1)) (hs:0 < size) (q:∀ o x,IsWell (H.set wl o) wl b→0≤x→x < size→Q (.int x) (H.set wl o)):aU hB [.ref wl,.int size] H Q:=by
 obtain ⟨na,ns,place,mixed,h1,h2,lo,pos,p0,p1,m0⟩:=hw
 refine fn rfl [some (.ref wl),some (.int size),none,none,none] rfl ?_
 have ne:na≠wl:=by (exact Nat.ne_of_lt ‹_›)
 have g2:∀ o,(H.set wl o)[na]? = some (.list (bc ns)):=λo=>aJ h2 (Ne.symm ne)
 have hl:(bc ns).length = ns.length:=List.length_map _
 have w':IsWell (H.set wl (.list [.ref na,.int (place + 1),.int mixed])) wl b:=⟨na,ns,place + 1,mixed,eV h1,g2 _,lo,pos,Int.le_add_one p0,by rw [Int.add_assoc,Int.add_comm 1];exact p1,m0⟩
 simp [m6,h1,g2,hl]
 refine aL (λhc=>?_) λhc=>?_
 ·have hc:place < ns.length:=by simpa using hc
  obtain ⟨i,rfl⟩:=Int.eq_ofNat_of_zero_le p0
  have hi:i < ns.length:=by (exact Int.ofNat_lt.mp ‹_›)
  have hit:=lX (vals:=ns) hi
  have hpos:0≤ns.getD i 0:=by
   rw [List.getD_eq_getElem?_getD,List.getElem?_eq_getElem hi]
   exact pos _ (List.getElem_mem hi)
  simp [g2,hit,hs,-Int.ofNat_eq_natCast]
  simp only [List.getD_eq_getElem?_getD] at hpos
  exact q _ _ w' (Int.emod_nonneg _ (Int.ne_of_gt hs)) (Int.emod_lt_of_pos _ hs)
 ·simp
  refine ⟨⟨Int.lt_of_lt_of_le (by decide) p0,Int.lt_of_le_of_lt (Int.le_trans (Int.le_add_of_nonneg_right (Int.natCast_nonneg _)) p1) (by decide)⟩,hs,q _ _ w' (Int.emod_nonneg _ (Int.ne_of_gt hs)) (Int.emod_lt_of_pos _ hs)⟩
private theorem m8 {code:Int} {Q:QV} (h0:0≤code) (h1:code < 84) (q:∀ X v r,(∀ Y:MH,Y.length = H.length→IsRow (Y++X) v r)→okR r→r.dst < 3→Q v (H++X)):f9 hB [.int code] H Q:=by
 refine fn rfl [some (.int code),none,none,none] rfl ?_
 obtain ⟨d,hd⟩:∃ d:Nat,code / 7 % 3 = d:=Int.eq_ofNat_of_zero_le (Int.emod_nonneg _ (by decide))
 have hd3:d < 3:=Int.ofNat_lt.mp (hd ▸ Int.emod_lt_of_pos _ (by decide))
 obtain ⟨e,he⟩:∃ e:Nat,code / 21 % 3 = e:=Int.eq_ofNat_of_zero_le (Int.emod_nonneg _ (by decide))
 have he3:e < 3:=Int.ofNat_lt.mp (he ▸ Int.emod_lt_of_pos _ (by decide))
 generalize hn:code / 21 = n at *
 have hn0:0≤n∧n < 4:=⟨hn ▸ Int.ediv_nonneg h0 (by decide),hn ▸ Int.ediv_lt_of_lt_mul (by decide) h1⟩
 have ok:okO (.num n):=⟨hn0.1,Int.le_trans (Int.le_of_lt hn0.2) (by decide)⟩
 have ok2:okO (.num (n / 2)):=⟨Int.ediv_nonneg hn0.1 (by decide),Int.le_trans (Int.le_of_lt (Int.ediv_lt_of_lt_mul (b:=2) (by decide) hn0.2)) (by decide)⟩
 have mk:∀ (r:Row) (l:List MV),l = r.args.map bN→okR r→r.dst < 3→Q (.tup [.sym r.op,.int r.dst,.ref H.length,r.more,.bool r.vol]) (H++[.list l]):=λr l hl ok hr=>q _ _ r (λY hY=>⟨H.length,rfl,by rw [hl,← hY];exact cO⟩) ok hr
 simp [pz,hd,hn]
 refine aL (λU=>?_) λU=>?_
 ·simp
  exact mk (.const d n) _ rfl ⟨Nat.lt_succ_of_lt hd3,ok⟩ (Int.ofNat_lt.mpr hd3)
 simp
 refine aL (λU=>?_) λU=>?_
 ·simp
  exact mk (.copy d (n / 2)) _ rfl ⟨Nat.lt_succ_of_lt hd3,ok2⟩ (Int.ofNat_lt.mpr hd3)
 simp
 refine aL (λU=>?_) λU=>?_
 ·have:okO (.reg e):=Nat.lt_succ_of_lt he3
  simp [he]
  exact mk (.call1 d e) _ rfl ⟨Nat.lt_succ_of_lt hd3,this⟩ (Int.ofNat_lt.mpr hd3)
 have okd:okO (.reg d):=Nat.lt_succ_of_lt hd3
 simp
 refine aL (λU=>?_) λU=>?_
 ·simp
  exact mk (.call2 d n) _ rfl ⟨okd,ok⟩ (show (-1:Int) < 3 by decide)
 simp
 refine aL (λU=>?_) λU=>?_
 ·simp
  exact mk (.sub d n) _ rfl ⟨Nat.lt_succ_of_lt hd3,ok⟩ (Int.ofNat_lt.mpr hd3)
 simp
 refine aL (λU=>?_) λU=>?_
 ·simp
  exact mk (.store d (n % 2 == 1)) _ rfl okd (show (-1:Int) < 3 by decide)
 ·simp
  exact mk (.load d (n % 2 == 1)) _ rfl (Nat.lt_succ_of_lt hd3) (Int.ofNat_lt.mpr hd3)
end
end Mine
end
section
namespace Mine
section
variable {hB:Heap} {H:MH}
private theorem IsWell.lt {wl b:Nat} (h:IsWell H wl b):wl < H.length:=by obtain ⟨_,_,_,_,h1,_⟩:=h;exact bv h1
private theorem IsWell.app {wl b:Nat} (h:IsWell H wl b) (X:MH):IsWell (H++X) wl b:=by
 obtain ⟨na,ns,place,mixed,h1,h2,r1,r2,r3,r4,r5⟩:=h
 exact ⟨na,ns,place,mixed,Mine.app h1 X,Mine.app h2 X,r1,r2,r3,r4,r5⟩
private theorem tI {wl b ga:Nat} {goals:List Nat} {Q:QV} (hw:IsWell H wl (b + 3)) (hg:H[ga]? = some (.list (aA goals))) (ne:ga≠wl) (h0:goals≠[])
  (q:∀ o X v e,IsWell (H.set wl o++X) wl b→(∀ Y:MH,Y.length = H.length→IsEndT (Y++X) v e)→(∀ x∈e.args,okO x)→(∀ g∈e.fol,g∈goals)→Q v (H.set wl o++X)):iw hB [.ref wl,.ref ga] H Q:=by
 refine fn rfl [some (.ref wl),some (.ref ga),none,none,none,none,none,none,none] rfl ?_
 have hwl:=hw.lt
 have hpos:0 < goals.length:=List.length_pos_iff.mpr h0
 have hg':∀ o,(H.set wl o)[ga]? = some (.list (aA goals)):=λo=>aJ hg (Ne.symm ne)
 simp [pe]
 refine bi hw (by decide) λo1 code w1 c0 c1=>?_
 simp
 have opn:∀ (K:QV) (H':MH),(∀ x,okO x→K (bN x) H')→∀ (u2 u4:Option MV),ifV (decide (code / 6 < 3)) (th3 (aY (ae (aQ 0) (ae (ai 7) am))) [some (.ref wl),some (.ref ga),u2,none,u4,none,none,some (.int (code / 6)),none] H' K)
   (th3 (aY (ae (aQ 1) (ae (dj (ai 7) (az 3)) am))) [some (.ref wl),some (.ref ga),u2,none,u4,none,none,some (.int (code / 6)),none] H' K):=by
  intro K H' hK u2 u4
  refine aL (λh=>?_) λh=>?_
  ·have h:code / 6 < 3:=by simpa using h
   obtain ⟨n,hn⟩:=Int.eq_ofNat_of_zero_le (show 0≤code / 6 by omega)
   simp [hn]
   exact hK (.reg n) (by show n < 4;omega)
  ·have h:¬ code / 6 < 3:=by simpa using h
   simp
   exact hK (.num (code / 6 - 3)) ⟨by omega,by omega⟩
 refine opn _ _ (λx ok=>?_) _ _
 simp [hg']
 refine bi w1 (by exact Int.ofNat_lt.mpr ‹_›) λo2 x1 w2 f0 f1=>?_
 obtain ⟨i,rfl⟩:=Int.eq_ofNat_of_zero_le f0
 simp [hg'] at w2 ⊢
 refine bi w2 (by exact Int.ofNat_lt.mpr ‹_›) λo3 x2 w3 s0 s1=>?_
 obtain ⟨j,rfl⟩:=Int.eq_ofNat_of_zero_le s0
 have hi:i < goals.length:=by (exact Int.ofNat_lt.mp ‹_›)
 have hj:j < goals.length:=by (exact Int.ofNat_lt.mp ‹_›)
 have gI:itO (some (.list (aA goals))) (i:Int) = some (.int (goals[i]:Nat)):=b8 (by rw [aA,List.getElem?_map,List.getElem?_eq_getElem hi];rfl)
 have gJ:itO (some (.list (aA goals))) (j:Int) = some (.int (goals[j]:Nat)):=b8 (by rw [aA,List.getElem?_map,List.getElem?_eq_getElem hj];rfl)
 have mI:goals[i]∈goals:=List.getElem_mem hi
 have mJ:goals[j]∈goals:=List.getElem_mem hj
 simp [hg'] at w3 ⊢
 have mk:∀ (X:MH) v e,(∀ Y:MH,Y.length = H.length→IsEndT (Y++X) v e)→(∀ x∈e.args,okO x)→(∀ g∈e.fol,g∈goals)→Q v (H.set wl o3++X):=λX v e=>q o3 X v e (w3.app X)
 have h00:∀ (Y:MH),Y.length = H.length→∀ (l:MObj) (X:MH),(Y++l :: X)[H.length]? = some l:=λY hhl l X=>by rw [← hhl];exact cO
 have h11:∀ (Y:MH),Y.length = H.length→∀ (l l':MObj) (X:MH),(Y++l :: l' :: X)[H.length + 1]? = some l':=λY hhl l l' X=>by rw [← hhl];exact hG
 have one:∀ y∈[x],okO y:=λy hy=>by rw [List.mem_singleton.mp hy];exact ok
 refine aL (λU=>?_) λU=>?_
 ·simp [app (hg' _),gI]
  exact mk [.list []] _ (.jump goals[i]) (λY hY=>⟨H.length,_,rfl,h00 Y hY _ _,rfl⟩) (λU h=>nomatch h) (λg hg=>by rw [List.mem_singleton.mp hg];exact mI)
 simp
 refine aL (λU=>?_) λU=>?_
 ·simp [app (hg' _),gI,gJ]
  refine mk [.list [bN x]] _ (.branch x goals[i] goals[j]) (λY hY=>⟨H.length,_,rfl,h00 Y hY _ _,rfl⟩) one (λg hg=>?_)
  rcases List.mem_cons.mp hg with rfl | hg
  ·exact mI
  ·rw [List.mem_singleton.mp hg];exact mJ
 simp
 refine aL (λU=>?_) λU=>?_
 ·obtain ⟨low,hlow⟩:∃ low:Int,cy (H.set wl o3) (.tup [.int 0,.int 1,.int 4294967295]) (.int (((i:Int) + j) % 3)) = some (.int low):=by
   have h3:((i:Int) + j) % 3 = 0∨((i:Int) + j) % 3 = 1∨((i:Int) + j) % 3 = 2:=by omega
   rcases h3 with h | h | h <;> rw [h]
   ·exact ⟨0,rfl⟩
   ·exact ⟨1,rfl⟩
   ·exact ⟨4294967295,rfl⟩
  obtain ⟨n,hn⟩:∃ n:Nat,((i:Int) + 2 * j + 1) % goals.length = n:=Int.eq_ofNat_of_zero_le (Int.emod_nonneg _ (by omega))
  have hnl:n < goals.length:=by
   have:=Int.emod_lt_of_pos ((i:Int) + 2 * j + 1) (show (0:Int) < goals.length by exact Int.ofNat_lt.mpr ‹_›)
   omega
  have gN:itO (some (.list (aA goals))) (n:Int) = some (.int (goals[n]:Nat)):=b8 (by rw [aA,List.getElem?_map,List.getElem?_eq_getElem hnl];rfl)
  have hpi:(0:Int) < goals.length:=by (exact Int.ofNat_lt.mpr ‹_›)
  simp [-uy,hlow,app (hg' _),gI,gJ,hn,gN,hpi]
  refine ⟨hpos,mk [.list [bN x],.list [.int (goals[i]:Nat),.int (goals[j]:Nat)]] _ (.table x low [goals[i],goals[j]] goals[n]) (λY hY=>⟨H.length,_,rfl,h00 Y hY _ _,H.length + 1,rfl,h11 Y hY _ _ _,Nat.le_of_ble_eq_true rfl⟩) one (λg hg=>?_)⟩
  simp [PEnd.fol] at hg
  rcases hg with rfl | rfl | rfl
  ·exact mI
  ·exact mJ
  ·exact List.getElem_mem hnl
 ·simp
  exact mk [.list [bN x]] _ (.give x) (λY hY=>⟨H.length,_,rfl,h00 Y hY _ _,rfl⟩) one (λU h=>nomatch h)
end
end Mine
end
section
namespace Mine
structure WS where
 vals:List Int
 seen:List (List Int)
 tch:List (Nat×List Int×MV×Int)
 kept:Int
noncomputable def ans (k:List Int):Int:=(k.headD 0 * 5 + k.length) % 4294967296
noncomputable def Row.val (s:WS) (k:List Int) (e0:Row):Int:=Row.rec (motive:=λU=>Int) (λU n=>n) (λU n=>n) (λU U=>ans k) (λU U=>ans k) (λd n=>(s.vals.getD d 0 + 4294967296 - n) % 4294967296) (λr U=>0) (λU U=>s.kept) e0
noncomputable def Row.mem (s:WS) (e0:Row):Int:=Row.rec (motive:=λU=>Int) (λU U=>s.kept) (λU U=>s.kept) (λU U=>s.kept) (λU U=>s.kept) (λU U=>s.kept) (λr U=>s.vals.getD r 0) (λU U=>s.kept) e0
noncomputable def fN (s:WS) (r:Row):WS :=
 let k:=r.args.map (cb s.vals)
 { vals:=if 0≤r.dst then s.vals.set r.dst.toNat (r.val s k) else s.vals,seen:=if r.op = 4 then s.seen++[k] else s.seen,kept:=r.mem s,tch:=if r.vol then s.tch++[(r.op,k,r.more,r.mem s)] else s.tch }
noncomputable def aS (s:WS) (l:List Row):WS:=l.foldl fN s
noncomputable def wE (e:PEnd) (s:WS) (k:Nat→WS→Option Int×WS):Option Int×WS:=match e with
 | .give x=>(some (cb s.vals x),s)
 | .jump g=>k g s
 | .branch x t o=>k (nxt s.vals (.branch x t o)) s
 | .table x low row o=>k (nxt s.vals (.table x low row o)) s
noncomputable def wB (o:Option PBlock) (s:WS) (k:Nat→WS→Option Int×WS):Option Int×WS:=match o with
 | none=>(none,s)
 | some b=>wE b.en (aS s b.rows) k
noncomputable def c9 (c:aB):Nat→Nat→WS→Option Int×WS
 | 0,_,s=>(none,s)
 | n + 1,g,s=>wB c[g]? s (c9 c n)
private theorem wrS {c:aB} {n g:Nat} {s:WS}:c9 c (n + 1) g s = wB c[g]? s (c9 c n):=rfl
structure WOk (s:WS):Prop where
 four:s.vals.length = 4
 rng:∀ x∈s.vals,0≤x∧x < 4294967296
 krng:0≤s.kept∧s.kept < 4294967296
private theorem WOk.get {s:WS} (h:WOk s) (n:Nat):0≤s.vals.getD n 0∧s.vals.getD n 0 < 4294967296:=by
 rw [List.getD_eq_getElem?_getD]
 rcases e:s.vals[n]? with _ | x
 ·exact ⟨Int.le_refl _,by decide⟩
 ·exact h.rng x (List.mem_of_getElem? e)
private theorem WOk.opd {s:WS} (h:WOk s) {x:Opd} (ok:okO x):0≤cb s.vals x∧cb s.vals x < 4294967296:=by
 cases x with
 | reg n=>exact h.get n
 | num k=>exact ⟨ok.1,by have:=ok.2;show k < _;exact Int.lt_of_le_of_lt ‹_› (by decide)⟩
private theorem WOk.row {s:WS} (h:WOk s) {r:Row} (ok:okR r):WOk (fN s r):=by
 have hv:∀ x,0≤x∧x < 4294967296→(∀ y∈s.vals.set r.dst.toNat x,0≤y∧y < 4294967296):=λx hx y hy=>by
  rcases List.mem_or_eq_of_mem_set hy with h' | rfl
  ·exact h.rng y h'
  ·exact hx
 have hval:0≤r.val s (r.args.map (cb s.vals))∧r.val s (r.args.map (cb s.vals)) < 4294967296:=by
  have m:∀ x:Int,0≤x % 4294967296∧x % 4294967296 < 4294967296:=λx=>⟨Int.emod_nonneg _ (by decide),Int.emod_lt_of_pos _ (by decide)⟩
  cases r with
  | const d n=>exact ⟨ok.2.1,by have:=ok.2.2;show n < _;exact Int.lt_of_le_of_lt ‹_› (by decide)⟩
  | copy d n=>exact ⟨ok.2.1,by have:=ok.2.2;show n < _;exact Int.lt_of_le_of_lt ‹_› (by decide)⟩
  | store r v=>exact ⟨Int.le_refl 0,show (0:Int) < 4294967296 by decide⟩
  | load d v=>exact h.krng
  | _=>exact m _
 refine ⟨?_,?_,?_⟩
 ·show (if 0≤r.dst then s.vals.set r.dst.toNat _ else s.vals).length = 4
  by_cases c:0≤r.dst
  ·rw [if_pos c,List.length_set];exact h.four
  ·rw [if_neg c];exact h.four
 ·show ∀ x∈(if 0≤r.dst then s.vals.set r.dst.toNat _ else s.vals),_
  by_cases c:0≤r.dst
  ·rw [if_pos c];exact hv _ hval
  ·rw [if_neg c];exact h.rng
 ·cases r with
  | store r v=>exact h.get r
  | _=>exact h.krng
private theorem WOk.rows {l:List Row}:∀ {s:WS},WOk s→(∀ r∈l,okR r)→WOk (aS s l):=by
 induction l with
 | nil=>exact λh U=>h
 | cons r l ih=>exact λh ok=>ih (h.row (ok r (List.mem_cons_self ..))) λr' h'=>ok r' (List.mem_cons_of_mem _ h')
noncomputable def Kn (H X:MH) (v:MV) (l:List Int):Prop:=∃ k,v = .ref (H.length + (k + 1 + 1 + 1))∧X[k]? = some (.list (bc l))
noncomputable def Tch (H X:MH) (v:MV) (t:Nat×List Int×MV×Int):Prop:=∃ vk,v = .tup [.sym t.1,vk,t.2.2.1,.int t.2.2.2]∧Kn H X vk t.2.1
private theorem Kn.app {H X:MH} {v:MV} {l:List Int} (h:Kn H X v l) (Y:MH):Kn H (X++Y) v l:=by
 obtain ⟨k,e,h⟩:=h
 exact ⟨k,e,Mine.app h Y⟩
private theorem Tch.app {H X:MH} {v:MV} {t:Nat×List Int×MV×Int} (h:Tch H X v t) (Y:MH):Tch H (X++Y) v t:=by
 obtain ⟨k,e,h⟩:=h
 exact ⟨k,e,h.app Y⟩
inductive WSt (H X:MH) (s:WS) (sv tv:List MV):Prop
 | mk (h:WOk s) (hs:All2 (Kn H X) sv s.seen) (ht:All2 (Tch H X) tv s.tch)
inductive KnI (H:MH) (va:Nat) (A:Nat→List MV) (j:Nat):List MV→Loc→MH→Prop
 | mk (u v:Option MV):KnI H va A j (A j) [u,v,some (.ref va)] H
section
variable {hB:Heap} {H:MH}
private theorem wN {a va:Nat} {l:List Opd} {vals:List Int} {Q:QV} (ha:H[a]? = some (.list (l.map bN))) (hv:H[va]? = some (.list (bc vals))) (hl:vals.length = 4) (hx:∀ x∈l,okO x) (hn:l.length≤2) (q:Q (.ref H.length) (H++[.list (bc (l.map (cb vals)))])) :
  ub (cu [aw 0,aw 1]) bG (eIf (aM .eq (ai 0) (aQ 0)) (aP (ai 2) (ai 1)) (ai 1)) [none,none,some (.ref va)] Q (.list a (l.map bN)) H:=by
 obtain ⟨A,hA⟩:∃ A:Nat→List MV,∀ j,A j = bc ((l.take j).map (cb vals)):=⟨_,λU=>rfl⟩
 have h0:A 0 = []:=hA 0
 have hn':A l.length = bc (l.map (cb vals)):=by rw [hA,List.take_length]
 have hs:∀ j x,l[j]? = some x→A (j + 1) = A j++[.int (cb vals x)]:=λj x e=>by
  rw [hA,hA,List.take_add_one,e,List.map_append,bc,List.map_append];rfl
 have hle:∀ j,(A j).length≤500000:=λj=>by
  rw [hA,bc,List.length_map,List.length_map,List.length_take];exact lh (Nat.le_trans (by assumption) (by decide))
 clear hA
 refine bX (KnI H va A) (h0 ▸ .mk _ _) ?_ ?_ ?_
 ·rintro j _ _ _ ⟨⟩
  exact ⟨ha,hle j⟩
 ·rintro j m _ _ _ hm ⟨u,v⟩
  obtain ⟨x,hx',rfl⟩:∃ x,l[j]? = some x∧bN x = m:=by
   simpa [It.at,List.getElem?_map] using hm
  have hj:=hs j x hx'
  have ok:=hx x (List.mem_of_getElem? hx')
  cases x with
  | num k =>
   simp only [cb] at hj
   simp [bN]
   rw [← hj]
   exact .mk _ _
  | reg n =>
   have:=lX (vals:=vals) (n:=n) (by rw [hl];exact ok)
   simp [bN,hv,this]
   simp only [cb,List.getD_eq_getElem?_getD] at hj
   rw [← hj]
   exact .mk _ _
 ·rintro _ _ _ ⟨⟩
  rw [← hn'] at q
  simpa [It.size] using q
noncomputable def wB2:ST:=(aj (sIf (eX (ai 6)) (aj (bC (bW .list (ai 14) (ae (aY (ae (ai 11) (ae (ai 9) (ae (ai 10) (ae (ai 7) am))))) am) b7)) ay) ay) (aj (sIf (aM .ge (ai 4) (az 0)) (aj (au (ai 15) (eS (ai 16) (ai 4))) ay) ay) ay))
private theorem fg {X:MH} {vals kn:List Int} {sv tv:List MV} {tc:List (Nat×List Int×MV×Int)} {r:Row} {k:Nat} {x kp:Int} {u0 u1 u2 u3 u5 u8 u12 u17 u18:Option MV} {Q:QS} (hk:X[k]? = some (.list (bc kn))) (ht:All2 (Tch H X) tv tc) (h4:vals.length = 4) (hd:r.dst < 4) (b2:tv.length < 1000000)
  (q:∀ tv',All2 (Tch H X) tv' (if r.vol then tc++[(r.op,kn,r.more,kp)] else tc)→tv'.length≤tv.length + 1→Q .next
   [u0,u1,u2,u3,some (.int r.dst),u5,some (.bool r.vol),some (.int kp),u8,some (.ref (H.length + (k + 1 + 1 + 1))),some r.more,some (.sym r.op),u12,some (.ref (H.length + 1)),some (.ref (H.length + 2)),some (.int x),some (.ref H.length),u17,u18]
   (H++.list (bc (if 0≤r.dst then vals.set r.dst.toNat x else vals)) :: .list sv :: .list tv' :: X)) :
  wB2 [u0,u1,u2,u3,some (.int r.dst),u5,some (.bool r.vol),some (.int kp),u8,some (.ref (H.length + (k + 1 + 1 + 1))),some r.more,some (.sym r.op),u12,some (.ref (H.length + 1)),some (.ref (H.length + 2)),some (.int x),some (.ref H.length),u17,u18]
   (H++.list (bc vals) :: .list sv :: .list tv :: X) Q:=by
 have fin:∀ tv',All2 (Tch H X) tv' (if r.vol then tc++[(r.op,kn,r.more,kp)] else tc)→tv'.length≤tv.length + 1→(aj (sIf (aM .ge (ai 4) (az 0)) (aj (au (ai 15) (eS (ai 16) (ai 4))) ay) ay) ay)
   [u0,u1,u2,u3,some (.int r.dst),u5,some (.bool r.vol),some (.int kp),u8,some (.ref (H.length + (k + 1 + 1 + 1))),some r.more,some (.sym r.op),u12,some (.ref (H.length + 1)),some (.ref (H.length + 2)),some (.int x),some (.ref H.length),u17,u18]
   (H++.list (bc vals) :: .list sv :: .list tv' :: X) Q:=λtv' h1 h2=>by
  have q:=q tv' h1 h2
  simp
  refine aL (λc=>?_) λc=>?_
  ·have c:0≤r.dst:=by simpa using c
   rw [if_pos c] at q
   obtain ⟨d,hd'⟩:=Int.eq_ofNat_of_zero_le c
   rw [hd'] at q hd ⊢
   have hd2:d < vals.length:=by omega
   have h6:vals.length≤1000000:=by (exact Nat.le_trans (Nat.le_of_eq ‹_›) (by decide))
   simpa [hd2,h6,ff,bc,List.map_set] using q
  ·have c:¬ 0≤r.dst:=by simpa using c
   rw [if_neg c] at q
   simpa using q
 have b3:tv.length≤1000000:=by (exact Nat.le_of_lt ‹_›)
 unfold wB2
 simp
 refine aL (λc=>?_) λc=>?_
 ·simp [b3]
  refine fin _ ?_ (by simp)
  rw [if_pos c]
  exact All2.append ht (All2.one ⟨_,rfl,_,rfl,hk⟩)
 ·simp
  refine fin _ ?_ (Nat.le_succ _)
  rw [if_neg (by rw [c];decide)]
  exact ht
noncomputable abbrev wB1 (hB:Heap):ST:=(aj (au (cE (bD (ai 2)) (cu [(aw 0),(aw 1)]) bG (eIf (aM .eq (ai 0) (aQ 0)) (aP (ai 2) (ai 1)) (ai 1)) 2 [16]) (aw 9)) (aj (au (aP (ai 9) (az 0)) (aw 15)) (aj (sIf (aM .eq (ai 11) (aQ 4)) (aj (bC (bW .list (ai 13) (ae (ai 9) am) b7)) (aj (au (aI (ae (ai 9) am) (eO hB)) (aw 15)) ay)) (aj (sIf (aM .eq (ai 11) (aQ 5)) (aj (au (dH (dj (bZ (aP (ai 9) (az 0)) (az 4294967296)) (aP (ai 9) (az 1))) (az 4294967296)) (aw 15)) ay) (aj (sIf (aM .eq (ai 11) (aQ 6)) (aj (au (aP (ai 9) (az 1)) (aw 7)) ay) (aj (sIf (aM .eq (ai 11) (aQ 7)) (aj (au (ai 7) (aw 15)) ay) ay) ay)) ay)) ay)) wB2)))
private theorem xJ {X:MH} {s:WS} {sv tv:List MV} {a:Nat} {r:Row} {pv gv wv rv ev:MV} {g:Int} {u8 u9 u15 u18:Option MV} {Q:QS} (st:WSt H X s sv tv) (ha:H[a]? = some (.list (r.args.map bN))) (ok:okR r) (b1:sv.length < 1000000) (b2:tv.length < 1000000)
  (q:∀ X' sv' tv' u9 u15,WSt H X' (fN s r) sv' tv'→sv'.length≤sv.length + 1→tv'.length≤tv.length + 1→Q .next
   [some pv,some gv,some (.ref a),some (.int g),some (.int r.dst),some ev,some (.bool r.vol),some (.int (fN s r).kept),u8,u9,some r.more,some (.sym r.op),some rv,some (.ref (H.length + 1)),some (.ref (H.length + 2)),u15,some (.ref H.length),some wv,u18]
   (H++.list (bc (fN s r).vals) :: .list sv' :: .list tv' :: X')) :
  wB1 hB [some pv,some gv,some (.ref a),some (.int g),some (.int r.dst),some ev,some (.bool r.vol),some (.int s.kept),u8,u9,some r.more,some (.sym r.op),some rv,some (.ref (H.length + 1)),some (.ref (H.length + 2)),u15,some (.ref H.length),some wv,u18]
   (H++.list (bc s.vals) :: .list sv :: .list tv :: X) Q:=by
 obtain ⟨h,hs,ht⟩:=st
 have ok':=h.row ok
 simp [wB1,app ha]
 refine wN (app ha _) cO h.four ok.args (by cases r <;> exact Nat.le_of_ble_eq_true rfl) ?_
 simp
 have hs':∀ l,All2 (Kn H (X++[.list (bc l)])) sv s.seen:=λl=>hs.mono λU U h=>h.app _
 have ht':∀ l,All2 (Tch H (X++[.list (bc l)])) tv s.tch:=λl=>ht.mono λU U h=>h.app _
 have hX:∀ l,(X++[.list (bc l)])[X.length]? = some (.list (bc l)):=λl=>by simp
 have hk:∀ l,Kn H (X++[.list (bc l)]) (.ref (H.length + (X.length + 1 + 1 + 1))) l:=λl=>⟨_,rfl,hX l⟩
 have b3:sv.length≤1000000:=by (exact Nat.le_of_lt ‹_›)
 have hd:=ok.dst.2
 have tl:=λtv' u9 u15 sv' h1 h2 h3 h4=>q (X++[.list (bc (r.args.map (cb s.vals)))]) sv' tv' u9 u15 ⟨ok',h1,h2⟩ h3 h4
 cases r with
 | call1 d r =>
  simp [Row.op,Row.args,bc,b3]
  refine iI (x:=s.vals.getD r 0) (l:=[]) ?_ (h.get r).1 (h.get r).2 ?_
  ·simp [bc,cb]
  ·refine fg (r:=.call1 d r) (hX ((Row.call1 d r).args.map (cb s.vals))) (ht' ((Row.call1 d r).args.map (cb s.vals))) h.four hd b2 λtv' h1 h2=>?_
   exact tl tv' _ _ _ (All2.append (hs' _) (All2.one (hk _))) h1 (by simp) h2
 | call2 r n =>
  simp [Row.op,Row.args,bc,b3]
  refine iI (x:=s.vals.getD r 0) (l:=[n]) ?_ (h.get r).1 (h.get r).2 ?_
  ·simp [bc,cb]
  ·refine fg (r:=.call2 r n) (hX ((Row.call2 r n).args.map (cb s.vals))) (ht' ((Row.call2 r n).args.map (cb s.vals))) h.four hd b2 λtv' h1 h2=>?_
   exact tl tv' _ _ _ (All2.append (hs' _) (All2.one (hk _))) h1 (by simp) h2
 | const d n =>
  simp [Row.op,Row.args,bc,b3]
  refine fg (r:=.const d n) (hX ((Row.const d n).args.map (cb s.vals))) (ht' ((Row.const d n).args.map (cb s.vals))) h.four hd b2 λtv' h1 h2=>?_
  exact tl tv' _ _ _ (hs' _) h1 (Nat.le_succ _) h2
 | copy d n =>
  simp [Row.op,Row.args,bc,b3]
  refine fg (r:=.copy d n) (hX ((Row.copy d n).args.map (cb s.vals))) (ht' ((Row.copy d n).args.map (cb s.vals))) h.four hd b2 λtv' h1 h2=>?_
  exact tl tv' _ _ _ (hs' _) h1 (Nat.le_succ _) h2
 | sub d n =>
  simp [Row.op,Row.args,bc,b3]
  refine fg (r:=.sub d n) (hX ((Row.sub d n).args.map (cb s.vals))) (ht' ((Row.sub d n).args.map (cb s.vals))) h.four hd b2 λtv' h1 h2=>?_
  exact tl tv' _ _ _ (hs' _) h1 (Nat.le_succ _) h2
 | store r v =>
  simp [Row.op,Row.args,bc,b3]
  refine fg (r:=.store r v) (hX ((Row.store r v).args.map (cb s.vals))) (ht' ((Row.store r v).args.map (cb s.vals))) h.four hd b2 λtv' h1 h2=>?_
  exact tl tv' _ _ _ (hs' _) h1 (Nat.le_succ _) h2
 | load d v =>
  simp [Row.op,Row.args,bc,b3]
  refine fg (r:=.load d v) (hX ((Row.load d v).args.map (cb s.vals))) (ht' ((Row.load d v).args.map (cb s.vals))) h.four hd b2 λtv' h1 h2=>?_
  exact tl tv' _ _ _ (hs' _) h1 (Nat.le_succ _) h2
end
end Mine
end
section
namespace Mine
section
variable {hB:Heap} {H:MH}
private theorem jO {s:WS} {l:List Row} {r:Row}:aS s (l++[r]) = fN (aS s l) r:=by
 rw [aS,List.foldl_append];rfl
inductive WrI (H:MH) (s:WS) (rs:List Row) (ns nt b:Nat) (pv gv wv ev:MV) (g:Int) (u8 u18:Option MV) (j:Nat):Loc→MH→Prop
 | mk (X':MH) (sv' tv':List MV) (u2 u4 u6 u9 u10 u11 u15:Option MV) (st:WSt H X' (aS s (rs.take j)) sv' tv') (l1:sv'.length≤ns + j) (l2:tv'.length≤nt + j) :
  WrI H s rs ns nt b pv gv wv ev g u8 u18 j [some pv,some gv,u2,some (.int g),u4,some ev,u6,some (.int (aS s (rs.take j)).kept),u8,u9,u10,u11,some (.ref b),some (.ref (H.length + 1)),some (.ref (H.length + 2)),u15,some (.ref H.length),some wv,u18]
   (H++.list (bc (aS s (rs.take j)).vals) :: .list sv' :: .list tv' :: X')
private theorem xa {X:MH} {s:WS} {sv tv vs:List MV} {b:Nat} {rs:List Row} {pv gv wv ev:MV} {g:Int} {u2 u4 u6 u8 u9 u10 u11 u15 u18:Option MV} {Q:QS} (st:WSt H X s sv tv) (hb:H[b]? = some (.list vs)) (hr:All2 (IsRow H) vs rs) (ok:∀ r∈rs,okR r)
  (b1:sv.length + rs.length < 1000000) (b2:tv.length + rs.length < 1000000)
  (q:∀ X' sv' tv' u2 u4 u6 u9 u10 u11 u15,WSt H X' (aS s rs) sv' tv'→sv'.length≤sv.length + rs.length→tv'.length≤tv.length + rs.length→Q .next
   [some pv,some gv,u2,some (.int g),u4,some ev,u6,some (.int (aS s rs).kept),u8,u9,u10,u11,some (.ref b),some (.ref (H.length + 1)),some (.ref (H.length + 2)),u15,some (.ref H.length),some wv,u18]
   (H++.list (bc (aS s rs).vals) :: .list sv' :: .list tv' :: X')) :
  rL (cu [aw 11,aw 4,aw 2,aw 10,aw 6]) (wB1 hB) [some pv,some gv,u2,some (.int g),u4,some ev,u6,some (.int s.kept),u8,u9,u10,u11,some (.ref b),some (.ref (H.length + 1)),some (.ref (H.length + 2)),u15,some (.ref H.length),some wv,u18] Q
   (.list b vs) (H++.list (bc s.vals) :: .list sv :: .list tv :: X):=by
 refine bb (WrI H s rs sv.length tv.length b pv gv wv ev g u8 u18) (.mk X sv tv _ _ _ _ _ _ _ st (Nat.le_refl _) (Nat.le_refl _)) ?_ ?_ ?_
 ·rintro j _ _ ⟨⟩
  exact app hb _
 ·rintro j m _ _ hm ⟨X',sv',tv',u2,u4,u6,u9,u10,u11,u15,st',l1,l2⟩
  have hm:vs[j]? = some m:=hm
  obtain ⟨r,hr',a,rfl,ha⟩:=hr.get hm
  have hj:rs.take (j + 1) = rs.take j++[r]:=by rw [List.take_add_one,hr'];rfl
  have hjl:j < rs.length:=(List.getElem?_eq_some_iff.mp hr').1
  simp
  refine xJ st' ha (ok r (List.mem_of_getElem? hr')) (by omega) (by omega) λX2 sv2 tv2 u9 u15 st2 m1 m2=>?_
  rw [xM]
  rw [← jO,← hj] at st2 ⊢
  exact .mk X2 sv2 tv2 _ _ _ _ _ _ _ st2 (Nat.le_trans m1 (Nat.succ_le_succ l1)) (Nat.le_trans m2 (Nat.succ_le_succ l2))
 ·rintro _ _ ⟨X',sv',tv',u2,u4,u6,u9,u10,u11,u15,st',l1,l2⟩
  have e:(It.list b vs).size = rs.length:=hr.1
  rw [e] at st' l1 l2 ⊢
  rw [List.take_length] at st' ⊢
  exact q X' sv' tv' _ _ _ _ _ _ _ st' l1 l2
private theorem q5 {vals:List Int} {e:PEnd} (h:∀ x,e≠.give x):nxt vals e∈e.fol:=by
 have tn:∀ (low:Int) (o:Nat) (v:Int) (row:List Nat) (i:Nat),gW low o v row i∈row++[o]:=λlow o v row=>by
  induction row with
  | nil=>exact λi=>List.mem_singleton.mpr rfl
  | cons g r ih =>
   intro i
   rw [tnc]
   by_cases c:(low + (i:Nat)) % 4294967296 = v
   ·rw [if_pos c];exact List.mem_cons_self ..
   ·rw [if_neg c];exact List.mem_cons_of_mem _ (ih _)
 cases e with
 | jump g=>exact List.mem_singleton.mpr rfl
 | branch x t o =>
  show (if cb vals x = 0 then o else t)∈[t,o]
  by_cases c:cb vals x = 0
  ·rw [if_pos c];exact List.mem_cons_of_mem _ (List.mem_cons_self ..)
  ·rw [if_neg c];exact List.mem_cons_self ..
 | table x low row o=>exact tn _ _ _ _ _
 | give x=>exact absurd rfl (h x)
private theorem cM {c:aB} {n g:Nat} {s:WS} {b:PBlock} {x:Opd} (hb:c[g]? = some b) (he:b.en = .give x):c9 c (n + 1) g s = (some (cb (aS s b.rows).vals x),aS s b.rows):=by
 rw [wrS,hb];show wE _ _ _ = _;rw [he];rfl
private theorem cH {c:aB} {n g:Nat} {s:WS} {b:PBlock} (hb:c[g]? = some b) (he:∀ x,b.en≠.give x):c9 c (n + 1) g s = c9 c n (nxt (aS s b.rows).vals b.en) (aS s b.rows):=by
 rw [wrS,hb];show wE _ _ _ = _
 revert he;generalize b.en = e;intro he
 cases e with
 | give x=>exact absurd rfl (he x)
 | _=>rfl
inductive WkI (H:MH) (c:aB) (args:List Int) (v:MV) (ga:Nat) (j:Nat):Loc→MH→Prop
 | mk (g:Nat) (X:MH) (s:WS) (sv tv:List MV) (u2 u4 u5 u6 u8 u9 u10 u11 u12 u15 u17 u18:Option MV) (hgl:g < c.length) (st:WSt H X s sv tv) (l1:sv.length≤j * 1000) (l2:tv.length≤j * 1000)
  (run:c9 c (40 - j) g s = c9 c 40 0 ⟨args,[],[],0⟩):WkI H c args v ga j
   [some v,some (.ref ga),u2,some (.int (g:Nat)),u4,u5,u6,some (.int s.kept),u8,u9,u10,u11,u12,some (.ref (H.length + 1)),some (.ref (H.length + 2)),u15,some (.ref H.length),u17,u18]
   (H++.list (bc s.vals) :: .list sv :: .list tv :: X)
private theorem ll {v:MV} {c:aB} {ga:Nat} {args:List Int} {Q:QV} (hc:IsPlaced H v c) (ok:Ok c) (hg:H[ga]? = some (.list (bc args))) (w0:WOk ⟨args,[],[],0⟩)
  (q:∀ vals X s sv tv o,c9 c 40 0 ⟨args,[],[],0⟩ = (o,s)→WSt H X s sv tv→Q (.tup [.sym (if o.isSome then 14 else 15),.int (o.getD 0),.ref (H.length + 1),.ref (H.length + 2)]) (H++.list vals :: .list sv :: .list tv :: X)) :
  gF hB [v,.ref ga] H Q:=by
 obtain ⟨pa,vs,rfl,p1,p2⟩:=hc
 generalize hv:MV.ref pa = v
 refine fn rfl [some v,some (.ref ga),none,none,none,none,none,none,none,none,none,none,none,none,none,none,none,none,none] rfl ?_
 have h4:(bc args).length≤1000000:=by rw [bc,List.length_map,w0.four];decide
 simp [nH,hg,h4]
 refine bb (WkI H c args v ga) (.mk 0 [] _ [] [] _ _ _ _ _ _ _ _ _ _ _ _ ok.fol.pos ⟨w0,All2.nil,All2.nil⟩ (Nat.le_refl _) (Nat.le_refl _) rfl) ?_ ?_ ?_
 ·intros;trivial
 ·rintro j m _ _ hm ⟨g,X,s,sv,tv,u2,u4,u5,u6,u8,u9,u10,u11,u12,u15,u17,u18,hgl,st,l1,l2,run⟩
  have hj:j < 40:=by
   have:=hm
   simp [It.at] at this
   exact this.1
  have hgv:g < vs.length:=by rw [p2.1];exact hgl
  obtain ⟨b,hb,hb'⟩:=p2.get (List.getElem?_eq_getElem hgv)
  obtain ⟨vr,ve,e1,⟨ra,rvs,rfl,r1,r2⟩,hend⟩:=hb'
  have hit:itO (some (.list vs)) (g:Int) = some (.tup [.ref ra,ve]):=by
   rw [vF,ff hgv,← e1];exact List.getElem?_eq_getElem hgv
  have hbm:=List.mem_of_getElem? hb
  have hfew:=ok.few b hbm
  subst hv
  simp [app p1,hit,app r1]
  refine xa st r1 r2 (ok.rows b hbm) (by omega) (by omega) λX' sv' tv' u2 u4 u6 u9 u10 u11 u15 st' m1 m2=>?_
  have hrun:40 - j = (40 - (j + 1)) + 1:=rY (by assumption)
  rw [hrun] at run
  have bnd:sv'.length≤(j + 1) * 1000∧tv'.length≤(j + 1) * 1000:=by rw [Nat.succ_mul];exact ⟨Nat.le_trans m1 (Nat.add_le_add (by assumption) (by assumption)),Nat.le_trans m2 (Nat.add_le_add (by assumption) (by assumption))⟩
  have hw:WOk (aS s b.rows):=st'.1
  rcases Classical.em (∃ x,b.en = .give x) with ⟨x,hen⟩ | hng
  ·rw [cM hb hen] at run
   rw [hen] at hend
   obtain ⟨ea,m',rfl,h2,h3⟩:=hend
   have okx:okO x:=ok.args b hbm x (by rw [hen];exact List.mem_cons_self ..)
   have fin:=q (bc (aS s b.rows).vals) X' (aS s b.rows) sv' tv' _ run.symm st'
   simp [PEnd.op,PEnd.args] at h2 ⊢
   simp [app h2]
   cases x with
   | num k=>simpa [bN,cb] using fin
   | reg n =>
    have:=lX (vals:=(aS s b.rows).vals) (n:=n) (by rw [hw.four];exact okx)
    simpa [bN,this,cb] using fin
  ·have hng:∀ x,b.en≠.give x:=λx e=>hng ⟨x,e⟩
   rw [cH hb hng] at run
   have hlt:=ok.fol.lt b hbm _ (q5 (vals:=(aS s b.rows).vals) hng)
   have hop:b.en.op≠11:=by
    cases e:b.en with
    | give x=>exact absurd e (hng x)
    | _=>exact λh=>nomatch h
   have hnx:=λX=>hend.kp (Kp.app (X:=X))
   obtain ⟨ea,m',rfl,h2,h3⟩:=hend
   have hop':(b.en.op == 11) = false:=beq_eq_false_iff_ne.mpr hop
   simp [hop']
   refine rR (hnx _) cO hw.four (ok.args b hbm) hng ?_
   simp
   exact .mk _ X' (aS s b.rows) sv' tv' _ _ _ _ _ _ _ _ _ _ _ _ hlt st' (by omega) (by omega) run
 ·rintro _ _ ⟨g,X,s,sv,tv,u2,u4,u5,u6,u8,u9,u10,u11,u12,u15,u17,u18,hgl,st,l1,l2,run⟩
  have run:c9 c 40 0 ⟨args,[],[],0⟩ = (none,s):=run.symm
  simpa using q _ X s sv tv none run st
end
end Mine
end
section
namespace Mine
section
variable {hB:Heap} {H:MH}
inductive WeI (H:MH) (a r:Nat):Loc→MH→Prop
 | mk (x:Int) (u:Option MV) (x0:0≤x) (x1:x < 1009):WeI H a r [some (.arg a),some (.int x),u,some (.ref r)] H
private theorem sQ {a:Addr} {vs:Array Value} {ns:List Int} {Q:QV} (hl:hB.IsList a vs) (hi:IntsAre vs.toList ns) (hs:vs.size≤1000) (q:∀ X wl,IsWell (H++X) wl 900000→Q (.ref wl) (H++X)):iZ hB [.arg a] H Q:=by
 refine fn rfl [some (.arg a),none,none,none] rfl ?_
 have hd:∀ K:QV,K (.ref H.length) (H++[.list ((ns.take 63).map .int)])→vU hB 0 63 [some (.arg a),none,none,none] H K:=λK h=>⟨a,vs,ns,rfl,hl,hi,hs,h⟩
 have h63:(ns.take 63).length≤63:=by rw [List.length_take];omega
 generalize ns.take 63 = l at hd h63
 simp [mD]
 refine hd _ ?_
 simp
 obtain ⟨A,hA⟩:∃ A:Nat→List Int,∀ j,A j = (l.take j).map (· % 1000000):=⟨_,λU=>rfl⟩
 have A0:A 0 = []:=hA 0
 have A1:∀ j x,l[j]? = some x→A (j + 1) = A j++[x % 1000000]:=λj x e=>by
  rw [hA,hA,List.take_add_one,e,List.map_append];rfl
 have A2:∀ j,(A j).length≤63:=λj=>by
  rw [hA,List.length_map,List.length_take];exact lh ‹_›
 have A3:∀ x∈A l.length,0≤x:=λx hx=>by
  rw [hA] at hx
  obtain ⟨y,_,rfl⟩:=List.mem_map.mp hx
  exact Int.emod_nonneg _ (by decide)
 clear hA
 refine bX (CI (H++[.list (l.map .int)]) (λj=>bc (A j)) l.length λu=>[u]) ?_ ?_ ?_ ?_
 ·have:=CI.mk (H:=H++[.list (l.map .int)]) (A:=λj=>bc (A j)) (n:=l.length) (F:=λu=>[u]) none (Nat.zero_le _)
  rwa [show bc (A 0) = [] by rw [A0];rfl] at this
 ·rintro j _ _ _ ⟨⟩
  exact ⟨hl0,by rw [bc,List.length_map];have:=A2 j;exact Nat.le_trans ‹_› (by decide)⟩
 ·rintro j m _ _ _ hm ⟨u,_⟩
  obtain ⟨x,hx,rfl⟩:∃ x,l[j]? = some x∧MV.int x = m:=by
   simpa [It.at,List.getElem?_map] using hm
  have nx:=CI.mk (H:=H++[.list (l.map .int)]) (A:=λj=>bc (A j)) (n:=l.length) (F:=λu=>[u]) (j:=j + 1) (some (.int x)) (List.getElem?_eq_some_iff.mp hx).1
  rw [show bc (A (j + 1)) = bc (A j)++[.int (x % 1000000)] by rw [A1 j x hx,bc,List.map_append];rfl] at nx
  simpa using nx
 ·rintro _ _ _ ⟨⟩
  have e:(It.list H.length (l.map MV.int)).size = l.length:=List.length_map _
  rw [e]
  generalize A l.length = ms at A3
  simp
  refine bb (λU=>WeI (H++[.list (l.map .int),.list (bc ms)]) a (H.length + 1)) (.mk 5 _ (by decide) (by decide)) ?_ ?_ ?_
  ·rintro j _ _ ⟨⟩
   exact hG
  ·rintro j m _ _ hm ⟨x,u,x0,x1⟩
   obtain ⟨y,hy,rfl⟩:∃ y,ms[j]? = some y∧MV.int y = m:=by
    simpa [It.at,bc,List.getElem?_map] using hm
   simp
   exact ⟨⟨by omega,by exact Int.lt_trans ‹_› (by decide)⟩,.mk _ _ (Int.emod_nonneg _ (by decide)) (Int.emod_lt_of_pos _ (by decide))⟩
  ·rintro _ _ ⟨x,u,x0,x1⟩
   simp
   exact q [.list (l.map .int),.list (bc ms),.list [.ref (H.length + 1),.int 0,.int x]] (H.length + 2) ⟨H.length + 1,ms,0,x,uZ,hG,by exact Nat.le_refl _,A3,Int.le_refl _,by decide,x0⟩
end
end Mine
end
section
namespace Mine
noncomputable def Dr (wl pa:Nat) (A B:MH):Prop:=A.length≤B.length∧∀ (i:Nat) o,i≠wl→i≠pa→A[i]? = some o→B[i]? = some o
section
variable {wl pa:Nat} {A B C:MH}
private theorem Dr.refl:Dr wl pa A A:=⟨Nat.le_refl _,λU U U U h=>h⟩
private theorem Dr.well {o:MObj} (a:Dr wl pa A B):Dr wl pa A (B.set wl o):=⟨by rw [List.length_set];exact a.1,λi p h1 h2 h=>aJ (a.2 i p h1 h2 h) (Ne.symm h1)⟩
private theorem Dr.put {o:MObj} (a:Dr wl pa A B):Dr wl pa A (B.set pa o):=⟨by rw [List.length_set];exact a.1,λi p h1 h2 h=>aJ (a.2 i p h1 h2 h) (Ne.symm h2)⟩
private theorem Dr.app (a:Dr wl pa A B) (X:MH):Dr wl pa A (B++X):=⟨by rw [List.length_append];have:=a.1;omega,λi p h1 h2 h=>Mine.app (a.2 i p h1 h2 h) X⟩
noncomputable def vw (wl pa:Nat) (A:MH):MH:=cq (cq A wl) pa
private theorem kK:(vw wl pa A).length = A.length:=by rw [vw,bV,bV]
private theorem Dr.kp (a:Dr wl pa A B) (h1:wl < A.length) (h2:pa < A.length):Kp (vw wl pa A) (vw wl pa B):=λi o e f=>by
 unfold vw at e ⊢
 by_cases c:i = pa
 ·subst c;rw [cq,List.getElem?_set_self (by rw [bV];exact h2)] at e;cases e;cases f
 by_cases d:i = wl
 ·subst d
  unfold cq at e
  rw [List.getElem?_set_ne (Ne.symm c),List.getElem?_set_self h1] at e;cases e;cases f
 unfold cq at e
 rw [List.getElem?_set_ne (Ne.symm c),List.getElem?_set_ne (Ne.symm d)] at e
 exact dN (dN (a.2 i o d c e) d) c
private theorem um (h1:wl < A.length) (h2:pa < A.length):Kp (vw wl pa A) A:=λi o e f=>by
 have h:=fY (H:=cq A wl) (a:=pa) (by rw [bV];exact h2) i o e f
 exact fY h1 i o h f
private theorem jg {X:MH} (h1:wl < A.length) (h2:pa < A.length):vw wl pa (A++X) = vw wl pa A++X:=by
 rw [vw,dJ h1,dJ (by rw [bV];exact h2)];rfl
private theorem lW {o:MObj}:vw wl pa (A.set wl o) = vw wl pa A:=by rw [vw,fT];rfl
private theorem zt {o:MObj}:vw wl pa (A.set pa o) = vw wl pa A:=by
 unfold vw
 by_cases c:pa = wl
 ·subst c;rw [fT]
 ·rw [qK c,fT]
end
private theorem IsWell.less {H:MH} {wl b b':Nat} (h:IsWell H wl b) (l:b'≤b):IsWell H wl b':=by
 obtain ⟨na,ns,place,mixed,h1,h2,r1,r2,r3,r4,r5⟩:=h
 exact ⟨na,ns,place,mixed,h1,h2,r1,r2,r3,by omega,r5⟩
private theorem IsWell.put {H:MH} {wl b pa:Nat} {o:MObj} (h:IsWell H wl b) (ne:wl < pa):IsWell (H.set pa o) wl b:=by
 obtain ⟨na,ns,place,mixed,h1,h2,r1,r2,r3,r4,r5⟩:=h
 exact ⟨na,ns,place,mixed,aJ h1 (by exact Nat.ne_of_gt ‹_›),aJ h2 (by omega),r1,r2,r3,r4,r5⟩
end Mine
end
section
namespace Mine
private theorem pr {s:WS} {r:Row} {n:Nat} (h:r.dst≠(n:Int)):(fN s r).vals.getD n 0 = s.vals.getD n 0:=by
 show (if 0≤r.dst then s.vals.set r.dst.toNat _ else s.vals).getD n 0 = _
 by_cases c:0≤r.dst
 ·rw [if_pos c,List.getD_eq_getElem?_getD,List.getD_eq_getElem?_getD,List.getElem?_set_ne (by omega)]
 ·rw [if_neg c]
private theorem sy {s:WS} {r:Row} {n:Nat} (h:r.dst = (n:Int)) (h4:n < s.vals.length):(fN s r).vals.getD n 0 = r.val s (r.args.map (cb s.vals)):=by
 show (if 0≤r.dst then s.vals.set r.dst.toNat _ else s.vals).getD n 0 = _
 rw [if_pos (by omega),show r.dst.toNat = n by omega,List.getD_eq_getElem?_getD,List.getElem?_set_self h4];rfl
private theorem rP {s:WS} {rows:List Row} {x:Opd} {v:Int} (w:WOk s) (ok:∀ r∈rows,okR r) (ox:okO x) (h:kv rows x = some v):cb (aS s rows).vals x = v:=by
 cases x with
 | num k =>
  cases h
  exact (Int.emod_eq_of_lt ox.1 (by have:=ox.2;exact Int.lt_of_le_of_lt ‹_› (by decide))).symm
 | reg n =>
  show (aS s rows).vals.getD n 0 = v
  unfold kv at h;dsimp only at h
  have e:rows = rows.reverse.reverse:=(List.reverse_reverse _).symm
  rw [e] at ok ⊢
  generalize rows.reverse = l at h ok
  clear e
  induction l with
  | nil=>cases h
  | cons r l ih =>
   rw [List.reverse_cons] at ok ⊢
   rw [jO]
   have ok1:∀ r∈l.reverse,okR r:=λr h=>ok r (List.mem_append_left _ h)
   have ok2:okR r:=ok r (List.mem_append_right _ (.head _))
   rw [List.find?_cons] at h
   by_cases c:r.dst = (n:Int)
   ·rw [beq_iff_eq.mpr c] at h
    dsimp only at h
    rw [sy c (by rw [(w.rows ok1).four];exact ox)]
    have m:∀ k,okO (.num k)→k % 4294967296 = k:=λk hk=>Int.emod_eq_of_lt hk.1 (by have:=hk.2;exact Int.lt_of_le_of_lt ‹_› (by decide))
    cases r with
    | const d k=>cases h;exact (m k ok2.2).symm
    | copy d k=>cases h;exact (m k ok2.2).symm
    | _=>cases h
   ·rw [beq_eq_false_iff_ne.mpr c] at h
    rw [pr c]
    exact ih h ok1
private theorem wU {low v:Int} {k:Nat} (v0:0≤v) (v1:v < 4294967296) (h:k≤((v - low) % 4294967296).toNat):((low + (k:Nat)) % 4294967296 = v↔((v - low) % 4294967296).toNat = k):=by
 have p:(0:Int)≤(v - low) % 4294967296:=Int.emod_nonneg _ (by decide)
 have l:(v - low) % 4294967296 < 4294967296:=Int.emod_lt_of_pos _ (by decide)
 obtain ⟨n,e⟩:=Int.eq_ofNat_of_zero_le p
 rw [e,Int.toNat_natCast] at h ⊢
 rw [e] at l
 constructor
 ·intro q
  have:((low + (k:Nat)) % 4294967296 - low) % 4294967296 = (n:Nat):=by rw [q];exact e
  rw [Int.emod_sub_emod,Int.add_comm,Int.add_sub_cancel,Int.emod_eq_of_lt (Int.natCast_nonneg _) (Int.lt_of_le_of_lt (Int.ofNat_le.mpr h) l)] at this
  exact (Int.ofNat.inj this).symm
 ·rintro rfl
  rw [← e,Int.add_emod_emod,Int.add_comm,Int.sub_add_cancel,Int.emod_eq_of_lt v0 v1]
private theorem rS {low:Int} {o:Nat} {v:Int} (v0:0≤v) (v1:v < 4294967296):∀ (row:List Nat) (k:Nat),k≤((v - low) % 4294967296).toNat→gW low o v row k = row.getD (((v - low) % 4294967296).toNat - k) o
 | [],k,_=>rfl
 | g :: r,k,h=>by
  rw [tnc]
  by_cases c:(low + (k:Nat)) % 4294967296 = v
  ·rw [if_pos c,(wU v0 v1 h).mp c,Nat.sub_self];rfl
  ·have h2:=Nat.lt_of_le_of_ne h λe=>c ((wU v0 v1 h).mpr e.symm)
   rw [if_neg c,rS v0 v1 r (k + 1) h2,Nat.sub_add_eq]
   obtain ⟨d,e⟩:∃ d,((v - low) % 4294967296).toNat - k = d + 1:=⟨_,(Nat.sub_add_cancel (Nat.sub_pos_of_lt h2)).symm⟩
   rw [e];rfl
set_option tactic.hygienic true in
private theorem xH {s:WS} {rows:List Row} {e:PEnd} {g:Nat} (w:WOk s) (ok:∀ r∈rows,okR r) (ox:∀ x∈e.args,okO x) (h:stl rows e = some g):nxt (aS s rows).vals e = g:=by
 cases e with
 | branch x t o =>
  have ox:=ox x (.head _)
  rw [sH] at h
  show (if cb (aS s rows).vals x = 0 then o else t) = g
  split at h
  ·rename_i e;subst e;cases h;split <;> rfl
  ·obtain ⟨v,hv,rfl⟩:=Option.map_eq_some_iff.mp h
   rw [rP w ok ox hv]
 | table x low row o =>
  have ox:=ox x (.head _)
  have r:=(w.rows ok).opd ox
  rw [sT] at h
  show gW low o (cb (aS s rows).vals x) row 0 = g
  rw [rS r.1 r.2 row 0 (Nat.zero_le _)]
  split at h
  ·rename_i e
   cases h
   rw [List.getD_eq_getElem?_getD]
   cases hk:row[((cb (aS s rows).vals x - low) % 4294967296).toNat - 0]? with
   | none=>rfl
   | some y=>exact beq_iff_eq.mp (List.all_eq_true.mp e y (List.mem_of_getElem? hk))
  ·obtain ⟨v,hv,rfl⟩:=Option.map_eq_some_iff.mp h
   rw [rP w ok ox hv];rfl
 | _=>cases h
private theorem pP {f:Nat→Nat} {low:Int} {o:Nat} {v:Int}:∀ (row:List Nat) (k:Nat),gW low (f o) v (row.map f) k = f (gW low o v row k)
 | [],_=>rfl
 | g :: r,k=>by
  rw [List.map_cons,tnc,tnc,pP r];split <;> rfl
private theorem t8 {f:Nat→Nat} {vals:List Int} {e:PEnd} (h:∀ x,e≠.give x):nxt vals (e.led f) = f (nxt vals e):=by
 cases e with
 | jump g=>rfl
 | branch x t o=>show (if cb vals x = 0 then f o else f t) = f (if cb vals x = 0 then o else t);split <;> rfl
 | table x low row o=>exact pP row 0
 | give x=>exact absurd rfl (h x)
private theorem zC {c:aB} {a b n:Nat} {s:WS} (h:pj c a = some b):c9 c (n + 1) a s = c9 c n b s:=by
 obtain ⟨p,hp,he,hr,_⟩:=lT h
 rw [cH hp (by rw [he];exact λx h=>by cases h),he,hr];rfl
private theorem sj {c:aB} {y:Nat}:∀ (ps:List Nat) (x:Nat),ps[0]? = some x→ps.getLast? = some y→(∀ (i a b:Nat),ps[i]? = some a→ps[i + 1]? = some b→pj c a = some b)→∃ j,∀ n s,c9 c (n + j) x s = c9 c n y s
 | [],_,h,_,_=>by cases h
 | [a],x,h,h2,_=>by cases h;cases h2;exact ⟨0,λU U=>rfl⟩
 | a :: b :: r,x,h,h2,h3=>by
  cases h
  obtain ⟨j,hj⟩:=sj (b :: r) b rfl (by rwa [List.getLast?_cons_cons] at h2) λi=>h3 (i + 1)
  exact ⟨j + 1,λn s=>by rw [← Nat.add_assoc,zC (h3 0 a b rfl rfl),hj]⟩
private theorem rt {c:aB} {l:List (Nat×Nat)} (h:Lead c l) (g:Nat):∃ j,∀ n s,c9 c (n + j) g s = c9 c n (bH l g) s:=by
 unfold bH
 cases e:l.lookup g with
 | none=>exact ⟨0,λU U=>rfl⟩
 | some y =>
  obtain ⟨ps,_,h0,h1,h2,_⟩:=h.some g y e
  exact sj ps g h0 h1 h2
noncomputable def okC (c:aB):Prop:=(∀ p∈c,∀ r∈p.rows,okR r)∧∀ p∈c,∀ x∈p.en.args,okO x
noncomputable def Sim (c c':aB) (x x':Nat):Prop:=∀ k s,WOk s→∃ n,k≤n∧c9 c' k x' s = c9 c n x s
private theorem Sim.trans {c c1 c2:aB} {x x1 x2:Nat} (a:Sim c c1 x x1) (b:Sim c1 c2 x1 x2):Sim c c2 x x2:=λk s w=>by
 obtain ⟨n,h1,h2⟩:=b k s w
 obtain ⟨m,h3,h4⟩:=a n s w
 exact ⟨m,Nat.le_trans h1 h3,h2.trans h4⟩
private theorem ij {c:aB} {n g:Nat} {s:WS} (h:c[g]? = none):c9 c n g s = (none,s):=by
 cases n with
 | zero=>rfl
 | succ n=>rw [wrS,h];rfl
private theorem rW {c c':aB} {R:Nat→Nat→Prop} (h:∀ x x',R x x'→(c[x]? = none∧c'[x']? = none)∨∃ p p',c[x]? = some p∧c'[x']? = some p'∧(∀ r∈p'.rows,okR r) ∧
  ((∃ a,p.en = .give a∧p'.en = .give a∧p.rows = p'.rows)∨(∀ a,p'.en≠.give a)∧∀ s,WOk s→∃ y,R y (nxt (aS s p'.rows).vals p'.en)∧∃ j,∀ n,c9 c (n + j + 1) x s = c9 c n y (aS s p'.rows))):∀ x x',R x x'→Sim c c' x x':=by
 intro x x' r k
 induction k generalizing x x' with
 | zero=>exact λs w=>⟨0,Nat.le_refl _,rfl⟩
 | succ k ih =>
  intro s w
  rcases h x x' r with ⟨h1,h2⟩ | ⟨p,p',h1,h2,ok,hg⟩
  ·exact ⟨k + 1,Nat.le_refl _,by rw [ij h1,ij h2]⟩
  ·rcases hg with ⟨a,e1,e2,e3⟩ | ⟨hn,hs⟩
   ·exact ⟨k + 1,Nat.le_refl _,by rw [cM h1 e1,cM h2 e2,e3]⟩
   ·obtain ⟨y,ry,j,hj⟩:=hs s w
    obtain ⟨n,hk,hn'⟩:=ih y _ ry (aS s p'.rows) (w.rows ok)
    exact ⟨n + j + 1,by omega,by rw [cH h2 hn,hj,hn']⟩
private theorem mG {f:Nat→Nat} {e:PEnd}:(e.led f).args = e.args:=by cases e <;> rfl
private theorem sC {rows:List Row} {e:PEnd}:∀ x∈(e.settle rows).args,x∈e.args:=by
 unfold PEnd.settle
 cases stl rows e with
 | none=>exact λU h=>h
 | some g=>exact λU h=>nomatch h
private theorem wK {f:Nat→Nat} {e:PEnd} (h:∀ a,e≠.give a):∀ a,e.led f≠.give a:=λa=>by
 cases e with
 | give x=>exact absurd rfl (h x)
 | _=>exact λh=>by cases h
private theorem uJ {rows:List Row} {e:PEnd} (h:∀ a,e≠.give a):∀ a,e.settle rows≠.give a:=λa=>by
 unfold PEnd.settle
 cases stl rows e with
 | none=>exact h a
 | some g=>exact λh=>by cases h
private theorem tX {s:WS} {rows:List Row} {e:PEnd} (w:WOk s) (ok:∀ r∈rows,okR r) (ox:∀ x∈e.args,okO x):nxt (aS s rows).vals (e.settle rows) = nxt (aS s rows).vals e:=by
 unfold PEnd.settle
 cases h:stl rows e with
 | none=>rfl
 | some g=>exact (xH w ok ox h).symm
private theorem xC {c:aB} {l:List (Nat×Nat)} (ok:okC c) (ld:Lead c l) (x:Nat):Sim c (c.map (upd l)) x x:=by
 suffices h:∀ x x',x' = bH l x∨x' = x→Sim c (c.map (upd l)) x x' from h x x (.inr rfl)
 refine λx x' r=>?_
 have main:∀ x,Sim c (c.map (upd l)) x x:=by
  intro x
  refine rW (R:=λx x'=>x = x') ?_ x x rfl
  rintro x _ rfl
  cases hp:c[x]? with
  | none=>exact .inl ⟨rfl,by rw [List.getElem?_map,hp];rfl⟩
  | some p =>
   have mp:=List.mem_of_getElem? hp
   refine .inr ⟨p,upd l p,rfl,by rw [List.getElem?_map,hp];rfl,ok.1 p mp,?_⟩
   by_cases hg:∃ a,p.en = .give a
   ·obtain ⟨a,ha⟩:=hg
    refine .inl ⟨a,ha,?_,rfl⟩
    show (p.en.led (bH l)).settle p.rows = _
    rw [ha];rfl
   ·have hg:∀ a,p.en≠.give a:=λa e=>hg ⟨a,e⟩
    refine .inr ⟨uJ (wK hg),λs w=>⟨_,rfl,?_⟩⟩
    have e:nxt (aS s p.rows).vals (upd l p).en = bH l (nxt (aS s p.rows).vals p.en):=by
     show nxt (aS s p.rows).vals ((p.en.led (bH l)).settle p.rows) = _
     rw [tX w (ok.1 p mp) (by rw [mG];exact ok.2 p mp),t8 hg]
    obtain ⟨j,hj⟩:=rt ld (nxt (aS s p.rows).vals p.en)
    refine ⟨j,λn=>?_⟩
    rw [cH hp hg,hj]
    show _ = c9 c n (nxt (aS s p.rows).vals (upd l p).en) _
    rw [e];rfl
 rcases r with rfl | rfl
 ·obtain ⟨j,hj⟩:=rt ld x
  intro k s w
  obtain ⟨n,h1,h2⟩:=main (bH l x) k s w
  exact ⟨n + j,by omega,by rw [hj,h2]⟩
 ·exact main _
private theorem okC.upd {c:aB} (l:List (Nat×Nat)) (ok:okC c):okC (c.map (upd l)):=by
 refine ⟨λp hp=>?_,λp hp x hx=>?_⟩
 ·obtain ⟨q,hq,rfl⟩:=List.mem_map.mp hp
  exact ok.1 q hq
 ·obtain ⟨q,hq,rfl⟩:=List.mem_map.mp hp
  have:=sC x hx
  rw [mG] at this
  exact ok.2 q hq x this
private theorem ic {s:WS} {l m:List Row}:aS s (l++m) = aS (aS s l) m:=List.foldl_append ..
private theorem uB {row E gone:List Nat} {c c2:aB} (ok:okC c) (h:Join row E c c2 gone):okC c2:=by
 induction h with
 | refl=>exact ok
 | step c gone v g p q _ _ _ hp he _ gv _ hq ih =>
  refine ⟨λr hr=>?_,λr hr=>?_⟩
  ·rcases List.mem_or_eq_of_mem_set hr with hr | rfl
   ·exact ih.1 r hr
   ·intro x hx
    rcases List.mem_append.mp hx with hx | hx
    ·exact ih.1 p (List.mem_of_getElem? hp) x hx
    ·exact ih.1 q (List.mem_of_getElem? hq) x hx
  ·rcases List.mem_or_eq_of_mem_set hr with hr | rfl
   ·exact ih.2 r hr
   ·exact ih.2 q (List.mem_of_getElem? hq)
private theorem wi {row E gone:List Nat} {c c2:aB} (ok:okC c) (h:Join row E c c2 gone):∀ x,Sim c c2 x x:=by
 induction h with
 | refl=>exact λx k s U=>⟨k,Nat.le_refl _,rfl⟩
 | step c gone v g p q hj _ _ hp he _ gv _ hq ih =>
  intro x
  refine (ih x).trans ?_
  have ok2:=uB ok hj
  have hv:=(List.getElem?_eq_some_iff.mp hp).1
  have hpg:∀ a,p.en≠.give a:=λa e=>by rw [he] at e;cases e
  intro k
  induction k generalizing x with
  | zero=>exact λs w=>⟨0,Nat.le_refl _,rfl⟩
  | succ k ih2 =>
   intro s w
   by_cases e:x = v
   ·subst e
    have h2:(c.set x ⟨p.rows++q.rows,q.en⟩)[x]? = some ⟨p.rows++q.rows,q.en⟩:=List.getElem?_set_self hv
    have h3:∀ n,c9 c (n + 1) x s = c9 c n g (aS s p.rows):=λn=>by rw [cH hp hpg,he];rfl
    by_cases hg:∃ a,q.en = .give a
    ·obtain ⟨a,ha⟩:=hg
     exact ⟨k + 1 + 1,by exact Nat.le_add_right _ _,by rw [cM h2 ha,h3,cM hq ha,ic]⟩
    ·have hg:∀ a,q.en≠.give a:=λa e=>hg ⟨a,e⟩
     obtain ⟨n,h4,h5⟩:=ih2 (nxt (aS (aS s p.rows) q.rows).vals q.en) (aS (aS s p.rows) q.rows) ((w.rows (ok2.1 p (List.mem_of_getElem? hp))).rows (ok2.1 q (List.mem_of_getElem? hq)))
     exact ⟨n + 1 + 1,by omega,by rw [cH h2 hg,h3,cH hq hg,← h5];simp only [ic]⟩
   ·have h2:(c.set v ⟨p.rows++q.rows,q.en⟩)[x]? = c[x]?:=List.getElem?_set_ne (Ne.symm e)
    cases hx:c[x]? with
    | none=>exact ⟨k + 1,Nat.le_refl _,by rw [ij hx,ij (h2.trans hx)]⟩
    | some b =>
     by_cases hg:∃ a,b.en = .give a
     ·obtain ⟨a,ha⟩:=hg
      exact ⟨k + 1,by exact Nat.le_refl _,by rw [cM (h2.trans hx) ha,cM hx ha]⟩
     ·have hg:∀ a,b.en≠.give a:=λa e=>hg ⟨a,e⟩
      obtain ⟨n,h4,h5⟩:=ih2 (nxt (aS s b.rows).vals b.en) (aS s b.rows) (w.rows (ok2.1 b (List.mem_of_getElem? hx)))
      exact ⟨n + 1,by exact Nat.lt_succ_of_le ‹_›,by rw [cH (h2.trans hx) hg,cH hx hg,← h5]⟩
end Mine
end
section
namespace Mine
private theorem w7 {kept:List Nat} {c:aB} {j v:Nat} {p:PBlock} (h:kept[j]? = some v) (hp:c[v]? = some p):(dQ kept c)[j]? = some (kpB kept p):=by
 rw [dQ,List.getElem?_map,h,Option.map_some,hp]
private theorem okC.keep {kept:List Nat} {c:aB} (ok:okC c) (lt:∀ v∈kept,v < c.length):okC (dQ kept c):=by
 have h:∀ p∈dQ kept c,∃ q∈c,p = kpB kept q:=λp hp=>by
  obtain ⟨v,hv,rfl⟩:=List.mem_map.mp hp
  have hvl:=lt v hv
  refine ⟨c[v],List.getElem_mem hvl,?_⟩
  rw [List.getElem?_eq_getElem hvl]
 refine ⟨λp hp=>?_,λp hp x hx=>?_⟩
 ·obtain ⟨q,hq,rfl⟩:=h p hp
  exact ok.1 q hq
 ·obtain ⟨q,hq,rfl⟩:=h p hp
  exact ok.2 q hq x (by rwa [kpB,mG] at hx)
private theorem xe {kept:List Nat} {c:aB} (ok:okC c) (lt:∀ v∈kept,v < c.length) (hf:∀ v∈kept,∀ g∈be c v,g∈kept):∀ v j,kept[j]? = some v→Sim c (dQ kept c) v j:=by
 refine rW λv j h=>?_
 have hv:=List.mem_of_getElem? h
 have hp:c[v]? = some (c[v]'(lt v hv)):=List.getElem?_eq_getElem (lt v hv)
 generalize c[v]'(lt v hv) = p at hp
 have mp:=List.mem_of_getElem? hp
 refine .inr ⟨p,_,hp,w7 h hp,ok.1 p mp,?_⟩
 by_cases hg:∃ a,p.en = .give a
 ·obtain ⟨a,ha⟩:=hg
  exact .inl ⟨a,ha,by rw [kpB,ha];rfl,rfl⟩
 ·have hg:∀ a,p.en≠.give a:=λa e=>hg ⟨a,e⟩
  refine .inr ⟨wK hg,λs w=>⟨nxt (aS s p.rows).vals p.en,?_,0,λn=>by rw [Nat.add_zero,cH hp hg];rfl⟩⟩
  show kept[nxt (aS s p.rows).vals (p.en.led (pl kept))]? = _
  rw [t8 hg]
  exact (ux (hf v hv _ (by rw [dB hp];exact q5 hg))).2
private theorem vc {kept:List Nat} (h:0∈kept) (s:kept.Pairwise (·≤·)):kept[0]? = some 0:=by
 cases kept with
 | nil=>cases h
 | cons a r =>
  rcases List.mem_cons.mp h with rfl | h
  ·rfl
  ·have:=(List.pairwise_cons.mp s).1 0 h
   rw [show a = 0 by omega];rfl
private theorem Once.sim {c c':aB} {b:Bool} (w:Wf c) (ok:okC c) (o:Once c c' b):Sim c c' 0 0∧okC c':=by
 obtain ⟨l,row,c2,gone,ld,ro,js,nj,fin⟩:=o
 have w1:=w.upd ld
 have s1:=(xC ok ld 0).trans (wi (ok.upd l) js.rel 0)
 have ok2:=uB (ok.upd l) js.rel
 rcases fin with ⟨_,_,kept,k,rfl⟩ | ⟨h1,_,rfl,_⟩
 ·have z:=(ro.mem 0).mpr .zero
  obtain ⟨_,lt,_,_⟩:=js.kept k w1.fol (w1.row ro) z
  have zk:0∈kept:=k.perm.mem_iff.mpr (mem_live.mpr ⟨z,λhg=>(js.gsub 0 hg).2 rfl⟩)
  exact ⟨s1.trans (xe ok2 lt (λv hv g hg=>js.kept_fol k hv hg) 0 0 (vc zk k.sorted)),ok2.keep lt⟩
 ·exact ⟨s1,ok2⟩
noncomputable def PEnd.br (e0:PEnd):Nat:=PEnd.rec (motive:=λU=>Nat) (λU=>0) (λU U U=>1) (λU U U U=>1) (λU=>0) e0
noncomputable def qa (c:aB) (v:Nat):Nat:=match c[v]? with | some p=>p.en.br | none=>0
private theorem jM {c:aB} {i:Nat} {p:PBlock} (h:c[i]? = some p):qa c i = p.en.br:=by unfold qa;rw [h]
noncomputable def brs (c:aB):Nat:=(c.map λp=>p.en.br).sum
private theorem vB {f:Nat→Nat} {e:PEnd}:(e.led f).br = e.br:=by cases e <;> rfl
private theorem vj {rows:List Row} {e:PEnd}:(e.settle rows).br≤e.br:=by
 unfold PEnd.settle
 cases stl rows e with
 | none=>exact Nat.le_refl _
 | some g=>exact Nat.zero_le _
private theorem qA {α:Type} {f g:α→Nat}:∀ {l:List α},(∀ x∈l,f x≤g x)→(l.map f).sum≤(l.map g).sum
 | [],_=>Nat.le_refl _
 | a :: l,h=>by
  rw [List.map_cons,List.map_cons,List.sum_cons,List.sum_cons]
  exact Nat.add_le_add (h a (.head _)) (qA λx hx=>h x (.tail _ hx))
private theorem wo {α:Type} {f g:α→Nat}:∀ {l:List α},(∀ x∈l,f x≤g x)→(∃ x∈l,f x < g x)→(l.map f).sum < (l.map g).sum
 | [],_,h=>by obtain ⟨_,h,_⟩:=h;cases h
 | a :: l,h,hs=>by
  rw [List.map_cons,List.map_cons,List.sum_cons,List.sum_cons]
  have h1:=h a (.head _)
  have h2:=qA λx hx=>h x (.tail _ hx)
  obtain ⟨x,hx,lt⟩:=hs
  rcases List.mem_cons.mp hx with rfl | hx
  ·exact Nat.add_lt_add_of_lt_of_le ‹_› ‹_›
  ·have:=wo (λx hx=>h x (.tail _ hx)) ⟨x,hx,lt⟩
   exact Nat.add_lt_add_of_le_of_lt ‹_› ‹_›
private theorem zs {c:aB}:brs c = ((List.range c.length).map (qa c)).sum:=by
 unfold brs
 congr 1
 refine List.ext_getElem? λi=>?_
 rw [List.getElem?_map,List.getElem?_map]
 by_cases hi:i < c.length
 ·rw [List.getElem?_range hi,List.getElem?_eq_getElem hi,Option.map_some,Option.map_some,jM (List.getElem?_eq_getElem hi)]
 ·rw [List.getElem?_eq_none (by exact Nat.le_of_not_lt ‹_›),List.getElem?_eq_none (by simpa using hi)];rfl
private theorem vE {l:List (Nat×Nat)} {p:PBlock}:(upd l p).en.br≤p.en.br:=by
 have:=vj (rows:=p.rows) (e:=p.en.led (bH l))
 rwa [vB] at this
private theorem xt {c:aB} {l:List (Nat×Nat)}:brs (c.map (upd l))≤brs c:=by
 unfold brs
 rw [List.map_map]
 exact qA λx U=>vE
private theorem wO {c0 c:aB} {row E gone:List Nat} {S:Nat} (s0:JS c0 row E S c0 []) (h:Join row E c0 c gone):JS c0 row E S c gone∧((dP row gone).map (qa c)).sum = (row.map (qa c0)).sum:=by
 induction h with
 | refl =>
  refine ⟨s0,?_⟩
  congr 2
  exact List.filter_eq_self.mpr λU U=>rfl
 | step c gone v g p q hj hv hn hp he g0 gv h1 hq ih =>
  obtain ⟨js,hs⟩:=ih
  refine ⟨js.step hv hn hp he g0 gv h1 hq,?_⟩
  obtain ⟨hgr,_,hgn⟩:=js.pos hv hn hp he
  have hvl:=(List.getElem?_eq_some_iff.mp hp).1
  obtain ⟨R,e1,e2⟩:=kX (f:=qa c) (f':=qa (c.set v ⟨p.rows++q.rows,q.en⟩)) js.nd (mem_live.mpr ⟨hv,hn⟩) (mem_live.mpr ⟨hgr,hgn h1⟩) gv λu hu=>by
   unfold qa;rw [List.getElem?_set_ne (Ne.symm hu)]
  rw [jM (List.getElem?_set_self hvl)] at e2
  rw [jM hp,jM hq,he] at e1
  rw [e2,← hs,e1]
  simp only [PEnd.br];omega
private theorem vN {c:aB} {kept:List Nat} (lt:∀ v∈kept,v < c.length):brs (dQ kept c) = (kept.map (qa c)).sum:=by
 unfold brs dQ
 rw [List.map_map]
 congr 1
 refine List.map_congr_left λv hv=>?_
 have hp:c[v]? = some (c[v]'(lt v hv)):=List.getElem?_eq_getElem (lt v hv)
 show PEnd.br (PBlock.en (match c[v]? with | some p=>kpB kept p | none=>_)) = _
 rw [jM hp,hp]
 exact vB
private theorem LG.uniq {F:Nat→Option Nat} {x y y':Nat} (a:LG F x y) (b:LG F x y'):y = y':=by
 obtain ⟨ps,nd,h0,h1,h2,h3⟩:=a
 obtain ⟨qs,nd',h0',h1',h2',h3'⟩:=b
 have same:∀ {ps qs:List Nat},ps[0]? = some x→qs[0]? = some x→(∀ (i a b:Nat),ps[i]? = some a→ps[i + 1]? = some b→F a = some b)→(∀ (i a b:Nat),qs[i]? = some a→qs[i + 1]? = some b→F a = some b) →
   ∀ (i:Nat) a b,ps[i]? = some a→qs[i]? = some b→a = b:=by
  intro ps qs h0 h0' h2 h2' i
  induction i with
  | zero=>intro a b e e';rw [h0] at e;rw [h0'] at e';cases e;cases e';rfl
  | succ i ih =>
   intro a b e e'
   have hi:=(List.getElem?_eq_some_iff.mp e).1
   have hi':=(List.getElem?_eq_some_iff.mp e').1
   have e1:ps[i]? = some ps[i]:=List.getElem?_eq_getElem (Nat.lt_of_succ_lt hi)
   have e2:qs[i]? = some qs[i]:=List.getElem?_eq_getElem (Nat.lt_of_succ_lt hi')
   have e3:=ih _ _ e1 e2
   have e4:=h2 i _ _ e1 e
   have e5:=h2' i _ _ e2 e'
   rw [e3,e5] at e4
   exact (Option.some.inj e4).symm
 have notlt:∀ {ps qs:List Nat} {y y':Nat},ps[0]? = some x→qs[0]? = some x→(∀ (i a b:Nat),ps[i]? = some a→ps[i + 1]? = some b→F a = some b)→(∀ (i a b:Nat),qs[i]? = some a→qs[i + 1]? = some b→F a = some b) →
   ps.getLast? = some y→(∀ z,F y = some z→z∈ps)→qs.Nodup→¬ ps.length < qs.length:=by
  intro ps qs y y' h0 h0' h2 h2' hl h3 nd hlt
  have hp:0 < ps.length:=(List.getElem?_eq_some_iff.mp h0).1
  rw [List.getLast?_eq_getElem?] at hl
  have e2:qs[ps.length]? = some qs[ps.length]:=List.getElem?_eq_getElem hlt
  have e1:qs[ps.length - 1]? = some (qs[ps.length - 1]'(Nat.lt_of_le_of_lt (Nat.sub_le _ _) hlt)):=List.getElem?_eq_getElem (Nat.lt_of_le_of_lt (Nat.sub_le _ _) hlt)
  have e3:=same h0 h0' h2 h2' _ _ _ hl e1
  have e4:=h2' (ps.length - 1) _ _ e1 (by rw [show ps.length - 1 + 1 = ps.length from Nat.sub_add_cancel hp];exact e2)
  rw [← e3] at e4
  obtain ⟨i,hi⟩:=List.mem_iff_getElem?.mp (h3 _ e4)
  have hil:=(List.getElem?_eq_some_iff.mp hi).1
  have e5:qs[i]? = some (qs[i]'(Nat.lt_trans hil hlt)):=List.getElem?_eq_getElem (Nat.lt_trans hil hlt)
  have e6:=same h0 h0' h2 h2' _ _ _ hi e5
  rw [← e6] at e5
  exact absurd ((List.getElem?_inj hlt nd).mp (e2.trans e5.symm)) (Nat.ne_of_gt hil)
 have l1:=notlt (y':=y') h0 h0' h2 h2' h1 h3 nd'
 have l2:=notlt (y':=y) h0' h0 h2' h2 h1' h3' nd
 rw [List.getLast?_eq_getElem?] at h1 h1'
 exact same h0 h0' h2 h2' (ps.length - 1) _ _ h1 (by rwa [show ps.length = qs.length from Nat.le_antisymm (Nat.not_lt.mp l2) (Nat.not_lt.mp l1)])
private theorem LG.stay {F:Nat→Option Nat} {g y:Nat} (h:LG F g y) (e:F g = none):y = g:=by
 obtain ⟨ps,nd,h0,h1,h2,h3⟩:=h
 have hp:0 < ps.length:=(List.getElem?_eq_some_iff.mp h0).1
 cases e1:ps[1]? with
 | some b=>rw [h2 0 g b h0 e1] at e;cases e
 | none =>
  have:=List.getElem?_eq_none_iff.mp e1
  rw [List.getLast?_eq_getElem?,show ps.length - 1 = 0 from Nat.sub_eq_zero_of_le this,h0] at h1
  exact (Option.some.inj h1).symm
private theorem y4 {c:aB} {a b:Nat} (e:pj c a = some b):b≠a:=(lT e).elim λU h=>h.2.2.2
private theorem Lead.stay {c:aB} {l:List (Nat×Nat)} (h:Lead c l) {g:Nat} (e:pj c g = Option.none):bH l g = g:=by
 unfold bH
 cases hl:l.lookup g with
 | none=>rfl
 | some y=>exact (h.some g y hl).stay e
private theorem Lead.end_ {c:aB} {l:List (Nat×Nat)} (h:Lead c l) (g z:Nat) (e:pj c (bH l g) = Option.some z):bH l z = bH l g:=by
 unfold bH at e ⊢
 cases hl:l.lookup g with
 | none =>
  rw [hl] at e
  have:=h.none g hl
  rw [Option.getD_none,this] at e;cases e
 | some y =>
  rw [hl] at e
  rw [Option.getD_some] at e ⊢
  have hg:=h.some g y hl
  obtain ⟨ps,nd,h0,h1,h2,h3⟩:=hg
  obtain ⟨i,hi⟩:=List.mem_iff_getElem?.mp (h3 z e)
  have hil:=(List.getElem?_eq_some_iff.mp hi).1
  rw [List.getLast?_eq_getElem?] at h1
  have lg:LG (pj c) z y:=by
   refine ⟨ps.drop i,nd.sublist (List.drop_sublist _ _),by rw [List.getElem?_drop];exact hi,by rw [List.getLast?_eq_getElem?,List.getElem?_drop,List.length_drop,show i + (ps.length - i - 1) = ps.length - 1 by rw [Nat.sub_right_comm];exact Nat.add_sub_of_le (Nat.le_sub_one_of_lt (List.getElem?_eq_some_iff.mp hi).1)];exact h1,λj a b ha hb=>?_,λw hw=>?_⟩
   ·rw [List.getElem?_drop] at ha hb
    exact h2 (i + j) a b ha hb
   ·rw [e] at hw;cases hw
    exact List.mem_iff_getElem?.mpr ⟨0,by rw [List.getElem?_drop];exact hi⟩
  cases hz:l.lookup z with
  | some y'=>exact (h.some z y' hz).uniq lg
  | none =>
   have hn:=h.none z hz
   have:=lg.stay hn
   subst this
   exact absurd rfl (y4 e)
private theorem zd {c:aB} {l:List (Nat×Nat)} (h:Lead c l) (g:Nat):pj (c.map (upd l)) (bH l g) = none∨∃ p∈c,stl p.rows (p.en.led (bH l))≠none:=by
 by_cases hs:∃ p∈c,stl p.rows (p.en.led (bH l))≠none
 ·exact .inr hs
 refine .inl ?_
 cases e:pj (c.map (upd l)) (bH l g) with
 | none=>rfl
 | some y =>
  obtain ⟨p',hp',he',hr',hne⟩:=lT e
  rw [List.getElem?_map] at hp'
  obtain ⟨p,hp,rfl⟩:=Option.map_eq_some_iff.mp hp'
  have hst:stl p.rows (p.en.led (bH l)) = none:=by
   cases e:stl p.rows (p.en.led (bH l)) with
   | none=>rfl
   | some g=>exact absurd ⟨p,List.mem_of_getElem? hp,kT e⟩ hs
  have hu:upd l p = ⟨p.rows,p.en.led (bH l)⟩:=by
   unfold upd PEnd.settle;rw [hst]
  rw [hu] at he' hr'
  cases he:p.en with
  | jump x =>
   rw [he] at he'
   obtain rfl:=PEnd.jump.inj he'
   refine absurd ?_ hne
   have q:=wX hp he hr'
   by_cases hx:x = bH l g
   ·rw [if_pos hx] at q;rw [hx];exact h.stay q
   ·rw [if_neg hx] at q;exact h.end_ g x q
  | _=>rw [he] at he';cases he'
open Classical in
noncomputable def meas (c:aB):Nat:=2 * (c.length + brs c) + if ∃ p∈c,∃ g∈p.en.fol,pj c g≠none then 1 else 0
private theorem Once.falls {c c':aB} (w:Wf c) (o:Once c c' true):meas c' < meas c:=by
 obtain ⟨l,row,c2,gone,ld,ro,js,nj,fin⟩:=o
 have w1:=w.upd ld
 have bl:=xt (c:=c) (l:=l)
 rcases fin with ⟨h1,_,kept,k,rfl⟩ | ⟨h1,h2,rfl,h3⟩
 ·have z:=(ro.mem 0).mpr .zero
  obtain ⟨_,lt,_,_⟩:=js.kept k w1.fol (w1.row ro) z
  obtain ⟨_,hb⟩:=wO (.start ro w1.fol) js.rel
  have hk:kept.length < c.length:=by
   have e1:=k.perm.length_eq
   have e2:row.length≤c.length:=by
    have:=ro.len w1.fol
    rwa [List.length_map] at this
   rcases h1 with h1 | h1
   ·have:(dP row gone).length < row.length:=by
     refine Nat.lt_of_le_of_ne (List.length_filter_le _ _) λe=>?_
     obtain ⟨g,hg⟩:=List.exists_mem_of_ne_nil gone h1
     have:=List.length_filter_eq_length_iff.mp e g (js.gsub g hg).1
     simp [hg] at this
    omega
   ·have:=List.length_filter_le (λv=>!gone.contains v) row
    unfold dP at e1
    omega
  have hbr:brs (dQ kept c2)≤brs c:=by
   rw [vN lt,(k.perm.map _).sum_nat,hb]
   refine Nat.le_trans (Nat.le_trans (qB (m:=List.range (c.map (upd l)).length) ro.nd λx hx=>List.mem_range.mpr (ro.lt w1.fol x hx)) ?_) bl
   rw [zs];exact Nat.le_refl _
  have hl:(dQ kept c2).length = kept.length:=List.length_map _
  unfold meas
  rw [hl]
  split <;> split <;> omega
 ·obtain ⟨rfl,_⟩:=nj h1
  have hne:=h3.mp rfl
  have hl:(c.map (upd l)).length = c.length:=List.length_map _
  by_cases hs:∃ p∈c,stl p.rows (p.en.led (bH l))≠none
  ·have:brs (c.map (upd l)) < brs c:=by
    unfold brs
    rw [List.map_map]
    refine wo (λx U=>vE) ?_
    obtain ⟨p,hp,hn⟩:=hs
    refine ⟨p,hp,?_⟩
    show ((p.en.led (bH l)).settle p.rows).br < _
    cases e:stl p.rows (p.en.led (bH l)) with
    | none=>exact absurd e hn
    | some g =>
     unfold PEnd.settle
     rw [e]
     cases he:p.en with
     | branch x t o=>exact Nat.zero_lt_one
     | table x low r o=>exact Nat.zero_lt_one
     | _=>rw [he] at e;cases e
   unfold meas
   rw [hl]
   split <;> split <;> omega
  ·have hu:∀ p∈c,upd l p = ⟨p.rows,p.en.led (bH l)⟩:=λp hp=>by
    unfold upd PEnd.settle
    cases e:stl p.rows (p.en.led (bH l)) with
    | none=>rfl
    | some g=>exact absurd ⟨p,hp,kT e⟩ hs
   have f1:∃ p∈c,∃ g∈p.en.fol,pj c g≠none:=Classical.byContradiction λhno=>hne <| (List.map_congr_left (g:=id) λp hp=>by
    rw [hu p hp,rh λg hg=>?_];rfl
    refine ld.stay ?_
    cases e:pj c g with
    | none=>rfl
    | some z=>exact absurd ⟨p,hp,g,hg,kT e⟩ hno).trans (List.map_id _)
   have f2:¬ ∃ p∈c.map (upd l),∃ g∈p.en.fol,pj (c.map (upd l)) g≠none:=by
    rintro ⟨p1,hp1,g,hg,hn⟩
    obtain ⟨p,hp,rfl⟩:=List.mem_map.mp hp1
    rw [hu p hp] at hg
    dsimp only at hg
    rw [iB] at hg
    obtain ⟨x,hx,rfl⟩:=List.mem_map.mp hg
    exact (zd ld x).elim hn hs
   unfold meas
   rw [hl,if_pos f1,if_neg f2]
   omega
end Mine
end
section
namespace Mine
private theorem qf {row:List Nat} {n:Nat} (nd:row.Nodup) (lt:∀ x∈row,x < n) (h:¬ row.length < n):row.Perm (List.range n):=by
 refine (List.perm_ext_iff_of_nodup nd List.nodup_range).mpr λx=>⟨λhx=>List.mem_range.mpr (lt x hx),λhx=>Classical.byContradiction λhn=>h ?_⟩
 have:=List.Nodup.length_le_of_subset (l₁:=x :: row) (l₂:=List.range n) (List.nodup_cons.mpr ⟨hn,nd⟩) λy hy=>by
  rcases List.mem_cons.mp hy with rfl | hy
  ·exact hx
  ·exact List.mem_range.mpr (lt y hy)
 rw [List.length_range] at this
 exact this
private theorem eZ {α β:Type} [BEq β] {a:β} {f:α→List β}:∀ {l:List α},(l.flatMap f).count a = (l.map λx=>(f x).count a).sum
 | []=>rfl
 | x :: l=>by rw [List.flatMap_cons,List.count_append,List.map_cons,List.sum_cons,eZ]
private theorem Once.fix {c c':aB} (w:Wf c) (o:Once c c' false):c' = c∧Straight c:=by
 obtain ⟨l,row,c2,gone,ld,ro,js,nj,fin⟩:=o
 have w1:=w.upd ld
 rcases fin with ⟨_,h,_⟩ | ⟨h1,h2,rfl,h3⟩
 ·cases h
 ·obtain ⟨rfl,nj2⟩:=nj h1
  have e:c.map (upd l) = c:=Classical.byContradiction λhn=>absurd (h3.mpr hn) (by decide)
  rw [e] at ro nj2 w1 ⊢
  have hu:∀ p∈c,upd l p = p:=λp hp=>by
   obtain ⟨i,hi⟩:=List.mem_iff_getElem?.mp hp
   have:=congrArg (λd:aB=>d[i]?) e
   rw [List.getElem?_map,hi] at this
   exact Option.some.inj this
  have hs:∀ p∈c,stl p.rows (p.en.led (bH l)) = none∧p.en.led (bH l) = p.en:=λp hp=>by
   have h:=congrArg PBlock.en (hu p hp)
   change (p.en.led (bH l)).settle p.rows = p.en at h
   unfold PEnd.settle at h
   cases hst:stl p.rows (p.en.led (bH l)) with
   | none=>rw [hst] at h;exact ⟨rfl,h⟩
   | some g=>rw [hst] at h;rw [← h] at hst;cases hst
  have pm:=qf ro.nd (ro.lt w1.fol) h2
  refine ⟨rfl,⟨λi hi=>(ro.mem i).mp (pm.mem_iff.mpr (List.mem_range.mpr hi)),λp hp=>?_,λv p g hv he=>?_,λp hp g hg=>?_⟩⟩
  ·obtain ⟨a,b⟩:=hs p hp
   rwa [b] at a
  ·have:=nj2 v (pm.mem_iff.mpr (List.mem_range.mpr (List.getElem?_eq_some_iff.mp hv).1)) p g hv he
   rwa [eZ,(pm.map _).sum_nat,← eZ] at this
  ·have hg':bH l g = g:=by
    have:=congrArg PEnd.fol (hs p hp).2
    rw [iB] at this
    have:=List.map_inj_left.mp (this.trans (List.map_id p.en.fol).symm) g hg
    exact this
   unfold bH at hg'
   cases hl:l.lookup g with
   | none=>exact ld.none g hl
   | some y =>
    rw [hl,Option.getD_some] at hg'
    subst hg'
    obtain ⟨ps,nd,h0,h1,_,h3⟩:=ld.some y y hl
    have hp0:0 < ps.length:=(List.getElem?_eq_some_iff.mp h0).1
    rw [List.getLast?_eq_getElem?] at h1
    have h01:=(List.getElem?_inj hp0 nd).mp (h0.trans h1.symm)
    cases hz:pj c y with
    | none=>rfl
    | some z =>
     obtain ⟨i,hi⟩:=List.mem_iff_getElem?.mp (h3 z hz)
     have hil:=(List.getElem?_eq_some_iff.mp hi).1
     rw [show i = 0 from Nat.le_zero.mp (h01 ▸ Nat.le_sub_one_of_lt hil),h0] at hi
     cases hi
     exact absurd rfl (y4 hz)
private theorem Straight.once {c c':aB} {b:Bool} (w:Wf c) (s:Straight c) (o:Once c c' b):b = false:=by
 obtain ⟨l,row,c2,gone,ld,ro,js,nj,fin⟩:=o
 have e:c.map (upd l) = c:=(List.map_congr_left (g:=id) λp hp=>by
  have h:p.en.led (bH l) = p.en:=rh λg hg=>ld.stay (s.plain p hp g hg)
  unfold upd PEnd.settle
  rw [h,s.settled p hp];rfl).trans (List.map_id _)
 rw [e] at ro js nj fin
 have hl:¬ row.length < c.length:=λh=>by
  have:=List.Nodup.length_le_of_subset (l₁:=List.range c.length) List.nodup_range (l₂:=row) λx hx=>(ro.mem x).mpr (s.reach x (List.mem_range.mp hx))
  rw [List.length_range] at this;exact absurd ‹_› (Nat.not_lt_of_le ‹_›)
 have pm:=qf ro.nd (ro.lt w.fol) hl
 have hj:gone = []:=by
  have key:∀ {c2:aB} {gone:List Nat},Join row (row.flatMap (be c)) c c2 gone→c2 = c∧gone = []:=by
   intro c2 gone h
   induction h with
   | refl=>exact ⟨rfl,rfl⟩
   | step c1 gone v g p q _ _ _ hp he g0 gv h1 _ ih =>
    obtain ⟨rfl,rfl⟩:=ih
    have:=s.join v p g hp he
    rw [eZ,(pm.map _).sum_nat,← eZ] at h1
    rcases this with h | h | h
    ·exact absurd h g0
    ·exact absurd h gv
    ·exact absurd h1 h
  exact (key js.rel).2
 rcases fin with ⟨h | h,_⟩ | ⟨_,_,_,h⟩
 ·exact absurd hj h
 ·exact absurd h hl
 ·cases b with
  | false=>rfl
  | true=>exact absurd rfl (h.mp rfl)
structure Final (c c':aB) (b:Bool):Prop where
 wf:Wf c'
 ok:okC c'
 sim:Sim c c' 0 0
 st:Straight c'
 ch:b = true↔c'≠c
private theorem Run.final {c c':aB} {b:Bool} (r:Run c c' b):Wf c→okC c→Final c c' b∧(b = true→meas c' < meas c):=by
 induction r with
 | stop o =>
  intro w ok
  obtain ⟨rfl,st⟩:=o.fix w
  exact ⟨⟨w,ok,λk s U=>⟨k,Nat.le_refl _,rfl⟩,st,⟨(λh=>nomatch h),λh=>absurd rfl h⟩⟩,λh=>nomatch h⟩
 | @more c c1 c' b o r ih =>
  intro w ok
  obtain ⟨s1,ok1⟩:=o.sim w ok
  obtain ⟨f,fm⟩:=ih (o.wf w) ok1
  have hm:meas c' < meas c:=by
   have h1:=o.falls w
   cases b with
   | true=>exact Nat.lt_trans (fm rfl) h1
   | false =>
    have:c' = c1:=Classical.byContradiction λh=>absurd (f.ch.mpr h) (by decide)
    rw [this];exact h1
  exact ⟨⟨f.wf,f.ok,s1.trans f.sim,f.st,⟨λU e=>by rw [e] at hm;(exact Nat.lt_irrefl _ ‹_›),λU=>rfl⟩⟩,λU=>hm⟩
private theorem Run.again {c c':aB} {b:Bool} (w:Wf c) (s:Straight c) (r:Run c c' b):b = false∧c' = c:=by
 cases r with
 | stop o=>exact ⟨rfl,(o.fix w).1⟩
 | more o _=>exact nomatch s.once w o
private theorem Wf.toOk {c:aB} (w:Wf c) (ok:okC c):Ok c:=⟨w.fol,ok.1,ok.2,w.few⟩
end Mine
end
section
namespace Mine
structure MainB (names:List Nat) (m k:Nat) (b:PBlock):Prop where
 rows:∀ r∈b.rows,okR r∧r.dst < 3
 few:b.rows.length≤2
 args:∀ x∈b.en.args,okO x
 fol:b.en.fol.length≤101
 up:∀ g∈b.en.fol,∃ i,k < i∧names[i]? = some g
 last:k + 1 = m→b.en = .give (.reg 2)
structure DI (wl pa b:Nat) (H0 H:MH) (vs:List MV) (c:aB):Prop where
 well:IsWell H wl b
 dr:Dr wl pa H0 H
 at_:H[pa]? = some (.list vs)
 all:All2 (IsPl (vw wl pa H)) vs c
section
variable {wl pa b b':Nat} {H0 H H':MH} {vs:List MV} {c:aB}
private theorem DI.go (h:DI wl pa b H0 H vs c) {o:MObj} (ne:wl < pa) {Y:MH} (e:H' = H.set wl o++Y) (w:IsWell H' wl b'):DI wl pa b' H0 H' vs c:=by
 have h1:=h.well.lt
 have h2:=bv h.at_
 subst e
 refine ⟨w,h.dr.well.app Y,app (aJ h.at_ (by exact Nat.ne_of_lt ‹_›)) Y,h.all.mono λU U=>IsPl.kp ?_⟩
 exact Dr.kp (Dr.refl.well.app Y) h1 h2
private theorem DI.put (h:DI wl pa b H0 H vs c) (ne:wl < pa) {v:MV} {p:PBlock} (hp:IsPl (vw wl pa H) v p) (k:Nat):DI wl pa b H0 (H.set pa (.list (vs.set k v))) (vs.set k v) (c.set k p) :=
 ⟨h.well.put ne,h.dr.put,eV h.at_,by rw [zt];exact h.all.set hp⟩
private theorem DI.app (h:DI wl pa b H0 H vs c) (X:MH):DI wl pa b H0 (H++X) vs c :=
 ⟨h.well.app X,h.dr.app X,Mine.app h.at_ X,h.all.mono λU U=>IsPl.kp (by rw [jg h.well.lt (bv h.at_)];exact .app)⟩
private theorem DI.less (h:DI wl pa b H0 H vs c) (l:b'≤b):DI wl pa b' H0 H vs c:=⟨h.well.less l,h.dr,h.at_,h.all⟩
private theorem DI.new (h:DI wl pa b H0 H vs c) (o:MObj):(vw wl pa (H++[o]))[H.length]? = some o:=by
 rw [jg h.well.lt (bv h.at_),← kK (wl:=wl) (pa:=pa)];exact cO
private theorem DI.kp (h:DI wl pa b H0 H vs c) (X:MH):Kp (vw wl pa H) (vw wl pa (H++X)):=by
 rw [jg h.well.lt (bv h.at_)];exact .app
private theorem DI.kpw (h:DI wl pa b H0 H vs c) (o:MObj):Kp (vw wl pa H) (vw wl pa (H.set wl o)):=by
 rw [lW];exact .refl
private theorem DI.draw (h:DI wl pa b H0 H vs c) (ne:wl < pa) {o:MObj} (w:IsWell (H.set wl o) wl b'):DI wl pa b' H0 (H.set wl o) vs c:=h.go ne (Y:=[]) (List.append_nil _).symm w
private theorem sw {G X:MH} {acc:List MV} (hwl:wl < G.length):vw wl (G.length + X.length) (G++(X++[.list acc])) = cq G wl++X++[.set []]:=by
 unfold vw
 rw [dJ hwl,← List.append_assoc,cq,List.set_append_right _ _ (by rw [List.length_append,bV];exact Nat.le_refl _),show G.length + X.length - (cq G wl++X).length = 0 by rw [List.length_append,bV];omega];rfl
private theorem DI.start {G X:MH} {acc:List MV} (w:IsWell G wl b) (h:∀ Y:MH,Y.length = G.length→All2 (IsPl (Y++X)) acc c):DI wl (G.length + X.length) b (G++(X++[.list acc])) (G++(X++[.list acc])) acc c:=by
 refine ⟨w.app _,.refl,by rw [show G.length + X.length = (G++X).length from List.length_append.symm,← List.append_assoc];exact cO,?_⟩
 rw [sw w.lt]
 exact (h (cq G wl) bV).mono λU U=>IsPl.kp .app
end
noncomputable def yw:PBlock:=⟨[],.give (.reg 2)⟩
inductive ChI (wl pa na m b:Nat) (ga:MV) (names:List Nat) (A:MH) (j:Nat):Loc→MH→Prop
 | mk (vs:List MV) (c:aB) (u3 u4 u7:Option MV) (H':MH) (di:DI wl pa (b + 3 * (m - j)) A H' vs c) (len:c.length = m) (done:∀ (k g:Nat),k < j→names[k]? = some g→∃ b,c[g]? = some b∧MainB names m k b) :
   ChI wl pa na m b ga names A j [some (.ref wl),some (.int (m:Nat)),some (.ref na),u3,u4,some ga,some (.ref pa),u7] H'
section
variable {hB:Heap} {H:MH}
inductive BlI (G:MH) (n:Nat) (p:PBlock) (F:Option MV→Loc) (j:Nat):List MV→Loc→MH→Prop
 | mk (X:MH) (u:Option MV) (acc:List MV) (le:j≤n) (h:∀ Y:MH,Y.length = G.length→All2 (IsPl (Y++X)) acc (List.replicate j p)):BlI G n p F j acc (F u) (G++X)
private theorem BlI.nil {G:MH} {n:Nat} {p:PBlock} {F:Option MV→Loc} {u:Option MV}:BlI G n p F 0 [] (F u) G:=by
 have:=BlI.mk (G:=G) (n:=n) (p:=p) (F:=F) (j:=0) [] u [] (Nat.zero_le _) λY U=>.nil
 rwa [List.append_nil] at this
private theorem qj {wl b na m:Nat} {names:List Nat} {Q:QV} (hw:IsWell H wl (b + 100)) (hn:H[na]? = some (.list (aA names))) (ne:na≠wl) (hl:names.length = m) (nd:names.Nodup) (hm:3≤m∧m≤5) (hlt:∀ g∈names,g < m)
  (q:∀ H' pv ga c x0 x1 x2 x3,IsPlaced H' pv c→H'[ga]? = some (.list (bc [x0,x1,x2,x3]))→(0≤x0∧x0 < 4)→(0≤x1∧x1 < 4)→(0≤x2∧x2 < 4)→(1≤x3∧x3 < 4) →
   c.length = m→(∀ (k g:Nat),names[k]? = some g→∃ b,c[g]? = some b∧MainB names m k b)→Q (.tup [pv,.ref ga]) H') :
  eC hB [.ref wl,.int (m:Nat),.ref na] H Q:=by
 refine fn rfl [some (.ref wl),some (.int (m:Nat)),some (.ref na),none,none,none,none,none] rfl ?_
 simp [ls]
 refine bi hw (by decide) λo1 x0 w1 a0 b0=>?_
 simp
 refine bi w1 (by decide) λo2 x1 w2 a1 b1=>?_
 simp at w2 ⊢
 refine bi w2 (by decide) λo3 x2 w3 a2 b2=>?_
 simp at w3 ⊢
 refine bi w3 (by decide) λo4 x3 w4 a3 b3=>?_
 simp at w4 ⊢
 have gn:(H.set wl o4++[.list [.int x0,.int x1,.int x2,.int (1 + x3)]])[na]? = some (.list (aA names)):=app (aJ hn (Ne.symm ne)) _
 have gg:(H.set wl o4++[.list [.int x0,.int x1,.int x2,.int (1 + x3)]])[H.length]? = some (.list (bc [x0,x1,x2,1 + x3])):=by
  rw [show H.length = (H.set wl o4).length from List.length_set.symm];exact cO
 have wG:=w4.app [.list [.int x0,.int x1,.int x2,.int (1 + x3)]]
 generalize H.set wl o4++[.list [.int x0,.int x1,.int x2,.int (1 + x3)]] = G at gn gg wG ⊢
 have gw:H.length≠wl:=Nat.ne_of_gt hw.lt
 generalize H.length = ga at gg gw ⊢
 have nl:(aA names).length = m:=by rw [aA,List.length_map,hl]
 simp [gn]
 refine bX (BlI G m yw λu=>[u]) .nil ?_ ?_ ?_
 ·rintro j acc _ _ ⟨X,_,_,hj,h⟩
  refine ⟨app gn X,?_⟩
  have:=(h G rfl).1
  rw [List.length_replicate] at this
  omega
 ·rintro j v acc _ _ hv ⟨X,u,_,_,h⟩
  have hj:j < m:=by
   rw [← nl]
   exact (List.getElem?_eq_some_iff.mp (show (aA names)[j]? = some v from hv)).1
  simp
  refine .mk _ _ _ hj λY hY=>?_
  rw [List.replicate_succ']
  rw [← hY]
  have hlen:(Y++X).length = Y.length + X.length:=List.length_append
  rw [← List.append_assoc]
  refine ((h Y hY).mono λU U=>IsPl.kp .app).append (.one ⟨_,_,rfl,⟨_,[],rfl,?_,.nil⟩,⟨_,_,rfl,?_,rfl⟩⟩)
  ·rw [← hlen];exact cO
  ·rw [← Nat.add_assoc,← hlen];exact hG
 ·rintro acc _ _ ⟨X,u,_,_,h⟩
  have hsz:(It.list na (aA names)).size = m:=nl
  rw [hsz] at h
  simp
  have hwl:=wG.lt
  have hpa:(G++X).length = G.length + X.length:=List.length_append
  have d0:DI wl (G.length + X.length) (b + 96) (G++(X++[.list acc])) (G++(X++[.list acc])) acc (List.replicate m yw):=.start wG h
  have an:(G++(X++[.list acc]))[na]? = some (.list (aA names)):=app gn _
  have ag:(G++(X++[.list acc]))[ga]? = some (.list (bc [x0,x1,x2,1 + x3])):=app gg _
  have nelt:na < G.length:=bv gn
  have gelt:ga < G.length:=bv gg
  have wlt:wl < G.length + X.length:=Nat.lt_add_right _ wG.lt
  have npa:na≠G.length + X.length:=Nat.ne_of_lt (Nat.lt_add_right _ nelt)
  have gpa:ga≠G.length + X.length:=Nat.ne_of_lt (Nat.lt_add_right _ gelt)
  generalize G++(X++[.list acc]) = A at d0 an ag ⊢
  generalize G.length + X.length = pa at d0 npa gpa wlt ⊢
  have w80:b + 80 + 3 * (m - 0)≤b + 96:=Nat.add_le_add_left (m:=16) (Nat.le_trans (Nat.mul_le_mul_left 3 hm.2) (by decide)) (b + 80)
  refine ⟨by omega,bb (ChI wl pa na m (b + 80) (.ref ga) names A) (.mk acc _ _ _ _ A ⟨d0.well.less w80,d0.dr,d0.at_,d0.all⟩ List.length_replicate λk g hk=>absurd hk (Nat.not_lt_zero _)) ?_ ?_ ?_⟩
  clear d0 h nelt gelt wG gg gn hsz hpa hwl w80
  ·rintro j L H' _
   trivial
  ·rintro j v L H' hv ⟨vs,c,u3,u4,u7,_,di,len,done⟩
   obtain ⟨hj,rfl⟩:j < m∧.int (j:Nat) = v:=by simpa [It.at] using hv
   have hjn:j < names.length:=by rw [hl];exact hj
   obtain ⟨g,gj⟩:∃ g,names[j]? = some g:=⟨_,List.getElem?_eq_getElem hjn⟩
   have w:=di.well
   rw [show b + 80 + 3 * (m - j) = (b + 80 + 3 * (m - (j + 1))) + 1 + 1 + 1 by rw [rY hj];rfl] at w
   simp
   refine bi w (by decide) λo code w c0 c1=>?_
   simp
   refine m8 c0 c1 λX1 v1 r1 hr1 ok1 d1=>?_
   simp
   have di3:DI wl pa (b + 80 + 3 * (m - (j + 1)) + 1 + 1) A (H'.set wl o++(X1++[.list [.tup [.sym 0,.int 0],.tup [.sym 1,.int j]],.list [v1,.tup [.sym 4,.int (-1),.ref (H'.length + X1.length),.sym 12,.bool false]]])) vs c:=di.go wlt rfl (w.app _)
   have hpl:=bv di.at_
   have hll:(vw wl pa H'++X1).length = H'.length + X1.length:=by rw [List.length_append,kK]
   have rows3:IsRows (vw wl pa (H'.set wl o++(X1++[.list [.tup [.sym 0,.int 0],.tup [.sym 1,.int j]],.list [v1,.tup [.sym 4,.int (-1),.ref (H'.length + X1.length),.sym 12,.bool false]]]))) (.ref (H'.length + (X1.length + 1))) [r1,.call2 0 j]:=by
    rw [jg (by rw [List.length_set];exact Nat.le_trans ‹_› (Nat.le_of_lt ‹_›)) (by rw [List.length_set];exact hpl),lW,← List.append_assoc]
    refine ⟨_,[v1,.tup [.sym 4,.int (-1),.ref (H'.length + X1.length),.sym 12,.bool false]],rfl,?_,.cons ((hr1 (vw wl pa H') (by rw [kK,List.length_set])).kp .app) (.one ⟨H'.length + X1.length,rfl,?_⟩)⟩
    ·rw [← Nat.add_assoc,← hll];exact hG
    ·rw [← hll];exact cO
   generalize H'.set wl o++(X1++[.list [.tup [.sym 0,.int 0],.tup [.sym 1,.int j]],.list [v1,.tup [.sym 4,.int (-1),.ref (H'.length + X1.length),.sym 12,.bool false]]]) = H3 at di3 rows3 ⊢
   generalize H'.length + (X1.length + 1) = ra at rows3 ⊢
   clear hr1 w hll hpl
   have nlen:(aA names).length = m:=by rw [aA,List.length_map,hl]
   have fin:∀ (H4:MH) (ve:MV) (e:PEnd),DI wl pa (b + 80 + 3 * (m - (j + 1))) A H4 vs c→IsRows (vw wl pa H4) (.ref ra) [r1,.call2 0 j]→IsEndT (vw wl pa H4) ve e→(∀ x∈e.args,okO x)→e.fol.length≤101→(∀ g∈e.fol,∃ i,j < i∧names[i]? = some g)→(j + 1 = m→e = .give (.reg 2)) →
     ChI wl pa na m (b + 80) (.ref ga) names A (j + 1) [some (.ref wl),some (.int (m:Nat)),some (.ref na),some (.int (j:Nat)),some ve,some (.ref ga),some (.ref pa),some (.ref ra)] (H4.set pa (.list (vs.set g (.tup [.ref ra,ve])))):=by
    intro H4 ve e d4 r4 e4 ok4 f4 up4 l4
    refine .mk _ _ _ _ _ _ (d4.put wlt (p:=⟨[r1,.call2 0 j],e⟩) ⟨_,_,rfl,r4,e4⟩ g) (by rw [List.length_set];exact len) λk x hk hx=>?_
    have hgm:=hlt g (List.mem_of_getElem? gj)
    by_cases ek:k = j
    ·subst ek
     rw [gj] at hx;cases hx
     refine ⟨_,List.getElem?_set_self (by exact Nat.le_trans ‹_› (Nat.le_of_eq (Eq.symm ‹_›))),⟨λr hr=>?_,Nat.le_refl _,ok4,f4,up4,l4⟩⟩
     rcases List.mem_cons.mp hr with rfl | hr
     ·exact ⟨ok1,d1⟩
     ·rw [List.mem_singleton.mp hr]
      exact ⟨⟨by show 0 < 4;decide,Int.natCast_nonneg _,leI (b:=4294967295) (Nat.le_trans (Nat.le_of_lt hj) (Nat.le_trans hm.2 (by decide)))⟩,by show (-1:Int) < 3;decide⟩
    ·rw [List.getElem?_set_ne λe=>ek ?_]
     ·exact done k x (Nat.lt_of_le_of_ne (Nat.le_of_lt_succ hk) ek) hx
     ·subst e
      exact ((List.getElem?_inj hjn nd).mp (gj.trans hx.symm)).symm
   have n3:=di3.dr.2 _ _ ne npa an
   have p3:=di3.at_
   have gJ:itO (some (.list (aA names))) (j:Int) = some (.int (g:Nat)):=b8 (by rw [aA,List.getElem?_map,gj];rfl)
   have gL:g < vs.length:=by rw [di3.all.1,len];exact hlt g (List.mem_of_getElem? gj)
   refine aL (λhc=>?_) λhc=>?_
   ·have hc:(j:Int) = m - 1:=by simpa using hc
    have hc2:¬ (j:Int) < m - 2:=by rw [hc];exact Int.not_lt.mpr (Int.sub_le_sub_left (by decide) _)
    simp [hc2,app n3,app p3,gJ]
    have d4:=di3.app [.list [.tup [.sym 0,.int 2]]]
    refine ⟨⟨gL,by rw [di3.all.1,len];exact Nat.le_trans hm.2 (by decide)⟩,fin _ _ (.give (.reg 2)) (d4.less (Nat.le_add_right _ 2)) (rows3.kp (di3.kp _)) ⟨H3.length,_,rfl,di3.new _,rfl⟩ (λx hx=>?_) (Nat.zero_le _) (λU h=>nomatch h) λU=>rfl⟩
    rw [List.mem_singleton.mp hx]
    exact (by decide:2 < 4)
   ·have hc:¬ (j:Int) = m - 1:=by simpa using hc
    obtain ⟨g1,gj1⟩:∃ g,names[j + 1]? = some g:=⟨_,List.getElem?_eq_getElem (by rw [hl];exact Nat.lt_of_le_of_ne hj λh=>hc (by rw [← h];exact (Int.add_sub_cancel (j:Int) 1).symm))⟩
    have gJ1:itO (some (.list (aA names))) ((j:Int) + 1) = some (.int (g1:Nat)):=b8 (i:=j + 1) (by rw [aA,List.getElem?_map,gj1];rfl)
    have d4:=di3.app [.list []]
    have n4:=app n3 [.list []]
    have p4:=d4.at_
    have r4:=rows3.kp (di3.kp [.list []])
    have e4:IsEndT (vw wl pa (H3++[.list []])) (.tup [.sym 8,.ref H3.length,.int (g1:Nat)]) (.jump g1):=⟨H3.length,_,rfl,di3.new _,rfl⟩
    have jl:j + 1 = m→False:=λh=>hc (by rw [← h];exact (Int.add_sub_cancel (j:Int) 1).symm)
    have vl:=di3.all.1
    simp [n4,gJ1]
    generalize H3++[.list []] = H4 at d4 n4 p4 r4 e4 ⊢
    generalize H3.length = la at e4 ⊢
    clear p3 n3 di3 rows3
    refine aL (λhb=>?_) λhb=>?_
    ·have hb:(j:Int) < m - 2:=by simpa using hb
     simp
     refine bi d4.well (by decide) λo2 x w5 U U=>?_
     have d5:=d4.draw wlt w5
     simp
     refine aL (λhx=>?_) λhx=>?_
     ·simp
      refine bi w5 (by decide) λo3 y w6 y0 y1=>?_
      have d6:=d5.draw wlt w6
      have d7:=d6.app [.list [.tup [.sym 0,.int y]]]
      have n7:=app (aJ (aJ n4 (Ne.symm ne) (p:=o2)) (Ne.symm ne) (p:=o3)) [.list [.tup [.sym 0,.int y]]]
      have p7:=d7.at_
      obtain ⟨g2,gj2⟩:∃ g,names[m - 1]? = some g:=⟨_,List.getElem?_eq_getElem (by rw [hl];exact Nat.sub_lt (Nat.lt_of_lt_of_le (by decide) hm.1) (by decide))⟩
      have gM:itO (some (.list (aA names))) ((m:Int) - 1) = some (.int (g2:Nat)):=by
       rw [show (m:Int) - 1 = ((m - 1:Nat):Int) from (Int.ofNat_sub (Nat.le_trans (by decide) hm.1)).symm]
       exact b8 (by rw [aA,List.getElem?_map,gj2];rfl)
      obtain ⟨dd,rfl⟩:=Int.eq_ofNat_of_zero_le y0
      have e7:∀ la,la = (List.set (H4.set wl o2) wl o3).length→IsEndT (vw wl pa ((List.set (H4.set wl o2) wl o3)++[.list [.tup [.sym 0,.int (dd:Int)]]])) (.tup [.sym 9,.ref la,.tup [.int (g1:Nat),.int (g2:Nat)]]) (.branch (.reg dd) g1 g2):=λla e=>by
       subst e;exact ⟨_,_,rfl,d6.new _,rfl⟩
      have r7:=(((r4.kp (d4.kpw o2)).kp (d5.kpw o3)).kp (d6.kp [.list [.tup [.sym 0,.int (dd:Int)]]]))
      simp [-List.set_set,n7,gJ1,gM,p7,gJ]
      refine ⟨⟨gL,by rw [vl,len];exact Nat.le_trans hm.2 (by decide)⟩,fin _ _ (.branch (.reg dd) g1 g2) d7 r7 (e7 _ (by rw [List.length_set,List.length_set])) (λx hx=>?_) (Nat.le_of_ble_eq_true rfl) (λx hx=>?_) λh=>(jl h).elim⟩
      ·rw [List.mem_singleton.mp hx]
       exact Nat.lt_succ_of_lt (Int.ofNat_lt.mp y1)
      ·rcases List.mem_cons.mp hx with rfl | hx
       ·exact ⟨j + 1,Nat.lt_succ_self j,gj1⟩
       ·rw [List.mem_singleton.mp hx];exact ⟨m - 1,by omega,gj2⟩
     ·have n5:=aJ n4 (Ne.symm ne) (p:=o2)
      have p5:=d5.at_
      simp [n5,p5,gJ]
      refine ⟨⟨gL,by rw [vl,len];exact Nat.le_trans hm.2 (by decide)⟩,fin _ _ (.jump g1) (d5.less (Nat.le_add_right _ 1)) (r4.kp (d4.kpw o2)) (e4.kp (d4.kpw o2)) (λU h=>nomatch h) (Nat.le_of_ble_eq_true rfl) (λx hx=>?_) λh=>(jl h).elim⟩
      rw [List.mem_singleton.mp hx]
      exact ⟨j + 1,Nat.lt_succ_self j,gj1⟩
    ·simp [n4,p4,gJ]
     refine ⟨⟨gL,by rw [vl,len];exact Nat.le_trans hm.2 (by decide)⟩,fin _ _ (.jump g1) (d4.less (Nat.le_add_right _ 2)) r4 e4 (λU h=>nomatch h) (Nat.le_of_ble_eq_true rfl) (λx hx=>?_) λh=>(jl h).elim⟩
     rw [List.mem_singleton.mp hx]
     exact ⟨j + 1,Nat.lt_succ_self j,gj1⟩
  ·rintro L H' ⟨vs,c,u3,u4,u7,_,di,len,done⟩
   simp
   refine q H' (.ref pa) ga c x0 x1 x2 (1 + x3) ⟨pa,vs,rfl,di.at_,di.all.mono λU U=>IsPl.kp (um di.well.lt (bv di.at_))⟩ (di.dr.2 _ _ gw gpa ag) ⟨a0,b0⟩ ⟨a1,b1⟩ ⟨a2,b2⟩ (by omega) len λk g hk=>done k g ?_ hk
   have:=(List.getElem?_eq_some_iff.mp hk).1
   exact hl ▸ this
end
end Mine
end
section
namespace Mine
inductive PosB (names:List Nat) (m k:Nat) (b:PBlock):Prop
 | main (h:k < m) (mb:MainB names m k b)
 | fuel (h:k = m∨k = m + 1) (goal last i:Nat) (hi:i < m) (eg:names[i]? = some goal) (el:names[m - 1]? = some last) (e:b = ⟨[.sub 3 1],.branch (.reg 3) goal last⟩)
 | near (h:k = m + 2) (far:Nat) (ef:names[m + 3]? = some far) (e:b = ⟨[],.jump far⟩)
 | far (h:k = m + 3) (near:Nat) (en:names[m + 2]? = some near) (e:b = ⟨[],.jump near⟩∨b = ⟨[],.branch (.num 1) near 0⟩∨b = ⟨[],.table (.reg 1) 0 [near] near⟩)
structure Drawn (c:aB) (names:List Nat) (m:Nat):Prop where
 len:names.length = c.length
 nd:names.Nodup
 lt:∀ g∈names,g < c.length
 head:names[0]? = some 0
 m3:3≤m∧m≤5
 tot:c.length≤9
 big:m≤c.length
 blk:∀ (k g:Nat),names[k]? = some g→∃ b,c[g]? = some b∧PosB names m k b
section
variable {c:aB} {names:List Nat} {m:Nat}
private theorem Drawn.all (d:Drawn c names m) {i:Nat} {b:PBlock} (h:c[i]? = some b):∃ k,k < c.length∧names[k]? = some i∧PosB names m k b:=by
 have hi:=(List.getElem?_eq_some_iff.mp h).1
 have pm:=qf d.nd d.lt (by rw [d.len];omega)
 obtain ⟨k,hk⟩:=List.mem_iff_getElem?.mp (pm.mem_iff.mpr (List.mem_range.mpr hi))
 obtain ⟨b',hb',pb⟩:=d.blk k i hk
 rw [h] at hb';cases hb'
 exact ⟨k,by rw [← d.len];exact (List.getElem?_eq_some_iff.mp hk).1,hk,pb⟩
private theorem Drawn.mem (d:Drawn c names m) {k g:Nat} (h:names[k]? = some g):g < c.length:=d.lt g (List.mem_of_getElem? h)
private theorem Drawn.okC (d:Drawn c names m):okC c:=by
 have one:okO (.num 1):=⟨by decide,by decide⟩
 refine ⟨λb hb r hr=>?_,λb hb x hx=>?_⟩
 ·obtain ⟨i,hi⟩:=List.mem_iff_getElem?.mp hb
  obtain ⟨k,_,_,pb⟩:=d.all hi
  cases pb with
  | main h mb=>exact (mb.rows r hr).1
  | fuel h goal last i hi eg el e =>
   subst e
   rw [List.mem_singleton.mp hr]
   exact ⟨by decide,one⟩
  | near h far ef e=>subst e;cases hr
  | far h near en e=>rcases e with rfl | rfl | rfl <;> cases hr
 ·obtain ⟨i,hi⟩:=List.mem_iff_getElem?.mp hb
  obtain ⟨k,_,_,pb⟩:=d.all hi
  cases pb with
  | main h mb=>exact mb.args x hx
  | fuel h goal last i hi eg el e =>
   subst e
   rw [List.mem_singleton.mp hx]
   exact (by decide:3 < 4)
  | near h far ef e=>subst e;cases hx
  | far h near en e =>
   rcases e with rfl | rfl | rfl
   ·cases hx
   ·rw [List.mem_singleton.mp hx];exact one
   ·rw [List.mem_singleton.mp hx];exact (by decide:1 < 4)
private theorem Drawn.few (d:Drawn c names m):∀ p∈c,p.rows.length≤2:=λp hp=>by
 obtain ⟨i,hi⟩:=List.mem_iff_getElem?.mp hp
 obtain ⟨k,_,_,pb⟩:=d.all hi
 cases pb with
 | main h mb=>exact mb.few
 | fuel h goal last i hi eg el e=>rw [e];exact Nat.le_of_ble_eq_true rfl
 | near h far ef e=>rw [e];exact Nat.zero_le _
 | far h near en e=>rcases e with e | e | e <;> rw [e] <;> exact Nat.zero_le _
private theorem Drawn.wf (d:Drawn c names m):Wf c:=by
 have h3:=d.m3
 have hb:=d.big
 have ht:=d.tot
 have hz:0 < c.length:=by omega
 refine ⟨⟨hz,by exact Nat.le_trans ‹_› (by decide),λb hb g hg=>?_,λb hb=>?_⟩,?_⟩
 ·obtain ⟨i,hi⟩:=List.mem_iff_getElem?.mp hb
  obtain ⟨k,_,_,pb⟩:=d.all hi
  cases pb with
  | main h mb=>obtain ⟨_,_,h⟩:=mb.up g hg;exact d.mem h
  | fuel h goal last i hi eg el e =>
   subst e
   rcases List.mem_cons.mp hg with rfl | hg
   ·exact d.mem eg
   ·rw [List.mem_singleton.mp hg];exact d.mem el
  | near h far ef e=>subst e;rw [List.mem_singleton.mp hg];exact d.mem ef
  | far h near en e =>
   rcases e with rfl | rfl | rfl
   ·rw [List.mem_singleton.mp hg];exact d.mem en
   ·rcases List.mem_cons.mp hg with rfl | hg
    ·exact d.mem en
    ·rw [List.mem_singleton.mp hg];exact hz
   ·rcases List.mem_cons.mp hg with rfl | hg
    ·exact d.mem en
    ·rw [List.mem_singleton.mp hg];exact d.mem en
 ·obtain ⟨i,hi⟩:=List.mem_iff_getElem?.mp hb
  obtain ⟨k,_,_,pb⟩:=d.all hi
  cases pb with
  | main h mb=>exact mb.fol
  | fuel h goal last i hi eg el e=>subst e;exact Nat.le_of_ble_eq_true rfl
  | near h far ef e=>subst e;exact Nat.le_of_ble_eq_true rfl
  | far h near en e=>rcases e with rfl | rfl | rfl <;> exact Nat.le_of_ble_eq_true rfl
 ·have:∀ v∈List.range c.length,(cj c v).length≤2:=λv hv=>by
   have hv:=List.mem_range.mp hv
   have e:c[v]? = some c[v]:=List.getElem?_eq_getElem hv
   rw [cY e]
   exact d.few _ (List.getElem_mem hv)
  have:=qA (g:=λU=>2) this
  unfold jG
  refine Nat.le_trans this ?_
  rw [List.map_const',List.sum_replicate_nat,List.length_range]
  omega
noncomputable def Stab (c:aB) (N g:Nat) (s:WS):Prop:=∀ n,N≤n→c9 c n g s = c9 c N g s
private theorem Stab.mono {N N' g:Nat} {s:WS} (h:Stab c N g s) (l:N≤N'):Stab c N' g s:=λn hn=>by
 rw [h n (Nat.le_trans l hn),h N' l]
private theorem Stab.step {N g:Nat} {s:WS} {b:PBlock} (hb:c[g]? = some b) (he:∀ x,b.en≠.give x) (h:Stab c N (nxt (aS s b.rows).vals b.en) (aS s b.rows)):Stab c (N + 1) g s:=λn hn=>by
 obtain ⟨k,rfl⟩:∃ k,n = k + 1:=⟨n - 1,by omega⟩
 rw [cH hb he,cH hb he]
 exact h k (by exact Nat.le_of_lt_succ ‹_›)
private theorem Stab.give {g:Nat} {s:WS} {b:PBlock} {x:Opd} (hb:c[g]? = some b) (he:b.en = .give x):Stab c 1 g s:=λn hn=>by
 obtain ⟨k,rfl⟩:∃ k,n = k + 1:=⟨n - 1,by omega⟩
 rw [cM hb he,cM hb he]
private theorem Drawn.quiet (d:Drawn c names m) {near far:Nat} (en:names[m + 2]? = some near) (ef:names[m + 3]? = some far) (s:WS):∀ n,c9 c n near s = (none,s)∧c9 c n far s = (none,s):=by
 obtain ⟨bn,hn,pn⟩:=d.blk _ _ en
 obtain ⟨bf,hf,pf⟩:=d.blk _ _ ef
 have e1:bn = ⟨[],.jump far⟩:=by
  cases pn with
  | near h far' ef' e=>rw [ef] at ef';cases ef';exact e
  | main h=>omega
  | fuel h=>omega
  | far h=>omega
 have e2:bf.rows = []∧(∀ x,bf.en≠.give x)∧nxt s.vals bf.en = near:=by
  cases pf with
  | far h near' en' e =>
   rw [en] at en';cases en'
   rcases e with rfl | rfl | rfl
   ·exact ⟨rfl,(λx h=>by cases h),rfl⟩
   ·exact ⟨rfl,(λx h=>by cases h),rfl⟩
   ·refine ⟨rfl,(λx h=>by cases h),?_⟩
    show gW _ _ _ _ _ = _;rw [tnc];split <;> rfl
  | main h=>omega
  | fuel h=>omega
  | near h=>omega
 subst e1
 intro n
 induction n with
 | zero=>exact ⟨rfl,rfl⟩
 | succ n ih =>
  refine ⟨?_,?_⟩
  ·rw [cH hn λx h=>by cases h];exact ih.2
  ·rw [cH hf e2.2.1,e2.1]
   show c9 c n (nxt s.vals bf.en) s = _
   rw [e2.2.2];exact ih.1
private theorem sV {l:List Row}:∀ {s:WS},(∀ r∈l,r.dst < 3)→(aS s l).vals.getD 3 0 = s.vals.getD 3 0:=by
 induction l with
 | nil=>exact λU=>rfl
 | cons r l ih=>exact λh=>(ih λr' h'=>h r' (.tail _ h')).trans (pr (n:=3) (by have:=h r (.head _);omega))
private theorem zp {f:Nat} (h1:1≤f) (h2:(f:Int) < 4294967296):((f:Int) + 4294967296 - 1) % 4294967296 = ((f - 1:Nat):Int):=by
 obtain ⟨g,rfl⟩:∃ g,f = g + 1:=⟨f - 1,(Nat.succ_pred_eq_of_pos h1).symm⟩
 rw [Int.natCast_add,Int.add_right_comm,Int.natCast_one,Int.add_sub_cancel,Int.add_emod_right]
 exact Int.emod_eq_of_lt (Int.natCast_nonneg g) (Int.lt_trans (Int.ofNat_lt.mpr (Nat.lt_succ_self g)) h2)
private theorem Drawn.stab (d:Drawn c names m) (f:Nat):∀ (j k g:Nat) (s:WS),m≤k + j→names[k]? = some g→WOk s→s.vals.getD 3 0 = (f:Int)→1≤f→Stab c (j + (2 + 6 * (f - 1))) g s:=by
 have hm:=d.m3
 induction f using Nat.strongRecOn with
 | ind f ihf =>
 intro j
 have base:∀ (k g:Nat) (s:WS),m≤k→names[k]? = some g→WOk s→s.vals.getD 3 0 = (f:Int)→1≤f→Stab c (2 + 6 * (f - 1)) g s:=by
  intro k g s hk hg w h3 f1
  obtain ⟨b,hb,pb⟩:=d.blk k g hg
  cases pb with
  | main h=>exact absurd ‹_› (Nat.not_lt_of_le ‹_›)
  | fuel h goal last i hi eg el e =>
   subst e
   have f3:(f:Int) < 4294967296:=by rw [← h3];exact (w.get 3).2
   have hw:WOk (aS s [.sub 3 1]):=w.rows λr hr=>by rw [List.mem_singleton.mp hr];exact ⟨by decide,by decide,by decide⟩
   have hv:(aS s [.sub 3 1]).vals.getD 3 0 = ((f - 1:Nat):Int):=by
    show (fN s (.sub 3 1)).vals.getD 3 0 = _
    rw [sy (n:=3) rfl (by rw [w.four];decide)]
    show (s.vals.getD 3 0 + 4294967296 - 1) % 4294967296 = _
    rw [h3];exact zp f1 f3
   have hx:nxt (aS s [.sub 3 1]).vals (.branch (.reg 3) goal last) = if ((f - 1:Nat):Int) = 0 then last else goal:=by
    show (if (aS s [.sub 3 1]).vals.getD 3 0 = 0 then last else goal) = _
    rw [hv]
   by_cases e:f = 1
   ·subst e
    obtain ⟨bl,hbl,pl⟩:=d.blk _ _ el
    refine (Stab.step (N:=1) hb (λx h=>by cases h) ?_).mono (by exact Nat.le_refl _)
    rw [hx,if_pos (by decide)]
    cases pl with
    | main h mb=>exact .give hbl (mb.last (Nat.succ_pred_eq_of_pos (Nat.zero_lt_of_lt h)))
    | fuel h=>omega
    | near h=>omega
    | far h=>omega
   ·refine (Stab.step hb (λx h=>by cases h) ?_).mono (N:=5 + (2 + 6 * (f - 1 - 1)) + 1) (by rw [rY (j:=1) (Nat.lt_of_le_of_ne f1 (Ne.symm e))];show 5 + (2 + 6 * (f - 2)) + 1≤_;omega)
    rw [hx,if_neg (by omega)]
    exact ihf (f - 1) (Nat.sub_lt f1 Nat.one_pos) 5 i goal _ (by omega) eg hw hv (Nat.le_sub_one_of_lt (Nat.lt_of_le_of_ne f1 (Ne.symm e)))
  | near h far ef e =>
   subst h
   exact λn U=>by rw [(d.quiet hg ef s n).1,(d.quiet hg ef s _).1]
  | far h near en e =>
   subst h
   exact λn U=>by rw [(d.quiet en hg s n).2,(d.quiet en hg s _).2]
 induction j with
 | zero=>exact λk g s hk hg w h3 f1=>(base k g s (by omega) hg w h3 f1).mono (by exact Nat.le_add_left _ _)
 | succ j ih =>
  intro k g s hk hg w h3 f1
  by_cases c0:m≤k
  ·exact (base k g s c0 hg w h3 f1).mono (by exact Nat.le_add_left _ _)
  ·obtain ⟨b,hb,pb⟩:=d.blk k g hg
   cases pb with
   | main h mb =>
    by_cases hgv:∃ x,b.en = .give x
    ·obtain ⟨x,hx⟩:=hgv
     exact (Stab.give hb hx).mono (by omega)
    ·have hn:∀ x,b.en≠.give x:=λx e=>hgv ⟨x,e⟩
     obtain ⟨i,hi,ei⟩:=mb.up _ (q5 (vals:=(aS s b.rows).vals) hn)
     refine (Stab.step hb hn ?_).mono (N:=j + (2 + 6 * (f - 1)) + 1) (by omega)
     exact ih i _ _ (by omega) ei (w.rows λr hr=>(mb.rows r hr).1) (by rw [sV λr hr=>(mb.rows r hr).2];exact h3) f1
   | fuel h=>omega
   | near h=>omega
   | far h=>omega
private theorem Drawn.same {c':aB} {b:Bool} {args:List Int} (d:Drawn c names m) (f:Final c c' b) (w:WOk ⟨args,[],[],0⟩) (h3:1≤args.getD 3 0∧args.getD 3 0 < 4):c9 c' 40 0 ⟨args,[],[],0⟩ = c9 c 40 0 ⟨args,[],[],0⟩:=by
 obtain ⟨n,hn,e⟩:=f.sim 40 _ w
 obtain ⟨k,hk⟩:=Int.eq_ofNat_of_zero_le (show 0≤args.getD 3 0 by omega)
 have hm:=d.m3
 have st:=d.stab k 5 0 0 ⟨args,[],[],0⟩ (by omega) d.head w hk (by omega)
 rw [e]
 exact (st.mono (N':=40) (by omega)) n hn
end
end Mine
end
section
namespace Mine
noncomputable def wS (hB:Heap):ET:=(aI (ae (aI (ae (ai 1) (ae (az 84) am)) (aU hB)) am) (f9 hB))
noncomputable def tm (hB:Heap):ST:=(aj (au (cE (eK (ae (bZ (ai 1) (az 1)) (ae (bZ (ai 8) (az 3)) am))) (aw 0) bG (aP (ai 1) (ai 0)) 1 [9]) (aw 6)) (aj (au (eIf (aM .eq (ai 1) (dj (ai 8) (az 1))) (aY (ae (aQ 11) (ae (aW (ae (aY (ae (aQ 0) (ae (az 2) am))) am)) (ae (az 0) am)))) (aI (ae (ai 0) (ae (ai 6) am)) (iw hB))) (aw 2)) (aj (au (aY (ae (ai 13) (ae (ai 2) am))) (eS (ai 11) (aP (ai 9) (ai 1)))) ay)))
noncomputable def wY (hB:Heap):ST:=aj (cv (eK (ae (ai 8) am)) (aw 1) (aj (au (cE (eK (ae (aI (ae (ai 0) (ae (az 3) am)) (aU hB)) am)) (aw 0) bG (wS hB) 1 [0]) (aw 13)) (tm hB))) (aj (bq (aY (ae (ai 11) (ae (ai 4) am)))) ay)
structure DrR (r:Row):Prop where
 ok:okR r
 d:r.dst < 3
private theorem IsEndT.few {H:MH} {v:MV} {e:PEnd} (h:IsEndT H v e):e.fol.length≤101:=by
 obtain ⟨a,m,_,_,h3⟩:=h
 cases e with
 | table x low row o=>obtain ⟨_,_,_,h⟩:=h3;show (row++[o]).length≤101;rw [List.length_append];exact Nat.succ_le_succ h
 | _=>exact Nat.le_of_ble_eq_true rfl
section
variable {hB:Heap} {H:MH}
inductive PrI (wl pa b n:Nat) (H0:MH) (vs:List MV) (c:aB) (j:Nat):List MV→Loc→MH→Prop
 | mk (rows:List Row) (u:Option MV) (acc:List MV) (H':MH) (le:j≤n) (d:DI wl pa (b + (n - j)) H0 H' vs c) (ha:All2 (IsRow (vw wl pa H')) acc rows) (hl:rows.length = j) (ok:∀ r∈rows,DrR r):PrI wl pa b n H0 vs c j acc [u,some (.ref wl)] H'
private theorem pV {wl pa b n:Nat} {H0:MH} {vs:List MV} {c:aB} {Q:QV} (ne:wl < pa) (di:DI wl pa (b + n) H0 H vs c) (hn:n≤2)
  (q:∀ H' acc rows,DI wl pa b H0 H' vs c→All2 (IsRow (vw wl pa H')) acc rows→rows.length≤2→(∀ r∈rows,DrR r)→Q (.ref H'.length) (H'++[.list acc])) :
  ub (aw 0) bG (wS hB) [none,some (.ref wl)] Q (.range 0 n 1) H:=by
 refine bX (PrI wl pa b n H0 vs c) (.mk [] _ _ _ (Nat.zero_le _) di .nil rfl λU h=>nomatch h) ?_ ?_ ?_
 ·rintro j acc _ H' ⟨rows,u,_,_,hj,_,ha,hl,_⟩
  exact ⟨trivial,by rw [ha.1,hl];exact Nat.le_trans ‹_› (Nat.le_trans ‹_› (by decide))⟩
 ·rintro j v acc _ H' hv ⟨rows,u,_,_,_,d,ha,hl,ok⟩
  obtain ⟨hj,rfl⟩:j < n∧.int (j:Nat) = v:=by simpa [It.at] using hv
  have w:=d.well
  rw [show b + (n - j) = b + (n - (j + 1)) + 1 by rw [rY hj];rfl] at w
  simp [wS]
  refine bi w (by decide) λo code w c0 c1=>?_
  simp
  refine m8 c0 c1 λX v r hr ok1 d1=>?_
  simp
  refine .mk (rows++[r]) _ _ _ hj (d.go ne rfl (w.app X)) ?_ (by rw [List.length_append,hl];rfl) λr' h'=>?_
  ·have e:vw wl pa (H'.set wl o++X) = vw wl pa H'++X:=by
    rw [jg (by rw [List.length_set];exact d.well.lt) (by rw [List.length_set];exact bv d.at_),lW]
   rw [e]
   exact (ha.mono λU U=>IsRow.kp .app).append (.one (hr _ (by rw [kK,List.length_set])))
  ·rcases List.mem_append.mp h' with h' | h'
   ·exact ok _ h'
   ·rw [List.mem_singleton.mp h'];exact ⟨ok1,d1⟩
 ·rintro acc _ H' ⟨rows,u,_,_,_,d,ha,hl,ok⟩
  have e:(It.range 0 n 1).size = n:=rfl
  rw [e] at d hl
  exact q H' acc rows (d.less (by exact Nat.le_add_right _ _)) ha (by omega) ok
private theorem nk {names:List Nat} {m k g:Nat} {c:aB} {p:PBlock} {P:Nat→Prop} (nd:names.Nodup) (hk:names[k]? = some g) (hg:g < c.length) (pb:PosB names m k p)
  (dn:∀ (k' g':Nat),P k'→names[k']? = some g'→∃ b,c[g']? = some b∧PosB names m k' b):∀ (k' g':Nat),(P k'∨k' = k)→names[k']? = some g'→∃ b,(c.set g p)[g']? = some b∧PosB names m k' b:=by
 intro k' g' h e
 by_cases ek:k' = k
 ·subst ek
  rw [hk] at e;cases e
  exact ⟨p,List.getElem?_set_self hg,pb⟩
 ·rw [List.getElem?_set_ne λq=>ek ?_]
  ·exact dn k' g' (h.resolve_right ek) e
  ·subst q
   exact ((List.getElem?_inj (List.getElem?_eq_some_iff.mp hk).1 nd).mp (hk.trans e.symm)).symm
inductive MaI (wl pa na m b:Nat) (ga:MV) (names:List Nat) (A:MH) (j:Nat):Loc→MH→Prop
 | mk (vs:List MV) (c:aB) (u1 u2 u3 u5 u6 u7 u10 u12 u13 u14 u15 u16:Option MV) (H':MH) (di:DI wl pa (b + 6 * (m - j)) A H' vs c) (len:c.length = names.length)
   (done:∀ (k g:Nat),(m≤k∨k < j)→names[k]? = some g→∃ b,c[g]? = some b∧PosB names m k b) :
   MaI wl pa na m b ga names A j [some (.ref wl),u1,u2,u3,some ga,u5,u6,u7,some (.int (m:Nat)),some (.ref na),u10,some (.ref pa),u12,u13,u14,u15,u16] H'
private theorem qJ {wl pa b na m j:Nat} {names:List Nat} {A H3:MH} {vs:List MV} {c:aB} {ga:MV} {ra:Nat} {rows:List Row} {u2 u3 u5 u6 u7 u10 u12 u14 u15 u16:Option MV} {Q:QS} (wlt:wl < pa) (ne:na≠wl) (npa:na≠pa) (an:A[na]? = some (.list (aA names)))
  (nlen:names.length = m + 4) (hm:3≤m∧m≤5) (hj:j < m) (d3:DI wl pa (b + 6 * (m - (j + 1)) + 3) A H3 vs c) (r3:IsRows (vw wl pa H3) (.ref ra) rows) (few:rows.length≤2) (ok:∀ r∈rows,DrR r) (len:c.length = names.length) (nd:names.Nodup) (lt:∀ g∈names,g < names.length)
  (done:∀ (k g:Nat),(m≤k∨k < j)→names[k]? = some g→∃ b,c[g]? = some b∧PosB names m k b) :
  tm hB [some (.ref wl),some (.int (j:Nat)),u2,u3,some ga,u5,u6,u7,some (.int (m:Nat)),some (.ref na),u10,some (.ref pa),u12,some (.ref ra),u14,u15,u16] H3 (lB (MaI wl pa na m b ga names A) j Q):=by
 have n3:=d3.dr.2 _ _ ne npa an
 obtain ⟨g,gj⟩:∃ g,names[j]? = some g:=⟨_,List.getElem?_eq_getElem (by rw [nlen];exact Nat.lt_add_right 4 hj)⟩
 have gJ:itO (some (.list (aA names))) (j:Int) = some (.int (g:Nat)):=b8 (by rw [aA,List.getElem?_map,gj];rfl)
 have gL:g < vs.length:=by rw [d3.all.1,len];exact lt g (List.mem_of_getElem? gj)
 have vl:vs.length≤1000000:=by rw [d3.all.1,len,nlen];exact Nat.le_trans (Nat.add_le_add_right hm.2 4) (by decide)
 have fin:∀ (H4:MH) (ve:MV) (e:PEnd) (u6:Option MV),DI wl pa (b + 6 * (m - (j + 1))) A H4 vs c→IsRows (vw wl pa H4) (.ref ra) rows→IsEndT (vw wl pa H4) ve e→(∀ x∈e.args,okO x)→e.fol.length≤101→(∀ g∈e.fol,∃ i,j < i∧names[i]? = some g)→(j + 1 = m→e = .give (.reg 2)) →
   MaI wl pa na m b ga names A (j + 1) [some (.ref wl),some (.int (j:Nat)),some ve,u3,some ga,u5,u6,u7,some (.int (m:Nat)),some (.ref na),u10,some (.ref pa),u12,some (.ref ra),u14,u15,u16] (H4.set pa (.list (vs.set g (.tup [.ref ra,ve])))):=by
  intro H4 ve e u6 d4 r4 e4 ok4 f4 up4 l4
  refine .mk _ _ _ _ _ _ _ _ _ _ _ _ _ _ _ (d4.put wlt (p:=⟨rows,e⟩) ⟨_,_,rfl,r4,e4⟩ g) (by rw [List.length_set];exact len) λk x hk hx=>?_
  refine nk nd gj (by rw [len];exact lt g (List.mem_of_getElem? gj)) (.main hj ⟨λr hr=>⟨(ok r hr).ok,(ok r hr).d⟩,few,ok4,f4,up4,l4⟩) done k x ?_ hx
  omega
 have dl:((names.drop (j + 1)).take (m + 2 - j)).length = m + 2 - j:=by rw [List.length_take,List.length_drop,nlen];exact Nat.min_eq_left (by rw [show m + 4 - (j + 1) = m + 3 - j from Nat.succ_sub_succ _ _];exact Nat.sub_le_sub_right (Nat.le_succ _) _)
 have gd:∀ g∈(names.drop (j + 1)).take (m + 2 - j),∃ i,j < i∧names[i]? = some g:=λg hg=>by
  obtain ⟨i,hi⟩:=List.mem_iff_getElem?.mp (List.mem_of_mem_take hg)
  rw [List.getElem?_drop] at hi
  exact ⟨_,Nat.lt_of_lt_of_le (Nat.lt_succ_self j) (Nat.le_add_right _ _),hi⟩
 simp [tm]
 refine ⟨⟨Int.le_trans (b:=0) (by decide) (Int.natCast_nonneg (j + 1)),leI (n:=j + 1) (b:=400000) (Nat.le_trans hj (Nat.le_trans hm.2 (by decide))),Int.le_trans (b:=0) (by decide) (Int.natCast_nonneg (m + 3)),leI (n:=m + 3) (b:=400000) (Nat.le_trans (Nat.add_le_add_right hm.2 3) (by decide))⟩,?_⟩
 have hsz:((m:Int) + 3 - ((j:Int) + 1)).toNat = m + 2 - j:=(Int.toNat_sub (m + 3) (j + 1)).trans (Nat.succ_sub_succ (m + 2) j)
 rw [hsz]
 refine bX (CI H3 (λi=>aA ((names.drop (j + 1)).take i)) (m + 2 - j) λu=>[u,some (.ref na)]) (.mk _ (Nat.zero_le _)) ?_ ?_ ?_
 ·rintro i _ _ _ ⟨_,hi⟩
  refine ⟨trivial,?_⟩
  rw [aA,List.length_map,List.length_take];exact Nat.le_trans (Nat.min_le_left _ _) (Nat.le_trans hi (Nat.le_trans (Nat.sub_le _ _) (Nat.le_trans (Nat.add_le_add_right hm.2 2) (by decide))))
 ·rintro i v _ _ _ hv ⟨u,_⟩
  obtain ⟨hi,rfl⟩:i < m + 2 - j∧.int ((j:Int) + 1 + i) = v:=by simpa [It.at] using hv
  obtain ⟨x,hx⟩:∃ x,names[j + 1 + i]? = some x:=⟨_,List.getElem?_eq_getElem (by rw [nlen,Nat.add_right_comm];exact Nat.lt_of_lt_of_le (Nat.succ_lt_succ (Nat.add_lt_of_lt_sub' hi)) (Nat.le_succ _))⟩
  have gX:itO (some (.list (aA names))) ((j:Int) + 1 + i) = some (.int (x:Nat)):=b8 (i:=j + 1 + i) (by rw [aA,List.getElem?_map,hx];rfl)
  simp [n3,gX]
  have nx:=CI.mk (H:=H3) (A:=λi=>aA ((names.drop (j + 1)).take i)) (n:=m + 2 - j) (F:=λu=>[u,some (.ref na)]) (j:=i + 1) (some (.int ((j:Int) + 1 + i))) hi
  rwa [show aA ((names.drop (j + 1)).take (i + 1)) = aA ((names.drop (j + 1)).take i)++[.int (x:Nat)] by rw [List.take_add_one,List.getElem?_drop,hx,aA,aA,List.map_append];rfl] at nx
 ·rintro _ _ _ ⟨u,_⟩
  have e:(It.range ((j:Int) + 1) (m + 2 - j) 1).size = m + 2 - j:=rfl
  rw [e]
  generalize (names.drop (j + 1)).take (m + 2 - j) = goals at dl gd
  have d4:=d3.app [.list (aA goals)]
  have r4:=r3.kp (d3.kp [.list (aA goals)])
  have n4:=app n3 [.list (aA goals)]
  have g4:(H3++[.list (aA goals)])[H3.length]? = some (.list (aA goals)):=cO
  have gw:H3.length≠wl:=Nat.ne_of_gt d3.well.lt
  simp
  generalize H3++[.list (aA goals)] = H4 at d4 r4 n4 g4 ⊢
  generalize H3.length = goa at g4 gw ⊢
  have p4:=d4.at_
  refine aL (λhc=>?_) λhc=>?_
  ·have hc:(j:Int) = m - 1:=by simpa using hc
   simp [app n4,app p4,gJ]
   refine ⟨⟨gL,vl⟩,fin _ _ (.give (.reg 2)) _ ((d4.app _).less (Nat.le_add_right _ 3)) (r4.kp (d4.kp _)) ⟨H4.length,_,rfl,d4.new _,rfl⟩ (λx hx=>?_) (Nat.zero_le _) (λU h=>nomatch h) λU=>rfl⟩
   rw [List.mem_singleton.mp hx]
   exact (by decide:2 < 4)
  ·have hc:¬ (j:Int) = m - 1:=by simpa using hc
   simp
   refine tI d4.well g4 gw (λh=>by rw [h] at dl;simp at dl;exact absurd dl (Nat.ne_of_lt (Nat.sub_pos_of_lt (Nat.lt_add_right 2 hj)))) λo X v e w5 he oke hge=>?_
   have d5:DI wl pa (b + 6 * (m - (j + 1))) A (H4.set wl o++X) vs c:=d4.go wlt rfl w5
   have n5:=app (aJ n4 (Ne.symm ne) (p:=o)) X
   have p5:=d5.at_
   have hvw:vw wl pa (H4.set wl o++X) = vw wl pa H4++X:=by
    rw [jg (by rw [List.length_set];exact d4.well.lt) (by rw [List.length_set];exact bv d4.at_),lW]
   have e5:IsEndT (vw wl pa (H4.set wl o++X)) v e:=by rw [hvw];exact he _ kK
   have r5:IsRows (vw wl pa (H4.set wl o++X)) (.ref ra) rows:=by rw [hvw];exact r4.kp .app
   simp [n5,p5,gJ]
   refine ⟨⟨gL,vl⟩,fin _ _ e _ d5 r5 e5 oke e5.few (λx hx=>gd x (hge x hx)) λh=>absurd (by rw [← h];exact (Int.add_sub_cancel (j:Int) 1).symm) hc⟩
private theorem qy {wl pa b na ga m:Nat} {names:List Nat} {vs:List MV} {c:aB} {args:List Int} {u1 u2 u3 u5 u6 u7 u10 u12 u13 u14 u15 u16:Option MV} {Q:QV} (wlt:wl < pa) (ne:na≠wl) (npa:na≠pa) (gw:ga≠wl) (gpa:ga≠pa) (hn:H[na]? = some (.list (aA names))) (hg:H[ga]? = some (.list (bc args)))
  (nlen:names.length = m + 4) (hm:3≤m∧m≤5) (di:DI wl pa (b + 6 * m) H H vs c) (len:c.length = names.length) (nd:names.Nodup) (lt:∀ g∈names,g < names.length)
  (done:∀ (k g:Nat),m≤k→names[k]? = some g→∃ b,c[g]? = some b∧PosB names m k b)
  (q:∀ H' c,IsPlaced H' (.ref pa) c→H'[ga]? = some (.list (bc args))→c.length = names.length→(∀ (k g:Nat),names[k]? = some g→∃ b,c[g]? = some b∧PosB names m k b)→Q (.tup [.ref pa,.ref ga]) H') :
  wY hB [some (.ref wl),u1,u2,u3,some (.ref ga),u5,u6,u7,some (.int (m:Nat)),some (.ref na),u10,some (.ref pa),u12,u13,u14,u15,u16] H (mZ Q):=by
 simp [wY]
 refine ⟨leI (b:=400000) (Nat.le_trans hm.2 (by decide)),bb (MaI wl pa na m b (.ref ga) names H) (.mk _ _ _ _ _ _ _ _ _ _ _ _ _ _ _ di len λk g h=>done k g (h.resolve_right (Nat.not_lt_zero _))) ?_ ?_ ?_⟩
 ·rintro j L H' _
  trivial
 ·rintro j v L H' hv ⟨vs,c,u1,u2,u3,u5,u6,u7,u10,u12,u13,u14,u15,u16,_,di,len,done⟩
  obtain ⟨hj,rfl⟩:j < m∧.int (j:Nat) = v:=by simpa [It.at] using hv
  have w:=di.well
  rw [show b + 6 * (m - j) = b + 6 * (m - (j + 1)) + 5 + 1 by rw [rY hj];rfl] at w
  simp
  refine bi w (by decide) λo x w x0 x1=>?_
  obtain ⟨n,rfl⟩:=Int.eq_ofNat_of_zero_le x0
  have d1:=(di.draw wlt w).less (b':=b + 6 * (m - (j + 1)) + 3 + n) (by omega)
  simp
  refine ⟨by omega,pV wlt d1 (by omega) λH2 acc rows d2 r2 few ok=>?_⟩
  simp
  have r3:IsRows (vw wl pa (H2++[.list acc])) (.ref H2.length) rows:=⟨_,_,rfl,d2.new _,r2.mono λU U=>IsRow.kp (d2.kp _)⟩
  exact qJ wlt ne npa hn nlen hm hj (d2.app _) r3 few ok len nd lt done
 ·rintro L H' ⟨vs,c,u1,u2,u3,u5,u6,u7,u10,u12,u13,u14,u15,u16,_,di,len,done⟩
  simp
  refine q H' c ⟨pa,vs,rfl,di.at_,di.all.mono λU U=>IsPl.kp (um di.well.lt (bv di.at_))⟩ (di.dr.2 _ _ gw gpa hg) len λk g hk=>done k g ?_ hk
  exact (Nat.lt_or_ge k m).symm
end
end Mine
end
section
namespace Mine
noncomputable def sZ (hB:Heap):ST:=(aj (au (aP (ai 9) (aI (ae (ai 0) (ae (dj (ai 8) (az 1)) am)) (aU hB))) (aw 5)) (aj (au (aY (ae (aW (ae (aY (ae (aQ 5) (ae (az 3) (ae (aW (ae (aY (ae (aQ 0) (ae (az 3) am))) (ae (aY (ae (aQ 1) (ae (az 1) am))) am))) (ae (az 0) (ae (b6 false) am)))))) am)) (ae (aY (ae (aQ 9) (ae (aW (ae (aY (ae (aQ 0) (ae (az 3) am))) am)) (ae (aY (ae (ai 5) (ae (ai 7) am))) am)))) am))) (eS (ai 11) (aP (ai 9) (ai 1)))) ay))
noncomputable def wu (hB:Heap):ST:=aj (cv (xf (aY (ae (ai 8) (ae (bZ (ai 8) (az 1)) am)))) (aw 1) (sZ hB)) (aj (au (aW (ae (aI (ae (ai 0) (ae (az 4) am)) (aU hB)) (ae (aI (ae (ai 0) (ae (az 4) am)) (aU hB)) (ae (aI (ae (ai 0) (ae (az 4) am)) (aU hB)) (ae (bZ (az 1) (aI (ae (ai 0) (ae (az 3) am)) (aU hB))) am))))) (aw 4)) (wY hB))
inductive FuI (wl pa na m b la:Nat) (names:List Nat) (A:MH) (j:Nat):Loc→MH→Prop
 | mk (vs:List MV) (c:aB) (u1 u2 u3 u4 u5 u6 u10 u12 u13 u14 u15 u16:Option MV) (H':MH) (di:DI wl pa (b + (2 - j)) A H' vs c) (len:c.length = names.length)
   (done:∀ (k g:Nat),(m + 2≤k∨m≤k∧k < m + j)→names[k]? = some g→∃ b,c[g]? = some b∧PosB names m k b) :
   FuI wl pa na m b la names A j [some (.ref wl),u1,u2,u3,u4,u5,u6,some (.int (la:Nat)),some (.int (m:Nat)),some (.ref na),u10,some (.ref pa),u12,u13,u14,u15,u16] H'
private theorem DI.news {wl pa b:Nat} {H0 H:MH} {vs:List MV} {c:aB} (h:DI wl pa b H0 H vs c) {X:MH} {k:Nat} {o:MObj} (e:X[k]? = some o):(vw wl pa (H++X))[H.length + k]? = some o:=by
 rw [jg h.well.lt (bv h.at_),← kK (A:=H) (wl:=wl) (pa:=pa),hl1];exact e
section
variable {hB:Heap} {H:MH}
private theorem ol {wl pa b na m j la:Nat} {names:List Nat} {A H':MH} {vs:List MV} {c:aB} {u2 u3 u4 u5 u6 u10 u12 u13 u14 u15 u16:Option MV} {Q:QS} (wlt:wl < pa) (ne:na≠wl) (npa:na≠pa) (an:A[na]? = some (.list (aA names)))
  (nlen:names.length = m + 4) (hm:3≤m∧m≤5) (hj:j < 2) (el:names[m - 1]? = some la) (di:DI wl pa (b + (2 - j)) A H' vs c) (len:c.length = names.length) (nd:names.Nodup) (lt:∀ g∈names,g < names.length)
  (done:∀ (k g:Nat),(m + 2≤k∨m≤k∧k < m + j)→names[k]? = some g→∃ b,c[g]? = some b∧PosB names m k b) :
  sZ hB [some (.ref wl),some (.int ((m + j:Nat):Int)),u2,u3,u4,u5,u6,some (.int (la:Nat)),some (.int (m:Nat)),some (.ref na),u10,some (.ref pa),u12,u13,u14,u15,u16] H' (lB (FuI wl pa na m b la names A) j Q):=by
 have n0:=di.dr.2 _ _ ne npa an
 obtain ⟨g,gj⟩:∃ g,names[m + j]? = some g:=⟨_,List.getElem?_eq_getElem (by rw [nlen];exact Nat.add_lt_add_left (Nat.lt_trans hj (by decide)) m)⟩
 have gJ:itO (some (.list (aA names))) ((m:Int) + (j:Int)) = some (.int (g:Nat)):=b8 (i:=m + j) (by rw [aA,List.getElem?_map,gj];rfl)
 have gL:g < vs.length:=by rw [di.all.1,len];exact lt g (List.mem_of_getElem? gj)
 have vl:vs.length≤1000000:=by rw [di.all.1,len,nlen];exact Nat.le_trans (Nat.add_le_add_right hm.2 4) (by decide)
 have w:=di.well
 rw [show b + (2 - j) = b + (2 - (j + 1)) + 1 by rw [rY hj];rfl] at w
 simp [sZ,n0]
 refine bi w (by omega) λo x w x0 x1=>?_
 obtain ⟨i,rfl⟩:=Int.eq_ofNat_of_zero_le x0
 obtain ⟨go,gi⟩:∃ g,names[i]? = some g:=⟨_,List.getElem?_eq_getElem (by omega)⟩
 have gI:itO (some (.list (aA names))) (i:Int) = some (.int (go:Nat)):=b8 (by rw [aA,List.getElem?_map,gi];rfl)
 have d1:=di.draw wlt w
 have n1:=aJ n0 (Ne.symm ne) (p:=o)
 have hlen:(H'.set wl o).length = H'.length:=List.length_set
 simp [n1,gI]
 rw [← hlen]
 generalize H'.set wl o = H1 at d1 n1 ⊢
 clear w hlen
 have d2:=d1.app [.list [.tup [.sym 0,.int 3],.tup [.sym 1,.int 1]],.list [.tup [.sym 5,.int 3,.ref H1.length,.int 0,.bool false]],.list [.tup [.sym 0,.int 3]]]
 have p2:=d2.at_
 simp [app n1,p2,gJ]
 refine ⟨⟨gL,vl⟩,.mk _ _ _ _ _ _ _ _ _ _ _ _ _ _ _ (d2.put wlt (p:=⟨[.sub 3 1],.branch (.reg 3) go la⟩) ⟨_,_,rfl,⟨_,_,rfl,d1.news (k:=1) rfl,.one ⟨H1.length,rfl,d1.news (k:=0) rfl⟩⟩,⟨_,_,rfl,d1.news (k:=2) rfl,rfl⟩⟩ g) (by rw [List.length_set];exact len) λk x hk hx=>?_⟩
 refine nk nd gj (by rw [len];exact lt g (List.mem_of_getElem? gj)) (.fuel (by omega) go la i (by omega) gi el rfl) done k x ?_ hx
 omega
private theorem DI.base {wl pa b:Nat} {H0 H:MH} {vs:List MV} {c:aB} (h:DI wl pa b H0 H vs c):DI wl pa b H H vs c:=⟨h.well,.refl,h.at_,h.all⟩
private theorem qp {wl pa na m la:Nat} {names:List Nat} {vs:List MV} {c:aB} {u1 u2 u3 u4 u5 u6 u10 u12 u13 u14 u15 u16:Option MV} {Q:QV} (wlt:wl < pa) (ne:na≠wl) (npa:na≠pa) (hn:H[na]? = some (.list (aA names)))
  (nlen:names.length = m + 4) (hm:3≤m∧m≤5) (el:names[m - 1]? = some la) (di:DI wl pa 50 H H vs c) (len:c.length = names.length) (nd:names.Nodup) (lt:∀ g∈names,g < names.length)
  (done:∀ (k g:Nat),m + 2≤k→names[k]? = some g→∃ b,c[g]? = some b∧PosB names m k b)
  (q:∀ H' ga c x0 x1 x2 x3,IsPlaced H' (.ref pa) c→H'[ga]? = some (.list (bc [x0,x1,x2,x3]))→(0≤x0∧x0 < 4)→(0≤x1∧x1 < 4)→(0≤x2∧x2 < 4)→(1≤x3∧x3 < 4) →
   c.length = names.length→(∀ (k g:Nat),names[k]? = some g→∃ b,c[g]? = some b∧PosB names m k b)→Q (.tup [.ref pa,.ref ga]) H') :
  wu hB [some (.ref wl),u1,u2,u3,u4,u5,u6,some (.int (la:Nat)),some (.int (m:Nat)),some (.ref na),u10,some (.ref pa),u12,u13,u14,u15,u16] H (mZ Q):=by
 simp [wu]
 refine bb (FuI wl pa na m 48 la names H) (.mk _ _ _ _ _ _ _ _ _ _ _ _ _ _ _ di len λk g h=>done k g (by omega)) ?_ ?_ ?_
 ·rintro j L H' _
  trivial
 ·rintro j v L H' hv ⟨vs,c,u1,u2,u3,u4,u5,u6,u10,u12,u13,u14,u15,u16,_,di,len,done⟩
  obtain ⟨hj,rfl⟩:j < 2∧MV.int ((m + j:Nat):Int) = v:=by
   match j,hv with
   | 0,hv=>exact ⟨by decide,Option.some.inj hv⟩
   | 1,hv=>exact ⟨by decide,Option.some.inj hv⟩
   | j + 2,hv=>cases hv
  rw [Ah,zx]
  exact ol wlt ne npa hn nlen hm hj el di len nd lt done
 ·rintro L H' ⟨vs,c,u1,u2,u3,u4,u5,u6,u10,u12,u13,u14,u15,u16,_,di,len,done⟩
  have n0:=di.dr.2 _ _ ne npa hn
  simp
  refine bi di.well (by decide) λo1 x0 w1 a0 b0=>?_
  have d1:=di.draw wlt w1
  have n1:=aJ n0 (Ne.symm ne) (p:=o1)
  simp
  refine bi w1 (by decide) λo2 x1 w2 a1 b1=>?_
  have d2:=d1.draw wlt w2
  have n2:=aJ n1 (Ne.symm ne) (p:=o2)
  simp [-List.set_set]
  refine bi w2 (by decide) λo3 x2 w3 a2 b2=>?_
  have d3:=d2.draw wlt w3
  have n3:=aJ n2 (Ne.symm ne) (p:=o3)
  simp [-List.set_set]
  refine bi w3 (by decide) λo4 x3 w4 a3 b3=>?_
  have d4:=d3.draw wlt w4
  have n4:=aJ n3 (Ne.symm ne) (p:=o4)
  have hl4:((((H'.set wl o1).set wl o2).set wl o3).set wl o4).length = H'.length:=by simp only [List.length_set]
  have gpa:H'.length≠pa:=Nat.ne_of_gt (bv di.at_)
  have gw:H'.length≠wl:=Nat.ne_of_gt di.well.lt
  simp [-List.set_set]
  generalize (((H'.set wl o1).set wl o2).set wl o3).set wl o4 = H4 at d4 n4 hl4 ⊢
  rw [← hl4] at gpa gw ⊢
  refine qy wlt ne npa gw gpa (app n4 _) (args:=[x0,x1,x2,1 + x3]) cO nlen hm ((d4.app _).less (b':=10 + 6 * m) (Nat.le_trans (Nat.add_le_add_left (Nat.mul_le_mul_left 6 hm.2) 10) (by decide))).base len nd lt (λk g h=>done k g ?_) λH5 c5 p5 g5 l5 e5=>q H5 _ c5 x0 x1 x2 (1 + x3) p5 g5 ⟨a0,b0⟩ ⟨a1,b1⟩ ⟨a2,b2⟩ (by omega) l5 e5
  show m + 2≤k∨m≤k∧k < m + 2
  omega
end
end Mine
end
section
namespace Mine
noncomputable def nmG (m y t a:Nat):Nat:=1 + (a * y + t) % (m + 3)
noncomputable def nmF (m y t:Nat):List Nat:=0 :: (List.range (m + 3)).map (nmG m y t)
private theorem zo:∀ m∈[3,4,5],∀ y∈[1,m + 2],∀ t∈List.range (m + 3),(nmF m y t).Nodup:=by decide +kernel
private theorem nQ {m y t:Nat}:(nmF m y t).length = m + 4:=by rw [nmF,List.length_cons,List.length_map,List.length_range]
private theorem ys {m y t:Nat}:∀ g∈nmF m y t,g < (nmF m y t).length:=λg hg=>by
 rw [nQ]
 rcases List.mem_cons.mp hg with rfl | hg
 ·exact Nat.le_add_left _ _
 ·obtain ⟨a,_,rfl⟩:=List.mem_map.mp hg
  have:=Nat.mod_lt (a * y + t) (show 0 < m + 3 by exact Nat.le_add_left _ _)
  unfold nmG;omega
private theorem yO {m y t:Nat} (hm:3≤m∧m≤5) (hy:y = 1∨y = m + 2) (ht:t < m + 3):(nmF m y t).Nodup :=
 zo m (by simp;omega) y (by simpa using hy) t (List.mem_range.mpr ht)
noncomputable def wD (hB:Heap):ST :=
 (aj (au (aY (ae (aP (ai 9) (dj (ai 8) (az 1))) (ae (aP (ai 9) (bZ (ai 8) (az 2))) (ae (aP (ai 9) (bZ (ai 8) (az 3))) am)))) (cu [(aw 7),(aw 10),(aw 3)]))
 (aj (au (aW (ae (aY (ae (aQ 8) (ae (aW am) (ae (ai 10) am)))) (ae (aY (ae (aQ 9) (ae (aW (ae (aY (ae (aQ 1) (ae (az 1) am))) am)) (ae (aY (ae (ai 10) (ae (az 0) am))) am)))) (ae (aY (ae (aQ 10) (ae (aW (ae (aY (ae (aQ 0) (ae (az 1) am))) am)) (ae (aY (ae (az 0) (ae (aW (ae (ai 10) am)) (ae (ai 10) am)))) am)))) am)))) (aw 12))
 (aj (au (cE (bD (ai 9)) (aw 0) bG (aY (ae (aW am) (ae (aY (ae (aQ 8) (ae (aW am) (ae (ai 1) am)))) am))) 1 [3]) (aw 11))
 (aj (au (aY (ae (aW am) (ae (aP (ai 12) (aI (ae (ai 0) (ae (az 3) am)) (aU hB))) am))) (eS (ai 11) (ai 3)))
 (wu hB)))))
noncomputable def zN (hB:Heap):ST:=aj (au (bZ (aW (ae (az 0) am)) (cE (eK (ae (dj (ai 14) (az 1)) am)) (aw 0) bG (bZ (az 1) (dH (bZ (mF (ai 0) (ai 3)) (ai 2)) (dj (ai 1) (az 1)))) 1 [14,15,16])) (aw 9)) (wD hB)
section
variable {hB:Heap} {H:MH}
private theorem qg {wl na m:Nat} {names:List Nat} {u14 u15 u16:Option MV} {Q:QV} (hw:IsWell H wl 60) (hn:H[na]? = some (.list (aA names))) (ne:na≠wl) (nlen:names.length = m + 4) (hm:3≤m∧m≤5) (nd:names.Nodup) (lt:∀ g∈names,g < names.length)
  (q:∀ H' pa ga c x0 x1 x2 x3,IsPlaced H' (.ref pa) c→H'[ga]? = some (.list (bc [x0,x1,x2,x3]))→(0≤x0∧x0 < 4)→(0≤x1∧x1 < 4)→(0≤x2∧x2 < 4)→(1≤x3∧x3 < 4) →
   c.length = names.length→(∀ (k g:Nat),names[k]? = some g→∃ b,c[g]? = some b∧PosB names m k b)→Q (.tup [.ref pa,.ref ga]) H') :
  wD hB [some (.ref wl),none,none,none,none,none,none,none,some (.int (m:Nat)),some (.ref na),none,none,none,none,u14,u15,u16] H (mZ Q):=by
 have get:∀ k,k < m + 4→∃ g,names[k]? = some g∧∀ x:Int,x = (k:Int)→itO (some (.list (aA names))) x = some (.int (g:Nat)):=λk hk=>by
  have e:names[k]? = some names[k]:=List.getElem?_eq_getElem (by rw [nlen];exact hk)
  exact ⟨_,e,λx hx=>by subst hx;exact b8 (by rw [aA,List.getElem?_map,e];rfl)⟩
 obtain ⟨la,el,il⟩:=get (m - 1) (Nat.lt_of_le_of_lt (Nat.sub_le _ _) (Nat.lt_add_of_pos_right (by decide)))
 obtain ⟨nr,en,inr⟩:=get (m + 2) (Nat.add_lt_add_left (by decide) m)
 obtain ⟨fr,ef,ifr⟩:=get (m + 3) (Nat.add_lt_add_left (by decide) m)
 have il:=il ((m:Int) - 1) (Int.ofNat_sub (Nat.le_trans (by decide) hm.1)).symm
 have inr:=inr ((m:Int) + 2) rfl
 have ifr:=ifr ((m:Int) + 3) rfl
 have hwl:=hw.lt
 simp [wD,hn,il,inr,ifr]
 have hr:∀ (i:Nat),i < 3→∃ v e,[MV.tup [.sym 8,.ref H.length,.int (nr:Nat)],.tup [.sym 9,.ref (H.length + 1),.tup [.int (nr:Nat),.int 0]],.tup [.sym 10,.ref (H.length + 2),.tup [.int 0,.ref (H.length + 3),.int (nr:Nat)]]][i]? = some v ∧
   IsEndT (cq (H++[.list [],.list [.tup [.sym 1,.int 1]],.list [.tup [.sym 0,.int 1]],.list [.int (nr:Nat)],.list [.tup [.sym 8,.ref H.length,.int (nr:Nat)],.tup [.sym 9,.ref (H.length + 1),.tup [.int (nr:Nat),.int 0]],.tup [.sym 10,.ref (H.length + 2),.tup [.int 0,.ref (H.length + 3),.int (nr:Nat)]]]]) wl) v e ∧
   (PBlock.mk [] e = ⟨[],.jump nr⟩∨PBlock.mk [] e = ⟨[],.branch (.num 1) nr 0⟩∨PBlock.mk [] e = ⟨[],.table (.reg 1) 0 [nr] nr⟩):=by
  intro i hi
  rw [dJ hwl]
  match i,hi with
  | 0,_=>exact ⟨_,.jump nr,rfl,⟨_,_,rfl,by rw [← bV (H:=H) (a:=wl)];exact cO,rfl⟩,.inl rfl⟩
  | 1,_=>exact ⟨_,.branch (.num 1) nr 0,rfl,⟨_,_,rfl,by rw [← bV (H:=H) (a:=wl)];exact hG,rfl⟩,.inr (.inl rfl)⟩
  | 2,_=>exact ⟨_,.table (.reg 1) 0 [nr] nr,rfl,⟨_,_,rfl,by rw [← bV (H:=H) (a:=wl)];exact uZ,H.length + 3,rfl,by rw [← bV (H:=H) (a:=wl)];exact hl1,Nat.le_of_ble_eq_true rfl⟩,.inr (.inr rfl)⟩
 have gr:(H++[.list [],.list [.tup [.sym 1,.int 1]],.list [.tup [.sym 0,.int 1]],.list [.int (nr:Nat)],.list [.tup [.sym 8,.ref H.length,.int (nr:Nat)],.tup [.sym 9,.ref (H.length + 1),.tup [.int (nr:Nat),.int 0]],.tup [.sym 10,.ref (H.length + 2),.tup [.int 0,.ref (H.length + 3),.int (nr:Nat)]]]])[H.length + 4]? = some (.list [.tup [.sym 8,.ref H.length,.int (nr:Nat)],.tup [.sym 9,.ref (H.length + 1),.tup [.int (nr:Nat),.int 0]],.tup [.sym 10,.ref (H.length + 2),.tup [.int 0,.ref (H.length + 3),.int (nr:Nat)]]]):=hl1
 have gn:=app hn [.list [],.list [.tup [.sym 1,.int 1]],.list [.tup [.sym 0,.int 1]],.list [.int (nr:Nat)],.list [.tup [.sym 8,.ref H.length,.int (nr:Nat)],.tup [.sym 9,.ref (H.length + 1),.tup [.int (nr:Nat),.int 0]],.tup [.sym 10,.ref (H.length + 2),.tup [.int 0,.ref (H.length + 3),.int (nr:Nat)]]]]
 have wG:=hw.app [.list [],.list [.tup [.sym 1,.int 1]],.list [.tup [.sym 0,.int 1]],.list [.int (nr:Nat)],.list [.tup [.sym 8,.ref H.length,.int (nr:Nat)],.tup [.sym 9,.ref (H.length + 1),.tup [.int (nr:Nat),.int 0]],.tup [.sym 10,.ref (H.length + 2),.tup [.int 0,.ref (H.length + 3),.int (nr:Nat)]]]]
 have rw_:H.length + 4≠wl:=Nat.ne_of_gt (Nat.lt_add_right 4 hwl)
 generalize [MV.tup [.sym 8,.ref H.length,.int (nr:Nat)],.tup [.sym 9,.ref (H.length + 1),.tup [.int (nr:Nat),.int 0]],.tup [.sym 10,.ref (H.length + 2),.tup [.int 0,.ref (H.length + 3),.int (nr:Nat)]]] = R at hr gr gn wG ⊢
 generalize H++[.list [],.list [.tup [.sym 1,.int 1]],.list [.tup [.sym 0,.int 1]],.list [.int (nr:Nat)],.list R] = G at hr gr gn wG ⊢
 generalize H.length + 4 = ra at gr rw_ ⊢
 have nl:(aA names).length = m + 4:=by rw [aA,List.length_map,nlen]
 simp [gn]
 refine bX (BlI G (m + 4) ⟨[],.jump fr⟩ λu=>[u,some (.int (fr:Nat))]) .nil ?_ ?_ ?_
 ·rintro j acc _ _ ⟨X,_,_,hj,h⟩
  refine ⟨app gn X,?_⟩
  have:=(h G rfl).1
  rw [List.length_replicate] at this
  omega
 ·rintro j v acc _ _ hv ⟨X,u,_,_,h⟩
  have hj:j < m + 4:=by
   rw [← nl]
   exact (List.getElem?_eq_some_iff.mp (show (aA names)[j]? = some v from hv)).1
  simp
  refine .mk _ _ _ hj λY hY=>?_
  rw [List.replicate_succ']
  rw [← hY]
  have hlen:(Y++X).length = Y.length + X.length:=List.length_append
  rw [← List.append_assoc]
  refine ((h Y hY).mono λU U=>IsPl.kp .app).append (.one ⟨_,_,rfl,⟨_,[],rfl,?_,.nil⟩,⟨_,_,rfl,?_,rfl⟩⟩)
  ·rw [← hlen];exact cO
  ·rw [← Nat.add_assoc,← hlen];exact hG
 ·rintro acc _ _ ⟨X,u,_,_,h⟩
  have hsz:(It.list na (aA names)).size = m + 4:=nl
  rw [hsz] at h
  simp
  have d0:=DI.start wG h
  have k0:Kp (cq G wl) (vw wl (G.length + X.length) (G++(X++[.list acc]))):=by
   rw [sw wG.lt];exact Kp.app.trans .app
  have n0:=app gn (X++[.list acc])
  have r0:=app gr (X++[.list acc])
  have wlt:wl < G.length + X.length:=Nat.lt_add_right _ wG.lt
  have npa:na≠G.length + X.length:=Nat.ne_of_lt (Nat.lt_add_right _ (bv gn))
  have rpa:ra≠G.length + X.length:=Nat.ne_of_lt (Nat.lt_add_right _ (bv gr))
  rw [show G++(X++[MObj.list acc,.list []]) = G++(X++[.list acc])++[.list []] by simp,show G.length + (X.length + 1) = (G++(X++[MObj.list acc])).length by simp]
  generalize G++(X++[.list acc]) = A at d0 k0 n0 r0 ⊢
  generalize G.length + X.length = pa at d0 k0 wlt npa rpa ⊢
  have d1:=d0.app [.list []]
  have l1:=d0.new (.list [])
  have k1:=k0.trans (d0.kp [.list []])
  have n1:=app n0 [.list []]
  have r1:=app r0 [.list []]
  generalize A++[.list []] = A1 at d1 l1 k1 n1 r1 ⊢
  generalize A.length = la1 at l1 ⊢
  refine bi (b:=59) d1.well (by decide) λo x w2 x0 x1=>?_
  obtain ⟨i,rfl⟩:=Int.eq_ofNat_of_zero_le x0
  obtain ⟨v,e,hv,he,hcase⟩:=hr i (Int.ofNat_lt.mp x1)
  have d2:=d1.draw wlt w2
  have k2:=d1.kpw o
  have n2:=aJ n1 (Ne.symm ne) (p:=o)
  have r2:=aJ r1 (Ne.symm rw_) (p:=o)
  have gR:itO (some (.list R)) (i:Int) = some v:=b8 hv
  have p2:=d2.at_
  have fL:fr < acc.length:=by rw [d2.all.1,List.length_replicate,← nlen];exact lt fr (List.mem_of_getElem? ef)
  have al:acc.length≤1000000:=by rw [d2.all.1,List.length_replicate];exact Nat.le_trans (Nat.add_le_add_right hm.2 4) (by decide)
  simp [r2,gR,p2]
  refine ⟨⟨fL,al⟩,?_⟩
  have d3:=(d2.put wlt (p:=⟨[],e⟩) ⟨.ref la1,v,rfl,⟨la1,[],rfl,k2 _ _ l1 rfl,.nil⟩,he.kp (k1.trans k2)⟩ fr)
  refine qp wlt ne npa (aJ n2 (Ne.symm npa)) nlen hm el (d3.less (by decide)).base (by rw [List.length_set,List.length_replicate,nlen]) nd lt (λk g hk hx=>?_) (λH' ga=>q H' pa ga)
  have hk4:=(List.getElem?_eq_some_iff.mp hx).1
  refine nk (P:=λk=>k = m + 2) nd ef (by rw [List.length_replicate,← nlen];exact lt fr (List.mem_of_getElem? ef)) (.far rfl nr en hcase) (λk' g' e' hx'=>⟨⟨[],.jump fr⟩,?_,.near e' fr ef rfl⟩) k g (by omega) hx
  have:=lt g' (List.mem_of_getElem? hx')
  rw [List.getElem?_replicate,if_pos (by rw [← nlen];exact this)]
private theorem sf {wl m y t:Nat} {Q:QV} (hw:IsWell H wl 60) (hm:3≤m∧m≤5) (hy:y = 1∨y = m + 2) (ht:t < m + 3)
  (q:∀ H' pa ga c x0 x1 x2 x3,IsPlaced H' (.ref pa) c→H'[ga]? = some (.list (bc [x0,x1,x2,x3]))→(0≤x0∧x0 < 4)→(0≤x1∧x1 < 4)→(0≤x2∧x2 < 4)→(1≤x3∧x3 < 4) →
   c.length = m + 4→(∀ (k g:Nat),(nmF m y t)[k]? = some g→∃ b,c[g]? = some b∧PosB (nmF m y t) m k b)→Q (.tup [.ref pa,.ref ga]) H') :
  zN hB [some (.ref wl),none,none,none,none,none,none,none,some (.int (m:Nat)),none,none,none,none,none,some (.int ((m:Int) + 4)),some (.int (t:Nat)),some (.int (y:Nat))] H (mZ Q):=by
 have hwl:=hw.lt
 simp [zN]
 refine ⟨by omega,?_⟩
 have e3:((m:Int) + 4).toNat - 1 = m + 3:=rfl
 have e4:(m:Int) + 4 - 1 = ((m + 3:Nat):Int):=Int.add_sub_cancel ((m + 3:Nat):Int) 1
 have eg:∀ j:Nat,1 + ((j:Int) * (y:Int) + (t:Int)) % ((m:Int) + 4 - 1) = (nmG m y t j:Int):=λj=>by
  rw [e4,nmG];push_cast;rfl
 rw [e3,show ql [some (MV.ref wl),none,none,none,none,none,none,none,some (.int (m:Nat)),none,none,none,none,none,some (.int ((m:Int) + 4)),some (.int (t:Nat)),some (.int (y:Nat))] 1 [14,15,16] = [none,some (.int ((m:Int) + 4)),some (.int (t:Nat)),some (.int (y:Nat))] from rfl]
 refine bX (CI (H++[.list [.int 0]]) (λj=>aA ((List.range j).map (nmG m y t))) (m + 3) λu=>[u,some (.int ((m:Int) + 4)),some (.int (t:Nat)),some (.int (y:Nat))]) (.mk _ (Nat.zero_le _)) ?_ ?_ ?_
 ·rintro j _ _ _ ⟨_,hj⟩
  refine ⟨trivial,?_⟩
  rw [aA,List.length_map,List.length_map,List.length_range];omega
 ·rintro j v _ _ _ hv ⟨u,_⟩
  obtain ⟨hj,rfl⟩:j < m + 3∧.int (j:Nat) = v:=by simpa [It.at] using hv
  simp [eg]
  refine ⟨by omega,by omega,?_⟩
  have nx:=CI.mk (H:=H++[.list [.int 0]]) (A:=λj=>aA ((List.range j).map (nmG m y t))) (n:=m + 3) (F:=λu=>[u,some (.int ((m:Int) + 4)),some (.int (t:Nat)),some (.int (y:Nat))]) (j:=j + 1) (some (.int (j:Nat))) hj
  rwa [show aA ((List.range (j + 1)).map (nmG m y t)) = aA ((List.range j).map (nmG m y t))++[.int (nmG m y t j:Nat)] by rw [List.range_succ,List.map_append,aA,aA,List.map_append];rfl] at nx
 ·rintro _ _ H' ⟨u,_⟩
  have e:(It.range 0 (m + 3) 1).size = m + 3:=rfl
  rw [e]
  simp
  refine ⟨by omega,qg (names:=nmF m y t) (hw.app _) uZ (by omega) nQ hm (yO hm hy ht) ys λH' pa ga c x0 x1 x2 x3 h1 h2 h3 h4 h5 h6 h7=>q H' pa ga c x0 x1 x2 x3 h1 h2 h3 h4 h5 h6 (h7.trans nQ)⟩
private theorem pI {l:List Nat}:(bK l).map .int = aA l:=by rw [bK,List.map_map];rfl
private theorem zI:∀ m∈[3,4,5],(List.range m).Nodup∧(∀ g∈List.range m,g < m)∧(List.range m)[0]? = some 0∧cS 0 m 1 = bK (List.range m):=by decide +kernel
noncomputable def tZ (m:Nat):List Nat:=(List.range (m - 1)).reverse.map (· + 1)
private theorem xr:∀ m∈[3,4,5],(0 :: tZ m).Nodup∧(∀ g∈0 :: tZ m,g < m)∧(0 :: tZ m).length = m∧cS ((m:Int) - 1) (m - 1) (-1) = bK (tZ m):=by decide +kernel
private theorem zJ:iX hB = aj (au (bZ (az 3) (aI (ae (ai 0) (ae (az 3) am)) (aU hB))) (aw 8)) (aj (au (bZ (ai 8) (az 4)) (aw 14)) (aj (au (aP (aY (ae (az 1) (ae (dj (ai 14) (az 2)) am))) (aI (ae (ai 0) (ae (az 2) am)) (aU hB))) (aw 16)) (aj (au (aI (ae (ai 0) (ae (dj (ai 14) (az 1)) am)) (aU hB)) (aw 15)) (aj (sIf (aM .eq (dH (ai 15) (az 3)) (az 1)) (aj (bq (aI (ae (ai 0) (ae (ai 8) (ae (eIf (aM .eq (ai 16) (az 1)) (dq (ae (ai 8) am)) (bZ (aW (ae (az 0) am)) (dq (ae (dj (ai 8) (az 1)) (ae (az 0) (ae (eI (az 1)) am)))))) am))) (eC hB))) ay) ay) (zN hB))))):=rfl
private theorem mn {wl:Nat} {Q:QV} (hw:IsWell H wl 900000)
  (q:∀ H' pv ga c names m x0 x1 x2 x3,IsPlaced H' pv c→H'[ga]? = some (.list (bc [x0,x1,x2,x3]))→(0≤x0∧x0 < 4)→(0≤x1∧x1 < 4)→(0≤x2∧x2 < 4)→(1≤x3∧x3 < 4)→Drawn c names m→Q (.tup [pv,.ref ga]) H') :
  fK hB [.ref wl] H Q:=by
 refine fn rfl [some (.ref wl),none,none,none,none,none,none,none,none,none,none,none,none,none,none,none,none] rfl ?_
 rw [zJ]
 simp
 refine bi hw (by decide) λo1 x w1 x0 x1=>?_
 obtain ⟨m0,rfl⟩:=Int.eq_ofNat_of_zero_le x0
 obtain ⟨m,em,hm⟩:∃ m:Nat,3 + (m0:Int) = (m:Int)∧3≤m∧m≤5:=⟨3 + m0,by exact rfl,by exact Nat.le_add_right _ _,by omega⟩
 simp [em]
 refine bi w1 (by decide) λo2 y w2 y0 y1=>?_
 obtain ⟨z,hz,hzc⟩:∃ z:Nat,(∀ H',cy H' (.tup [.int 1,.int ((m:Int) + 4 - 2)]) (.int y) = some (.int (z:Nat)))∧(z = 1∨z = m + 2):=by
  have:y = 0∨y = 1:=by omega
  rcases this with rfl | rfl
  ·exact ⟨1,λU=>rfl,.inl rfl⟩
  ·exact ⟨m + 2,λU=>by rw [zD];congr 2;omega,.inr rfl⟩
 simp [-uy,hz] at w2 ⊢
 refine bi w2 (by omega) λo3 tu w3 t0 t1=>?_
 obtain ⟨t,rfl⟩:=Int.eq_ofNat_of_zero_le t0
 have chain:∀ (K:QV) (H0:MH) (na:Nat) (names:List Nat),(∀ v H,Q v H→K v H)→IsWell H0 wl 800→na≠wl→H0[na]? = some (.list (aA names))→names.length = m→names.Nodup→(∀ g∈names,g < m)→names[0]? = some 0 →
   eC hB [.ref wl,.int (m:Nat),.ref na] H0 K:=λK H0 na names hK w ne hn hl nd lt h0 =>
  qj (b:=700) w hn ne hl nd hm lt λH' pv ga c x0 x1 x2 x3 p g a0 a1 a2 a3 lc hb=>hK _ _ <| q H' pv ga c names m x0 x1 x2 x3 p g a0 a1 a2 a3
   ⟨by exact Eq.trans ‹_› (Eq.symm ‹_›),nd,by rw [lc];exact lt,h0,hm,by omega,by exact Nat.le_of_eq (Eq.symm ‹_›),λk g hk=>by
    obtain ⟨b,e,mb⟩:=hb k g hk
    have:=(List.getElem?_eq_some_iff.mp hk).1
    exact ⟨b,e,.main (by exact Nat.le_trans ‹_› (Nat.le_of_eq ‹_›)) mb⟩⟩
 have hm3:m∈[3,4,5]:=by simp;omega
 simp at w3 ⊢
 have hwl:=hw.lt
 have hl3:(H.set wl o3).length = H.length:=List.length_set
 refine aL (λhc=>?_) λhc=>?_
 ·simp
  refine aL (λhc=>?_) λhc=>?_
  ·obtain ⟨c1,c2,c3,c4⟩:=zI m hm3
   simp
   refine ⟨by omega,chain _ _ _ (List.range m) (λv H h=>h) ((w3.app _).less (by decide)) (by exact Nat.ne_of_gt ‹_›) ?_ List.length_range c1 c2 c3⟩
   rw [c4,pI,← hl3];exact cO
  ·obtain ⟨c1,c2,c3,c4⟩:=xr m hm3
   have c5:=c3
   rw [List.length_cons] at c5
   simp [c4]
   refine ⟨by omega,by omega,chain _ _ _ _ (λv H h=>h) ((w3.app _).less (by decide)) (by omega) ?_ c3 c1 c2 rfl⟩
   rw [← hl3,pI];exact uZ
 ·simp
  refine sf (w3.less (by decide)) hm hzc (by omega) λH' pa ga c x0 x1 x2 x3 h1 h2 h3 h4 h5 h6 h7 h8=>?_
  exact q H' (.ref pa) ga c (nmF m z t) m x0 x1 x2 x3 h1 h2 h3 h4 h5 h6 ⟨by rw [h7,nQ],yO hm hzc (by omega),λg hg=>by rw [h7];have:=ys g hg;rwa [nQ] at this,rfl,hm,by omega,by omega,h8⟩
end
end Mine
end
section
namespace Mine
mutual
private theorem ig:∀ d:DV,eqD d d = true
 | .int i=>beq_self_eq_true i
 | .sym i=>beq_self_eq_true i
 | .bool i=>beq_self_eq_true i
 | .lst l=>kz l
 | .tup l=>kz l
private theorem kz:∀ l:List DV,nR l l = true
 | []=>rfl
 | a :: r=>Bool.and_eq_true_iff.mpr ⟨ig a,kz r⟩
end
noncomputable def Row.moreD (e0:Row):DV:=Row.rec (motive:=λU=>DV) (λU U=>.int 0) (λU U=>.int 0) (λU U=>.sym 12) (λU U=>.sym 12) (λU U=>.int 0) (λU U=>.int 4) (λU U=>.tup [.int 4,.bool false]) e0
noncomputable def wL (r:Row):DV:=.tup [.sym r.op,.int r.dst,.lst (r.args.map vC),r.moreD,.bool r.vol]
noncomputable def vT (e:PEnd):DV:=.tup [.sym e.op,.lst (e.args.map vC),e.moreD]
noncomputable def plD (p:PBlock):DV:=.tup [.lst (p.rows.map wL),vT p.en]
section
variable {H:MH}
private theorem IsRow.deep {f:Nat} (v:MV) (r:Row) (h:IsRow H v r):Mine.deep (f + 4) H v = some (wL r):=by
 obtain ⟨a,rfl,h1⟩:=h
 have e:=cC (f:=f + 2) h1 dC lY
 have s:Mine.deep (f + 3) H (.sym r.op) = some (.sym r.op):=by
  rw [jt,if_pos];cases r <;> exact Nat.le_of_ble_eq_true rfl
 have m:Mine.deep (f + 3) H r.more = some r.moreD:=by cases r <;> rfl
 rw [eF]
 simp only [cF,de,dR,s,m,e]
 rfl
private theorem IsEndT.deep {f:Nat} (v:MV) (e:PEnd) (h:IsEndT H v e):Mine.deep (f + 4) H v = some (vT e):=by
 obtain ⟨a,m,rfl,h1,h2⟩:=h
 have x:=cC (f:=f + 2) h1 dC lY
 have s:Mine.deep (f + 3) H (.sym e.op) = some (.sym e.op):=by
  rw [jt,if_pos];cases e <;> exact Nat.le_of_ble_eq_true rfl
 have y:=h2.deep (f:=f)
 rw [eF]
 simp only [cF,de,dR,s,x,y]
 rfl
private theorem IsPl.deep {f:Nat} (v:MV) (p:PBlock) (h:IsPl H v p):Mine.deep (f + 6) H v = some (plD p):=by
 obtain ⟨vr,ve,rfl,⟨a,vs,rfl,h1,h2⟩,h3⟩:=h
 have x:=cC (f:=f + 4) h1 h2 IsRow.deep
 have y:=IsEndT.deep (f:=f + 1) _ _ h3
 rw [eF]
 simp only [cF,de,dR,x,y]
 rfl
end
private theorem yd {r r':Row} (h1:r.op = r'.op) (h2:r.dst = r'.dst) (h3:r.args = r'.args) (h4:r.vol = r'.vol):r = r':=by
 cases r <;> cases r' <;> first | exact neN h1 rfl | (simp [Row.dst,Row.args,Row.vol] at h2 h3 h4;done) | (simp [Row.dst,Row.args,Row.vol] at h2 h3 h4;simp [h2,h3,h4];done) | skip
private theorem yl (r r':Row):eqD (wL r) (wL r') = true↔r = r':=by
 refine ⟨λh=>?_,λh=>by rw [h];exact ig _⟩
 unfold wL at h
 simp only [uG,mN,xI,uX,Ao,xL,Bool.and_eq_true,beq_iff_eq] at h
 obtain ⟨h1,h2,h3,_,h4,_⟩:=h
 exact yd h1 h2 ((fO rd).mp h3) h4
private theorem yj (e e':PEnd):eqD (vT e) (vT e') = true↔e = e':=by
 refine ⟨λh=>?_,λh=>by rw [h];exact ig _⟩
 unfold vT at h
 simp only [uG,mN,xI,xL,Bool.and_eq_true,beq_iff_eq] at h
 exact end_eq.mpr ⟨h.1,(fO rd).mp h.2.1,(rA h.1).mp h.2.2.1⟩
private theorem zr (p p':PBlock):eqD (plD p) (plD p') = true↔p = p':=by
 refine ⟨λh=>?_,λh=>by rw [h];exact ig _⟩
 unfold plD at h
 simp only [uG,mN,xL,Bool.and_eq_true] at h
 obtain ⟨h1,h2,_⟩:=h
 have a:=(fO yl).mp h1
 have b:=(yj _ _).mp h2
 cases p;cases p'
 dsimp only at a b
 rw [a,b]
private theorem mM {H:MH} {i j:Nat} {c d:aB} (a:IsPlaced H (.ref i) c) (b:IsPlaced H (.ref j) d):∃ x,cp H .ne (.ref i) (.ref j) = some x∧(x = true↔c≠d):=by
 obtain ⟨i',vs,e,h1,h2⟩:=a
 obtain ⟨j',ws,e',h3,h4⟩:=b
 cases e;cases e'
 obtain ⟨x,hx,hc⟩:=kJ h1 h3 h2 h4 (IsPl.deep (f:=1)) zr
 refine ⟨!x,?_,by cases x <;> simp at hc⊢<;> exact hc⟩
 show (eqV H _ _).map _ = _
 rw [show eqV H (.ref i) (.ref j) = some x from hx];rfl
noncomputable def okT (t:Nat×List Int×MV×Int):Prop:=t.1 < 21∧(t.2.2.1 = .int 4∨t.2.2.1 = .tup [.int 4,.bool false])
private theorem xB {s:WS} {r:Row} (h:∀ t∈s.tch,okT t):∀ t∈(fN s r).tch,okT t:=by
 intro t ht
 change t∈(if r.vol then s.tch++[_] else s.tch) at ht
 by_cases hv:r.vol = true
 ·rw [if_pos hv] at ht
  rcases List.mem_append.mp ht with ht | ht
  ·exact h t ht
  ·rw [List.mem_singleton.mp ht]
   cases r with
   | store a v=>exact ⟨Nat.le_of_ble_eq_true rfl,.inl rfl⟩
   | load a v=>exact ⟨Nat.le_of_ble_eq_true rfl,.inr rfl⟩
   | _=>cases hv
 ·rw [if_neg hv] at ht;exact h t ht
private theorem sE {l:List Row}:∀ {s:WS},(∀ t∈s.tch,okT t)→∀ t∈(aS s l).tch,okT t:=by
 induction l with
 | nil=>exact λh=>h
 | cons r l ih=>exact λh=>ih (xB h)
private theorem xU {c:aB} {n:Nat}:∀ {g:Nat} {s:WS},(∀ t∈s.tch,okT t)→∀ t∈(c9 c n g s).2.tch,okT t:=by
 induction n with
 | zero=>exact λh=>h
 | succ n ih =>
  intro g s h
  cases hb:c[g]? with
  | none=>rw [ij hb];exact h
  | some b =>
   by_cases hg:∃ x,b.en = .give x
   ·obtain ⟨x,hx⟩:=hg
    rw [cM hb hx];exact sE h
   ·rw [cH hb λx e=>hg ⟨x,e⟩];exact ih (sE h)
noncomputable def yK:MV→DV
 | .tup _=>.tup [.int 4,.bool false]
 | _=>.int 4
noncomputable def kD (l:List Int):DV:=.lst (l.map .int)
noncomputable def tD (t:Nat×List Int×MV×Int):DV:=.tup [.sym t.1,kD t.2.1,yK t.2.2.1,.int t.2.2.2]
noncomputable def At (o:Option Int) (s:WS):DV:=.tup [.sym (if o.isSome then 14 else 15),.int (o.getD 0),.lst (s.seen.map kD),.lst (s.tch.map tD)]
private theorem pC {H X Z:MH} {vals':List MV} {s:WS} {sv tv:List MV} {o:Option Int} (h:WSt H X s sv tv) (ok:∀ t∈s.tch,okT t) :
  deep 8 (H++.list vals' :: .list sv :: .list tv :: X++Z) (.tup [.sym (if o.isSome then 14 else 15),.int (o.getD 0),.ref (H.length + 1),.ref (H.length + 2)]) = some (At o s):=by
 obtain ⟨_,hs,ht⟩:=h
 generalize hW:H++.list vals' :: .list sv :: .list tv :: X++Z = W
 have w1:W[H.length + 1]? = some (.list sv):=by subst hW;exact app hG Z
 have w2:W[H.length + 2]? = some (.list tv):=by subst hW;exact app uZ Z
 have wx:∀ (k:Nat) o,X[k]? = some o→W[H.length + (k + 1 + 1 + 1)]? = some o:=λk o h=>by
  subst hW
  refine app ?_ Z
  rw [hl1];exact h
 clear hW
 have hk:∀ f v l,Kn H X v l→deep (f + 2) W v = some (kD l):=λf v l h=>by
  obtain ⟨k,rfl,h⟩:=h
  exact cC (R:=λv x=>v = .int x) (wx _ _ h) dC λv x h=>by subst h;rfl
 have d1:=cC (f:=6) w1 hs (hk 4)
 have ht':All2 (λv t=>Tch H X v t∧okT t) tv s.tch:=⟨ht.1,λi x y a b=>⟨ht.2 i x y a b,ok y (List.mem_of_getElem? b)⟩⟩
 have d2:=cC (f:=6) (D:=tD) w2 ht' λv t h=>by
  obtain ⟨⟨vk,rfl,h1⟩,h2,h3⟩:=h
  have k:=hk 3 _ _ h1
  have y:deep 5 W (.sym t.1) = some (.sym t.1):=by rw [jt,if_pos h2]
  have z:deep 5 W t.2.2.1 = some (yK t.2.2.1):=by rcases h3 with h | h <;> rw [h] <;> rfl
  rw [eF]
  simp only [cF,de,dR,k,y,z]
  rfl
 have y:deep 7 W (.sym (if o.isSome then 14 else 15)) = some (.sym (if o.isSome then 14 else 15)):=by cases o <;> rfl
 rw [eF]
 simp only [cF,de,dR,d1,d2,y]
 rfl
private theorem rK {H:MH} {a b:List MV} {d:DV} (h1:deep 8 H (.tup a) = some d) (h2:deep 8 H (.tup b) = some d):cp H .ne (.tup a) (.tup b) = some false:=by
 show (eqV H (.tup a) (.tup b)).map _ = _
 have:eqV H (.tup a) (.tup b) = eqX H (.tup a) (.tup b):=rfl
 rw [this,eqX,h1,h2]
 show some (!eqD d d) = _
 rw [ig];rfl
private theorem vK {H:MH} {ps sl p2 s2:Nat} (h1:H[ps]? = some (.list [.int 0,.int 1,.int 2,.int 3])) (h2:H[sl]? = some (.list [])) (h3:H[p2]? = some (.list [.int 0,.int 1,.int 2,.int 3])) (h4:H[s2]? = some (.list [])) :
  cp H .ne (.tup [.sym 13,.ref ps,.int 4,.ref sl,.bool true]) (.tup [.sym 13,.ref p2,.int 4,.ref s2,.bool true]) = some false:=by
 have d:∀ {p s:Nat},H[p]? = some (.list [.int 0,.int 1,.int 2,.int 3])→H[s]? = some (.list [])→deep 8 H (.tup [.sym 13,.ref p,.int 4,.ref s,.bool true]) = some (.tup [.sym 13,.lst [.int 0,.int 1,.int 2,.int 3],.int 4,.lst [],.bool true]):=λh1 h2=>by
  have a:=cC (f:=6) (R:=λv x=>v = .int x) (D:=.int) (l:=[0,1,2,3]) h1 (dC (l:=[0,1,2,3])) λv x h=>by subst h;rfl
  have b:=cC (f:=6) (R:=λv x=>v = .int x) (D:=.int) (l:=[]) h2 .nil λv x h=>by subst h;rfl
  rw [eF]
  simp only [cF,de,dR,a,b]
  rfl
 exact rK (d h1 h2) (d h3 h4)
end Mine
end
section
namespace Mine
section
variable {hB:Heap} {H:MH}
private theorem zq {a:Addr} {vs:Array Value} {ns:List Int} {Q:QV} (hl:hB.IsList a vs) (hi:IntsAre vs.toList ns) (hs:vs.size≤1000) (q:∀ H',Q (.bool true) H'):yT hB [.arg a] H Q:=by
 refine fn rfl [some (.arg a),none,none,none,none,none,none,none] rfl ?_
 simp [yA]
 refine sQ hl hi hs λX wl w=>?_
 simp
 refine mn w λH1 pv ga c names m x0 x1 x2 x3 p1 g1 a0 a1 a2 a3 dr=>?_
 obtain ⟨pa,rfl⟩:∃ pa,pv = .ref pa:=by obtain ⟨pa,_,e,_⟩:=p1;exact ⟨pa,e⟩
 have wf:=dr.wf
 have ok:=dr.okC
 simp
 refine lf p1 (by have:=wf.fol.len;exact Nat.le_trans ‹_› (by decide)) (λp hp=>Nat.le_trans (dr.few p hp) (by decide)) λX1 f0 ps0 sl0 bl0 bs0 ca0 U=>?_
 have p2:=p1.kp (H':=H1++X1) .app
 have g2:=app g1 X1
 simp
 generalize H1++X1 = H2 at ca0 p2 g2 ⊢
 refine lf p2 (by have:=wf.fol.len;exact Nat.le_trans ‹_› (by decide)) (λp hp=>Nat.le_trans (dr.few p hp) (by decide)) λX2 f ps sl bl bs ca U=>?_
 have p3:=p2.kp (H':=H2++X2) .app
 have g3:=app g2 X2
 have ca0:=ca0.app X2
 simp
 generalize H2++X2 = H3 at ca ca0 p3 g3 ⊢
 refine iK ca0 (wf.toOk ok) λX3=>?_
 have p4:=p3.kp (H':=H3++X3) .app
 have g4:=app g3 X3
 have ca:=ca.app X3
 simp
 generalize H3++X3 = H4 at ca p4 g4 ⊢
 refine iG meas (λc c' w o=>o.falls w) ca wf λH5 bl5 bs5 c5 b kp5 ca5 run=>?_
 have p5:=p4.kp kp5
 have g5:=kp5 _ _ g4 rfl
 obtain ⟨fi,_⟩:=run.final wf ok
 have ok5:=fi.wf.toOk fi.ok
 simp
 refine iK ca5 ok5 λX6=>?_
 have p6:=p5.kp (H':=H5++X6) .app
 have g6:=app g5 X6
 have ca6:=ca5.app X6
 simp
 generalize H5++X6 = H6 at ca6 p6 g6 ⊢
 clear ca5 p5 g5 kp5 ca p4 g4 ca0 p3 g3 p2 g2 p1 g1
 refine lE ca6 (by have:=fi.wf.fol.len;exact Nat.le_trans ‹_› (by decide)) fi.wf.few λX7 v7 l7 hv7=>?_
 obtain ⟨li,rfl,_⟩:=hv7
 have p7:=p6.kp (H':=H6++X7) .app
 have g7:=app g6 X7
 have ca7:=ca6.app X7
 generalize H6++X7 = H7 at ca7 p7 g7 l7 ⊢
 clear ca6 p6 g6
 obtain ⟨x,hx,hxc⟩:=mM l7 p7
 have hbx:b = x:=by
  have:=fi.ch.trans hxc.symm
  cases b <;> cases x <;> simp at this <;> rfl
 subst hbx
 simp [hx]
 simp [ca7.fn]
 rw [vK (app ca7.ps _) (app ca7.sl _) cO hG]
 have p8:=p7.kp (H':=H7++[.list [.int 0,.int 1,.int 2,.int 3],.list []]) .app
 have l8:=l7.kp (H':=H7++[.list [.int 0,.int 1,.int 2,.int 3],.list []]) .app
 have g8:=app g7 [.list [.int 0,.int 1,.int 2,.int 3],.list []]
 have ca8:=ca7.app [.list [.int 0,.int 1,.int 2,.int 3],.list []]
 simp
 generalize H7++[.list [.int 0,.int 1,.int 2,.int 3],.list []] = H8 at ca8 p8 l8 g8 ⊢
 clear ca7 p7 l7 g7 hx
 refine mh l8 fi.wf.fol fi.wf.few fi.st λX9=>?_
 have p9:=p8.kp (H':=H8++X9) .app
 have l9:=l8.kp (H':=H8++X9) .app
 have g9:=app g8 X9
 have ca9:=ca8.app X9
 simp
 generalize H8++X9 = H9 at ca9 p9 l9 g9 ⊢
 clear ca8 p8 l8 g8
 refine iG meas (λc c' w o=>o.falls w) ca9 fi.wf λH10 bl10 bs10 c10 b2 kp10 ca10 run2=>?_
 obtain ⟨rfl,rfl⟩:=run2.again fi.wf fi.st
 have p10:=p9.kp kp10
 have l10:=l9.kp kp10
 have g10:=kp10 _ _ g9 rfl
 clear p9 l9 g9
 simp
 refine lE ca10 (by have:=fi.wf.fol.len;exact Nat.le_trans ‹_› (by decide)) fi.wf.few λX11 v11 l11 hv11=>?_
 obtain ⟨li2,rfl,_⟩:=hv11
 have p11:=p10.kp (H':=H10++X11) .app
 have m11:=l10.kp (H':=H10++X11) .app
 have g11:=app g10 X11
 generalize H10++X11 = H11 at p11 l11 m11 g11 ⊢
 clear p10 l10 g10
 obtain ⟨x,hx,hxc⟩:=mM l11 m11
 have hx0:x = false:=by
  cases x with
  | false=>rfl
  | true=>exact absurd rfl (hxc.mp rfl)
 subst hx0
 have g12:H11[ga]? = some (.list [.int x0,.int x1,.int x2,.int x3]):=g11
 simp [hx,g12]
 have lw:=fi.wf.toOk fi.ok
 have pw:=wf.toOk ok
 have W:∀ y0 y1 y2 y3:Int,(0≤y0∧y0 < 4294967296)→(0≤y1∧y1 < 4294967296)→(0≤y2∧y2 < 4294967296)→(1≤y3∧y3 < 4)→WOk ⟨[y0,y1,y2,y3],[],[],0⟩∧1≤[y0,y1,y2,y3].getD 3 0∧[y0,y1,y2,y3].getD 3 0 < 4:=λy0 y1 y2 y3 h0 h1 h2 h3=>by
  refine ⟨⟨rfl,λx hx=>?_,(by decide:(0:Int)≤0∧(0:Int) < 4294967296)⟩,h3⟩
  simp at hx
  rcases hx with rfl | rfl | rfl | rfl
  ·exact h0
  ·exact h1
  ·exact h2
  ·omega
 have two:∀ (j:Nat) v,(It.tup [.ref ga,.ref H11.length]).at j = some v→∃ (g:Nat) (as:List Int),v = .ref g∧(H11++[.list [.int (4294967295 - x1),.int x2,.int (x0 + 1),.int 2]])[g]? = some (.list (bc as))∧WOk ⟨as,[],[],0⟩∧1≤as.getD 3 0∧as.getD 3 0 < 4:=λj v hv=>by
  match j,hv with
  | 0,hv=>cases hv;exact ⟨ga,[x0,x1,x2,x3],rfl,app g11 _,W _ _ _ _ (by omega) (by omega) (by omega) a3⟩
  | 1,hv=>cases hv;exact ⟨_,[4294967295 - x1,x2,x0 + 1,2],rfl,cO,W _ _ _ _ (by omega) (by omega) (by omega) (by omega)⟩
  | j + 2,hv=>cases hv
 have p12:=p11.kp (H':=H11++[.list [.int (4294967295 - x1),.int x2,.int (x0 + 1),.int 2]]) .app
 have l12:=m11.kp (H':=H11++[.list [.int (4294967295 - x1),.int x2,.int (x0 + 1),.int 2]]) .app
 generalize H11++[.list [.int (4294967295 - x1),.int x2,.int (x0 + 1),.int 2]] = H12 at two p12 l12 ⊢
 have okI:∀ H',(It.tup [.ref ga,.ref H11.length]).ok H':=λU=>trivial
 generalize It.tup [.ref ga,.ref H11.length] = it at two okI ⊢
 refine bb (λU=>LXI H12 λU u1=>[some (.arg a),u1,some (.bool b),some (.ref f),some (.ref ga),some (.ref li),some (.ref pa),some (.ref f0)]) (.nil _) (λj L' H' U=>okI H') ?_ ?_
 ·rintro j v _ _ hv ⟨Y,u1⟩
  obtain ⟨g,as,rfl,hg,w0,h3⟩:=two j v hv
  simp
  refine ll (l12.kp .app) lw (app hg Y) w0 λvals X s sv tv o r1 st1=>?_
  have t0:∀ t∈s.tch,okT t:=by
   have:=xU (c:=c10) (n:=40) (g:=0) (s:=⟨as,[],[],0⟩) λU h=>nomatch h
   rwa [r1] at this
  have d1:=λZ=>pC (H:=H12++Y) (vals':=vals) (Z:=Z) (o:=o) st1 t0
  obtain ⟨Z1,e1⟩:∃ Z1,H12++Y++.list vals :: .list sv :: .list tv :: X = H12++Z1:=⟨_,List.append_assoc ..⟩
  rw [e1] at d1 ⊢
  generalize [MV.sym (if o.isSome then 14 else 15),.int (o.getD 0),.ref ((H12++Y).length + 1),.ref ((H12++Y).length + 2)] = l1 at d1 ⊢
  simp
  refine ll (p12.kp .app) pw (app hg Z1) w0 λvals2 X2 s2 sv2 tv2 o2 r2 st2=>?_
  have same:=dr.same fi w0 h3
  rw [r1,r2] at same
  cases same
  have d2:=pC (H:=H12++Z1) (vals':=vals2) (Z:=[]) (o:=o) st2 t0
  rw [List.append_nil] at d2
  have cm:=rK (d1 _) d2
  obtain ⟨Z2,e2⟩:∃ Z2,H12++Z1++.list vals2 :: .list sv2 :: .list tv2 :: X2 = H12++Z2:=⟨_,List.append_assoc ..⟩
  rw [e2] at cm ⊢
  generalize [MV.sym (if o.isSome then 14 else 15),.int (o.getD 0),.ref ((H12++Z1).length + 1),.ref ((H12++Z1).length + 2)] = l2 at cm ⊢
  simp [cm]
  exact .mk _ _
 ·rintro _ _ ⟨Y,u1⟩
  simp
  exact q _
end
end Mine
end
end
section
namespace Mine
private theorem zE (w:World):nsIn (KK w) mainGlobals "law" = some (some (.ref 370)):=by kernel_rfl!
private theorem xv {w:World} {s₀ s₁:Shared} {mg mb:Str→Option Value} {R:WRecords} {loose:List Str} {q:Program} {XP:(Str→Option Value)→Heap→Prop} (G:Ground q loose R XP w s₀ mg mb s₁.heap) (hi:importsNone q = true) (X:(KK w).In s₁.heap):Base w s₁.heap:=by
 have T:=G.T
 refine ⟨X,⟨mg,T.g⟩,⟨mb,T.b,T.builtins⟩,T.nolimit,?_⟩
 obtain ⟨mm,⟨o,_,_,ho,_⟩,_⟩:=(T.seer hi).mods
 rw [ho];exact λe=>by cases e
private theorem wy {w:World} {s₁:Shared} {fa a:Addr} {vals:List Value} {ns:List Int} (B:Base w s₁.heap) {mg:Str→Option Value} (hg:s₁.heap.Ns mainGlobals mg) (hm:mg "law" = some (.ref fa)) (hgs:s₁.gens = #[]) (hL:s₁.heap.IsList a vals.toArray) (hI:IntsAre vals ns)
  (hlen:¬ (63:Int) < ns.length):codeAny (MM w) callerA (.call (.ref fa) ⟨[.ref a],[]⟩) (λr s'=>r = .ok (.ret (.bool true))∧(∀ b o,s₁.heap.get? b = some o→s'.heap.get? b = some o)∧Sm s₁ s') s₁:=by
 have e:fa = 370:=by
  have:=(mg_of B.K hg (zE w)).symm.trans hm
  injection this with this;injection this with this;exact this.symm
 subst e
 have hs:vals.toArray.size≤1000:=by
  have:=hI.length
  rw [List.size_toArray];omega
 refine codeAny_mono ((zn (hB:=s₁.heap) (w:=w) 8 (by decide)).1 callerA [] [] s₁ [.arg a] [.ref a] (λm U=>m = .bool true) B ⟨rfl,by decide,by decide⟩ ⟨rfl,List.nodup_nil,λU U e=>e,λU h=>(nomatch h),λi m p e=>by simp at e⟩ ⟨_,_,rfl,rfl,rfl⟩ (zq hL hI hs λU=>rfl)) ?_
 intro r s' h
 obtain ⟨v,rfl,O',H',m,x,i,rv,sm,q⟩:=jc _ _ h
 subst q
 refine ⟨?_,i.base,sm⟩
 rw [show _ = Value.bool true from rv]
theorem fin0.tw12635203586011439596:True:=trivial
theorem fin0.tw14460106986049090885:True:=trivial
theorem fin0.tw10079277355914680614:True:=trivial
theorem fin0.tw15755196537646972844:True:=trivial
theorem fin0.tw9959513410282069465:True:=trivial
theorem fin0.tw6852354045519028997:True:=trivial
theorem fin0.tw3120848427230257534:True:=trivial
theorem fin0.tw2193966113197252623:True:=trivial
theorem fin0.tw844464728182503335:True:=trivial
theorem fin0.tw13333404490122662637:True:=trivial
theorem fin0.tw13271094408787242410:True:=trivial
theorem fin0.tw9453315288601239876:True:=trivial
theorem fin0.tw7578132385617950618:True:=trivial
theorem fin0.tw15393229524598600557:True:=trivial
theorem fin0.tw17267124531261721334:True:=trivial
theorem fin0.tw12234747510244227511:True:=trivial
theorem fin0.tw14960886798274596752:True:=trivial
theorem fin0.tw554075894400629363:True:=trivial
theorem fin0.tw4774321125693810045:True:=trivial
theorem fin0.tw11133414224523935184:True:=trivial
theorem fin0.tw6873583933182992610:True:=trivial
theorem fin0.tw495128459081179679:True:=trivial
theorem fin0.tw3824198435457678302:True:=trivial
theorem fin0.tw13414134228678803789:True:=trivial
theorem fin0.tw1498904001340856895:True:=trivial
theorem fin0.tw11012133031883839125:True:=trivial
theorem fin0.tw3060846328522278930:True:=trivial
theorem fin0.tw16431421315131912879:True:=trivial
theorem fin0.tw11282430254471860436:True:=trivial
theorem fin0.tw10715318373933823536:True:=trivial
theorem fin0.tw10721083565636592448:True:=trivial
theorem fin0.tw13212484864201001264:True:=trivial
theorem fin0.tw11055000415274004888:True:=trivial
theorem fin0.tw10075907547374887284:True:=trivial
theorem fin0.tw10226791122323968405:True:=trivial
theorem fin0.tw14694688367385368838:True:=trivial
theorem fin0.tw12525469203971313138:True:=trivial
theorem fin0.tw3366945345360527483:True:=trivial
theorem fin0.tw12634365440293791355:True:=trivial
theorem fin0.tw18373073792115843741:True:=trivial
theorem fin0.tw10618074914856527326:True:=trivial
theorem fin0.tw14146290174317464261:True:=trivial
theorem fin0.tw1170521588766115954:True:=trivial
theorem fin0.tw5373541736121457976:True:=trivial
theorem fin0.tw13205680914928178637:True:=trivial
theorem fin0.tw5833776737349006830:True:=trivial
theorem fin0.tw3802939414444043193:True:=trivial
theorem fin0.tw4927592320038939186:True:=trivial
theorem fin0.tw12291003892322946698:True:=trivial
theorem fin0.tw13133741867116811492:True:=trivial
theorem fin0.tw9433945819292489016:True:=trivial
theorem fin0.tw10721374075511243963:True:=trivial
theorem fin0.tw16337955952520308774:True:=trivial
theorem fin0.tw3060411220161446130:True:=trivial
theorem fin0.tw6567351127287974844:True:=trivial
theorem fin0.tw1382625753628208910:True:=trivial
theorem fin0.tw10644633653884718407:True:=trivial
theorem fin0.tw15949629735686682237:True:=trivial
theorem fin0.tw4543575232158506449:True:=trivial
theorem fin0.tw5861803763078898607:True:=trivial
theorem fin0.tw14417148838240118341:True:=trivial
theorem fin0.tw16115741205520468626:True:=trivial
theorem fin0.tw4963137050434358267:True:=trivial
theorem fin0.tw7822439563451375011:True:=trivial
theorem fin0.tw10602324115004383975:True:=trivial
theorem fin0.tw734787958221842752:True:=trivial
theorem fin0.tw13546361088021459067:True:=trivial
theorem fin0.tw4239801698164698727:True:=trivial
theorem fin0.tw4596927159669386851:True:=trivial
theorem fin0.tw18154138808348462138:True:=trivial
theorem fin0.tw4601598183391198353:True:=trivial
theorem fin0.tw11873130189460786071:True:=trivial
theorem fin0.tw875041882254522298:True:=trivial
theorem fin0.tw5131716896835623901:True:=trivial
theorem fin0.tw16127006215790055373:True:=trivial
theorem fin0.tw11523319489410464271:True:=trivial
theorem fin0.tw9869512896089096556:True:=trivial
theorem fin0.tw976146387921353474:True:=trivial
theorem fin0.tw16276231889782169059:True:=trivial
theorem fin0.tw14038031993501806430:True:=trivial
theorem fin0.tw3741018558954807939:True:=trivial
theorem fin0.tw16902340890907823331:True:=trivial
theorem fin0.tw6427248145555327326:True:=trivial
theorem fin0.tw3278746241452631792:True:=trivial
theorem fin0.tw14621641464133817886:True:=trivial
theorem fin0.tw5669459292522429409:True:=trivial
theorem fin0.tw12909342340256747803:True:=trivial
theorem fin0.tw7278678826832017462:True:=trivial
theorem fin0.tw2473472067350729773:True:=trivial
theorem fin0.tw1793680489414716721:True:=trivial
theorem fin0.tw4413353723100058684:True:=trivial
theorem fin0.tw15569336753611646598:True:=trivial
theorem fin0.tw2477904596222973074:True:=trivial
theorem fin0.tw5122570350836030927:True:=trivial
theorem fin0.tw1807467741514441049:True:=trivial
theorem fin0.tw14403583953127318773:True:=trivial
theorem fin0.tw3619524929709101672:True:=trivial
theorem fin0.tw16624215229766345286:True:=trivial
theorem fin0.tw13906209037894383116:True:=trivial
theorem fin0.tw4751548433848981488:True:=trivial
theorem fin0.tw12417224451031024243:True:=trivial
theorem fin0.tw10128901787671631795:True:=trivial
theorem fin0.tw14974097653545058736:True:=trivial
theorem fin0.tw16331554596083815013:True:=trivial
theorem fin0.tw16443033303295345867:True:=trivial
theorem fin0.tw4608569773558109451:True:=trivial
theorem fin0.tw436239040924825418:True:=trivial
theorem fin0.tw12746111380919627694:True:=trivial
theorem fin0.tw13096175788023228451:True:=trivial
theorem fin0.tw7155975145970720633:True:=trivial
theorem fin0.tw18151181607639856655:True:=trivial
theorem fin0.tw7021149611694721980:True:=trivial
theorem fin0.tw28494487383914827:True:=trivial
theorem fin0.tw12739371449619984134:True:=trivial
theorem fin0.tw5880328909009407169:True:=trivial
theorem fin0.tw12183277599493791227:True:=trivial
theorem fin0.tw3936648643865487456:True:=trivial
theorem fin0.tw6860876337154935427:True:=trivial
theorem fin0.tw16031674796041790241:True:=trivial
theorem fin0.tw17888233615626785633:True:=trivial
theorem fin0.tw16370027607808035560:True:=trivial
theorem fin0.tw18291073953516631033:True:=trivial
theorem fin0.tw5749490895647815608:True:=trivial
theorem fin0.tw1637764767407414686:True:=trivial
theorem fin0.tw13927255344943891570:True:=trivial
theorem fin0.tw9995487328026292587:True:=trivial
theorem fin0.tw3516508822617492201:True:=trivial
theorem fin0.tw12339949732086949087:True:=trivial
theorem fin0.tw17802065838868030979:True:=trivial
theorem fin0.tw4600053049455845579:True:=trivial
theorem fin0.tw6150186401607814826:True:=trivial
theorem fin0.tw15468891766581136319:True:=trivial
theorem fin0.tw3723907682191922478:True:=trivial
theorem fin0.tw6470078606771314383:True:=trivial
theorem fin0.tw15672057197418507788:True:=trivial
theorem fin0.tw12604460546908559629:True:=trivial
theorem fin0.tw15139305840266156368:True:=trivial
theorem fin0.tw4040226327467277894:True:=trivial
theorem fin0.tw6128012118525340935:True:=trivial
theorem fin0.tw2514861476960466537:True:=trivial
theorem fin0.tw1525971112136286441:True:=trivial
theorem fin0.tw17073442414120915339:True:=trivial
theorem fin0.tw12068211521685329138:True:=trivial
theorem fin0.tw1538669624781519542:True:=trivial
theorem fin0.tw10327194328210573216:True:=trivial
theorem fin0.tw16956924950141564874:True:=trivial
theorem fin0.tw11372464615732834665:True:=trivial
theorem fin0.tw4954687687602621589:True:=trivial
theorem fin0.tw10913040095050782711:True:=trivial
theorem fin0.tw15492323407724335753:True:=trivial
theorem fin0.tw16882972796773370077:True:=trivial
theorem fin0.tw9355547682003399170:True:=trivial
theorem fin0.tw6110475062137922000:True:=trivial
theorem fin0.tw4198117270206065324:True:=trivial
theorem fin0.tw2715743751889927323:True:=trivial
theorem fin0.tw16561387868684437042:True:=trivial
theorem fin0.tw13614904915722868902:True:=trivial
theorem fin0.tw11011620631103511308:True:=trivial
theorem fin0.tw1607359778028912606:True:=trivial
theorem fin0.tw3416286579343265572:True:=trivial
theorem fin0.tw632840965300150218:True:=trivial
theorem fin0.tw8884590602440820071:True:=trivial
theorem fin0.tw11577479334058310310:True:=trivial
theorem fin0.tw9373156094520592099:True:=trivial
theorem fin0.tw4021866365300460119:True:=trivial
theorem fin0.tw17147100792893218133:True:=trivial
theorem fin0.tw1184883183971771353:True:=trivial
theorem fin0.tw10037720933117378140:True:=trivial
theorem fin0.tw3651849931361635892:True:=trivial
theorem fin0.tw11316948998536544271:True:=trivial
theorem fin0.tw11527567801120364827:True:=trivial
theorem fin0.tw5129542253466960231:True:=trivial
theorem fin0.tw7280321164186503361:True:=trivial
theorem fin0.tw3944622132429513111:True:=trivial
theorem fin0.tw8873311058542888407:True:=trivial
theorem fin0.tw8602063508695124744:True:=trivial
theorem fin0.tw18411230518011538447:True:=trivial
theorem fin0.tw12012885633558255775:True:=trivial
theorem fin0.tw11678002472851275121:True:=trivial
theorem fin0.tw9770264975573687469:True:=trivial
theorem fin0.tw15919156159878964246:True:=trivial
theorem fin0.tw10508793923854209725:True:=trivial
theorem fin0.tw1389641716500457422:True:=trivial
theorem fin0.tw3959919445101943714:True:=trivial
theorem fin0.tw15546502199583259009:True:=trivial
theorem fin0.tw6340718920224157801:True:=trivial
theorem fin0.tw3542603863930852872:True:=trivial
theorem fin0.tw4901403921587315610:True:=trivial
theorem fin0.tw1761470061159540854:True:=trivial
theorem fin0.tw3737006768337655560:True:=trivial
theorem fin0.tw15387377741910834310:True:=trivial
theorem fin0.tw13414751795899929189:True:=trivial
theorem fin0.tw9636315307048877262:True:=trivial
theorem fin0.tw6214380474474902753:True:=trivial
theorem fin0.tw13574271583182128247:True:=trivial
theorem fin0.tw9829095348275079281:True:=trivial
theorem fin0.tw8681563067724037125:True:=trivial
theorem fin0.tw7338023798677133842:True:=trivial
theorem fin0.tw6924222983375910762:True:=trivial
theorem fin0.tw5501893628730166400:True:=trivial
theorem fin0.tw5403631299640628831:True:=trivial
theorem fin0.tw3176823270566489979:True:=trivial
theorem fin0.tw2691447131764034568:True:=trivial
theorem fin0.tw2365598951017070614:True:=trivial
theorem fin0.tw2020058349328835956:True:=trivial
theorem fin0.tw18391155935228115036:True:=trivial
theorem fin0.tw17775791322684197796:True:=trivial
theorem fin0.tw17707166920541356356:True:=trivial
theorem fin0.tw17480215690961820552:True:=trivial
theorem fin0.tw15666556980101696111:True:=trivial
theorem fin0.tw15226686594143366996:True:=trivial
theorem fin0.tw14702233526488347992:True:=trivial
theorem fin0.tw14539770665415437779:True:=trivial
theorem fin0.tw14375858485480607666:True:=trivial
theorem fin0.tw14198448802132242373:True:=trivial
theorem fin0.tw13635373862063122277:True:=trivial
theorem fin0.tw13558210098809578752:True:=trivial
theorem fin0.tw12906396195491452372:True:=trivial
theorem fin0.tw12629004911928795544:True:=trivial
theorem fin0.tw12416242222280170446:True:=trivial
theorem fin0.tw11384909844162345364:True:=trivial
theorem fin0.tw11250206590638371777:True:=trivial
theorem fin0.tw11108541144360216934:True:=trivial
theorem fin0.tw10731064137696000226:True:=trivial
theorem fin0.tw10447494569711153728:True:=trivial
theorem fin0.tw3083209863119615796:True:=trivial
theorem fin0.tw13483282091311548849:True:=trivial
theorem fin0.tw5715246327684338128:True:=trivial
theorem fin0.tw9928178222119250237:True:=trivial
theorem fin0.tw13751902988793725677:True:=trivial
theorem fin0.tw13737884489161096914:True:=trivial
theorem fin0.tw13151919573606928343:True:=trivial
theorem fin0.tw1228579827060143638:True:=trivial
theorem fin0.tw1548882229939455049:True:=trivial
theorem fin0.tw3643906265717732846:True:=trivial
theorem fin0.tw17818387768043340142:True:=trivial
theorem fin0.tw11953789313455069782:True:=trivial
theorem fin0.tw678899988223414644:True:=trivial
set_option Elab.async true in
set_option maxHeartbeats 8000000 in
theorem fin0:PySem.Challenge.rw_nm0029_01.Holds:=by
 w_on;o_law;k_head;(case hw=>w_witness2)
 intro w s₀ s₁ mg mb G Y fa o pm cd doc dV kV ho hd hcd hD hmg hg args vals as hpre hlay hrd hwl hlo
 have X:(KK w).In s₁.heap:=kIn_of Y
 replace hmg:mg "law" = some (.ref fa):=hmg
 have B:=xv G (by decide +kernel) X
 have hns:=G.T.g
 clear Y hd hcd hD ho G
 wrow_args hpre hlay hrd hwl hlo
 all_goals refine enter_call (codeAny_mono (wy B hns hmg hg (by assumption) (by assumption) (by assumption)) ?_)
 all_goals
  rintro r s' ⟨rfl,keep,sm⟩
  refine GoodW.toG ⟨.inl ⟨_,.bool true,[],rfl,raisesW_false ?_,.bool true,?_,unshared_nil⟩,keep,sm.os,sm.gens.trans hg⟩
  ·wrow_none_raised
  ·wrow_post
end Mine
theorem PySem.Challenge.cw_nm0029_01_holds : PySem.Challenge.rw_nm0029_01.Holds :=
 Mine.fin0
end
