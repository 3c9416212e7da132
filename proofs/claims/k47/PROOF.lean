import PyProof.Rows.All
import Wide.All
import OpenK.AllK
import Wide.FinOn
import HandS.ForMost
import HandS.Wide
import HandS.EndBits
import KE.Datum
import HandS.TupAny
import HandS.TupMul
import HandS.Conv
import HandS.SortInts
import PyProof.ReprRoads
import PyProof.ReprBulk
import PyProof.Rows.ReprShort
import KE.KTupSum
import PySem.Challenge.RW_bitsasked_k47_whole_least_shares
import HandS.Style
set_option Elab.async false
set_option linter.all false
set_option maxRecDepth 100000
set_option autoImplicit false
/-! DG: promises of defs that also know that no repr is under way (Around.guards), for repr of tuples and lists. -/
namespace DL
open PySem PySem.Spec PyProof.Rows L2

structure GFn (P : Program) (w : World) (K : PySem.W.Frag) (mg : Str → Option Value) (base : Heap) (k : Nat) (f : Addr) (fd : FuncData) (ps : List Str) (sp : Sp) : Prop where
  len : ∀ xs H Q E, sp xs H Q E → xs.length = ps.length
  run : ∀ (A : Around) (outer : List Env) (s : Shared) (H : Hp) (args : Args) (us : List Value) (xs : List V) (Q : VK) (E : XK), A.guards = some [] → Room k A → Env0 P w K mg base A outer s H →
    BindsTo s fd args (ps.zip us) → Vals xs us → sp xs H Q E → codeAny (model P w) A (.call (.ref f) args) (CR CX0 outer P w H s Q E) s

section
variable {P : Program} {w : World} {K : PySem.W.Frag} {mg : Str → Option Value} {base : Heap}
theorem GFn.up {j k : Nat} {f : Addr} {fd : FuncData} {ps : List Str} {sp : Sp} (F : GFn P w K mg base j f fd ps sp) (h : j ≤ k) : GFn P w K mg base k f fd ps sp :=
  ⟨F.len, fun A outer s H args us xs Q E g r => F.run A outer s H args us xs Q E g (r.mono h)⟩
theorem GFn.ofFn {k : Nat} {f : Addr} {fd : FuncData} {ps : List Str} {sp : Sp} (F : FnOk P w K mg base CX0 k f fd ps sp) : GFn P w K mg base k f fd ps sp :=
  ⟨F.len, fun A outer s H args us xs Q E _ r => F.run A outer s H args us xs Q E r⟩
theorem GFn.imp {k : Nat} {f : Addr} {fd : FuncData} {ps : List Str} {sp sp' : Sp} (F : GFn P w K mg base k f fd ps sp) (h : ∀ xs H Q E, sp' xs H Q E → sp xs H Q E) : GFn P w K mg base k f fd ps sp' :=
  ⟨fun xs H Q E q => F.len xs H Q E (h _ _ _ _ q), fun A outer s H args us xs Q E g r e b v q => F.run A outer s H args us xs Q E g r e b v (h _ _ _ _ q)⟩
/-- a def by its body -/
theorem gfn_ok {x qual : Str} {st : Stmt} {f : Addr} {fd : FuncData} {N ps : List Str} {k : Nat} {sp : Sp} (F : Fun K x qual st f fd) (S : FnScope N ps (defScope st)) (len : ∀ xs H Q E, sp xs H Q E → xs.length = ps.length)
    (body : ∀ (cdv : Value) (A : Around) (outer : List Env) (s : Shared) (H : Hp) (xs : List V) (Q : VK) (E : XK), A.guards = some [] → Room k (A.deeper (envOfC qual (defScope st) s.heap.objs.size f cdv)) → sp xs H Q E →
      ∃ t, PSs (cxOf CX0 P w K mg base N qual (defScope st) f cdv A outer s H E).nox (defBody st) t ∧ t { nx := fun _ H' => Q .non H', rt := Q } (L2.start N xs) H) : GFn P w K mg base (k + 1) f fd ps sp := by
  obtain ⟨oc, od, kV, doc, pm, an, cdv, ct, osl, rfl, lk, cd⟩ := F.ex
  refine ⟨len, fun A outer s H args us xs Q E g room e0 bind rv want => ?_⟩
  have n1 : xs.length = ps.length := len _ _ _ _ want
  have inK : K.In s.heap := e0.mod.kin.keeps fun b o q => (e0.bs b o q).1
  have free : s.heap.NoLimit := e0.mod.nolimit.keeps fun b o q => (e0.bs b o q).1
  refine codeAny_call_function room.depth (inK _ _ lk) rfl S.co S.gen rfl (PySem.W.codeRec_of inK cd) (bind _ _ _ _ ?_)
  refine wpAny_newFunctionEnv_cells S.kind (fun y hy => ?_) fun env he s1 entry => ?_
  · rcases S.par y.1 (List.of_mem_zip (show (y.1, y.2) ∈ ps.zip us from hy)).1 with q | q
    · exact Or.inl q
    · exact Or.inr ⟨q, PySem.W.cellsFrom_some _ _ _ (Or.inl q)⟩
  · subst he
    refine ⟨free.keeps entry.toInCall.keep, codeAny_func ?_⟩
    obtain ⟨t, run, q⟩ := body cdv A outer s H xs Q E g (room.deeper _) want
    have J := inv_start (CX := CX0) (qual := qual) (f := f) (cd := cdv) (E := E) S room.hd e0 n1 rv entry
    refine wpAny_mono (run.nox.run [] s1 _ H _ J q) (fun out s' z => ?_) fun _ _ z => z
    cases out with
    | brk => exact z.elim fun _ z => z.elim fun _ z => z.2.elim
    | cont => exact z.elim fun _ z => z.elim fun _ z => z.2.elim
    | next =>
      obtain ⟨σ1, H1, J1, q1⟩ := z
      exact ⟨V.non, H1, J1.os, J1.bare, J1.base, J1.hok, (rfl : RelV V.non Value.none), q1⟩
    | ret u =>
      obtain ⟨x1, σ1, H1, J1, r1, q1⟩ := z
      exact ⟨x1, H1, J1.os, J1.bare, J1.base, J1.hok, r1, q1⟩
end

section
variable {X : Cx}
/-- the callee runs -/
theorem g_run {k : Nat} {f : Addr} {fd : FuncData} {ps : List Str} {sp : Sp} {pins : List (Addr × Obj)} {σ : L2.St} {H : Hp} {s : Shared} {Q : VK} {us : List Value} {xs : List V} (F : GFn X.prog X.w X.K X.mg X.base k f fd ps sp) (g : X.A.guards = some []) (room : Room k X.A) (bind : Binds X.K fd ps [])
    (I : Inv X pins σ H s) (rv : Vals xs us) (want : sp xs H Q E0) : wpAny (model X.prog X.w) X.A (call (.ref f) us) (EP X pins σ Q) X.xe s := by
  have n1 : us.length = ps.length := rv.length.symm.trans (F.len _ _ _ _ want)
  have bt := bind s us I.kIn (by rw [List.append_nil]; exact n1)
  rw [List.append_nil] at bt
  refine wpAny_call (codeAny_mono (F.run X.A X.stack s H ⟨us, []⟩ us xs Q E0 g room I.env0 bt rv want) fun r s' z => ?_)
  match r, z with
  | .ok (.ret u), z => exact I.after z
theorem g_call {k : Nat} {f : Addr} {fd : FuncData} {ps : List Str} {sp : Sp} {x : Str} {p pos : Pos} {e : Expr} {es : List Expr} {t : TA} (F : GFn X.prog X.w X.K X.mg X.base k f fd ps sp) (g : X.A.guards = some []) (room : Room k X.A) (hg : Gl X x) (hm : X.mg x = some (.ref f)) (hk : PySem.W.keepIn X.K (.ref f) = true) (bind : Binds X.K fd ps [])
    (ha : PA X (e :: es) t) (hdb : (x == ("__debug__" : Str)) = false := by decide) (he : starEach (e :: es) X.env = (false, eval e X.env) :: starEach es X.env := by rfl) (hpl : (backTo pos (starEach es X.env)).any (·.1) = false := by rfl) :
    PE X (.Call (.Name x p) (e :: es) [] pos) fun σ H Q => t σ H fun xs H1 => sp xs H1 Q E0 := ⟨fun pins s σ H Q I h => by
  refine wpAny_Call_Name_kw (ld_glob I hg hm ?_ hdb)
  exact PySem.W.callWith_K (h₀ := X.base) I.ok.mod.kin hk (thn (ha.run pos pins s σ H _ I h) fun us s1 ⟨xs, H1, I1, r, q⟩ => ⟨I1.kIn, g_run F g room bind I1 r q⟩) he hpl⟩
end

/-- the law's own call -/
theorem g_law {P : Program} {w : World} {K : PySem.W.Frag} {mg mb : Str → Option Value} {k : Nat} {fa a : Addr} {fd : FuncData} {x : Str} {sp : Sp} {s₁ : Shared} {vs : List Value} {ns : List Int}
    (KX : K.In s₁.heap) (hns : s₁.heap.Ns mainGlobals mg) (hb : s₁.heap.Ns builtinsNs mb) (hbb : ∀ x : Str, x ≠ "__name__" → mb x = bootBuiltins x) (hlim : s₁.heap.NoLimit) (hgen : s₁.gens = #[])
    (ha : s₁.heap.get? a = some { cls := .type "list", data := .seq vs.toArray }) (hi : IntsAre vs ns) (hl : ns.length ≤ sizeLine) (room : Room k callerA)
    (F : ∀ base : Heap, K.In base → base.Ns mainGlobals mg → GFn P w K mg base k fa fd [x] sp) (bind : ∀ (s : Shared) (u : Value), BindsTo s fd ⟨[u], []⟩ [(x, u)])
    (want : ∀ H : Hp, Only H → SqL K H a (ns.map V.int) → sp [.ref a] H (fun v _ => v = .bl true) E0) :
    codeAny (model P w) callerA (.call (.ref fa) ⟨[.ref a], []⟩) (fun r s' => r = .ok (.ret (.bool true)) ∧ OldK s₁.heap s'.heap ∧ s'.os = s₁.os ∧ AllBare s'.gens) s₁ := by
  -- by the library's head, for a def that only hands on: its promise is used at one call alone
  have all : ∀ H : Hp, Only H → SqL K H a (ns.map V.int) → HOk P w H s₁.heap → (∀ b, H b ≠ none → b = a) → (H a ≠ none → K.lookup a = none) →
      codeAny (model P w) callerA (.call (.ref fa) ⟨[.ref a], []⟩) (fun r s' => r = .ok (.ret (.bool true)) ∧ OldK s₁.heap s'.heap ∧ s'.os = s₁.os ∧ AllBare s'.gens) s₁ := by
    intro H only sq hok one out
    have plain : ∀ {b : Addr} {o : Obj}, s₁.heap.get? b = some o → (b = a → False) → H b = none := fun {b o} _ ne => by
      cases q : H b with
      | none => rfl
      | some u => exact (ne (one b (by rw [q]; exact fun z => nomatch z))).elim
    have dictNe : ∀ {b : Addr} {o : Obj} {es : Array DictEntry} {ep : Nat}, s₁.heap.get? b = some o → o.data = .dict es ep → b = a → False := fun {b o es ep} e d z => by
      rw [z, ha] at e
      have e' := Option.some.inj e
      rw [← e'] at d
      exact nomatch d
    have hidNs : ∀ {b : Addr} {m : Str → Option Value}, s₁.heap.Ns b m → (hidT s₁.heap H).Ns b m := fun ⟨o, es, ep, e, d, r⟩ => ⟨o, es, ep, hidT_get e (plain e (dictNe e d)), d, r⟩
    have hidK : K.In (hidT s₁.heap H) := fun b o e => by
      refine hidT_get (KX b o e) ?_
      cases q : H b with
      | none => rfl
      | some u =>
        have z := one b (by rw [q]; exact fun z => nomatch z)
        have w := out (by rw [← z, q]; exact fun z => nomatch z)
        rw [z, w] at e
        exact nomatch e
    obtain ⟨mc, l1, l2⟩ := hlim
    have mod : Mod K mg (hidT s₁.heap H) := ⟨hidK, hidNs hns, ⟨mb, hidNs hb, hbb⟩, ⟨mc, hidNs l1, l2⟩⟩
    have ent : Env0 P w K mg (hidT s₁.heap H) callerA [] s₁ H :=
      ⟨rfl, mod, fun b o e => of_hidT e, Nat.le_of_eq (hidT_size _ _), trivial, (fun b z => absurd (show b ∈ ([] : List Addr) from z) List.not_mem_nil), hok, .of_eq hgen⟩
    have run := (F _ hidK (hidNs hns)).run callerA [] s₁ H ⟨[.ref a], []⟩ [.ref a] [.ref a] _ _ rfl room ent (bind s₁ (.ref a)) (.cons rfl .nil) (want H only sq)
    refine codeAny_mono run fun r s' z => ?_
    match r, z with
    | .ok (.ret u), z =>
      obtain ⟨v, H', os, bare, un, hok', rv, q⟩ := z
      have q : v = .bl true := q
      rw [q] at rv
      have rv : u = Value.bool true := rv
      refine ⟨by rw [rv], OldK.of_keep fun b o e => ?_, os, bare⟩
      cases qb : H b with
      | none => exact un.keep b o e qb (fun z => nomatch (show b ∈ ([] : List Addr) from z)) (fun z => nomatch z)
      | some u =>
        rcases only b with z | ⟨ob, ys, z⟩
        · exact nomatch qb.symm.trans z
        · have g1 := (hok b _ z).1
          have g2 := (hok' b _ (un.frzs b ob _ z)).1
          exact (g2.trans g1.symm).trans e
  have lenV := hi.length
  cases hk : K.lookup a with
  | none =>
    refine all (fun b => if b = a then some (.frz { cls := .type "list", data := .seq vs.toArray } (.lst (ns.map V.int))) else none) (fun b => ?_) (.inl (.inr ⟨_, if_pos rfl⟩)) (fun b u z => ?_) (fun b z => Decidable.byContradiction fun ne => z (if_neg ne)) fun _ => hk
    · exact if e : b = a then .inr ⟨_, _, if_pos e⟩ else .inl (if_neg e)
    · have z : (if b = a then some (HO.frz { cls := .type "list", data := .seq vs.toArray } (.lst (ns.map V.int))) else none) = some u := z
      split at z
      · rename_i e
        cases z
        subst e
        exact ⟨ha, by rw [List.length_map]; exact hl, vs, _, vals_ints hi, ha⟩
      · exact nomatch z
  | some o =>
    have e := (KX a o hk).symm.trans ha
    cases e
    exact all (fun _ => none) (fun _ => .inl rfl) (.inr ⟨_, vs.toArray, _, hk, rfl, rfl, rfl, by rw [List.size_toArray, lenV]; exact hl, by simpa using vals_ints hi⟩) (fun b u z => nomatch (show (none : Option HO) = some u from z)) (fun b z => absurd rfl z) fun z => absurd rfl z
theorem walk_ofG {l : PySem.W.OpenLaw} {n k : Nat} {q : Program} {loose : List Str} {XP : (Str → Option Value) → Heap → Prop} {YP : World → Heap → Prop} {d : DefRec} {K : Params → PySem.W.Frag} {sp : World → Sp} {x : Str}
    (hn : l.most = some n) (hn2 : n ≤ sizeLine) (hdf : d.params.defaults = []) (room : Room k callerA)
    (hY : ∀ (w : World) (h : Heap), YP w h → (K w.params).In h)
    (F : ∀ (w : World) (mg : Str → Option Value) (fa : Addr) (h : Heap), (K w.params).In h → h.Ns mainGlobals mg → mg d.name = some (.ref fa) →
      ∃ fd : FuncData, (∀ (s : Shared) (u : Value), BindsTo s fd ⟨[u], []⟩ [(x, u)]) ∧ ∀ base : Heap, (K w.params).In base → base.Ns mainGlobals mg → GFn l.prog w (K w.params) mg base k fa fd [x] (sp w))
    (want : ∀ (w : World) (H : Hp) (a : Addr) (ns : List Int), ns.length ≤ n → (∀ z ∈ ns, Builtin.Int.intBits z ≤ 1048576) → Only H → SqL (K w.params) H a (ns.map V.int) → sp w [.ref a] H (fun v _ => v = .bl true) E0) :
    PySem.W.WalkO q loose XP YP l.row.toRowW d [] (fun f vs => PySem.call f vs) :=
  Att.attach_callB hn hdf fun w s₀ s₁ mg mb fa o pm cd doc a vs ns G Y ho hd hcd hmg hobj hints hlen bits hgen => by
    obtain ⟨fd, bind, GF⟩ := F w mg fa _ (hY w _ Y) G.T.g hmg
    exact g_law (hY w _ Y) G.T.g G.T.b G.T.builtins G.T.nolimit hgen hobj hints (Nat.le_trans hlen hn2) room GF bind fun H only sq => want w H a ns hlen bits only sq
end DL

/-! DL1: pure data over the hand layer: what stands in the heap for a datum, the states of a def, readings by pure data. -/
namespace DL
open PySem PySem.Spec PyProof.Rows L2

abbrev Frg := PySem.W.Frag

/-! ### a datum in the heap -/
mutual
inductive RD (K : Frg) (F : Hp) : V → PyData → Prop
  | non : RD K F .non .none
  | bl (b : Bool) : RD K F (.bl b) (.bool b)
  | int (i : Int) : RD K F (.int i) (.int i)
  | str (x : Str) : RD K F (.str x) (.str x)
  | lst {a : Addr} {vs : List V} {ds : List PyData} : F a = some (.lst vs) → vs.length ≤ sizeLine → RDs K F vs ds → RD K F (.ref a) (.list ds)
  | tup {a : Addr} {vs : List V} {ds : List PyData} : SqT K F a vs → vs.length ≤ sizeLine → RDs K F vs ds → RD K F (.ref a) (.tuple ds)
inductive RDs (K : Frg) (F : Hp) : List V → List PyData → Prop
  | nil : RDs K F [] []
  | cons {v : V} {vs : List V} {d : PyData} {ds : List PyData} : RD K F v d → RDs K F vs ds → RDs K F (v :: vs) (d :: ds)
end

theorem seqT {K : Frg} {H H' : Hp} {a : Addr} {xs : List V} (e : Same H H') (h : SqT K H a xs) : SqT K H' a xs := by
  rcases h with (h | ⟨o, h⟩) | h
  · exact .inl (.inl (e _ _ h))
  · exact .inl (.inr ⟨o, e _ _ h⟩)
  · exact .inr h
mutual
theorem RD.mono {K : Frg} {F F' : Hp} (e : Same F F') : ∀ {v : V} {d : PyData}, RD K F v d → RD K F' v d
  | _, _, .non => .non
  | _, _, .bl b => .bl b
  | _, _, .int i => .int i
  | _, _, .str x => .str x
  | _, _, .lst h hl hs => .lst (e _ _ h) hl (RDs.mono e hs)
  | _, _, .tup h hl hs => .tup (seqT e h) hl (RDs.mono e hs)
theorem RDs.mono {K : Frg} {F F' : Hp} (e : Same F F') : ∀ {vs : List V} {ds : List PyData}, RDs K F vs ds → RDs K F' vs ds
  | _, _, .nil => .nil
  | _, _, .cons h t => .cons (RD.mono e h) (RDs.mono e t)
end
theorem RDs.length {K : Frg} {F : Hp} : ∀ {vs : List V} {ds : List PyData}, RDs K F vs ds → vs.length = ds.length
  | _, _, .nil => rfl
  | _, _, .cons _ t => by rw [List.length_cons, List.length_cons, RDs.length t]
theorem RDs.append {K : Frg} {F : Hp} : ∀ {vs : List V} {ds : List PyData} {ws : List V} {es : List PyData}, RDs K F vs ds → RDs K F ws es → RDs K F (vs ++ ws) (ds ++ es)
  | _, _, _, _, .nil, k => k
  | _, _, _, _, .cons h t, k => .cons h (RDs.append t k)
theorem RDs.snoc {K : Frg} {F : Hp} {vs : List V} {ds : List PyData} {v : V} {d : PyData} (t : RDs K F vs ds) (h : RD K F v d) : RDs K F (vs ++ [v]) (ds ++ [d]) := t.append (.cons h .nil)
theorem RDs.take {K : Frg} {F : Hp} : ∀ {vs : List V} {ds : List PyData} (n : Nat), RDs K F vs ds → RDs K F (vs.take n) (ds.take n)
  | _, _, 0, _ => .nil
  | _, _, _ + 1, .nil => .nil
  | _, _, n + 1, .cons h t => .cons h (RDs.take n t)
theorem RDs.drop {K : Frg} {F : Hp} : ∀ {vs : List V} {ds : List PyData} (n : Nat), RDs K F vs ds → RDs K F (vs.drop n) (ds.drop n)
  | _, _, 0, h => h
  | _, _, _ + 1, .nil => .nil
  | _, _, n + 1, .cons _ t => RDs.drop n t
theorem RDs.reverse {K : Frg} {F : Hp} : ∀ {vs : List V} {ds : List PyData}, RDs K F vs ds → RDs K F vs.reverse ds.reverse
  | _, _, .nil => .nil
  | _, _, .cons h t => by
    rw [List.reverse_cons, List.reverse_cons]
    exact (RDs.reverse t).snoc h
theorem RDs.get {K : Frg} {F : Hp} : ∀ {vs : List V} {ds : List PyData} {i : Nat} {v : V}, RDs K F vs ds → vs[i]? = some v → ∃ d, ds[i]? = some d ∧ RD K F v d
  | _, _, _, _, .nil, e => by simp at e
  | _, _, 0, _, .cons h _, e => by
    simp at e
    subst e
    exact ⟨_, rfl, h⟩
  | _, _, i + 1, v, .cons _ t, e => by
    obtain ⟨d, h1, h2⟩ := RDs.get (i := i) (v := v) t (by simpa using e)
    exact ⟨d, by simpa using h1, h2⟩
theorem RDs.get' {K : Frg} {F : Hp} : ∀ {vs : List V} {ds : List PyData} {i : Nat} {d : PyData}, RDs K F vs ds → ds[i]? = some d → ∃ v, vs[i]? = some v ∧ RD K F v d
  | _, _, _, _, .nil, e => by simp at e
  | _, _, 0, _, .cons h _, e => by
    simp at e
    subst e
    exact ⟨_, rfl, h⟩
  | _, _, i + 1, v, .cons _ t, e => by
    obtain ⟨d, h1, h2⟩ := RDs.get' (i := i) (d := v) t (by simpa using e)
    exact ⟨d, by simpa using h1, h2⟩
theorem RDs.set {K : Frg} {F : Hp} {v : V} {d : PyData} (h : RD K F v d) : ∀ {vs : List V} {ds : List PyData} (i : Nat), RDs K F vs ds → RDs K F (vs.set i v) (ds.set i d)
  | _, _, _, .nil => .nil
  | _, _, 0, .cons _ t => .cons h t
  | _, _, i + 1, .cons q t => .cons q (RDs.set h i t)
theorem RDs.erase {K : Frg} {F : Hp} : ∀ {vs : List V} {ds : List PyData} (i : Nat), RDs K F vs ds → RDs K F (vs.eraseIdx i) (ds.eraseIdx i)
  | _, _, _, .nil => .nil
  | _, _, 0, .cons _ t => t
  | _, _, i + 1, .cons q t => .cons q (RDs.erase i t)
theorem RDs.replicate {K : Frg} {F : Hp} {vs : List V} {ds : List PyData} (h : RDs K F vs ds) : ∀ k : Nat, RDs K F (List.replicate k vs).flatten (List.replicate k ds).flatten
  | 0 => .nil
  | k + 1 => by
    rw [List.replicate_succ, List.replicate_succ, List.flatten_cons, List.flatten_cons]
    exact h.append (RDs.replicate h k)
theorem RDs.ints {K : Frg} {F : Hp} : ∀ ns : List Int, RDs K F (ns.map V.int) (ns.map PyData.int)
  | [] => .nil
  | n :: ns => .cons (.int n) (RDs.ints ns)
theorem RDs.ofInts {K : Frg} {F : Hp} : ∀ {vs : List V} {ns : List Int}, RDs K F vs (ns.map PyData.int) → vs = ns.map V.int
  | [], [], _ => rfl
  | _ :: _, [], h => by cases h
  | [], _ :: _, h => by cases h
  | v :: vs, n :: ns, h => by
    cases h with
    | cons h t =>
      cases h
      rw [RDs.ofInts t]
      rfl
theorem RDs.ofBools {K : Frg} {F : Hp} : ∀ {vs : List V} {ns : List Bool}, RDs K F vs (ns.map PyData.bool) → vs = ns.map V.bl
  | [], [], _ => rfl
  | _ :: _, [], h => by cases h
  | [], _ :: _, h => by cases h
  | v :: vs, n :: ns, h => by
    cases h with
    | cons h t =>
      cases h
      rw [RDs.ofBools t]
      rfl
mutual
theorem RD.dp {K : Frg} {F : Hp} : ∀ {v : V} {d : PyData}, RD K F v d → Dp K F v d
  | _, _, .non => .non
  | _, _, .bl b => .bl b
  | _, _, .int i => .int i
  | _, _, .str x => .str x
  | _, _, .lst h _ hs => .lst (.inl (.inl h)) (RDs.dp hs)
  | _, _, .tup h _ hs => .tup h (RDs.dp hs)
theorem RDs.dp {K : Frg} {F : Hp} : ∀ {vs : List V} {ds : List PyData}, RDs K F vs ds → DpAll K F vs ds
  | _, _, .nil => .nil
  | _, _, .cons h t => .cons (RD.dp h) (RDs.dp t)
end

/-! ### heaps that only grow by data -/
structure Ext (F H F' H' : Hp) : Prop where
  f : Same F F'
  h : Same H H'
  fh : Same F' H'
  new : ∀ a o, F' a = some o → F a = some o ∨ H a = none
theorem Ext.refl {F H : Hp} (e : Same F H) : Ext F H F H := ⟨.refl _, .refl _, e, fun _ _ q => .inl q⟩
theorem Ext.trans {F H F1 H1 F2 H2 : Hp} (a : Ext F H F1 H1) (b : Ext F1 H1 F2 H2) : Ext F H F2 H2 :=
  ⟨a.f.trans b.f, a.h.trans b.h, b.fh, fun x o q => (b.new x o q).elim (a.new x o) fun n => .inr (a.h.free n)⟩
theorem same_upd {H : Hp} {p : Addr} {o : HO} (h : H p = none) : Same H (upd H p o) := fun b x e => by
  rw [upd_ne (ne_of_none e h)]
  exact e
theorem upd2 {F H : Hp} (s : Same F H) {p : Addr} {o : HO} : Same (upd F p o) (upd H p o) := fun b x e => by
  by_cases q : b = p
  · subst q
    rw [upd_same] at e ⊢
    exact e
  · rw [upd_ne q] at e ⊢
    exact s _ _ e
/-- a new datum -/
theorem Ext.laid {F H : Hp} (s : Same F H) {p : Addr} {o : HO} (n : H p = none) : Ext F H (upd F p o) (upd H p o) :=
  ⟨same_upd (s.free n), same_upd n, upd2 s, fun a x q => by
    by_cases e : a = p
    · subst e
      exact .inr n
    · rw [upd_ne e] at q
      exact .inl q⟩
/-- what is there already is taken as a datum -/
theorem same_take {F H : Hp} (s : Same F H) {p : Addr} {o : HO} (h : H p = some o) : Same (upd F p o) H := fun b x e => by
  by_cases q : b = p
  · subst q
    rw [upd_same] at e
    cases e
    exact h
  · rw [upd_ne q] at e
    exact s _ _ e

/-! ### objects, states -/
inductive Ob where
  | lst (xs : List PyData)
  | dk (kvs : List (Key × PyData))
  | src
def SrcOk (cells : List Int) (left mixed turn : Int) : Prop :=
  (∀ c ∈ cells, 0 ≤ c) ∧ cells.length ≤ 1000 ∧ 0 ≤ left ∧ 0 ≤ mixed ∧ mixed < 2147483648 ∧ 0 ≤ turn
def RK (K : Frg) (F : Hp) : List (Key × V) → List (Key × PyData) → Prop := Paired fun p q => p.1 = q.1 ∧ RD K F p.2 q.2
/-- the object o stands in H, at the addresses fp (its own first) -/
inductive RO (K : Frg) (F H : Hp) : Ob → List Addr → Prop
  | lst {a : Addr} {vs : List V} {xs : List PyData} : H a = some (.lst vs) → vs.length ≤ sizeLine → RDs K F vs xs → RO K F H (.lst xs) [a]
  | dk {a : Addr} {ks : List (Key × V)} {kvs : List (Key × PyData)} : H a = some (.dK ks) → ks.length ≤ sizeLine → RK K F ks kvs → RO K F H (.dk kvs) [a]
  | src {a c : Addr} {cells : List Int} {l m t : Int} : H a = some (.dK [(.inr "cells", .ref c), (.inr "left", .int l), (.inr "mixed", .int m), (.inr "turn", .int t)]) → H c = some (.lst (cells.map V.int)) → SrcOk cells l m t → RO K F H .src [a, c]

inductive Sl where
  | d (x : PyData) | p (n : Nat) | f (a : Addr) | own (o : Ob)
structure En where
  sl : List (Option Sl)
  st : List Ob
inductive Val where
  | d (x : PyData) | o (i : Nat) | p (n : Nat) | f (a : Addr)

structure Base where
  F0 : Hp
  H0 : Hp
  ptrs : List (List Addr)
  acc : List Addr

/-- the slot s of the state: what stands there, and the addresses that it owns -/
inductive RS (K : Frg) (F H : Hp) (ptrs : List (List Addr)) : Option Sl → Option V → List Addr → Prop
  | none {v : Option V} : RS K F H ptrs .none v []
  | d {x : PyData} {v : V} : RD K F v x → RS K F H ptrs (some (.d x)) (some v) []
  | p {n : Nat} {a : Addr} {r : List Addr} : ptrs[n]? = some (a :: r) → RS K F H ptrs (some (.p n)) (some (.ref a)) []
  | f {a : Addr} : RS K F H ptrs (some (.f a)) (some (.ref a)) []
  | own {o : Ob} {a : Addr} {r : List Addr} : RO K F H o (a :: r) → RS K F H ptrs (some (.own o)) (some (.ref a)) (a :: r)

structure Rel (K : Frg) (B : Base) (F : Hp) (fps : List (List Addr)) (en : En) (σ : L2.St) (H : Hp) : Prop where
  same : Same F H
  len : en.sl.length = σ.length ∧ fps.length = σ.length
  slot : ∀ (i : Nat) s v fp, en.sl[i]? = some s → σ[i]? = some v → fps[i]? = some fp → RS K F H B.ptrs s v fp
  lst : en.st.length = B.ptrs.length
  store : ∀ (n : Nat) o fp, en.st[n]? = some o → B.ptrs[n]? = some fp → RO K F H o fp
  nodup : (fps.flatten ++ B.ptrs.flatten).Nodup
  nof : ∀ a ∈ fps.flatten ++ B.ptrs.flatten, F a = none
  live : ∀ a ∈ fps.flatten ++ B.ptrs.flatten, H a ≠ none
  sub : ∀ a ∈ B.ptrs.flatten, a ∈ B.acc
  sameF : Same B.F0 F
  newF : ∀ a o, F a = some o → B.F0 a = some o ∨ B.H0 a = none ∨ a ∈ B.acc
  new : ∀ a ∈ fps.flatten, B.H0 a = none ∨ a ∈ B.acc
  grow : ∀ a, H a = none → B.H0 a = none
  keep : ∀ a o, B.H0 a = some o → a ∉ B.acc → H a = some o

inductive RV (K : Frg) (F H : Hp) (ptrs fps : List (List Addr)) : V → Val → Prop
  | d {v : V} {x : PyData} : RD K F v x → RV K F H ptrs fps v (.d x)
  | o {i : Nat} {a : Addr} {r : List Addr} : fps[i]? = some (a :: r) → RV K F H ptrs fps (.ref a) (.o i)
  | p {n : Nat} {a : Addr} {r : List Addr} : ptrs[n]? = some (a :: r) → RV K F H ptrs fps (.ref a) (.p n)
  | f {a : Addr} : RV K F H ptrs fps (.ref a) (.f a)
/-- owned slots that are left stand where they stood -/
def Kp (en : En) (fps : List (List Addr)) (en' : En) (fps' : List (List Addr)) : Prop := ∀ (i : Nat) (o : Ob), en'.sl[i]? = some (some (Sl.own o)) → (∃ o', en.sl[i]? = some (some (Sl.own o'))) ∧ fps'[i]? = fps[i]?
theorem Kp.refl {en : En} {fps : List (List Addr)} : Kp en fps en fps := fun i o e => ⟨⟨o, e⟩, rfl⟩
theorem Kp.trans {e e1 e2 : En} {f f1 f2 : List (List Addr)} (a : Kp e f e1 f1) (b : Kp e1 f1 e2 f2) : Kp e f e2 f2 := fun i o h => by
  obtain ⟨⟨o', h1⟩, h2⟩ := b i o h
  obtain ⟨h3, h4⟩ := a i o' h1
  exact ⟨h3, h2.trans h4⟩

section
variable {K : Frg} {B : Base} {F H F' H' : Hp} {fps : List (List Addr)} {en : En} {σ : L2.St}
theorem RK.mono (e : Same F F') {ks : List (Key × V)} {kvs : List (Key × PyData)} (h : RK K F ks kvs) : RK K F' ks kvs := Paired.mapP h fun _ _ q => ⟨q.1, q.2.mono e⟩
theorem RO.mono {o : Ob} {fp : List Addr} (h : RO K F H o fp) (e : Same F F') (k : ∀ a ∈ fp, H' a = H a) : RO K F' H' o fp := by
  cases h with
  | lst h l r => exact .lst ((k _ (by simp)).trans h) l (r.mono e)
  | dk h l r => exact .dk ((k _ (by simp)).trans h) l (r.mono e)
  | src h1 h2 r => exact .src ((k _ (by simp)).trans h1) ((k _ (by simp)).trans h2) r
theorem RS.mono {ptrs : List (List Addr)} {s : Option Sl} {v : Option V} {fp : List Addr} (h : RS K F H ptrs s v fp) (e : Same F F') (k : ∀ a ∈ fp, H' a = H a) : RS K F' H' ptrs s v fp := by
  cases h with
  | none => exact .none
  | d h => exact .d (h.mono e)
  | p h => exact .p h
  | f => exact .f
  | own h => exact .own (h.mono e k)
theorem RV.mono {ptrs fps' : List (List Addr)} {v : V} {x : Val} (h : RV K F H ptrs fps v x) (e : Same F F') (k : ∀ (i : Nat), x = .o i → fps'[i]? = fps[i]?) : RV K F' H' ptrs fps' v x := by
  cases h with
  | d h => exact .d (h.mono e)
  | o h => exact .o ((k _ rfl).trans h)
  | p h => exact .p h
  | f => exact .f
theorem mem_fp {i : Nat} {fp : List Addr} {a : Addr} (h : fps[i]? = some fp) (ha : a ∈ fp) : a ∈ fps.flatten := List.mem_flatten.mpr ⟨fp, List.mem_of_getElem? h, ha⟩
theorem Rel.ext (R : Rel K B F fps en σ H) (e : Ext F H F' H') : Rel K B F' fps en σ H' := by
  have kf : ∀ a ∈ fps.flatten ++ B.ptrs.flatten, H' a = H a := fun a ha => by
    cases q : H a with
    | none => exact absurd q (R.live a ha)
    | some o => exact e.h a o q
  refine ⟨e.fh, R.len, fun i s v fp h1 h2 h3 => (R.slot i s v fp h1 h2 h3).mono e.f fun a ha => kf a (List.mem_append_left _ (mem_fp h3 ha)), R.lst, fun n o fp h1 h2 => (R.store n o fp h1 h2).mono e.f fun a ha => kf a (List.mem_append_right _ (mem_fp h2 ha)), R.nodup, fun a ha => ?_, fun a ha => ?_, R.sub, R.sameF.trans e.f, fun a o q => ?_, R.new, fun a q => R.grow a (e.h.free q), fun a o q n => e.h a o (R.keep a o q n)⟩
  · cases q : F' a with
    | none => rfl
    | some o =>
      rcases e.new a o q with z | z
      · rw [R.nof a ha] at z
        cases z
      · exact absurd z (R.live a ha)
  · rw [kf a ha]
    exact R.live a ha
  · rcases e.new a o q with z | z
    · exact R.newF a o z
    · exact .inr (.inl (R.grow a z))
/-- the same, seen from here on: all but what is owned or handed in is kept from now on -/
def Base.from (B : Base) (F H : Hp) (fps : List (List Addr)) : Base := ⟨F, H, B.ptrs, fps.flatten ++ B.ptrs.flatten⟩
theorem Rel.rebase (R : Rel K B F fps en σ H) : Rel K (B.from F H fps) F fps en σ H :=
  ⟨R.same, R.len, R.slot, R.lst, R.store, R.nodup, R.nof, R.live, fun a ha => List.mem_append_right _ ha, .refl _, fun a o q => .inl q, fun a ha => .inr (List.mem_append_left _ ha), fun _ q => q, fun _ _ q _ => q⟩
theorem Rel.back {fps' : List (List Addr)} {en' : En} {σ' : L2.St} (R : Rel K B F fps en σ H) (R' : Rel K (B.from F H fps) F' fps' en' σ' H') : Rel K B F' fps' en' σ' H' where
  same := R'.same
  len := R'.len
  slot := R'.slot
  lst := R'.lst
  store := R'.store
  nodup := R'.nodup
  nof := R'.nof
  live := R'.live
  sub := R.sub
  sameF := R.sameF.trans R'.sameF
  newF := fun a o q => by
    rcases R'.newF a o q with z | z | z
    · exact R.newF a o z
    · exact .inr (.inl (R.grow a z))
    · rcases List.mem_append.mp z with z | z
      · rcases R.new a z with w | w
        · exact .inr (.inl w)
        · exact .inr (.inr w)
      · exact .inr (.inr (R.sub a z))
  new := fun a ha => by
    rcases R'.new a ha with z | z
    · exact .inl (R.grow a z)
    · rcases List.mem_append.mp z with z | z
      · exact R.new a z
      · exact .inr (R.sub a z)
  grow := fun a q => R.grow a (R'.grow a q)
  keep := fun a o q n => by
    refine R'.keep a o (R.keep a o q n) fun z => ?_
    rcases List.mem_append.mp z with z | z
    · rcases R.new a z with w | w
      · rw [q] at w
        cases w
      · exact n w
    · exact n (R.sub a z)
end

/-! ### readings by data -/
abbrev TD := En → (Val → En → Prop) → Prop
abbrev TDT := En → (Bool → En → Prop) → Prop
/-- a new object that nobody has yet -/
structure Fr (K : Frg) (B : Base) (F H : Hp) (fps : List (List Addr)) (v : V) (o : Ob) (fp : List Addr) : Prop where
  at_ : ∃ a r, fp = a :: r ∧ v = .ref a
  ob : RO K F H o fp
  nd : fp.Nodup
  nof : ∀ a ∈ fp, F a = none
  out : ∀ a ∈ fp, a ∉ fps.flatten ++ B.ptrs.flatten
  new : ∀ a ∈ fp, B.H0 a = none
abbrev TDF := En → (Ob → En → Prop) → Prop

def LE (K : Frg) (t : TD) : TE := fun σ H Q => ∃ B F fps en, ∃ Q' : Val → En → Prop, Rel K B F fps en σ H ∧ t en Q' ∧
  ∀ x en' v F' fps' H', Q' x en' → Rel K B F' fps' en' σ H' → Same F F' → Kp en fps en' fps' → RV K F' H' B.ptrs fps' v x → Q v H'
def LT (K : Frg) (t : TDT) : TT := fun σ H Q => ∃ B F fps en, ∃ Q' : Bool → En → Prop, Rel K B F fps en σ H ∧ t en Q' ∧
  ∀ b en' F' fps' H', Q' b en' → Rel K B F' fps' en' σ H' → Same F F' → Kp en fps en' fps' → Q b H'
def LF (K : Frg) (t : TDF) : TE := fun σ H Q => ∃ B F fps en, ∃ Q' : Ob → En → Prop, Rel K B F fps en σ H ∧ t en Q' ∧
  ∀ o en' v fp F' fps' H', Q' o en' → Rel K B F' fps' en' σ H' → Same F F' → Kp en fps en' fps' → Fr K B F' H' fps' v o fp → Q v H'
abbrev DE (X : Cx) (e : Expr) (t : TD) : Prop := PE X e (LE X.K t)
abbrev DF (X : Cx) (e : Expr) (t : TDF) : Prop := PE X e (LF X.K t)
abbrev DT (X : Cx) (e : Expr) (t : TDT) : Prop := PT X e (LT X.K t)

theorem PE.imp {X : Cx} {e : Expr} {t t' : TE} (h : PE X e t) (i : ∀ σ H Q, t' σ H Q → t σ H Q) : PE X e t' := ⟨fun pins s σ H Q I q => h.run pins s σ H Q I (i σ H Q q)⟩
theorem PT.imp {X : Cx} {e : Expr} {t t' : TT} (h : PT X e t) (i : ∀ σ H Q, t' σ H Q → t σ H Q) : PT X e t' := ⟨fun pins s σ H Q I q => h.run pins s σ H Q I (i σ H Q q)⟩
theorem PS.imp {X : Cx} {e : Stmt} {t t' : TS} (h : PS X e t) (i : ∀ D σ H, t' D σ H → t D σ H) : PS X e t' := ⟨fun pins s σ H D I q => h.run pins s σ H D I (i D σ H q)⟩
theorem PSs.imp {X : Cx} {e : List Stmt} {t t' : TS} (h : PSs X e t) (i : ∀ D σ H, t' D σ H → t D σ H) : PSs X e t' := ⟨fun pins s σ H D I q => h.run pins s σ H D I (i D σ H q)⟩

/-! ### names, constants -/
def Sl.val (i : Nat) : Sl → Val
  | .d x => .d x
  | .p n => .p n
  | .f a => .f a
  | .own _ => .o i
def dVar (i : Nat) : TD := fun en Q => match en.sl[i]? with
  | some (some s) => Q (s.val i) en
  | _ => False
def dC (x : PyData) : TD := fun en Q => Q (.d x) en
section
variable {X : Cx}
theorem Rel.at_ {K : Frg} {B : Base} {F H : Hp} {fps : List (List Addr)} {en : En} {σ : L2.St} (R : Rel K B F fps en σ H) {i : Nat} {s : Sl} (h : en.sl[i]? = some (some s)) : ∃ v fp, σ[i]? = some (some v) ∧ fps[i]? = some fp ∧ RS K F H B.ptrs (some s) (some v) fp := by
  obtain ⟨h1, h2⟩ := R.len
  have hi : i < en.sl.length := (List.getElem?_eq_some_iff.mp h).1
  have e1 : σ[i]? = some σ[i] := List.getElem?_eq_getElem (h1 ▸ hi)
  have e2 : fps[i]? = some fps[i] := List.getElem?_eq_getElem (by omega)
  have r := R.slot i _ _ _ h e1 e2
  cases hv : σ[i] with
  | none =>
    rw [hv] at r
    cases r
  | some v => exact ⟨v, _, by rw [e1, hv], e2, hv ▸ r⟩
theorem de_of {e : Expr} {i : Nat} (h : PE X e (tVar i)) : DE X e (dVar i) := by
  refine PE.imp h fun σ H Q ⟨B, F, fps, en, Q', R, q, post⟩ => ?_
  unfold dVar at q
  split at q
  · rename_i s hs
    obtain ⟨v, fp, h1, h2, r⟩ := R.at_ hs
    refine ⟨v, h1, post _ en v F fps H q R (.refl _) .refl ?_⟩
    cases r with
    | d h => exact .d h
    | p h => exact .p h
    | f => exact .f
    | own h => exact .o h2
  · exact q.elim
theorem de_c {e : Expr} {v : V} {x : PyData} (h : PE X e (tC v)) (hr : ∀ F : Hp, RD X.K F v x) : DE X e (dC x) :=
  PE.imp h fun σ H Q ⟨B, F, fps, en, Q', R, q, post⟩ => post _ en v F fps H q R (.refl _) .refl (.d (hr F))
theorem de_int {i j pos} : DE X (.Constant (.int i) j pos) (dC (.int i)) := de_c pe_int fun _ => .int i
theorem de_bl {b j pos} : DE X (.Constant (.bool b) j pos) (dC (.bool b)) := de_c pe_bl fun _ => .bl b
theorem de_non {j pos} : DE X (.Constant .none j pos) (dC .none) := de_c pe_non fun _ => .non
theorem de_str {x j pos} : DE X (.Constant (.str x) j pos) (dC (.str x)) := de_c pe_str fun _ => .str x
end

end DL

/-! DL2: operands, operators, tests, storing, statements by pure data. -/
namespace DL
open PySem PySem.Spec PyProof.Rows L2

/-! ### what an operand holds -/
/-- a datum, or a list that is owned (its items are data) -/
inductive RC (K : Frg) (F H : Hp) : V → PyData → Prop
  | d {v : V} {x : PyData} : RD K F v x → RC K F H v x
  | lst {a : Addr} {vs : List V} {xs : List PyData} : H a = some (.lst vs) → vs.length ≤ sizeLine → RDs K F vs xs → RC K F H (.ref a) (.list xs)
def En.set (en : En) (i : Nat) (s : Option Sl) : En := ⟨en.sl.set i s, en.st⟩
def En.put (en : En) (n : Nat) (o : Ob) : En := ⟨en.sl, en.st.set n o⟩
def obAt (en : En) : Val → Option Ob
  | .o i => match en.sl[i]? with
    | some (some (.own o)) => some o
    | _ => none
  | .p n => en.st[n]?
  | _ => none
def Ob.data : Ob → Option PyData
  | .lst xs => some (.list xs)
  | _ => none
def look (en : En) : Val → Option PyData
  | .d x => some x
  | .o i => match en.sl[i]? with
    | some (some (.own o)) => o.data
    | _ => none
  | .p n => match en.st[n]? with
    | some o => o.data
    | _ => none
  | .f _ => none
section
variable {K : Frg} {B : Base} {F H F' H' : Hp} {fps fps' : List (List Addr)} {en en' : En} {σ : L2.St} {v : V} {x : PyData} {xs : List PyData}
theorem RC.rd (s : Same F H) (h : RC K F H v x) : RD K H v x := by
  cases h with
  | d h => exact h.mono s
  | lst h l r => exact .lst h l (r.mono s)
theorem RC.list (s : Same F H) (h : RC K F H v (.list xs)) : ∃ a vs, v = .ref a ∧ H a = some (.lst vs) ∧ vs.length ≤ sizeLine ∧ RDs K F vs xs := by
  cases h with
  | d h =>
    cases h with
    | lst h l r => exact ⟨_, _, rfl, s _ _ h, l, r⟩
  | lst h l r => exact ⟨_, _, rfl, h, l, r⟩
theorem RC.tuple (s : Same F H) (h : RC K F H v (.tuple xs)) : ∃ a vs, v = .ref a ∧ SqT K H a vs ∧ vs.length ≤ sizeLine ∧ RDs K F vs xs := by
  cases h with
  | d h =>
    cases h with
    | tup h l r => exact ⟨_, _, rfl, seqT s h, l, r⟩
theorem RC.int {i : Int} (h : RC K F H v (.int i)) : v = .int i := by
  cases h with
  | d h => cases h; rfl
theorem RC.bool {i : Bool} (h : RC K F H v (.bool i)) : v = .bl i := by
  cases h with
  | d h => cases h; rfl
theorem RC.str {i : Str} (h : RC K F H v (.str i)) : v = .str i := by
  cases h with
  | d h => cases h; rfl
theorem RC.none (h : RC K F H v .none) : v = .non := by
  cases h with
  | d h => cases h; rfl
/-- an owned or handed object -/
theorem Rel.ob (R : Rel K B F fps en σ H) {y : Val} {o : Ob} (r : RV K F H B.ptrs fps v y) (h : obAt en y = some o) : ∃ a fp, v = .ref a ∧ RO K F H o (a :: fp) ∧ ((∃ i, y = .o i ∧ fps[i]? = some (a :: fp)) ∨ ∃ n, y = .p n ∧ B.ptrs[n]? = some (a :: fp)) := by
  cases r with
  | d _ => cases h
  | f => cases h
  | o hf =>
    rename_i i a rest
    unfold obAt at h
    simp only at h
    split at h
    · rename_i o' hs
      cases h
      obtain ⟨v', fp, h1, h2, r⟩ := R.at_ hs
      rw [hf] at h2
      cases h2
      cases r with
      | own q => exact ⟨a, rest, rfl, q, .inl ⟨i, rfl, hf⟩⟩
    · cases h
  | p hp =>
    rename_i n a rest
    exact ⟨a, rest, rfl, R.store n o _ h hp, .inr ⟨n, rfl, hp⟩⟩
theorem Ob.rc {o : Ob} {a : Addr} {fp : List Addr} (h : RO K F H o (a :: fp)) (hx : o.data = some x) : RC K F H (.ref a) x := by
  cases h with
  | lst h l r =>
    cases hx
    exact .lst h l r
  | dk _ _ _ => cases hx
  | src _ _ _ => cases hx
theorem look_ob {y : Val} (h : look en y = some x) : (y = .d x) ∨ ∃ o, obAt en y = some o ∧ o.data = some x := by
  cases y with
  | d z =>
    cases h
    exact .inl rfl
  | f a => cases h
  | o i =>
    refine .inr ?_
    unfold look at h
    unfold obAt
    simp only at h ⊢
    split at h
    · rename_i o hs
      exact ⟨o, rfl, h⟩
    · cases h
  | p n =>
    refine .inr ?_
    unfold look at h
    unfold obAt
    simp only at h ⊢
    split at h
    · rename_i o hs
      exact ⟨o, hs, h⟩
    · cases h
theorem Rel.rc (R : Rel K B F fps en σ H) {y : Val} (r : RV K F H B.ptrs fps v y) (h : look en y = some x) : RC K F H v x := by
  rcases look_ob h with rfl | ⟨o, h1, h2⟩
  · cases r with
    | d h => exact .d h
  · obtain ⟨a, fp, rfl, q, _⟩ := R.ob r h1
    exact Ob.rc q h2
theorem look_own {i : Nat} (h : look en (.o i) = some x) : ∃ o, en.sl[i]? = some (some (Sl.own o)) := by
  unfold look at h
  simp only at h
  split at h
  · exact ⟨_, by assumption⟩
  · cases h
theorem ob_own {i : Nat} {o : Ob} (h : obAt en (.o i) = some o) : en.sl[i]? = some (some (Sl.own o)) := by
  unfold obAt at h
  simp only at h
  split at h
  · cases h
    assumption
  · cases h
/-- an operand, later -/
theorem RV.later {ptrs : List (List Addr)} {y : Val} {en1 : En} {fps1 : List (List Addr)} (r : RV K F H ptrs fps1 v y) (s : Same F F') (k : Kp en1 fps1 en' fps') (h : ∀ i, y = .o i → ∃ o, en'.sl[i]? = some (some (Sl.own o))) : RV K F' H' ptrs fps' v y :=
  r.mono s fun i e => by
    obtain ⟨o, ho⟩ := h i e
    exact (k i o ho).2
theorem RV.later_look {ptrs : List (List Addr)} {y : Val} {en1 : En} {fps1 : List (List Addr)} (r : RV K F H ptrs fps1 v y) (s : Same F F') (k : Kp en1 fps1 en' fps') (h : look en' y = some x) : RV K F' H' ptrs fps' v y :=
  r.later s k fun i e => look_own (e ▸ h)
theorem RV.later_ob {ptrs : List (List Addr)} {y : Val} {o : Ob} {en1 : En} {fps1 : List (List Addr)} (r : RV K F H ptrs fps1 v y) (s : Same F F') (k : Kp en1 fps1 en' fps') (h : obAt en' y = some o) : RV K F' H' ptrs fps' v y :=
  r.later s k fun i e => ⟨o, ob_own (e ▸ h)⟩
end

/-! ### operators -/
abbrev F2 := PyData → PyData → (PyData → Prop) → Prop
structure OpD (K : Frg) (r : R2) (f : F2) : Prop where
  run : ∀ (F H : Hp) (x y : V) (dx dy : PyData) (Q : VK) (k : PyData → Prop), Same F H → RC K F H x dx → RC K F H y dy → f dx dy k →
    (∀ z v F' H', k z → Ext F H F' H' → RD K F' v z → Q v H') → r x y H Q
def dOp (f : F2) (ta tb : TD) : TD := fun en Q => ta en fun a en1 => tb en1 fun b en2 => match look en2 a, look en2 b with
  | some x, some y => f x y fun z => Q (.d z) en2
  | _, _ => False
section
variable {X : Cx} {a b : Expr} {ta tb : TD} {pos : Pos}
theorem op_read {r : R2} {f : F2} (hf : OpD X.K r f) {σ : L2.St} {H : Hp} {Q : VK} (h : LE X.K (dOp f ta tb) σ H Q) : tOp r (LE X.K ta) (LE X.K tb) σ H Q := by
  obtain ⟨B, F, fps, en, Q', R, q, post⟩ := h
  refine ⟨B, F, fps, en, _, R, q, fun x en1 v1 F1 fps1 H1 q1 R1 s1 k1 r1 => ⟨B, F1, fps1, en1, _, R1, q1, fun y en2 v2 F2 fps2 H2 q2 R2 s2 k2 r2 => ?_⟩⟩
  split at q2
  · rename_i dx dy hx hy
    refine hf.run F2 H2 v1 v2 dx dy Q _ R2.same (R2.rc (r1.later_look s2 k2 hx) hx) (R2.rc r2 hy) q2 fun z v F' H' kz e rd => ?_
    exact post (.d z) en2 v F' fps2 H' kz (R2.ext e) (s1.trans (s2.trans e.f)) (k1.trans k2) (.d rd)
  · exact q2.elim
theorem de_op {op : Operator} {r : R2} {f : F2} (ho : OpR X (binaryOp op) r) (hf : OpD X.K r f) (ha : DE X a ta) (hb : DE X b tb) : DE X (.BinOp a op b pos) (dOp f ta tb) :=
  PE.imp (pe_op ho ha hb) fun _ _ _ h => op_read hf h
theorem de_cmp {op : CmpOp} {r : R2} {f : F2} (ho : OpR X (compareOp op) r) (hf : OpD X.K r f) (ha : DE X a ta) (hb : DE X b tb) (hm : behindInMarks op b = false) : DE X (.Compare a [op] [b] pos) (dOp f ta tb) :=
  PE.imp (pe_cmpR ho ha hb hm) fun _ _ _ h => op_read hf h
/-- a value that is True or False, as a test -/
def dTest (t : TD) : TDT := fun en Q => t en fun x en1 => match x with
  | .d (.bool b) => Q b en1
  | _ => False
theorem LT.test {K : Frg} {t : TD} {σ : L2.St} {H : Hp} {Q : Bool → Hp → Prop} (h : LT K (dTest t) σ H Q) : LE K t σ H fun x H1 => ∃ k, x = .bl k ∧ Q k H1 := by
  obtain ⟨B, F, fps, en, Q', R, q, post⟩ := h
  refine ⟨B, F, fps, en, _, R, q, fun x en1 v1 F1 fps1 H1 q1 R1 s1 k1 r1 => ?_⟩
  split at q1
  · cases r1 with
    | d h =>
      cases h
      exact ⟨_, rfl, post _ en1 F1 fps1 H1 q1 R1 s1 k1⟩
  · exact q1.elim
theorem dt_cmp {op : CmpOp} {r : R2} {f : F2} (ho : OpR X (compareOp op) r) (hf : OpD X.K r f) (ha : DE X a ta) (hb : DE X b tb) (hm : behindInMarks op b = false) : DT X (.Compare a [op] [b] pos) (dTest (dOp f ta tb)) :=
  PT.imp (pt_cmpR ho ha hb hm) fun σ H Q h => by
    obtain ⟨B, F, fps, en, Q', R, q, post⟩ := LT.test h
    exact op_read hf ⟨B, F, fps, en, Q', R, q, post⟩
theorem dt_val {e : Expr} {t : TD} (h : DE X e t) (he : ∀ whole, isTrue e X.env whole = (do let v ← whole; standAt e.pos; holding [v] (truthy v)) := by intro _; rfl) : DT X e (dTest t) :=
  PT.imp (pt_val h he) fun σ H Q h => LT.test h
def dUn (f : PyData → (PyData → Prop) → Prop) (ta : TD) : TD := fun en Q => ta en fun a en1 => match look en1 a with
  | some x => f x fun z => Q (.d z) en1
  | _ => False
theorem un_read {r : V → Hp → VK → Prop} {f : PyData → (PyData → Prop) → Prop}
    (hf : ∀ (F H : Hp) (x : V) (dx : PyData) (Q : VK) (k : PyData → Prop), Same F H → RC X.K F H x dx → f dx k → (∀ z v F' H', k z → Ext F H F' H' → RD X.K F' v z → Q v H') → r x H Q)
    {σ : L2.St} {H : Hp} {Q : VK} (h : LE X.K (dUn f ta) σ H Q) : LE X.K ta σ H fun x H1 => r x H1 Q := by
  obtain ⟨B, F, fps, en, Q', R, q, post⟩ := h
  refine ⟨B, F, fps, en, _, R, q, fun x en1 v1 F1 fps1 H1 q1 R1 s1 k1 r1 => ?_⟩
  split at q1
  · rename_i dx hx
    refine hf F1 H1 v1 dx Q _ R1.same (R1.rc r1 hx) q1 fun z v F' H' kz e rd => ?_
    exact post (.d z) en1 v F' fps1 H' kz (R1.ext e) (s1.trans e.f) k1 (.d rd)
  · exact q1.elim

/-! ### and, or, not, if -/
def dAnd (t u : TDT) : TDT := fun en Q => t en fun c en1 => if c = true then u en1 Q else Q false en1
def dOr (t u : TDT) : TDT := fun en Q => t en fun c en1 => if c = true then Q true en1 else u en1 Q
def dNot (t : TDT) : TDT := fun en Q => t en fun c en1 => Q (!c) en1
abbrev DW (X : Cx) (e : Expr) (t : TDT) : Prop := PW X e (LT X.K t)
theorem PW.imp {e : Expr} {t t' : TT} (h : PW X e t) (i : ∀ σ H Q, t' σ H Q → t σ H Q) : PW X e t' := ⟨fun wh pins s σ H Q I q => h.run wh pins s σ H Q I (i σ H Q q)⟩
theorem dt_not {t : TDT} (ha : DT X a t) : DT X (.UnaryOp .Not a pos) (dNot t) :=
  PT.imp (pt_not ha) fun σ H Q ⟨B, F, fps, en, Q', R, q, post⟩ => ⟨B, F, fps, en, _, R, q, fun b en' F' fps' H' h R' s k => post _ en' F' fps' H' h R' s k⟩
theorem dw_and1 {t : TDT} (ha : DT X a t) : DW X (.BoolOp .And [a] pos) t := pw_and1 ha
theorem dw_or1 {t : TDT} (ha : DT X a t) : DW X (.BoolOp .Or [a] pos) t := pw_or1 ha
theorem dw_and {t u : TDT} {rest : List Expr} (ha : DT X a t) (hb : DW X (.BoolOp .And (b :: rest) pos) u) : DW X (.BoolOp .And (a :: b :: rest) pos) (dAnd t u) :=
  PW.imp (pw_and ha hb) fun σ H Q ⟨B, F, fps, en, Q', R, q, post⟩ => ⟨B, F, fps, en, _, R, q, fun c en1 F1 fps1 H1 h R1 s1 k1 => by
    cases c with
    | true => exact ⟨B, F1, fps1, en1, _, R1, h, fun c' en2 F2 fps2 H2 h2 R2 s2 k2 => post c' en2 F2 fps2 H2 h2 R2 (s1.trans s2) (k1.trans k2)⟩
    | false => exact post _ en1 F1 fps1 H1 h R1 s1 k1⟩
theorem dw_or {t u : TDT} {rest : List Expr} (ha : DT X a t) (hb : DW X (.BoolOp .Or (b :: rest) pos) u) : DW X (.BoolOp .Or (a :: b :: rest) pos) (dOr t u) :=
  PW.imp (pw_or ha hb) fun σ H Q ⟨B, F, fps, en, Q', R, q, post⟩ => ⟨B, F, fps, en, _, R, q, fun c en1 F1 fps1 H1 h R1 s1 k1 => by
    cases c with
    | false => exact ⟨B, F1, fps1, en1, _, R1, h, fun c' en2 F2 fps2 H2 h2 R2 s2 k2 => post c' en2 F2 fps2 H2 h2 R2 (s1.trans s2) (k1.trans k2)⟩
    | true => exact post _ en1 F1 fps1 H1 h R1 s1 k1⟩
/-- as values: all are True or False -/
def dAndV (t u : TD) : TD := fun en Q => dTest t en fun c en1 => if c = true then u en1 Q else Q (.d (.bool false)) en1
def dOrV (t u : TD) : TD := fun en Q => dTest t en fun c en1 => if c = true then Q (.d (.bool true)) en1 else u en1 Q
def dNotV (t : TD) : TD := fun en Q => dTest t en fun c en1 => Q (.d (.bool (!c))) en1
theorem bool_read {t : TD} {σ : L2.St} {H : Hp} {Q : VK} {u : Bool → TD} (h : LE X.K (fun en Q => dTest t en fun c en1 => u c en1 Q) σ H Q) : LE X.K t σ H fun x H1 => ∃ c, x = .bl c ∧ LE X.K (u c) σ H1 Q := by
  obtain ⟨B, F, fps, en, Q', R, q, post⟩ := h
  refine ⟨B, F, fps, en, _, R, q, fun x en1 v1 F1 fps1 H1 q1 R1 s1 k1 r1 => ?_⟩
  split at q1
  · cases r1 with
    | d h =>
      cases h
      exact ⟨_, rfl, B, F1, fps1, en1, _, R1, q1, fun c' en2 v F2 fps2 H2 h2 R2 s2 k2 r => post c' en2 v F2 fps2 H2 h2 R2 (s1.trans s2) (k1.trans k2) r⟩
  · exact q1.elim
theorem LE.imp {K : Frg} {t : TD} {σ : L2.St} {H : Hp} {Q Q' : VK} (h : LE K t σ H Q) (i : ∀ v H, Q v H → Q' v H) : LE K t σ H Q' := by
  obtain ⟨B, F, fps, en, Q1, R, q, post⟩ := h
  exact ⟨B, F, fps, en, Q1, R, q, fun x en' v F' fps' H' h R' s k r => i _ _ (post x en' v F' fps' H' h R' s k r)⟩
theorem LE.const {K : Frg} {x : PyData} {v : V} (hv : ∀ F : Hp, RD K F v x) {σ : L2.St} {H : Hp} {Q : VK} (h : LE K (fun en Q => Q (.d x) en) σ H Q) : Q v H := by
  obtain ⟨B, F, fps, en, Q1, R, q, post⟩ := h
  exact post _ en v F fps H q R (.refl _) .refl (.d (hv F))
theorem de_one {op} {t : TD} (h : DE X a t) : DE X (.BoolOp op [a] pos) t := pe_one h
theorem de_and {t u : TD} {rest : List Expr} (ha : DE X a t) (hb : DE X (.BoolOp .And (b :: rest) pos) u) : DE X (.BoolOp .And (a :: b :: rest) pos) (dAndV t u) :=
  PE.imp (pe_and ha hb) fun σ H Q h => LE.imp (bool_read (u := fun c en Q => if c = true then u en Q else Q (.d (.bool false)) en) h) fun x H1 ⟨c, e, q⟩ => ⟨c, e, by
    cases c with
    | true => exact q
    | false => exact LE.const (fun _ => .bl false) q⟩
theorem de_or {t u : TD} {rest : List Expr} (ha : DE X a t) (hb : DE X (.BoolOp .Or (b :: rest) pos) u) : DE X (.BoolOp .Or (a :: b :: rest) pos) (dOrV t u) :=
  PE.imp (pe_or ha hb) fun σ H Q h => LE.imp (bool_read (u := fun c en Q => if c = true then Q (.d (.bool true)) en else u en Q) h) fun x H1 ⟨c, e, q⟩ => ⟨c, e, by
    cases c with
    | false => exact q
    | true => exact LE.const (fun _ => .bl true) q⟩
theorem de_not {t : TD} (ha : DE X a t) : DE X (.UnaryOp .Not a pos) (dNotV t) :=
  PE.imp (pe_not ha) fun σ H Q h => LE.imp (bool_read (u := fun c en Q => Q (.d (.bool (!c))) en) h) fun x H1 ⟨c, e, q⟩ => ⟨c, e, LE.const (fun _ => .bl (!c)) q⟩
def dIf (c : TDT) (t u : TD) : TD := fun en Q => c en fun b en1 => if b = true then t en1 Q else u en1 Q
theorem de_if {c : Expr} {tc : TDT} (hc : DT X c tc) (ha : DE X a ta) (hb : DE X b tb) : DE X (.IfExp c a b pos) (dIf tc ta tb) :=
  PE.imp (pe_ifExp hc ha hb) fun σ H Q ⟨B, F, fps, en, Q', R, q, post⟩ => ⟨B, F, fps, en, _, R, q, fun d en1 F1 fps1 H1 h R1 s1 k1 => by
    cases d with
    | true => exact ⟨B, F1, fps1, en1, _, R1, h, fun c' en2 v F2 fps2 H2 h2 R2 s2 k2 r => post c' en2 v F2 fps2 H2 h2 R2 (s1.trans s2) (k1.trans k2) r⟩
    | false => exact ⟨B, F1, fps1, en1, _, R1, h, fun c' en2 v F2 fps2 H2 h2 R2 s2 k2 r => post c' en2 v F2 fps2 H2 h2 R2 (s1.trans s2) (k1.trans k2) r⟩⟩
end

/-! ### taking an owned object as a datum -/
theorem mem_set_nil {fps : List (List Addr)} {i : Nat} {a : Addr} (h : a ∈ (fps.set i []).flatten) : a ∈ fps.flatten := by
  obtain ⟨l, hl, ha⟩ := List.mem_flatten.mp h
  rcases List.mem_or_eq_of_mem_set hl with z | z
  · exact List.mem_flatten.mpr ⟨l, z, ha⟩
  · subst z
    cases ha
theorem sub_set_nil : ∀ (fps : List (List Addr)) (i : Nat), (fps.set i []).flatten.Sublist fps.flatten
  | [], _ => .refl _
  | fp :: r, 0 => by
    rw [List.set_cons_zero, List.flatten_cons, List.flatten_cons]
    exact (List.nil_sublist fp).append (.refl _)
  | fp :: r, i + 1 => by
    rw [List.set_cons_succ, List.flatten_cons, List.flatten_cons]
    exact (List.Sublist.refl fp).append (sub_set_nil r i)
section
variable {K : Frg} {B : Base} {F H F' H' : Hp} {fps fps' : List (List Addr)} {en en' : En} {σ : L2.St} {v : V} {x : PyData} {xs : List PyData}
/-- the slot i gets something that owns nothing -/
theorem Rel.put (R : Rel K B F fps en σ H) {i : Nat} {s : Sl} (r : RS K F H B.ptrs (some s) (some v) []) : Rel K B F (fps.set i []) (en.set i (some s)) (σ.set i (some v)) H := by
  have ha : ∀ a, a ∈ (fps.set i []).flatten ++ B.ptrs.flatten → a ∈ fps.flatten ++ B.ptrs.flatten := fun a h => (List.mem_append.mp h).elim (fun z => List.mem_append_left _ (mem_set_nil z)) fun z => List.mem_append_right _ z
  refine ⟨R.same, by simpa [En.set] using R.len, fun j s' v' fp h1 h2 h3 => ?_, R.lst, R.store, R.nodup.sublist ((sub_set_nil fps i).append (.refl _)), fun a h => R.nof a (ha a h), fun a h => R.live a (ha a h), R.sub, R.sameF, R.newF, fun a h => R.new a (mem_set_nil h), R.grow, R.keep⟩
  have h1 : (en.sl.set i (some s))[j]? = some s' := h1
  obtain ⟨l1, l2⟩ := R.len
  by_cases e : i = j
  · subst e
    by_cases hi : i < en.sl.length
    · rw [List.getElem?_set_self hi] at h1
      rw [List.getElem?_set_self (by omega)] at h2 h3
      cases h1
      cases h2
      cases h3
      exact r
    · rw [List.getElem?_eq_none (by simpa using hi)] at h1
      cases h1
  · rw [List.getElem?_set_ne e] at h1 h2 h3
    exact R.slot j s' v' fp h1 h2 h3
/-- an owned object becomes a datum, where it stands -/
theorem Rel.take (R : Rel K B F fps en σ H) {i : Nat} {o : Ob} {a : Addr} (hs : en.sl[i]? = some (some (Sl.own o))) (hf : fps[i]? = some [a]) {ob : HO} (ho : H a = some ob) (rd : RD K (upd F a ob) (.ref a) x) :
    Rel K B (upd F a ob) (fps.set i []) (en.set i (some (.d x))) σ H ∧ Same F (upd F a ob) := by
  have hm : a ∈ fps.flatten ++ B.ptrs.flatten := List.mem_append_left _ (mem_fp hf (by simp))
  have sF : Same F (upd F a ob) := same_upd (R.nof a hm)
  obtain ⟨v, fp, h1, h2, r⟩ := R.at_ hs
  rw [hf] at h2
  cases h2
  have ev : v = .ref a := by
    cases r
    rfl
  subst ev
  have hσ : σ.set i (some (.ref a)) = σ := by
    obtain ⟨hi, e⟩ := List.getElem?_eq_some_iff.mp h1
    rw [← e]
    exact List.set_getElem_self hi
  have na : a ∉ (fps.set i []).flatten ++ B.ptrs.flatten := by
    intro z
    have nd := R.nodup
    rcases List.mem_append.mp z with z | z
    · obtain ⟨l, hl, hal⟩ := List.mem_flatten.mp z
      obtain ⟨j, hj⟩ := List.getElem?_of_mem hl
      by_cases e : i = j
      · subst e
        rw [List.getElem?_set_self (List.getElem?_eq_some_iff.mp hf).1] at hj
        cases hj
        cases hal
      · rw [List.getElem?_set_ne e] at hj
        have nd2 := (List.nodup_append.mp nd).1
        have nd3 := (List.pairwise_flatten.mp nd2).2
        obtain ⟨hi', ei⟩ := List.getElem?_eq_some_iff.mp hf
        obtain ⟨hj', ej⟩ := List.getElem?_eq_some_iff.mp hj
        rcases Nat.lt_or_gt_of_ne e with lt | lt
        · exact (List.pairwise_iff_getElem.mp nd3 i j hi' hj' lt) a (by rw [ei]; simp : a ∈ fps[i]) a (by rw [ej]; exact hal) rfl
        · exact (List.pairwise_iff_getElem.mp nd3 j i hj' hi' lt) a (by rw [ej]; exact hal) a (by rw [ei]; simp : a ∈ fps[i]) rfl
    · exact (List.nodup_append.mp nd).2.2 a (mem_fp hf (by simp)) a z rfl
  have R1 := R.put (i := i) (s := .d x) (v := .ref a) (K := K) (H := H)
  have P : Rel K B F (fps.set i []) (en.set i none) σ H := by
    have ha : ∀ a, a ∈ (fps.set i []).flatten ++ B.ptrs.flatten → a ∈ fps.flatten ++ B.ptrs.flatten := fun a h => (List.mem_append.mp h).elim (fun z => List.mem_append_left _ (mem_set_nil z)) fun z => List.mem_append_right _ z
    refine ⟨R.same, by simpa [En.set] using R.len, fun j s' v' fp h1 h2 h3 => ?_, R.lst, R.store, R.nodup.sublist ((sub_set_nil fps i).append (.refl _)), fun a h => R.nof a (ha a h), fun a h => R.live a (ha a h), R.sub, R.sameF, R.newF, fun a h => R.new a (mem_set_nil h), R.grow, R.keep⟩
    have h1 : (en.sl.set i none)[j]? = some s' := h1
    obtain ⟨l1, l2⟩ := R.len
    by_cases e : i = j
    · subst e
      by_cases hi : i < en.sl.length
      · rw [List.getElem?_set_self hi] at h1
        rw [List.getElem?_set_self (by omega)] at h3
        cases h1
        cases h3
        exact .none
      · rw [List.getElem?_eq_none (by simpa using hi)] at h1
        cases h1
    · rw [List.getElem?_set_ne e] at h1 h3
      exact R.slot j s' v' fp h1 h2 h3
  have P2 : Rel K B (upd F a ob) (fps.set i []) (en.set i none) σ H := by
    refine ⟨same_take P.same ho, P.len, fun j s' v' fp h1 h2 h3 => (P.slot j s' v' fp h1 h2 h3).mono sF fun _ _ => rfl, P.lst, fun n o fp h1 h2 => (P.store n o fp h1 h2).mono sF fun _ _ => rfl, P.nodup, fun b hb => ?_, P.live, P.sub, P.sameF.trans sF, fun b u q => ?_, P.new, P.grow, P.keep⟩
    · rw [upd_ne (show b ≠ a from fun e => na (by rw [← e]; exact hb))]
      exact P.nof b hb
    · by_cases e : b = a
      · subst e
        rcases R.new b (mem_fp hf (by simp)) with z | z
        · exact .inr (.inl z)
        · exact .inr (.inr z)
      · rw [upd_ne e] at q
        exact P.newF b u q
  refine ⟨?_, sF⟩
  have P3 := P2.put (i := i) (s := .d x) (v := .ref a) (.d rd)
  rw [hσ] at P3
  have e1 : (fps.set i []).set i [] = fps.set i [] := List.set_set ..
  have e2 : (en.set i none).set i (some (.d x)) = en.set i (some (.d x)) := by
    unfold En.set
    simp
  rw [e1, e2] at P3
  exact P3
end
end DL

/-! DL3: new objects, displays, argument lists, built-ins, statements. -/
namespace DL
open PySem PySem.Spec PyProof.Rows L2

/-! ### new objects -/
theorem perm_set_nil : ∀ (L : List (List Addr)) (i : Nat) (fp : List Addr), L[i]? = some [] → (L.set i fp).flatten.Perm (fp ++ L.flatten)
  | [], _, _, h => by simp at h
  | l :: L, 0, fp, h => by
    simp at h
    subst h
    simp
  | l :: L, i + 1, fp, h => by
    rw [List.set_cons_succ, List.flatten_cons, List.flatten_cons]
    have ih := perm_set_nil L i fp (by simpa using h)
    refine (ih.append_left l).trans ?_
    rw [← List.append_assoc, ← List.append_assoc]
    exact List.perm_append_comm.append_right _
section
variable {K : Frg} {B : Base} {F H F' H' : Hp} {fps fps' : List (List Addr)} {en en' : En} {σ : L2.St} {v : V} {x : PyData} {xs : List PyData} {vs : List V}
/-- a slot is forgotten -/
theorem Rel.drop (R : Rel K B F fps en σ H) (i : Nat) : Rel K B F (fps.set i []) (en.set i none) σ H := by
  have ha : ∀ a, a ∈ (fps.set i []).flatten ++ B.ptrs.flatten → a ∈ fps.flatten ++ B.ptrs.flatten := fun a h => (List.mem_append.mp h).elim (fun z => List.mem_append_left _ (mem_set_nil z)) fun z => List.mem_append_right _ z
  refine ⟨R.same, by simpa [En.set] using R.len, fun j s' v' fp h1 h2 h3 => ?_, R.lst, R.store, R.nodup.sublist ((sub_set_nil fps i).append (.refl _)), fun a h => R.nof a (ha a h), fun a h => R.live a (ha a h), R.sub, R.sameF, R.newF, fun a h => R.new a (mem_set_nil h), R.grow, R.keep⟩
  have h1 : (en.sl.set i none)[j]? = some s' := h1
  obtain ⟨l1, l2⟩ := R.len
  by_cases e : i = j
  · subst e
    by_cases hi : i < en.sl.length
    · rw [List.getElem?_set_self hi] at h1
      rw [List.getElem?_set_self (by omega)] at h3
      cases h1
      cases h3
      exact .none
    · rw [List.getElem?_eq_none (by simpa using hi)] at h1
      cases h1
  · rw [List.getElem?_set_ne e] at h1 h3
    exact R.slot j s' v' fp h1 h2 h3
theorem ro_head {o : Ob} {fp : List Addr} (h : RO K F H o fp) : ∃ a r, fp = a :: r := by
  cases h with
  | lst _ _ _ => exact ⟨_, _, rfl⟩
  | dk _ _ _ => exact ⟨_, _, rfl⟩
  | src _ _ _ => exact ⟨_, _, rfl⟩
theorem ro_live {o : Ob} {fp : List Addr} (h : RO K F H o fp) : ∀ a ∈ fp, H a ≠ none := by
  cases h with
  | lst h _ _ =>
    intro a ha
    simp only [List.mem_singleton] at ha
    subst ha
    rw [h]
    exact fun z => by cases z
  | dk h _ _ =>
    intro a ha
    simp only [List.mem_singleton] at ha
    subst ha
    rw [h]
    exact fun z => by cases z
  | src h1 h2 _ =>
    intro a ha
    simp only [List.mem_cons, List.not_mem_nil, or_false] at ha
    rcases ha with e | e
    · rw [e, h1]
      exact fun z => by cases z
    · rw [e, h2]
      exact fun z => by cases z
/-- a new object goes to a slot -/
theorem Rel.own (R : Rel K B F fps en σ H) {i : Nat} {o : Ob} {fp : List Addr} (f : Fr K B F H fps v o fp) : Rel K B F (fps.set i fp) (en.set i (some (.own o))) (σ.set i (some v)) H := by
  obtain ⟨⟨a, r, rfl, rfl⟩, ob, nd, nof, out, new⟩ := f
  obtain ⟨l1, l2⟩ := R.len
  by_cases hi : i < en.sl.length
  · have R0 := R.drop i
    have eset : (fps.set i []).set i (a :: r) = fps.set i (a :: r) := List.set_set ..
    have hn : (fps.set i [])[i]? = some [] := List.getElem?_set_self (by omega)
    have pm := perm_set_nil (fps.set i []) i (a :: r) hn
    rw [eset] at pm
    have mem : ∀ b, b ∈ (fps.set i (a :: r)).flatten → b ∈ a :: r ∨ b ∈ (fps.set i []).flatten := fun b hb => List.mem_append.mp (pm.mem_iff.mp hb)
    refine ⟨R.same, by simpa [En.set] using R.len, fun j s' v' fp h1 h2 h3 => ?_, R.lst, R.store, ?_, fun b hb => ?_, fun b hb => ?_, R.sub, R.sameF, R.newF, fun b hb => ?_, R.grow, R.keep⟩
    · have h1 : (en.sl.set i (some (.own o)))[j]? = some s' := h1
      by_cases e : i = j
      · subst e
        rw [List.getElem?_set_self hi] at h1
        rw [List.getElem?_set_self (by omega)] at h2 h3
        cases h1
        cases h2
        cases h3
        exact .own ob
      · rw [List.getElem?_set_ne e] at h1 h2 h3
        exact R.slot j s' v' fp h1 h2 h3
    · refine ((pm.append_right _).nodup_iff).mpr ?_
      rw [List.append_assoc]
      refine List.nodup_append.mpr ⟨nd, R0.nodup, fun b hb c hc e => ?_⟩
      subst e
      refine out b hb ?_
      rcases List.mem_append.mp hc with z | z
      · exact List.mem_append_left _ (mem_set_nil z)
      · exact List.mem_append_right _ z
    · rcases List.mem_append.mp hb with z | z
      · rcases mem b z with w | w
        · exact nof b w
        · exact R.nof b (List.mem_append_left _ (mem_set_nil w))
      · exact R.nof b (List.mem_append_right _ z)
    · rcases List.mem_append.mp hb with z | z
      · rcases mem b z with w | w
        · exact ro_live ob b w
        · exact R.live b (List.mem_append_left _ (mem_set_nil w))
      · exact R.live b (List.mem_append_right _ z)
    · rcases mem b hb with w | w
      · exact .inl (new b w)
      · exact R.new b (mem_set_nil w)
  · have e1 : fps.set i (a :: r) = fps := List.set_eq_of_length_le (by omega)
    have e2 : en.set i (some (.own o)) = en := by
      unfold En.set
      rw [List.set_eq_of_length_le (by omega)]
    have e3 : σ.set i (some (V.ref a)) = σ := List.set_eq_of_length_le (by omega)
    rw [e1, e2, e3]
    exact R
theorem Ext.grow {p : Addr} {o : HO} (s : Same F H) (n : H p = none) : Ext F H F (upd H p o) := ⟨.refl _, same_upd n, s.trans (same_upd n), fun _ _ q => .inl q⟩
theorem Rel.fresh (R : Rel K B F fps en σ H) {p : Addr} {ob : HO} {o : Ob} (n : H p = none) (r : RO K F (upd H p ob) o [p]) : Rel K B F fps en σ (upd H p ob) ∧ Fr K B F (upd H p ob) fps (.ref p) o [p] :=
  ⟨R.ext (.grow R.same n), ⟨p, [], rfl, rfl⟩, r, by simp, fun a ha => by
    simp only [List.mem_singleton] at ha
    subst ha
    exact R.same.free n, fun a ha z => by
    simp only [List.mem_singleton] at ha
    subst ha
    exact R.live a z n, fun a ha => by
    simp only [List.mem_singleton] at ha
    subst ha
    exact R.grow a n⟩
/-- a new object becomes a datum -/
theorem Rel.settle (R : Rel K B F fps en σ H) {o : Ob} {fp : List Addr} (f : Fr K B F H fps v o fp) (hx : o.data = some x) : ∃ F', Rel K B F' fps en σ H ∧ Same F F' ∧ RD K F' v x := by
  obtain ⟨⟨a, r, rfl, rfl⟩, ob, nd, nof, out, new⟩ := f
  cases ob with
  | dk _ _ _ => cases hx
  | src _ _ _ => cases hx
  | lst h l rs =>
    rename_i vs' xs'
    cases hx
    have sF : Same F (upd F a (.lst vs')) := same_upd (nof a (by simp))
    refine ⟨upd F a (.lst vs'), ⟨same_take R.same h, R.len, fun j s' v' fp h1 h2 h3 => (R.slot j s' v' fp h1 h2 h3).mono sF fun _ _ => rfl, R.lst, fun n o fp h1 h2 => (R.store n o fp h1 h2).mono sF fun _ _ => rfl, R.nodup, fun b hb => ?_, R.live, R.sub, R.sameF.trans sF, fun b u q => ?_, R.new, R.grow, R.keep⟩, sF, .lst upd_same l (rs.mono sF)⟩
    · rw [upd_ne (show b ≠ a from fun e => out a (by simp) (by rw [← e]; exact hb))]
      exact R.nof b hb
    · by_cases e : b = a
      · subst e
        exact .inr (.inl (new b (by simp)))
      · rw [upd_ne e] at q
        exact R.newF b u q
end

/-! ### taking values as data -/
def frz : Val → En → (PyData → En → Prop) → Prop
  | .d x, en, k => k x en
  | .o i, en, k => match en.sl[i]? with
    | some (some (.own (.lst xs))) => k (.list xs) (en.set i (some (.d (.list xs))))
    | _ => False
  | _, _, _ => False
section
variable {K : Frg} {B : Base} {F H F' H' : Hp} {fps fps' : List (List Addr)} {en en' : En} {σ : L2.St} {v : V} {x : PyData} {xs : List PyData} {vs : List V}
theorem kp_set {i : Nat} {s : Sl} (hs : ∀ o, s ≠ .own o) {l : List Addr} : Kp en fps (en.set i (some s)) (fps.set i l) := fun j o h => by
  have h : (en.sl.set i (some s))[j]? = some (some (Sl.own o)) := h
  by_cases e : i = j
  · subst e
    by_cases hi : i < en.sl.length
    · rw [List.getElem?_set_self hi] at h
      have h' : some s = some (Sl.own o) := Option.some.inj h
      exact absurd (Option.some.inj h') (hs o)
    · rw [List.getElem?_eq_none (by simpa using hi)] at h
      cases h
  · rw [List.getElem?_set_ne e] at h
    exact ⟨⟨o, h⟩, by rw [List.getElem?_set_ne e]⟩
theorem Rel.frz (R : Rel K B F fps en σ H) {y : Val} (r : RV K F H B.ptrs fps v y) {k : PyData → En → Prop} (h : DL.frz y en k) : ∃ x en' F' fps', k x en' ∧ Rel K B F' fps' en' σ H ∧ Same F F' ∧ Kp en fps en' fps' ∧ RD K F' v x := by
  cases r with
  | d q => exact ⟨_, en, F, fps, h, R, .refl _, .refl, q⟩
  | p _ => exact h.elim
  | f => exact h.elim
  | o hf =>
    unfold DL.frz at h
    simp only at h
    split at h
    · rename_i i a rest xs hs
      obtain ⟨v', fp, h1, h2, r⟩ := R.at_ hs
      rw [hf] at h2
      cases h2
      cases r with
      | own q =>
        cases q with
        | lst q1 q2 q3 =>
          have ha := R.nof _ (List.mem_append_left _ (mem_fp hf (List.mem_singleton.mpr rfl)))
          obtain ⟨R1, s1⟩ := R.take (x := .list xs) hs hf q1 (.lst upd_same q2 (q3.mono (same_upd ha)))
          exact ⟨_, _, _, _, h, R1, s1, kp_set (fun o z => by cases z), .lst upd_same q2 (q3.mono s1)⟩
    · exact h.elim
end
section
variable {X : Cx} {e : Expr} {es : List Expr} {pos : Pos}
def dFz (t : TDF) : TD := fun en Q => t en fun o en1 => match o.data with
  | some x => Q (.d x) en1
  | none => False
theorem de_fz {t : TDF} (h : DF X e t) : DE X e (dFz t) :=
  PE.imp h fun σ H Q ⟨B, F, fps, en, Q', R, q, post⟩ => ⟨B, F, fps, en, _, R, q, fun o en1 v fp F1 fps1 H1 q1 R1 s1 k1 f1 => by
    split at q1
    · rename_i x hx
      obtain ⟨F2, R2, s2, rd⟩ := R1.settle f1 hx
      exact post _ en1 v F2 fps1 H1 q1 R2 (s1.trans s2) k1 (.d rd)
    · exact q1.elim⟩
def dFrz (t : TD) : TD := fun en Q => t en fun y en1 => frz y en1 fun x en2 => Q (.d x) en2
theorem frz_read {t : TD} {σ : L2.St} {H : Hp} {Q : VK} (h : LE X.K (dFrz t) σ H Q) : LE X.K t σ H Q := by
  obtain ⟨B, F, fps, en, Q', R, q, post⟩ := h
  refine ⟨B, F, fps, en, _, R, q, fun y en1 v F1 fps1 H1 q1 R1 s1 k1 r1 => ?_⟩
  obtain ⟨x, en2, F2, fps2, q2, R2, s2, k2, rd⟩ := R1.frz r1 q1
  exact post _ en2 v F2 fps2 H1 q2 R2 (s1.trans s2) (k1.trans k2) (.d rd)

/-! ### lists of data (displays, calls), lists of operands -/
abbrev TDs := En → (List PyData → En → Prop) → Prop
def LDs (K : Frg) (t : TDs) : TA := fun σ H Q => ∃ B F fps en, ∃ Q' : List PyData → En → Prop, Rel K B F fps en σ H ∧ t en Q' ∧
  ∀ xs en' vs F' fps' H', Q' xs en' → Rel K B F' fps' en' σ H' → Same F F' → Kp en fps en' fps' → RDs K F' vs xs → Q vs H'
abbrev DDs (X : Cx) (es : List Expr) (t : TDs) : Prop := PA X es (LDs X.K t)
theorem PA.imp {t t' : TA} (h : PA X es t) (i : ∀ σ H Q, t' σ H Q → t σ H Q) : PA X es t' := ⟨fun p pins s σ H Q I q => h.run p pins s σ H Q I (i σ H Q q)⟩
def dNil : TDs := fun en Q => Q [] en
def dCons (t : TD) (u : TDs) : TDs := fun en Q => t en fun y en1 => frz y en1 fun x en2 => u en2 fun xs en3 => Q (x :: xs) en3
theorem dd_nil : DDs X [] dNil := PA.imp pa_nil fun σ H Q ⟨B, F, fps, en, Q', R, q, post⟩ => post [] en [] F fps H q R (.refl _) .refl .nil
theorem dd_cons {t : TD} {u : TDs} (ha : DE X e t) (hr : DDs X es u) (hs : starEach (e :: es) X.env = (false, eval e X.env) :: starEach es X.env := by rfl) : DDs X (e :: es) (dCons t u) :=
  PA.imp (pa_cons ha hr hs) fun σ H Q ⟨B, F, fps, en, Q', R, q, post⟩ => ⟨B, F, fps, en, _, R, q, fun y en1 v1 F1 fps1 H1 q1 R1 s1 k1 r1 => by
    obtain ⟨x, en2, F2, fps2, q2, R2, s2, k2, rd⟩ := R1.frz r1 q1
    exact ⟨B, F2, fps2, en2, _, R2, q2, fun xs en3 vs F3 fps3 H3 q3 R3 s3 k3 rs => post (x :: xs) en3 (v1 :: vs) F3 fps3 H3 q3 R3 (s1.trans (s2.trans s3)) (k1.trans (k2.trans k3)) (.cons (rd.mono s3) rs)⟩⟩
def dLst (t : TDs) : TDF := fun en Q => t en fun xs en1 => xs.length ≤ sizeLine ∧ Q (.lst xs) en1
theorem df_lst {t : TDs} (h : DDs X es t) : DF X (.List es pos) (dLst t) :=
  PE.imp (pe_lst h) fun σ H Q ⟨B, F, fps, en, Q', R, q, post⟩ => ⟨B, F, fps, en, _, R, q, fun xs en1 vs F1 fps1 H1 q1 R1 s1 k1 rs => by
    obtain ⟨hl, q1⟩ := q1
    have hl' : vs.length ≤ sizeLine := by
      rw [rs.length]
      exact hl
    refine ⟨hl', fun p hp => ?_⟩
    obtain ⟨R2, f2⟩ := R1.fresh (o := .lst xs) hp (.lst upd_same hl' rs)
    exact post _ en1 _ _ F1 fps1 _ q1 R2 s1 k1 f2⟩
def dTup (t : TDs) : TD := fun en Q => t en fun xs en1 => xs.length ≤ sizeLine ∧ Q (.d (.tuple xs)) en1
theorem de_tup {x1} {t : TDs} (h : DDs X es t) : DE X (.Tuple es x1 pos) (dTup t) :=
  PE.imp (pe_tup h) fun σ H Q ⟨B, F, fps, en, Q', R, q, post⟩ => ⟨B, F, fps, en, _, R, q, fun xs en1 vs F1 fps1 H1 q1 R1 s1 k1 rs => by
    obtain ⟨hl, q1⟩ := q1
    have hl' : vs.length ≤ sizeLine := by
      rw [rs.length]
      exact hl
    refine ⟨hl', fun p hp => ?_⟩
    have e := Ext.laid (o := .tup vs) R1.same hp
    exact post _ en1 _ _ fps1 _ q1 (R1.ext e) (s1.trans e.f) k1 (.d (.tup (.inl (.inl upd_same)) hl' (rs.mono e.f)))⟩
/-- operands -/
def RVL (K : Frg) (F H : Hp) (ptrs fps : List (List Addr)) (en : En) (v : V) (y : Val) : Prop := (∀ i, y = .o i → ∃ o, en.sl[i]? = some (some (Sl.own o))) → RV K F H ptrs fps v y
theorem RVL.later {K : Frg} {F H F' H' : Hp} {ptrs fps fps' : List (List Addr)} {en en' : En} {v : V} {y : Val} (r : RVL K F H ptrs fps en v y) (s : Same F F') (k : Kp en fps en' fps') : RVL K F' H' ptrs fps' en' v y := fun h =>
  (r fun i e => by
    obtain ⟨o, ho⟩ := h i e
    exact (k i o ho).1).later s k h
theorem RVL.look {K : Frg} {B : Base} {F H : Hp} {fps : List (List Addr)} {en : En} {σ : L2.St} {v : V} {y : Val} {x : PyData} (r : RVL K F H B.ptrs fps en v y) (R : Rel K B F fps en σ H) (h : look en y = some x) : RC K F H v x :=
  R.rc (r fun i e => look_own (e ▸ h)) h
abbrev TDL := En → (List Val → En → Prop) → Prop
def LL (K : Frg) (t : TDL) : TA := fun σ H Q => ∃ B F fps en, ∃ Q' : List Val → En → Prop, Rel K B F fps en σ H ∧ t en Q' ∧
  ∀ ys en' vs F' fps' H', Q' ys en' → Rel K B F' fps' en' σ H' → Same F F' → Kp en fps en' fps' → Paired (RVL K F' H' B.ptrs fps' en') vs ys → Q vs H'
abbrev DL (X : Cx) (es : List Expr) (t : TDL) : Prop := PA X es (LL X.K t)
def lNil : TDL := fun en Q => Q [] en
def lCons (t : TD) (u : TDL) : TDL := fun en Q => t en fun y en1 => u en1 fun ys en2 => Q (y :: ys) en2
theorem dl_nil : DL X [] lNil := PA.imp pa_nil fun σ H Q ⟨B, F, fps, en, Q', R, q, post⟩ => post [] en [] F fps H q R (.refl _) .refl .nil
theorem dl_cons {t : TD} {u : TDL} (ha : DE X e t) (hr : DL X es u) (hs : starEach (e :: es) X.env = (false, eval e X.env) :: starEach es X.env := by rfl) : DL X (e :: es) (lCons t u) :=
  PA.imp (pa_cons ha hr hs) fun σ H Q ⟨B, F, fps, en, Q', R, q, post⟩ => ⟨B, F, fps, en, _, R, q, fun y en1 v1 F1 fps1 H1 q1 R1 s1 k1 r1 =>
    ⟨B, F1, fps1, en1, _, R1, q1, fun ys en3 vs F3 fps3 H3 q3 R3 s3 k3 rs => post (y :: ys) en3 (v1 :: vs) F3 fps3 H3 q3 R3 (s1.trans s3) (k1.trans k3) (.cons (RVL.later (fun _ => r1) s3 k3) rs)⟩⟩

/-! ### built-ins -/
def looks (en : En) : List Val → Option (List PyData)
  | [] => some []
  | y :: ys => match look en y, looks en ys with
    | some x, some xs => some (x :: xs)
    | _, _ => none
theorem looks_rc {K : Frg} {B : Base} {F H : Hp} {fps : List (List Addr)} {en : En} {σ : L2.St} (R : Rel K B F fps en σ H) : ∀ {vs : List V} {ys : List Val} {xs : List PyData}, Paired (RVL K F H B.ptrs fps en) vs ys → looks en ys = some xs → Paired (RC K F H) vs xs
  | _, _, _, .nil, h => by
    cases h
    exact .nil
  | _, _, _, .cons r t, h => by
    unfold looks at h
    split at h
    · rename_i x xs hx hxs
      cases h
      exact .cons (r.look R hx) (looks_rc R t hxs)
    · cases h
abbrev FL := List PyData → (PyData → Prop) → Prop
abbrev FLF := List PyData → (Ob → Prop) → Prop
structure CallD (K : Frg) (r : List V → Hp → VK → Prop) (f : FL) : Prop where
  run : ∀ (F H : Hp) (vs : List V) (xs : List PyData) (Q : VK) (k : PyData → Prop), Same F H → Paired (RC K F H) vs xs → f xs k →
    (∀ z v F' H', k z → Ext F H F' H' → RD K F' v z → Q v H') → r vs H Q
structure CallF (K : Frg) (r : List V → Hp → VK → Prop) (f : FLF) : Prop where
  run : ∀ (F H : Hp) (vs : List V) (xs : List PyData) (Q : VK) (k : Ob → Prop), Same F H → Paired (RC K F H) vs xs → f xs k →
    (∀ o p ob F' H', k o → Ext F H F' H' → H' p = none → RO K F' (upd H' p ob) o [p] → Q (.ref p) (upd H' p ob)) → r vs H Q
def dBl (f : FL) (t : TDL) : TD := fun en Q => t en fun ys en1 => match looks en1 ys with
  | some xs => f xs fun z => Q (.d z) en1
  | none => False
def dBlF (f : FLF) (t : TDL) : TDF := fun en Q => t en fun ys en1 => match looks en1 ys with
  | some xs => f xs fun z => Q z en1
  | none => False
theorem bl_read {r : List V → Hp → VK → Prop} {f : FL} (hf : CallD X.K r f) {t : TDL} {σ : L2.St} {H : Hp} {Q : VK} (h : LE X.K (dBl f t) σ H Q) : tCB r (LL X.K t) σ H Q := by
  obtain ⟨B, F, fps, en, Q', R, q, post⟩ := h
  refine ⟨B, F, fps, en, _, R, q, fun ys en1 vs F1 fps1 H1 q1 R1 s1 k1 r1 => ?_⟩
  split at q1
  · rename_i xs hx
    exact hf.run F1 H1 vs xs Q _ R1.same (looks_rc R1 r1 hx) q1 fun z v F' H' kz e rd => post (.d z) en1 v F' fps1 H' kz (R1.ext e) (s1.trans e.f) k1 (.d rd)
  · exact q1.elim
theorem blf_read {r : List V → Hp → VK → Prop} {f : FLF} (hf : CallF X.K r f) {t : TDL} {σ : L2.St} {H : Hp} {Q : VK} (h : LF X.K (dBlF f t) σ H Q) : tCB r (LL X.K t) σ H Q := by
  obtain ⟨B, F, fps, en, Q', R, q, post⟩ := h
  refine ⟨B, F, fps, en, _, R, q, fun ys en1 vs F1 fps1 H1 q1 R1 s1 k1 r1 => ?_⟩
  split at q1
  · rename_i xs hx
    refine hf.run F1 H1 vs xs Q _ R1.same (looks_rc R1 r1 hx) q1 fun o p ob F' H' kz e hp ro => ?_
    obtain ⟨R2, f2⟩ := (R1.ext e).fresh hp ro
    exact post o en1 _ _ F' fps1 _ kz R2 (s1.trans e.f) k1 f2
  · exact q1.elim
variable {fx : Str} {pf : Pos}
theorem de_blt {id : String} {r : List V → Hp → VK → Prop} {f : FL} {t : TDL} (hc : CallR X (.builtin id) r) (hf : CallD X.K r f) (hg : Gl X fx) (hm : X.mg fx = none) (hv : bootBuiltins fx = some (.builtin id)) (ha : DL X (e :: es) t) (hn : fx ≠ "__name__" := by decide) (hdb : (fx == ("__debug__" : Str)) = false := by decide) (he : starEach (e :: es) X.env = (false, eval e X.env) :: starEach es X.env := by rfl) (hpl : (backTo pos (starEach es X.env)).any (·.1) = false := by rfl) :
    DE X (.Call (.Name fx pf) (e :: es) [] pos) (dBl f t) := PE.imp (pe_callB hc hg hm hv ha hn hdb he hpl) fun _ _ _ h => bl_read hf h
theorem df_blt {id : String} {r : List V → Hp → VK → Prop} {f : FLF} {t : TDL} (hc : CallR X (.builtin id) r) (hf : CallF X.K r f) (hg : Gl X fx) (hm : X.mg fx = none) (hv : bootBuiltins fx = some (.builtin id)) (ha : DL X (e :: es) t) (hn : fx ≠ "__name__" := by decide) (hdb : (fx == ("__debug__" : Str)) = false := by decide) (he : starEach (e :: es) X.env = (false, eval e X.env) :: starEach es X.env := by rfl) (hpl : (backTo pos (starEach es X.env)).any (·.1) = false := by rfl) :
    DF X (.Call (.Name fx pf) (e :: es) [] pos) (dBlF f t) := PE.imp (pe_callB hc hg hm hv ha hn hdb he hpl) fun _ _ _ h => blf_read hf h
theorem de_ty {T : String} {r : List V → Hp → VK → Prop} {f : FL} {t : TDL} (hc : CallR X (.type T) r) (hf : CallD X.K r f) (hg : Gl X fx) (hm : X.mg fx = none) (hv : bootBuiltins fx = some (.type T)) (ha : DL X (e :: es) t) (hn : fx ≠ "__name__" := by decide) (hdb : (fx == ("__debug__" : Str)) = false := by decide) (he : starEach (e :: es) X.env = (false, eval e X.env) :: starEach es X.env := by rfl) (hpl : (backTo pos (starEach es X.env)).any (·.1) = false := by rfl) :
    DE X (.Call (.Name fx pf) (e :: es) [] pos) (dBl f t) := PE.imp (pe_callTy hc hg hm hv ha hn hdb he hpl) fun _ _ _ h => bl_read hf h
theorem df_ty {T : String} {r : List V → Hp → VK → Prop} {f : FLF} {t : TDL} (hc : CallR X (.type T) r) (hf : CallF X.K r f) (hg : Gl X fx) (hm : X.mg fx = none) (hv : bootBuiltins fx = some (.type T)) (ha : DL X (e :: es) t) (hn : fx ≠ "__name__" := by decide) (hdb : (fx == ("__debug__" : Str)) = false := by decide) (he : starEach (e :: es) X.env = (false, eval e X.env) :: starEach es X.env := by rfl) (hpl : (backTo pos (starEach es X.env)).any (·.1) = false := by rfl) :
    DF X (.Call (.Name fx pf) (e :: es) [] pos) (dBlF f t) := PE.imp (pe_callTy hc hg hm hv ha hn hdb he hpl) fun _ _ _ h => blf_read hf h
end
end DL

/-! DL4: statements, loops, calls of defs, defs by pure data. -/
namespace DL
open PySem PySem.Spec PyProof.Rows L2

/-! ### statements -/
structure DEn where
  nx : En → Prop
  rt : PyData → En → Prop
  bk : En → Prop := fun _ => False
  ct : En → Prop := fun _ => False
abbrev TDS := DEn → En → Prop
structure LEnd (K : Frg) (B : Base) (D' : DEn) (D : Ends) : Prop where
  nx : ∀ en F fps σ H, D'.nx en → Rel K B F fps en σ H → D.nx σ H
  rt : ∀ x en v F fps σ H, D'.rt x en → Rel K B F fps en σ H → RD K F v x → D.rt v H
  bk : ∀ en F fps σ H, D'.bk en → Rel K B F fps en σ H → D.bk σ H
  ct : ∀ en F fps σ H, D'.ct en → Rel K B F fps en σ H → D.ct σ H
def LS (K : Frg) (t : TDS) : TS := fun D σ H => ∃ B F fps en, ∃ D' : DEn, Rel K B F fps en σ H ∧ t D' en ∧ LEnd K B D' D
abbrev DS (X : Cx) (st : Stmt) (t : TDS) : Prop := PS X st (LS X.K t)
abbrev DSs (X : Cx) (st : List Stmt) (t : TDS) : Prop := PSs X st (LS X.K t)
def dNext : TDS := fun D en => D.nx en
def dSeq (t u : TDS) : TDS := fun D en => t { D with nx := u D } en
def dBreak : TDS := fun D en => D.bk en
def dCont : TDS := fun D en => D.ct en
def dDrop (t : TD) : TDS := fun D en => t en fun _ en1 => D.nx en1
def dRet (t : TD) : TDS := fun D en => t en fun y en1 => frz y en1 D.rt
def dRetN : TDS := fun D en => D.rt .none en
def dIfS (c : TDT) (t u : TDS) : TDS := fun D en => c en fun b en1 => if b = true then t D en1 else u D en1
def dNever : TDS := fun _ _ => False
/-- a value goes to the slot i -/
def sto (i : Nat) : Val → En → (En → Prop) → Prop
  | .d x, en, k => k (en.set i (some (.d x)))
  | .f a, en, k => k (en.set i (some (.f a)))
  | .p n, en, k => k (en.set i (some (.p n)))
  | .o j, en, k => frz (.o j) en fun x en1 => k (en1.set i (some (.d x)))
def dSet (i : Nat) (t : TD) : TDS := fun D en => t en fun y en1 => sto i y en1 D.nx
def dSetF (i : Nat) (t : TDF) : TDS := fun D en => t en fun o en1 => D.nx (en1.set i (some (.own o)))
section
variable {X : Cx} {st : Stmt} {rest : List Stmt} {t u : TDS} {e : Expr} {te : TD} {pos : Pos}
theorem dss_nil : DSs X [] dNext := PSs.imp pss_nil fun D σ H ⟨B, F, fps, en, D', R, q, l⟩ => l.nx en F fps σ H q R
theorem dss_cons (h1 : DS X st t) (h2 : DSs X rest u) : DSs X (st :: rest) (dSeq t u) :=
  PSs.imp (pss_cons h1 h2) fun D σ H ⟨B, F, fps, en, D', R, q, l⟩ => ⟨B, F, fps, en, { D' with nx := u D' }, R, q, ⟨fun en' F' fps' σ' H' h R' => ⟨B, F', fps', en', D', R', h, l⟩, l.rt, l.bk, l.ct⟩⟩
theorem dss_one (h1 : DS X st t) : DSs X [st] t := pss_one h1
theorem ds_pass : DS X (.Pass pos) dNext := PS.imp ps_pass fun D σ H ⟨B, F, fps, en, D', R, q, l⟩ => l.nx en F fps σ H q R
theorem ds_break : DS X (.Break pos) dBreak := PS.imp ps_break fun D σ H ⟨B, F, fps, en, D', R, q, l⟩ => l.bk en F fps σ H q R
theorem ds_continue : DS X (.Continue pos) dCont := PS.imp ps_continue fun D σ H ⟨B, F, fps, en, D', R, q, l⟩ => l.ct en F fps σ H q R
theorem ds_never : DS X st dNever := PS.imp ps_never fun D σ H ⟨B, F, fps, en, D', R, q, l⟩ => q.elim
theorem ds_expr (he : DE X e te) (hs : swapsWith e none pos.line X.env = pure false := by rfl) : DS X (.Expr e pos) (dDrop te) :=
  PS.imp (ps_expr he hs) fun D σ H ⟨B, F, fps, en, D', R, q, l⟩ => ⟨B, F, fps, en, _, R, q, fun y en' v F' fps' H' h R' s k r => l.nx en' F' fps' σ H' h R'⟩
theorem ds_ret (he : DE X e te) : DS X (.Return (some e) pos) (dRet te) :=
  PS.imp (ps_ret he) fun D σ H ⟨B, F, fps, en, D', R, q, l⟩ => ⟨B, F, fps, en, _, R, q, fun y en' v F' fps' H' h R' s k r => by
    obtain ⟨x, en2, F2, fps2, q2, R2, s2, k2, rd⟩ := R'.frz r h
    exact l.rt x en2 v F2 fps2 σ H' q2 R2 rd⟩
theorem ds_retN : DS X (.Return none pos) dRetN := PS.imp ps_retN fun D σ H ⟨B, F, fps, en, D', R, q, l⟩ => l.rt .none en .non F fps σ H q R .non
theorem ds_if {c : Expr} {a b : List Stmt} {tc : TDT} (hc : DT X c tc) (ha : DSs X a t) (hb : DSs X b u) : DS X (.If c a b pos) (dIfS tc t u) :=
  PS.imp (ps_if hc ha hb) fun D σ H ⟨B, F, fps, en, D', R, q, l⟩ => ⟨B, F, fps, en, _, R, q, fun b en' F' fps' H' h R' s k => by
    cases b with
    | true => exact ⟨B, F', fps', en', D', R', h, l⟩
    | false => exact ⟨B, F', fps', en', D', R', h, l⟩⟩
theorem Rel.sto {K : Frg} {B : Base} {F H : Hp} {fps : List (List Addr)} {en : En} {σ : L2.St} (R : Rel K B F fps en σ H) {i : Nat} {y : Val} {v : V} (r : RV K F H B.ptrs fps v y) {k : En → Prop} (h : DL.sto i y en k) : ∃ en' F' fps', k en' ∧ Rel K B F' fps' en' (σ.set i (some v)) H := by
  cases r with
  | d q => exact ⟨_, F, _, h, R.put (.d q)⟩
  | p q => exact ⟨_, F, _, h, R.put (.p q)⟩
  | f => exact ⟨_, F, _, h, R.put .f⟩
  | o q =>
    unfold DL.sto at h
    obtain ⟨x, en2, F2, fps2, q2, R2, s2, k2, rd⟩ := R.frz (RV.o q) h
    exact ⟨_, F2, _, q2, R2.put (.d rd)⟩
theorem ds_set {i : Nat} {x : Str} {pos' : Pos} (hN : X.N.Nodup) (hi : X.N[i]? = some x) (hx : Loc X.env.scope x) (he : DE X e te) (hs : swapsWith e (some (.Name x pos')) pos.line X.env = pure false := by rfl) (hf : X.fn x = true ∨ X.env.scope.names.lookup x = some .local := by first | exact .inl rfl | exact .inr rfl | assumption) :
    DS X (.Assign [.Name x pos'] e pos) (dSet i te) :=
  PS.imp (ps_set hN hi hx he hs hf) fun D σ H ⟨B, F, fps, en, D', R, q, l⟩ => ⟨B, F, fps, en, _, R, q, fun y en' v F' fps' H' h R' s k r => by
    obtain ⟨en2, F2, fps2, q2, R2⟩ := R'.sto r h
    exact l.nx en2 F2 fps2 _ H' q2 R2⟩
theorem ds_setF {i : Nat} {x : Str} {pos' : Pos} {tf : TDF} (hN : X.N.Nodup) (hi : X.N[i]? = some x) (hx : Loc X.env.scope x) (he : DF X e tf) (hs : swapsWith e (some (.Name x pos')) pos.line X.env = pure false := by rfl) (hf : X.fn x = true ∨ X.env.scope.names.lookup x = some .local := by first | exact .inl rfl | exact .inr rfl | assumption) :
    DS X (.Assign [.Name x pos'] e pos) (dSetF i tf) :=
  PS.imp (ps_set hN hi hx he hs hf) fun D σ H ⟨B, F, fps, en, D', R, q, l⟩ => ⟨B, F, fps, en, _, R, q, fun o en' v fp F' fps' H' h R' s k f => l.nx _ F' _ _ H' h (R'.own f)⟩

/-! ### targets -/
abbrev TDG := PyData → En → (En → Prop) → Prop
def LG (K : Frg) (g : TDG) : TG := fun v σ H Q => ∃ B F fps en x, ∃ Q' : En → Prop, Rel K B F fps en σ H ∧ RD K F v x ∧ g x en Q' ∧ ∀ en' F' fps' σ' H', Q' en' → Rel K B F' fps' en' σ' H' → Q σ' H'
abbrev DG (X : Cx) (tg : Expr) (g : TDG) : Prop := PG X tg (LG X.K g)
abbrev TDGs := List PyData → En → (En → Prop) → Prop
def LGs (K : Frg) (g : TDGs) : TGs := fun vs σ H Q => ∃ B F fps en xs, ∃ Q' : En → Prop, Rel K B F fps en σ H ∧ RDs K F vs xs ∧ g xs en Q' ∧ ∀ en' F' fps' σ' H', Q' en' → Rel K B F' fps' en' σ' H' → Q σ' H'
abbrev DGs (X : Cx) (tgs : List Expr) (g : TDGs) : Prop := PGs X tgs (LGs X.K g)
theorem PG.imp {tg : Expr} {t t' : TG} (h : PG X tg t) (i : ∀ v σ H Q, t' v σ H Q → t v σ H Q) : PG X tg t' := ⟨fun pins s σ H v u Q I r q => h.run pins s σ H v u Q I r (i v σ H Q q)⟩
theorem PGs.imp {tg : List Expr} {t t' : TGs} (h : PGs X tg t) (i : ∀ v σ H Q, t' v σ H Q → t v σ H Q) : PGs X tg t' := ⟨fun pins s σ H v u Q I r q => h.run pins s σ H v u Q I r (i v σ H Q q)⟩
def gN (i : Nat) : TDG := fun x en Q => Q (en.set i (some (.d x)))
theorem dg_name {i : Nat} {x : Str} (hN : X.N.Nodup) (hi : X.N[i]? = some x) (hx : Loc X.env.scope x) (hf : X.fn x = true ∨ X.env.scope.names.lookup x = some .local := by first | exact .inl rfl | exact .inr rfl | assumption) : DG X (.Name x pos) (gN i) :=
  PG.imp (pg_name hN hi hx hf) fun v σ H Q ⟨B, F, fps, en, x, Q', R, rd, q, post⟩ => post _ F _ _ H q (R.put (.d rd))
def gNil' : TDGs := fun xs en Q => xs = [] ∧ Q en
def gCons' (g : TDG) (gs : TDGs) : TDGs := fun xs en Q => match xs with
  | [] => False
  | x :: r => g x en fun en1 => gs r en1 Q
theorem dgs_nil : DGs X [] gNil' := PGs.imp pgs_nil fun v σ H Q ⟨B, F, fps, en, x, Q', R, rd, q, post⟩ => by
  obtain ⟨rfl, q⟩ := q
  cases rd
  exact ⟨rfl, post _ F _ _ H q R⟩
theorem dgs_cons {e : Expr} {es : List Expr} {g : TDG} {gs : TDGs} (h1 : DG X e g) (h2 : DGs X es gs)
    (hs : (assignEach (e :: es) X.env).map (·.2) = assign e X.env :: (assignEach es X.env).map (·.2) := by rfl) : DGs X (e :: es) (gCons' g gs) :=
  PGs.imp (pgs_cons h1 h2 hs) fun vs σ H Q ⟨B, F, fps, en, xs, Q', R, rd, q, post⟩ => by
    cases rd with
    | nil => exact q.elim
    | cons h t =>
      refine ⟨_, _, rfl, B.from F H fps, F, fps, en, _, _, R.rebase, h, q, fun en1 F1 fps1 σ1 H1 q1 R1 => ⟨B, F1, fps1, en1, _, Q', R.back R1, t.mono R1.sameF, q1, post⟩⟩
def gTup' (n : Nat) (gs : TDGs) : TDG := fun x en Q => match x with
  | .tuple xs => xs.length = n ∧ gs xs en Q
  | _ => False
theorem dg_tup {es : List Expr} {k : Nat} {gs : TDGs} {n : Nat} (hc : X.calm = true) (h : DGs X es gs)
    (hn : (assignEach es X.env).length = n := by rfl) (hst : (assignEach es X.env).findIdx? (·.1) = none := by rfl) : DG X (.Tuple es k pos) (gTup' n gs) :=
  PG.imp (pg_tup hc h hn hst) fun v σ H Q ⟨B, F, fps, en, x, Q', R, rd, q, post⟩ => by
    unfold gTup' at q
    split at q
    · obtain ⟨hl, q⟩ := q
      cases rd with
      | tup h1 h2 h3 => exact ⟨_, _, rfl, seqT R.same h1, h3.length.trans hl, B, F, fps, en, _, Q', R, h3, q, post⟩
    · exact q.elim
def dAsg (te : TD) (g : TDG) : TDS := fun D en => te en fun y en1 => frz y en1 fun x en2 => g x en2 D.nx
theorem ds_asg {tg : Expr} {g : TDG} (he : DE X e te) (hg : DG X tg g) (hs : swapsWithSole [tg] e pos.line X.env = pure false := by rfl) (hw : swappedStores [tg] e X.env = pure none := by rfl)
    (h1 : (assignEach [tg] X.env).map (·.2) = [assign tg X.env] := by rfl) : DS X (.Assign [tg] e pos) (dAsg te g) :=
  PS.imp (ps_asg he hg hs hw h1) fun D σ H ⟨B, F, fps, en, D', R, q, l⟩ => ⟨B, F, fps, en, _, R, q, fun y en' v F' fps' H' h R' s k r => by
    obtain ⟨x, en2, F2, fps2, q2, R2, s2, k2, rd⟩ := R'.frz r h
    exact ⟨B, F2, fps2, en2, x, _, R2, rd, q2, fun en3 F3 fps3 σ3 H3 q3 R3 => l.nx en3 F3 fps3 σ3 H3 q3 R3⟩⟩

/-! ### a, b = x, y -/
inductive Asg where
  | d (x : PyData) | n (o : Ob)
def RA (K : Frg) (B : Base) (F H : Hp) (fps : List (List Addr)) (v : V) : Asg → Prop
  | .d x => RD K F v x
  | .n o => ∃ fp, Fr K B F H fps v o fp
abbrev TDA := En → (Asg → En → Prop) → Prop
def LA (K : Frg) (t : TDA) : TE := fun σ H Q => ∃ B F fps en, ∃ Q' : Asg → En → Prop, Rel K B F fps en σ H ∧ t en Q' ∧
  ∀ x en' v F' fps' H', Q' x en' → Rel K B F' fps' en' σ H' → Same F F' → Kp en fps en' fps' → RA K B F' H' fps' v x → Q v H'
abbrev DA (X : Cx) (e : Expr) (t : TDA) : Prop := PE X e (LA X.K t)
def aD (t : TD) : TDA := fun en Q => t en fun y en1 => frz y en1 fun x en2 => Q (.d x) en2
def aN (t : TDF) : TDA := fun en Q => t en fun o en1 => Q (.n o) en1
theorem da_d (h : DE X e te) : DA X e (aD te) := PE.imp h fun σ H Q ⟨B, F, fps, en, Q', R, q, post⟩ => ⟨B, F, fps, en, _, R, q, fun y en1 v F1 fps1 H1 q1 R1 s1 k1 r1 => by
  obtain ⟨x, en2, F2, fps2, q2, R2, s2, k2, rd⟩ := R1.frz r1 q1
  exact post _ en2 v F2 fps2 H1 q2 R2 (s1.trans s2) (k1.trans k2) rd⟩
theorem da_n {tf : TDF} (h : DF X e tf) : DA X e (aN tf) := PE.imp h fun σ H Q ⟨B, F, fps, en, Q', R, q, post⟩ => ⟨B, F, fps, en, _, R, q, fun o en1 v fp F1 fps1 H1 q1 R1 s1 k1 f1 =>
  post _ en1 v F1 fps1 H1 q1 R1 s1 k1 ⟨fp, f1⟩⟩
theorem Fr.after {K : Frg} {B : Base} {F H F' H' : Hp} {fps fps' : List (List Addr)} {en en' : En} {σ σ' : L2.St} {v : V} {o : Ob} {fp : List Addr} (R : Rel K B F fps en σ H) (f : Fr K B F H fps v o fp) (R' : Rel K (B.from F H fps) F' fps' en' σ' H') : Fr K B F' H' fps' v o fp := by
  obtain ⟨at_, ob, nd, nof, out, new⟩ := f
  refine ⟨at_, ob.mono R'.sameF fun a ha => ?_, nd, fun a ha => ?_, fun a ha z => ?_, new⟩
  · cases q : H a with
    | none => exact absurd q (ro_live ob a ha)
    | some u => exact R'.keep a u q (out a ha)
  · cases q : F' a with
    | none => rfl
    | some u =>
      rcases R'.newF a u q with z | z | z
      · have z' : F a = some u := z
        rw [nof a ha] at z'
        cases z'
      · exact absurd z (ro_live ob a ha)
      · exact absurd z (out a ha)
  · rcases List.mem_append.mp z with z | z
    · rcases R'.new a z with w | w
      · exact absurd w (ro_live ob a ha)
      · exact out a ha w
    · exact out a ha (List.mem_append_right _ z)
theorem RA.after {K : Frg} {B : Base} {F H F' H' : Hp} {fps fps' : List (List Addr)} {en en' : En} {σ σ' : L2.St} {v : V} {x : Asg} (R : Rel K B F fps en σ H) (f : RA K B F H fps v x) (R' : Rel K (B.from F H fps) F' fps' en' σ' H') : RA K B F' H' fps' v x := by
  cases x with
  | d x => exact RD.mono R'.sameF f
  | n o =>
    obtain ⟨fp, f⟩ := f
    exact ⟨fp, Fr.after R f R'⟩
def Asg.sl : Asg → Sl
  | .d x => .d x
  | .n o => .own o
theorem Fr.back {K : Frg} {B : Base} {F0 H0 F H : Hp} {fps0 fps : List (List Addr)} {en0 : En} {σ0 : L2.St} {v : V} {o : Ob} {fp : List Addr} (R0 : Rel K B F0 fps0 en0 σ0 H0) (f : Fr K (B.from F0 H0 fps0) F H fps v o fp) : Fr K B F H fps v o fp :=
  ⟨f.at_, f.ob, f.nd, f.nof, f.out, fun a ha => R0.grow a (f.new a ha)⟩
theorem RA.back {K : Frg} {B : Base} {F0 H0 F H : Hp} {fps0 fps : List (List Addr)} {en0 : En} {σ0 : L2.St} {v : V} {x : Asg} (R0 : Rel K B F0 fps0 en0 σ0 H0) (f : RA K (B.from F0 H0 fps0) F H fps v x) : RA K B F H fps v x := by
  cases x with
  | d x => exact f
  | n o =>
    obtain ⟨fp, f⟩ := f
    exact ⟨fp, Fr.back R0 f⟩
theorem Rel.asg {K : Frg} {B : Base} {F H : Hp} {fps : List (List Addr)} {en : En} {σ : L2.St} (R : Rel K B F fps en σ H) {i : Nat} {x : Asg} {v : V} (r : RA K B F H fps v x) : ∃ fps', Rel K B F fps' (en.set i (some x.sl)) (σ.set i (some v)) H := by
  cases x with
  | d x => exact ⟨_, R.put (.d r)⟩
  | n o =>
    obtain ⟨fp, f⟩ := r
    exact ⟨_, R.own f⟩
/-- the second of two stores: what it stores must stand behind the first one -/
theorem Fr.later {K : Frg} {B : Base} {F H : Hp} {fps : List (List Addr)} {v w : V} {o o' : Ob} {fp fp' : List Addr} (f : Fr K B F H fps v o fp) (f' : Fr K B F H fps w o' fp') (ap : ∀ a ∈ fp, a ∉ fp') (i : Nat) : Fr K B F H (fps.set i fp') v o fp := by
  obtain ⟨at_, ob, nd, nof, out, new⟩ := f
  refine ⟨at_, ob, nd, nof, fun a ha z => ?_, new⟩
  rcases List.mem_append.mp z with z | z
  · obtain ⟨l, hl, hal⟩ := List.mem_flatten.mp z
    rcases List.mem_or_eq_of_mem_set hl with w | w
    · exact out a ha (List.mem_append_left _ (List.mem_flatten.mpr ⟨l, w, hal⟩))
    · subst w
      exact ap a ha hal
  · exact out a ha (List.mem_append_right _ z)
def dPar (i j : Nat) (ta tb : TDA) : TDS := fun D en => ta en fun x en1 => tb en1 fun y en2 => D.nx ((en2.set i (some x.sl)).set j (some y.sl))
theorem ds_par {i j : Nat} {x y : Str} {a b : Expr} {ta tb : TDA} {px py pt : Pos} {kt k2 pt2} (hc : X.calm = true) (hN : X.N.Nodup) (hi : X.N[i]? = some x) (hj : X.N[j]? = some y) (hij : i ≠ j)
    (hx : X.env.scope.names.lookup x = some .local) (hy : X.env.scope.names.lookup y = some .local) (ha : DA X a ta) (hb : DA X b tb)
    (hw : swappedStores [.Tuple [.Name x px, .Name y py] kt pt] (.Tuple [a, b] k2 pt2) X.env = pure (some [x, y]))
    (hs : swapsWithSole [.Tuple [.Name x px, .Name y py] kt pt] (.Tuple [a, b] k2 pt2) pos.line X.env = pure false := by rfl)
    (hs1 : starEach [a, b] X.env = (false, eval a X.env) :: starEach [b] X.env := by rfl) (hs2 : starEach [b] X.env = (false, eval b X.env) :: starEach [] X.env := by rfl) :
    DS X (.Assign [.Tuple [.Name x px, .Name y py] kt pt] (.Tuple [a, b] k2 pt2) pos) (dPar i j ta tb) :=
  PS.imp (ps_par hc hN hi hj hij hx hy (pa_cons ha (pa_cons hb pa_nil hs2) hs1) hw hs) fun D σ H ⟨B, F, fps, en, D', R, q, l⟩ => ⟨B, F, fps, en, _, R, q, fun x1 en1 v1 F1 fps1 H1 q1 R1 s1 k1 r1 =>
    ⟨B.from F1 H1 fps1, F1, fps1, en1, _, R1.rebase, q1, fun x2 en2 v2 F2 fps2 H2 q2 R2 s2 k2 r2 => by
      refine ⟨v1, v2, rfl, ?_⟩
      have R2' := R1.back R2
      cases x1 with
      | d z1 =>
        have r1' : RD X.K F2 v1 z1 := RD.mono R2.sameF r1
        have R3 := R2'.put (i := i) (s := .d z1) (v := v1) (.d r1')
        cases x2 with
        | d z2 => exact l.nx _ F2 _ _ H2 q2 (R3.put (.d r2))
        | n o2 =>
          obtain ⟨fp2, f2⟩ := r2
          have f2 := Fr.back R1 f2
          refine l.nx _ F2 _ _ H2 q2 (R3.own ⟨f2.at_, f2.ob, f2.nd, f2.nof, fun a ha z => f2.out a ha ?_, f2.new⟩)
          rcases List.mem_append.mp z with z | z
          · exact List.mem_append_left _ (mem_set_nil z)
          · exact List.mem_append_right _ z
      | n o1 =>
        obtain ⟨fp1, f1⟩ := r1
        have f1' := Fr.after R1 f1 R2
        have R3 := R2'.own (i := i) f1'
        cases x2 with
        | d z2 => exact l.nx _ F2 _ _ H2 q2 (R3.put (.d r2))
        | n o2 =>
          obtain ⟨fp2, f2⟩ := r2
          have f2' := Fr.back R1 f2
          exact l.nx _ F2 _ _ H2 q2 (R3.own (Fr.later f2' f1' (fun a ha hb => ro_live f1.ob a hb (f2.new a ha)) i))⟩⟩
end

/-! ### loops -/
abbrev TDI := En → (List PyData → En → Prop) → Prop
/-- J walks over the data xs -/
structure Wk (K : Frg) (F : Hp) (J : It) (xs : List PyData) : Prop where
  go : ∀ (F1 H : Hp) (i : Nat), Same F F1 → Same F1 H → i < xs.length → J.go i H
  yld : ∀ (F1 H : Hp) (i : Nat) (v : V) (H' : Hp) (d : PyData), Same F F1 → Same F1 H → J.yld i H v H' → xs[i]? = some d → ∃ F2, Ext F1 H F2 H' ∧ RD K F2 v d
  stop : ∀ (F1 H : Hp) (i : Nat), Same F F1 → Same F1 H → xs.length ≤ i → J.stop i H
  sz : xs.length ≤ sizeLine
def LI (K : Frg) (ti : TDI) : TI := fun σ H R => ∃ B F fps en, ∃ Q' : List PyData → En → Prop, Rel K B F fps en σ H ∧ ti en Q' ∧
  ∀ xs en' F' fps' H' J, Q' xs en' → Rel K B F' fps' en' σ H' → Same F F' → Kp en fps en' fps' → Wk K F' J xs → R J H'
abbrev DI (X : Cx) (tg iter : Expr) (ti : TDI) : Prop := PI X tg iter (LI X.K ti)
def forL (g : TDG) (body : TDS) (D : DEn) : List PyData → En → Prop
  | [], en => D.nx en
  | x :: xs, en => g x en fun en1 => body { nx := forL g body D xs, rt := D.rt, bk := D.nx, ct := forL g body D xs } en1
def dFor (ti : TDI) (g : TDG) (body : TDS) : TDS := fun D en => ti en fun xs en1 => forL g body D xs en1
def whl (c : TDT) (body : TDS) (D : DEn) : Nat → En → Prop
  | 0, _ => False
  | n + 1, en => c en fun b en1 => if b = true then body { nx := whl c body D n, rt := D.rt, bk := D.nx, ct := whl c body D n } en1 else D.nx en1
def dWhile (c : TDT) (body : TDS) : TDS := fun D en => ∃ n, whl c body D n en
section
variable {X : Cx} {tg iter : Expr} {pos : Pos}
theorem PI.imp {t t' : TI} (h : PI X tg iter t) (i : ∀ σ H R, t' σ H R → t σ H R) : PI X tg iter t' := ⟨fun pins s σ H R I q => h.run pins s σ H R I (i σ H R q)⟩
theorem LEnd.from {K : Frg} {B : Base} {D' : DEn} {D : Ends} (l : LEnd K B D' D) {F H : Hp} {fps : List (List Addr)} {en : En} {σ : L2.St} (R : Rel K B F fps en σ H) : LEnd K (B.from F H fps) D' D :=
  ⟨fun en' F' fps' σ' H' h R' => l.nx en' F' fps' σ' H' h (R.back R'), fun x en' v F' fps' σ' H' h R' r => l.rt x en' v F' fps' σ' H' h (R.back R') r, fun en' F' fps' σ' H' h R' => l.bk en' F' fps' σ' H' h (R.back R'), fun en' F' fps' σ' H' h R' => l.ct en' F' fps' σ' H' h (R.back R')⟩
theorem ds_for {body : List Stmt} {ti : TDI} {g : TDG} {tb : TDS} (hp : PassesOwn (model X.prog X.w) X.A X.env X.xe) (hc : X.calm = true) (hi : DI X tg iter ti) (hg : DG X tg g) (hb : DSs X body tb)
    (hs : ∀ x, foldedSetIterable iter X.env x = pure x := by intro _; rfl) : DS X (.For tg iter body [] pos) (dFor ti g tb) :=
  PS.imp (ps_for hp hc hi hg hb hs) fun D σ H ⟨B, F, fps, en, D', R, q, l⟩ => ⟨B, F, fps, en, _, R, q, fun xs en0 F0 fps0 H0 J q0 R0 s0 k0 wk => by
    have l0 := l.from R0
    refine ⟨fun i m σ H => m = xs.length - i ∧ ∃ F1 fps1 en1, Rel X.K (B.from F0 H0 fps0) F1 fps1 en1 σ H ∧ forL g tb D' (xs.drop i) en1, ⟨_, rfl, F0, fps0, en0, R0.rebase, q0⟩, ?_⟩
    rintro i m σ1 H1 ⟨rfl, F1, fps1, en1, R1, q1⟩
    by_cases hi : i < xs.length
    · refine .inr ⟨wk.go F1 H1 i R1.sameF R1.same hi, fun σ' H' => ∃ F2 fps2 en2, Rel X.K (B.from F0 H0 fps0) F2 fps2 en2 σ' H' ∧ forL g tb D' (xs.drop (i + 1)) en2, fun σ' H' h => ⟨xs.length - (i + 1), by omega, rfl, h⟩, fun v H2 hy => ?_⟩
      obtain ⟨F2, e2, rd⟩ := wk.yld F1 H1 i v H2 xs[i] R1.sameF R1.same hy (List.getElem?_eq_getElem hi)
      rw [List.drop_eq_getElem_cons hi] at q1
      refine ⟨B.from F0 H0 fps0, F2, fps1, en1, xs[i], _, R1.ext e2, rd, q1, fun en3 F3 fps3 σ3 H3 q3 R3 => ?_⟩
      exact ⟨B.from F0 H0 fps0, F3, fps3, en3, _, R3, q3, ⟨fun en' F' fps' σ' H' h R' => ⟨F', fps', en', R', h⟩, l0.rt, fun en' F' fps' σ' H' h R' => l0.nx en' F' fps' σ' H' h R', fun en' F' fps' σ' H' h R' => ⟨F', fps', en', R', h⟩⟩⟩
    · refine .inl ⟨wk.stop F1 H1 i R1.sameF R1.same (by omega), ?_⟩
      rw [List.drop_eq_nil_of_le (by omega)] at q1
      exact l0.nx en1 F1 fps1 σ1 H1 q1 R1⟩
theorem ds_while {c : Expr} {body : List Stmt} {tc : TDT} {tb : TDS} (hp : PassesOwn (model X.prog X.w) X.A X.env X.xe) (hc : DT X c tc) (hb : DSs X body tb) : DS X (.While c body [] pos) (dWhile tc tb) :=
  PS.imp (ps_while hp hc hb) fun D σ H ⟨B, F, fps, en, D', R, ⟨n, q⟩, l⟩ => by
    refine ⟨fun m σ H => ∃ F1 fps1 en1, Rel X.K B F1 fps1 en1 σ H ∧ whl tc tb D' m en1, ⟨n, F, fps, en, R, q⟩, ?_⟩
    rintro m σ1 H1 ⟨F1, fps1, en1, R1, q1⟩
    cases m with
    | zero => exact q1.elim
    | succ m =>
      refine ⟨B, F1, fps1, en1, _, R1, q1, fun b en2 F2 fps2 H2 q2 R2 s2 k2 => ?_⟩
      cases b with
      | false => exact l.nx en2 F2 fps2 σ1 H2 q2 R2
      | true =>
        refine ⟨fun σ' H' => ∃ F1 fps1 en1, Rel X.K B F1 fps1 en1 σ' H' ∧ whl tc tb D' m en1, fun σ' H' h => ⟨m, Nat.lt_succ_self m, h⟩, ?_⟩
        exact ⟨B, F2, fps2, en2, _, R2, q2, ⟨fun en' F' fps' σ' H' h R' => ⟨F', fps', en', R', h⟩, l.rt, fun en' F' fps' σ' H' h R' => l.nx en' F' fps' σ' H' h R', fun en' F' fps' σ' H' h R' => ⟨F', fps', en', R', h⟩⟩⟩
/-! what is walked -/
def iL (t : TD) : TDI := fun en Q => t en fun y en1 => frz y en1 fun x en2 => match x with
  | .list xs => Q xs en2
  | _ => False
def iT (t : TD) : TDI := fun en Q => t en fun y en1 => frz y en1 fun x en2 => match x with
  | .tuple xs => Q xs en2
  | _ => False
theorem wk_list {K : Frg} {F : Hp} {a : Addr} {vs : List V} {xs : List PyData} (h : SqL K F a vs) (r : RDs K F vs xs) (hz : vs.length ≤ sizeLine) : Wk K F (Itl K a) xs where
  sz := r.length ▸ hz
  go := fun F1 H i s1 s2 hi => by
    have hl := r.length
    exact ⟨vs, vs[i]'(by omega), (s1.trans s2).seq h, List.getElem?_eq_getElem (by omega)⟩
  yld := fun F1 H i v H' d s1 s2 hy hd => by
    obtain ⟨rfl, hy⟩ := hy
    have e := hy vs ((s1.trans s2).seq h)
    obtain ⟨d', h1, h2⟩ := r.get e
    rw [hd] at h1
    cases h1
    exact ⟨F1, .refl s2, h2.mono s1⟩
  stop := fun F1 H i s1 s2 hi => ⟨vs, (s1.trans s2).seq h, by rw [r.length]; exact hi⟩
theorem wk_tup {K : Frg} {F : Hp} {a : Addr} {vs : List V} {xs : List PyData} (h : SqT K F a vs) (r : RDs K F vs xs) (hz : vs.length ≤ sizeLine) : Wk K F (Itt K a) xs where
  sz := r.length ▸ hz
  go := fun F1 H i s1 s2 hi => by
    have hl := r.length
    exact ⟨vs, vs[i]'(by omega), seqT (s1.trans s2) h, List.getElem?_eq_getElem (by omega)⟩
  yld := fun F1 H i v H' d s1 s2 hy hd => by
    obtain ⟨rfl, hy⟩ := hy
    have e := hy vs (seqT (s1.trans s2) h)
    obtain ⟨d', h1, h2⟩ := r.get e
    rw [hd] at h1
    cases h1
    exact ⟨F1, .refl s2, h2.mono s1⟩
  stop := fun F1 H i s1 s2 hi => ⟨vs, seqT (s1.trans s2) h, by rw [r.length]; exact hi⟩
def rng (a b : Int) : List PyData := (List.range (b - a).toNat).map fun i => PyData.int (a + (i : Nat))
theorem rng_length (a b : Int) : (rng a b).length = (b - a).toNat := by
  unfold rng
  rw [List.length_map, List.length_range]
theorem wk_rng {K : Frg} {F : Hp} (a b : Int) (hz : (b - a).toNat ≤ 16777216) : Wk K F (Itr a (b - a).toNat) (rng a b) where
  sz := by rw [rng_length, sizeLine_eq]; exact hz
  go := fun F1 H i s1 s2 hi => by
    rw [rng_length] at hi
    exact hi
  yld := fun F1 H i v H' d s1 s2 hy hd => by
    obtain ⟨rfl, rfl⟩ := hy
    unfold rng at hd
    rw [List.getElem?_map] at hd
    obtain ⟨j, hj, rfl⟩ := Option.map_eq_some_iff.mp hd
    obtain ⟨h1, h2⟩ := List.getElem?_eq_some_iff.mp hj
    rw [List.getElem_range] at h2
    subst h2
    exact ⟨F1, .refl s2, .int _⟩
  stop := fun F1 H i s1 s2 hi => by
    rw [rng_length] at hi
    exact hi
theorem di_list {t : TD} (h : DE X iter t) : DI X tg iter (iL t) := PI.imp (pi_list h) fun σ H R ⟨B, F, fps, en, Q', Re, q, post⟩ => ⟨B, F, fps, en, _, Re, q, fun y en1 v F1 fps1 H1 q1 R1 s1 k1 r1 => by
  obtain ⟨x, en2, F2, fps2, q2, R2, s2, k2, rd⟩ := R1.frz r1 q1
  cases rd with
  | lst h1 h2 h3 => exact ⟨_, rfl, ⟨_, .inl (.inl (R2.same _ _ h1))⟩, post _ en2 F2 fps2 H1 _ q2 R2 (s1.trans s2) (k1.trans k2) (wk_list (.inl (.inl h1)) h3 h2)⟩
  | _ => exact q2.elim⟩
theorem di_tup {t : TD} (h : DE X iter t) : DI X tg iter (iT t) := PI.imp (pi_tup h) fun σ H R ⟨B, F, fps, en, Q', Re, q, post⟩ => ⟨B, F, fps, en, _, Re, q, fun y en1 v F1 fps1 H1 q1 R1 s1 k1 r1 => by
  obtain ⟨x, en2, F2, fps2, q2, R2, s2, k2, rd⟩ := R1.frz r1 q1
  cases rd with
  | tup h1 h2 h3 => exact ⟨_, rfl, ⟨_, seqT R2.same h1⟩, post _ en2 F2 fps2 H1 _ q2 R2 (s1.trans s2) (k1.trans k2) (wk_tup h1 h3 h2)⟩
  | _ => exact q2.elim⟩
def iR1 (t : TDs) : TDI := fun en Q => t en fun xs en1 => match xs with
  | [.int n] => (-16777216 ≤ n ∧ n ≤ 16777216) ∧ Q (rng 0 n) en1
  | _ => False
def iR2 (t : TDs) : TDI := fun en Q => t en fun xs en1 => match xs with
  | [.int a, .int b] => (0 ≤ a ∧ -16777216 ≤ b ∧ b ≤ 16777216 ∧ a ≤ 16777216) ∧ Q (rng a b) en1
  | _ => False
theorem di_range1 {a : Expr} {t : TDs} {p : Pos} (hg : Gl X "range") (hm : X.mg "range" = none) (ha : DDs X [a] t) (hs : starEach [a] X.env = [(false, eval a X.env)] := by rfl) : DI X tg (.Call (.Name "range" p) [a] [] pos) (iR1 t) :=
  PI.imp (pi_range1 hg hm ha hs) fun σ H R ⟨B, F, fps, en, Q', Re, q, post⟩ => ⟨B, F, fps, en, _, Re, q, fun xs en1 vs F1 fps1 H1 q1 R1 s1 k1 rs => by
    split at q1
    · rename_i n
      obtain ⟨⟨h1, h2⟩, q1⟩ := q1
      cases rs with
      | cons r t =>
        cases r
        cases t
        refine ⟨n, rfl, by omega, by omega, ?_⟩
        have e : Itr 0 n.toNat = Itr 0 (n - 0).toNat := by rw [Int.sub_zero]
        rw [e]
        exact post _ en1 F1 fps1 H1 _ q1 R1 s1 k1 (wk_rng 0 n (by omega))
    · exact q1.elim⟩
theorem di_range2 {a b : Expr} {t : TDs} {p : Pos} (hg : Gl X "range") (hm : X.mg "range" = none) (ha : DDs X [a, b] t) (hs : starEach [a, b] X.env = [(false, eval a X.env), (false, eval b X.env)] := by rfl) (hs2 : starEach [b] X.env = [(false, eval b X.env)] := by rfl) : DI X tg (.Call (.Name "range" p) [a, b] [] pos) (iR2 t) :=
  PI.imp (pi_range2 hg hm ha hs hs2) fun σ H R ⟨B, F, fps, en, Q', Re, q, post⟩ => ⟨B, F, fps, en, _, Re, q, fun xs en1 vs F1 fps1 H1 q1 R1 s1 k1 rs => by
    split at q1
    · rename_i n m
      obtain ⟨h1, q1⟩ := q1
      cases rs with
      | cons r t =>
        cases r
        cases t with
        | cons r t =>
          cases r
          cases t
          exact ⟨n, m, rfl, ⟨by omega, by omega, by omega, by omega⟩, post _ en1 F1 fps1 H1 _ q1 R1 s1 k1 (wk_rng n m (by omega))⟩
    · exact q1.elim⟩
end
end DL

/-! DL5: defs and their calls by pure data. -/
namespace DL
open PySem PySem.Spec PyProof.Rows L2

abbrev DSp := List Val → List Ob → (PyData → List Ob → Prop) → Prop
structure Post (F H : Hp) (ptrs : List (List Addr)) (F' H' : Hp) : Prop where
  f : Same F F'
  fh : Same F' H'
  new : ∀ a o, F' a = some o → F a = some o ∨ H a = none
  grow : ∀ a, H' a = none → H a = none
  keep : ∀ a o, H a = some o → a ∉ ptrs.flatten → H' a = some o
structure Hand (K : Frg) (F H : Hp) (ptrs : List (List Addr)) (obs : List Ob) : Prop where
  lst : obs.length = ptrs.length
  ro : ∀ (n : Nat) o fp, obs[n]? = some o → ptrs[n]? = some fp → RO K F H o fp
  nodup : ptrs.flatten.Nodup
  nof : ∀ a ∈ ptrs.flatten, F a = none
  live : ∀ a ∈ ptrs.flatten, H a ≠ none
inductive RArg (K : Frg) (F : Hp) (ptrs : List (List Addr)) : V → Val → Prop
  | d {v : V} {x : PyData} : RD K F v x → RArg K F ptrs v (.d x)
  | p {n : Nat} {a : Addr} {r : List Addr} : ptrs[n]? = some (a :: r) → RArg K F ptrs (.ref a) (.p n)
  | f {a : Addr} : RArg K F ptrs (.ref a) (.f a)
def LSp (K : Frg) (dsp : DSp) : Sp := fun vs H Q E => ∃ F ptrs args obs, ∃ Q' : PyData → List Ob → Prop, Same F H ∧ Paired (RArg K F ptrs) vs args ∧ Hand K F H ptrs obs ∧ dsp args obs Q' ∧
  ∀ x obs' v F' H', Q' x obs' → Post F H ptrs F' H' → Hand K F' H' ptrs obs' → RD K F' v x → Q v H'
def Val.sl : Val → Option Sl
  | .d x => some (.d x)
  | .p n => some (.p n)
  | .f a => some (.f a)
  | .o _ => none
def startEn (N : List Str) (args : List Val) : List (Option Sl) := args.map Val.sl ++ List.replicate (N.length - args.length) none
theorem paired_get {α β : Type} {F : α → β → Prop} : ∀ {l₁ : List α} {l₂ : List β} {i : Nat} {a : α} {b : β}, Paired F l₁ l₂ → l₁[i]? = some a → l₂[i]? = some b → F a b
  | _, _, _, _, _, .nil, h, _ => by simp at h
  | _, _, 0, _, _, .cons r _, h1, h2 => by
    simp at h1 h2
    subst h1 h2
    exact r
  | _, _, i + 1, _, _, .cons _ t, h1, h2 => paired_get (i := i) t (by simpa using h1) (by simpa using h2)
theorem flat_nil : ∀ n : Nat, (List.replicate n ([] : List Addr)).flatten = []
  | 0 => rfl
  | n + 1 => by
    rw [List.replicate_succ, List.flatten_cons, flat_nil n]
    rfl
theorem rel_start {K : Frg} {N : List Str} {F H : Hp} {ptrs : List (List Addr)} {obs : List Ob} {vs : List V} {args : List Val} (same : Same F H) (ra : Paired (RArg K F ptrs) vs args) (hand : Hand K F H ptrs obs) :
    Rel K ⟨F, H, ptrs, ptrs.flatten⟩ F (List.replicate (start N vs).length []) ⟨startEn N args, obs⟩ (start N vs) H := by
  have hl := ra.length
  refine ⟨same, ⟨?_, by simp⟩, fun i s v fp h1 h2 h3 => ?_, hand.lst, hand.ro, ?_, fun a ha => ?_, fun a ha => ?_, fun a ha => ha, .refl _, fun a o q => .inl q, fun a ha => ?_, fun _ q => q, fun _ _ q _ => q⟩
  · unfold startEn L2.start
    simp [hl]
  · have efp : fp = [] := by
      rw [List.getElem?_replicate] at h3
      split at h3
      · exact (Option.some.inj h3).symm
      · cases h3
    subst efp
    have h1 : (startEn N args)[i]? = some s := h1
    unfold startEn at h1
    unfold L2.start at h2
    by_cases hi : i < args.length
    · rw [List.getElem?_append_left (by simpa using hi), List.getElem?_map] at h1
      rw [List.getElem?_append_left (by simpa using (hl ▸ hi)), List.getElem?_map] at h2
      obtain ⟨y, hy, rfl⟩ := Option.map_eq_some_iff.mp h1
      obtain ⟨w, hw, rfl⟩ := Option.map_eq_some_iff.mp h2
      have r := paired_get ra hw hy
      cases r with
      | d h => exact .d h
      | p h => exact .p h
      | f => exact .f
    · rw [List.getElem?_append_right (by simpa using hi), List.getElem?_replicate] at h1
      split at h1
      · cases h1
        exact .none
      · cases h1
  · rw [flat_nil]
    exact hand.nodup
  · rw [flat_nil] at ha
    exact hand.nof a ha
  · rw [flat_nil] at ha
    exact hand.live a ha
  · rw [flat_nil] at ha
    cases ha
section
variable {P : Program} {w : World} {K : Frg} {mg : Str → Option Value} {base : Heap}
/-- a def by its body's reading on data -/
theorem dfun_ok {x qual : Str} {st : Stmt} {f : Addr} {fd : FuncData} {N ps : List Str} {k : Nat} {dsp : DSp} (F : Fun K x qual st f fd) (S : FnScope N ps (defScope st)) (len : ∀ args obs Q, dsp args obs Q → args.length = ps.length)
    (hbody : ∀ (cdv : Value) (A : Around) (outer : List Env) (s : Shared) (H : Hp) (E : XK) (args : List Val) (obs : List Ob) (Q : PyData → List Ob → Prop), A.guards = some [] → Room k (A.deeper (envOfC qual (defScope st) s.heap.objs.size f cdv)) → dsp args obs Q →
      ∃ t, DSs (cxOf CX0 P w K mg base N qual (defScope st) f cdv A outer s H E).nox (defBody st) t ∧ t { nx := fun en => Q .none en.st, rt := fun x en => Q x en.st } ⟨startEn N args, obs⟩) : GFn P w K mg base (k + 1) f fd ps (LSp K dsp) := by
  refine gfn_ok F S (fun vs H Q E ⟨F0, ptrs, args, obs, Q', same, ra, hand, hd, post⟩ => ra.length.trans (len args obs Q' hd)) (fun cdv A outer s H vs Q E g hr ⟨F0, ptrs, args, obs, Q', same, ra, hand, hd, post⟩ => ?_)
  obtain ⟨t, hS, ht⟩ := hbody cdv A outer s H E args obs Q' g hr hd
  refine ⟨LS K t, hS, _, _, _, _, _, rel_start same ra hand, ht, ?_⟩
  have fin : ∀ (x : PyData) (en : En) (v : V) (F' : Hp) (fps : List (List Addr)) (σ : L2.St) (H' : Hp), Q' x en.st → Rel K ⟨F0, H, ptrs, ptrs.flatten⟩ F' fps en σ H' → RD K F' v x → Q v H' := fun x en v F' fps σ H' q R rd => by
    refine post x en.st v F' H' q ⟨R.sameF, R.same, fun a o e => ?_, R.grow, R.keep⟩ ⟨R.lst, R.store, (List.nodup_append.mp R.nodup).2.1, fun a ha => R.nof a (List.mem_append_right _ ha), fun a ha => R.live a (List.mem_append_right _ ha)⟩ rd
    rcases R.newF a o e with z | z | z
    · exact .inl z
    · exact .inr z
    · rw [R.nof a (List.mem_append_right _ z)] at e
      cases e
  exact ⟨fun en F' fps σ H' q R => fin .none en .non F' fps σ H' q R .non, fun x en v F' fps σ H' q R rd => fin x en v F' fps σ H' q R rd, fun _ _ _ _ _ q _ => q.elim, fun _ _ _ _ _ q _ => q.elim⟩
end

/-! ### calls -/
inductive Lo where
  | s (i : Nat) | p (n : Nat)
def Lo.val : Lo → Val
  | .s i => .o i
  | .p n => .p n
def pass (en : En) : List Val → Nat → Option (List Val × List Ob × List Lo)
  | [], _ => some ([], [], [])
  | .d x :: r, n => match pass en r n with
    | some (a, o, l) => some (.d x :: a, o, l)
    | none => none
  | .f f :: r, n => match pass en r n with
    | some (a, o, l) => some (.f f :: a, o, l)
    | none => none
  | .o i :: r, n => match obAt en (.o i), pass en r (n + 1) with
    | some ob, some (a, o, l) => some (.p n :: a, ob :: o, .s i :: l)
    | _, _ => none
  | .p i :: r, n => match obAt en (.p i), pass en r (n + 1) with
    | some ob, some (a, o, l) => some (.p n :: a, ob :: o, .p i :: l)
    | _, _ => none
def puts : List Lo → List Ob → En → En
  | [], _, en => en
  | _ :: _, [], en => en
  | .s i :: l, o :: os, en => puts l os (en.set i (some (.own o)))
  | .p n :: l, o :: os, en => puts l os (en.put n o)
/-- where a handed object stands -/
def Plc (B : Base) (fps : List (List Addr)) (en : En) : Lo → List Addr → Prop
  | .s i, fp => fps[i]? = some fp ∧ ∃ o, en.sl[i]? = some (some (Sl.own o))
  | .p n, fp => B.ptrs[n]? = some fp ∧ n < en.st.length
section
variable {K : Frg} {B : Base} {F H F' H' : Hp} {fps : List (List Addr)} {en : En} {σ : L2.St}
theorem pass_ok (R : Rel K B F fps en σ H) : ∀ (ys : List Val) (vs : List V) (n : Nat) (args : List Val) (obs : List Ob) (locs : List Lo), pass en ys n = some (args, obs, locs) → Paired (RVL K F H B.ptrs fps en) vs ys →
    ∃ ptrs : List (List Addr), Paired (Plc B fps en) locs ptrs ∧ obs.length = ptrs.length ∧ (∀ (m : Nat) o fp, obs[m]? = some o → ptrs[m]? = some fp → RO K F H o fp) ∧
      ∀ pre : List (List Addr), pre.length = n → Paired (RArg K F (pre ++ ptrs)) vs args
  | [], vs, n, args, obs, locs, h, r => by
    cases h
    cases r
    exact ⟨[], .nil, rfl, fun m o fp h => by simp at h, fun _ _ => .nil⟩
  | y :: ys, vs, n, args, obs, locs, h, r => by
    cases r with
    | cons ry rt =>
      rename_i v0 vt
      have here : ∀ (ob : Ob) (y' : Lo), y = y'.val → obAt en y = some ob → (∀ a o l, pass en ys (n + 1) = some (a, o, l) → args = .p n :: a → obs = ob :: o → locs = y' :: l → ∃ ptrs : List (List Addr), Paired (Plc B fps en) locs ptrs ∧ obs.length = ptrs.length ∧ (∀ (m : Nat) o fp, obs[m]? = some o → ptrs[m]? = some fp → RO K F H o fp) ∧
          ∀ pre : List (List Addr), pre.length = n → Paired (RArg K F (pre ++ ptrs)) (v0 :: vt) args) := by
        intro ob y' e hob a o l hp e1 e2 e3
        subst e1 e2 e3
        obtain ⟨ptrs, p1, p2, p3, p4⟩ := pass_ok R ys _ (n + 1) a o l hp rt
        obtain ⟨ad, fp, rfl, ro, at_⟩ := R.ob (ry fun i e => ⟨ob, ob_own (e ▸ hob)⟩) hob
        refine ⟨(ad :: fp) :: ptrs, .cons ?_ p1, by simp [p2], fun m o' fp' h1 h2 => ?_, fun pre hpre => .cons (.p (r := fp) ?_) ?_⟩
        · rcases at_ with ⟨i, e', hf⟩ | ⟨m, e', hf⟩
          · cases y' with
            | p m =>
              rw [e'] at e
              cases e
            | s j =>
              rw [e'] at e
              cases e
              exact ⟨hf, ob, ob_own (e' ▸ hob)⟩
          · cases y' with
            | s m =>
              rw [e'] at e
              cases e
            | p j =>
              rw [e'] at e
              cases e
              rw [e'] at hob
              exact ⟨hf, (List.getElem?_eq_some_iff.mp (show en.st[m]? = some ob from hob)).1⟩
        · cases m with
          | zero =>
            simp at h1 h2
            subst h1 h2
            exact ro
          | succ m => exact p3 m o' fp' (by simpa using h1) (by simpa using h2)
        · rw [List.getElem?_append_right (by omega)]
          have : n - pre.length = 0 := by omega
          rw [this]
          rfl
        · have := p4 (pre ++ [ad :: fp]) (by simp [hpre])
          rw [List.append_assoc] at this
          exact this
      cases y with
      | d x =>
        unfold pass at h
        split at h
        · rename_i a o l hp
          cases h
          obtain ⟨ptrs, p1, p2, p3, p4⟩ := pass_ok R ys _ n a _ _ hp rt
          refine ⟨ptrs, p1, p2, p3, fun pre hpre => .cons ?_ (p4 pre hpre)⟩
          have q := ry fun i e => by cases e
          cases q with
          | d q => exact .d q
        · cases h
      | f x =>
        unfold pass at h
        split at h
        · rename_i a o l hp
          cases h
          obtain ⟨ptrs, p1, p2, p3, p4⟩ := pass_ok R ys _ n a _ _ hp rt
          refine ⟨ptrs, p1, p2, p3, fun pre hpre => .cons ?_ (p4 pre hpre)⟩
          have q := ry fun i e => by cases e
          cases q with
          | f => exact .f
        · cases h
      | o i =>
        unfold pass at h
        split at h
        · rename_i ob a o l hob hp
          cases h
          exact here ob (.s i) rfl hob a o l hp rfl rfl rfl
        · cases h
      | p i =>
        unfold pass at h
        split at h
        · rename_i ob a o l hob hp
          cases h
          exact here ob (.p i) rfl hob a o l hp rfl rfl rfl
        · cases h

/-! the addresses of unlike places differ -/
theorem apart_ss {P : List Addr} (nd : (fps.flatten ++ P).Nodup) {i j : Nat} {f1 f2 : List Addr} {a : Addr} (h1 : fps[i]? = some f1) (h2 : fps[j]? = some f2) (ne : i ≠ j) (m1 : a ∈ f1) (m2 : a ∈ f2) : False := by
  have nd3 := (List.pairwise_flatten.mp (List.nodup_append.mp nd).1).2
  obtain ⟨hi, ei⟩ := List.getElem?_eq_some_iff.mp h1
  obtain ⟨hj, ej⟩ := List.getElem?_eq_some_iff.mp h2
  rcases Nat.lt_or_gt_of_ne ne with lt | lt
  · exact List.pairwise_iff_getElem.mp nd3 i j hi hj lt a (by rw [ei]; exact m1) a (by rw [ej]; exact m2) rfl
  · exact List.pairwise_iff_getElem.mp nd3 j i hj hi lt a (by rw [ej]; exact m2) a (by rw [ei]; exact m1) rfl
theorem apart_sp {Ps : List (List Addr)} (nd : (fps.flatten ++ Ps.flatten).Nodup) {i j : Nat} {f1 f2 : List Addr} {a : Addr} (h1 : fps[i]? = some f1) (h2 : Ps[j]? = some f2) (m1 : a ∈ f1) (m2 : a ∈ f2) : False :=
  (List.nodup_append.mp nd).2.2 a (mem_fp h1 m1) a (mem_fp h2 m2) rfl
theorem apart_pp {Ps : List (List Addr)} (nd : (fps.flatten ++ Ps.flatten).Nodup) {i j : Nat} {f1 f2 : List Addr} {a : Addr} (h1 : Ps[i]? = some f1) (h2 : Ps[j]? = some f2) (ne : i ≠ j) (m1 : a ∈ f1) (m2 : a ∈ f2) : False := by
  have nd3 := (List.pairwise_flatten.mp (List.nodup_append.mp nd).2.1).2
  obtain ⟨hi, ei⟩ := List.getElem?_eq_some_iff.mp h1
  obtain ⟨hj, ej⟩ := List.getElem?_eq_some_iff.mp h2
  rcases Nat.lt_or_gt_of_ne ne with lt | lt
  · exact List.pairwise_iff_getElem.mp nd3 i j hi hj lt a (by rw [ei]; exact m1) a (by rw [ej]; exact m2) rfl
  · exact List.pairwise_iff_getElem.mp nd3 j i hj hi lt a (by rw [ej]; exact m2) a (by rw [ei]; exact m1) rfl
theorem apart_loc (nd : (fps.flatten ++ B.ptrs.flatten).Nodup) {y z : Lo} {f1 f2 : List Addr} {a : Addr} (h1 : Plc B fps en y f1) (h2 : Plc B fps en z f2) (ne : y ≠ z) (m1 : a ∈ f1) (m2 : a ∈ f2) : False := by
  cases y with
  | s i =>
    cases z with
    | s j => exact apart_ss nd h1.1 h2.1 (fun z => ne (by rw [z])) m1 m2
    | p j => exact apart_sp nd h1.1 h2.1 m1 m2
  | p i =>
    cases z with
    | s j => exact apart_sp nd h2.1 h1.1 m2 m1
    | p j => exact apart_pp nd h1.1 h2.1 (fun z => ne (by rw [z])) m1 m2
theorem loc_mem {y : Lo} {f1 : List Addr} {a : Addr} (h : Plc B fps en y f1) (m : a ∈ f1) : a ∈ fps.flatten ++ B.ptrs.flatten := by
  cases y with
  | s i => exact List.mem_append_left _ (mem_fp h.1 m)
  | p n => exact List.mem_append_right _ (mem_fp h.1 m)
/-- the states behind: an object of a place of the list, or what was there -/
theorem puts_len : ∀ (locs : List Lo) (obs : List Ob) (en : En), (puts locs obs en).sl.length = en.sl.length ∧ (puts locs obs en).st.length = en.st.length
  | [], _, _ => ⟨rfl, rfl⟩
  | .s i :: l, [], en => ⟨rfl, rfl⟩
  | .p i :: l, [], en => ⟨rfl, rfl⟩
  | .s i :: l, o :: os, en => by
    obtain ⟨h1, h2⟩ := puts_len l os (en.set i (some (.own o)))
    exact ⟨h1.trans (by simp [En.set]), h2⟩
  | .p i :: l, o :: os, en => by
    obtain ⟨h1, h2⟩ := puts_len l os (en.put i o)
    exact ⟨h1, h2.trans (by simp [En.put])⟩
theorem puts_sl : ∀ (locs : List Lo) (obs : List Ob) (en : En) (i : Nat) (s : Option Sl), locs.length = obs.length → (puts locs obs en).sl[i]? = some s → (∃ (k : Nat) (o : Ob), locs[k]? = some (Lo.s i) ∧ obs[k]? = some o ∧ s = some (.own o)) ∨ en.sl[i]? = some s ∧ Lo.s i ∉ locs
  | [], _, _, i, s, _, h => .inr ⟨h, by simp⟩
  | y :: l, [], en, i, s, hl, h => by simp at hl
  | .s j :: l, o :: os, en, i, s, hl, h => by
    rcases puts_sl l os (en.set j (some (.own o))) i s (by simpa using hl) h with ⟨k, o', h1, h2, h3⟩ | ⟨h1, h2⟩
    · exact .inl ⟨k + 1, o', by simpa using h1, by simpa using h2, h3⟩
    · have h1 : (en.sl.set j (some (.own o)))[i]? = some s := h1
      by_cases e : j = i
      · subst e
        by_cases hj : j < en.sl.length
        · rw [List.getElem?_set_self hj] at h1
          exact .inl ⟨0, o, rfl, rfl, (Option.some.inj h1).symm⟩
        · rw [List.getElem?_eq_none (by simpa using hj)] at h1
          cases h1
      · rw [List.getElem?_set_ne e] at h1
        refine .inr ⟨h1, fun m => ?_⟩
        rcases List.mem_cons.mp m with z | z
        · cases z
          exact e rfl
        · exact h2 z
  | .p j :: l, o :: os, en, i, s, hl, h => by
    rcases puts_sl l os (en.put j o) i s (by simpa using hl) h with ⟨k, o', h1, h2, h3⟩ | ⟨h1, h2⟩
    · exact .inl ⟨k + 1, o', by simpa using h1, by simpa using h2, h3⟩
    · refine .inr ⟨h1, fun m => ?_⟩
      rcases List.mem_cons.mp m with z | z
      · cases z
      · exact h2 z
theorem puts_st : ∀ (locs : List Lo) (obs : List Ob) (en : En) (i : Nat) (s : Ob), locs.length = obs.length → (puts locs obs en).st[i]? = some s → (∃ (k : Nat), locs[k]? = some (Lo.p i) ∧ obs[k]? = some s) ∨ en.st[i]? = some s ∧ Lo.p i ∉ locs
  | [], _, _, i, s, _, h => .inr ⟨h, by simp⟩
  | y :: l, [], en, i, s, hl, h => by simp at hl
  | .p j :: l, o :: os, en, i, s, hl, h => by
    rcases puts_st l os (en.put j o) i s (by simpa using hl) h with ⟨k, h1, h2⟩ | ⟨h1, h2⟩
    · exact .inl ⟨k + 1, by simpa using h1, by simpa using h2⟩
    · have h1 : (en.st.set j o)[i]? = some s := h1
      by_cases e : j = i
      · subst e
        by_cases hj : j < en.st.length
        · rw [List.getElem?_set_self hj] at h1
          exact .inl ⟨0, rfl, h1⟩
        · rw [List.getElem?_eq_none (by simpa using hj)] at h1
          cases h1
      · rw [List.getElem?_set_ne e] at h1
        refine .inr ⟨h1, fun m => ?_⟩
        rcases List.mem_cons.mp m with z | z
        · cases z
          exact e rfl
        · exact h2 z
  | .s j :: l, o :: os, en, i, s, hl, h => by
    rcases puts_st l os (en.set j (some (.own o))) i s (by simpa using hl) h with ⟨k, h1, h2⟩ | ⟨h1, h2⟩
    · exact .inl ⟨k + 1, by simpa using h1, by simpa using h2⟩
    · refine .inr ⟨h1, fun m => ?_⟩
      rcases List.mem_cons.mp m with z | z
      · cases z
      · exact h2 z
theorem paired_mem {α β : Type} {F : α → β → Prop} : ∀ {l₁ : List α} {l₂ : List β}, Paired F l₁ l₂ → ∀ b ∈ l₂, ∃ a ∈ l₁, F a b
  | _, _, .nil, _, h => by cases h
  | _, _, .cons r t, b, h => by
    rcases List.mem_cons.mp h with e | e
    · subst e
      exact ⟨_, List.mem_cons_self, r⟩
    · obtain ⟨a, h1, h2⟩ := paired_mem t b e
      exact ⟨a, List.mem_cons_of_mem _ h1, h2⟩
theorem Rel.call (R : Rel K B F fps en σ H) {locs : List Lo} {ptrs : List (List Addr)} {obs' : List Ob} (L : Paired (Plc B fps en) locs ptrs) (nd : locs.Nodup) (P : Post F H ptrs F' H') (hand : Hand K F' H' ptrs obs') : Rel K B F' fps (puts locs obs' en) σ H' := by
  have hlen : locs.length = obs'.length := L.length.trans hand.lst.symm
  obtain ⟨pl1, pl2⟩ := puts_len locs obs' en
  have inl : ∀ a ∈ ptrs.flatten, ∃ y fp, y ∈ locs ∧ Plc B fps en y fp ∧ a ∈ fp := fun a ha => by
    obtain ⟨fp, h1, h2⟩ := List.mem_flatten.mp ha
    obtain ⟨y, h3, h4⟩ := paired_mem L fp h1
    exact ⟨y, fp, h3, h4, h2⟩
  have keep : ∀ a, a ∈ fps.flatten ++ B.ptrs.flatten → a ∉ ptrs.flatten → H' a = H a := fun a ha hn => by
    cases q : H a with
    | none => exact absurd q (R.live a ha)
    | some o => exact P.keep a o q hn
  have f0 : ∀ a ∈ fps.flatten ++ B.ptrs.flatten, F' a = none := fun a ha => by
    cases q : F' a with
    | none => rfl
    | some o =>
      rcases P.new a o q with z | z
      · rw [R.nof a ha] at z
        cases z
      · exact absurd z (R.live a ha)
  refine ⟨P.fh, ⟨pl1.trans R.len.1, R.len.2⟩, fun i s v fp h1 h2 h3 => ?_, pl2.trans R.lst, fun n o fp h1 h2 => ?_, R.nodup, f0, fun a ha => ?_, R.sub, R.sameF.trans P.f, fun a o q => ?_, R.new, fun a q => R.grow a (P.grow a q), fun a o q n => ?_⟩
  · rcases puts_sl locs obs' en i s hlen h1 with ⟨k, o, q1, q2, rfl⟩ | ⟨q1, q2⟩
    · have hk : k < ptrs.length := by
        have := (List.getElem?_eq_some_iff.mp q2).1
        have := hand.lst
        omega
      have e := paired_get L q1 (List.getElem?_eq_getElem hk)
      obtain ⟨e1, o', e2⟩ := e
      rw [h3] at e1
      have e1 := Option.some.inj e1
      have ro := hand.ro k o _ q2 (List.getElem?_eq_getElem hk)
      rw [← e1] at ro
      obtain ⟨v', fp', g1, g2, g3⟩ := R.at_ e2
      rw [h3] at g2
      cases g2
      rw [h2] at g1
      cases g1
      cases g3 with
      | own _ => exact .own ro
    · refine (R.slot i s v fp q1 h2 h3).mono P.f fun a ha => keep a (List.mem_append_left _ (mem_fp h3 ha)) fun hm => ?_
      obtain ⟨y, fp', hy, hl, ha'⟩ := inl a hm
      cases y with
      | s j => exact apart_ss R.nodup h3 hl.1 (fun z => q2 (by rw [z]; exact hy)) ha ha'
      | p j => exact apart_sp R.nodup h3 hl.1 ha ha'
  · rcases puts_st locs obs' en n o hlen h1 with ⟨k, q1, q2⟩ | ⟨q1, q2⟩
    · have hk : k < ptrs.length := by
        have := (List.getElem?_eq_some_iff.mp q2).1
        have := hand.lst
        omega
      have e := paired_get L q1 (List.getElem?_eq_getElem hk)
      have e1 := e.1
      rw [h2] at e1
      have e1 := Option.some.inj e1
      have ro := hand.ro k o _ q2 (List.getElem?_eq_getElem hk)
      rw [← e1] at ro
      exact ro
    · refine (R.store n o fp q1 h2).mono P.f fun a ha => keep a (List.mem_append_right _ (mem_fp h2 ha)) fun hm => ?_
      obtain ⟨y, fp', hy, hl, ha'⟩ := inl a hm
      cases y with
      | s j => exact apart_sp R.nodup hl.1 h2 ha' ha
      | p j => exact apart_pp R.nodup h2 hl.1 (fun z => q2 (by rw [z]; exact hy)) ha ha'
  · by_cases hm : a ∈ ptrs.flatten
    · exact hand.live a hm
    · rw [keep a ha hm]
      exact R.live a ha
  · rcases P.new a o q with z | z
    · exact R.newF a o z
    · exact .inr (.inl (R.grow a z))
  · by_cases hm : a ∈ ptrs.flatten
    · obtain ⟨y, fp', hy, hl, ha'⟩ := inl a hm
      rcases List.mem_append.mp (loc_mem hl ha') with z | z
      · rcases R.new a z with w | w
        · rw [q] at w
          cases w
        · exact absurd w n
      · exact absurd (R.sub a z) n
    · exact P.keep a o (R.keep a o q n) hm
theorem nodup_ptrs (nd : (fps.flatten ++ B.ptrs.flatten).Nodup) : ∀ {locs : List Lo} {ptrs : List (List Addr)}, Paired (Plc B fps en) locs ptrs → locs.Nodup → ptrs.flatten.Nodup
  | _, _, .nil, _ => by simp
  | _, _, .cons (l₁ := ls) (l₂ := ps) (a := y) (b := fp) r t, h => by
    rw [List.flatten_cons]
    obtain ⟨h1, h2⟩ := List.nodup_cons.mp h
    refine List.nodup_append.mpr ⟨?_, nodup_ptrs nd t h2, fun a ha b hb e => ?_⟩
    · cases y with
      | s i => exact (List.pairwise_flatten.mp (List.nodup_append.mp nd).1).1 fp (List.mem_of_getElem? r.1)
      | p i => exact (List.pairwise_flatten.mp (List.nodup_append.mp nd).2.1).1 fp (List.mem_of_getElem? r.1)
    · subst e
      obtain ⟨l, hl, hal⟩ := List.mem_flatten.mp hb
      obtain ⟨z, hz, hlz⟩ := paired_mem t l hl
      exact apart_loc nd r hlz (fun e => h1 (by rw [e]; exact hz)) ha hal
theorem kp_puts : ∀ (locs : List Lo) (obs : List Ob) (en : En), (∀ i, Lo.s i ∈ locs → ∃ o, en.sl[i]? = some (some (Sl.own o))) → Kp en fps (puts locs obs en) fps
  | [], _, en, _ => .refl
  | .s i :: l, [], en, _ => .refl
  | .p i :: l, [], en, _ => .refl
  | .s i :: l, o :: os, en, h => by
    obtain ⟨o0, h0⟩ := h i List.mem_cons_self
    have hi := (List.getElem?_eq_some_iff.mp h0).1
    have k := kp_puts l os (en.set i (some (.own o))) fun j hj => by
      by_cases e : i = j
      · subst e
        exact ⟨o, by show (en.sl.set i (some (.own o)))[i]? = _; rw [List.getElem?_set_self hi]⟩
      · obtain ⟨o1, h1⟩ := h j (List.mem_cons_of_mem _ hj)
        exact ⟨o1, by show (en.sl.set i (some (.own o)))[j]? = _; rw [List.getElem?_set_ne e]; exact h1⟩
    intro j o1 h1
    obtain ⟨⟨o2, h2⟩, h3⟩ := k j o1 h1
    refine ⟨?_, h3⟩
    have h2 : (en.sl.set i (some (.own o)))[j]? = some (some (Sl.own o2)) := h2
    by_cases e : i = j
    · subst e
      exact ⟨o0, h0⟩
    · rw [List.getElem?_set_ne e] at h2
      exact ⟨o2, h2⟩
  | .p i :: l, o :: os, en, h => kp_puts l os (en.put i o) fun j hj => h j (List.mem_cons_of_mem _ hj)
end
def dCall (dsp : DSp) (t : TDL) : TD := fun en Q => t en fun ys en1 => match pass en1 ys 0 with
  | some (args, obs, locs) => locs.Nodup ∧ dsp args obs fun x obs' => Q (.d x) (puts locs obs' en1)
  | none => False
section
variable {X : Cx} {e : Expr} {es : List Expr} {pos : Pos}
/-- by value: an owned list is taken as a datum -/
def lConsZ (t : TD) (u : TDL) : TDL := fun en Q => t en fun y en1 => match y with
  | .o i => frz (.o i) en1 fun x en2 => u en2 fun ys en3 => Q (.d x :: ys) en3
  | y => u en1 fun ys en2 => Q (y :: ys) en2
theorem dl_consz {t : TD} {u : TDL} (ha : DE X e t) (hr : DL X es u) (hs : starEach (e :: es) X.env = (false, eval e X.env) :: starEach es X.env := by rfl) : DL X (e :: es) (lConsZ t u) :=
  PA.imp (pa_cons ha hr hs) fun σ H Q ⟨B, F, fps, en, Q', R, q, post⟩ => ⟨B, F, fps, en, _, R, q, fun y en1 v1 F1 fps1 H1 q1 R1 s1 k1 r1 => by
    cases y with
    | o i =>
      obtain ⟨x, en2, F2, fps2, q2, R2, s2, k2, rd⟩ := R1.frz r1 q1
      exact ⟨B, F2, fps2, en2, _, R2, q2, fun ys en3 vs F3 fps3 H3 q3 R3 s3 k3 rs => post (.d x :: ys) en3 (v1 :: vs) F3 fps3 H3 q3 R3 (s1.trans (s2.trans s3)) (k1.trans (k2.trans k3)) (.cons (fun _ => .d (rd.mono s3)) rs)⟩
    | d x => exact ⟨B, F1, fps1, en1, _, R1, q1, fun ys en3 vs F3 fps3 H3 q3 R3 s3 k3 rs => post (_ :: ys) en3 (v1 :: vs) F3 fps3 H3 q3 R3 (s1.trans s3) (k1.trans k3) (.cons (RVL.later (fun _ => r1) s3 k3) rs)⟩
    | p x => exact ⟨B, F1, fps1, en1, _, R1, q1, fun ys en3 vs F3 fps3 H3 q3 R3 s3 k3 rs => post (_ :: ys) en3 (v1 :: vs) F3 fps3 H3 q3 R3 (s1.trans s3) (k1.trans k3) (.cons (RVL.later (fun _ => r1) s3 k3) rs)⟩
    | f x => exact ⟨B, F1, fps1, en1, _, R1, q1, fun ys en3 vs F3 fps3 H3 q3 R3 s3 k3 rs => post (_ :: ys) en3 (v1 :: vs) F3 fps3 H3 q3 R3 (s1.trans s3) (k1.trans k3) (.cons (RVL.later (fun _ => r1) s3 k3) rs)⟩⟩
theorem call_read {dsp : DSp} {t : TDL} {σ : L2.St} {H : Hp} {Q : VK} (h : LE X.K (dCall dsp t) σ H Q) : LL X.K t σ H fun xs H1 => LSp X.K dsp xs H1 Q E0 := by
  obtain ⟨B, F, fps, en, Q', R, q, post⟩ := h
  refine ⟨B, F, fps, en, _, R, q, fun ys en1 vs F1 fps1 H1 q1 R1 s1 k1 r1 => ?_⟩
  split at q1
  · rename_i args obs locs hp
    obtain ⟨nd, q1⟩ := q1
    obtain ⟨ptrs, p1, p2, p3, p4⟩ := pass_ok R1 ys vs 0 args obs locs hp r1
    have lm : ∀ a ∈ ptrs.flatten, a ∈ fps1.flatten ++ B.ptrs.flatten := fun a ha => by
      obtain ⟨fp, h1, h2⟩ := List.mem_flatten.mp ha
      obtain ⟨y, h3, h4⟩ := paired_mem p1 fp h1
      exact loc_mem h4 h2
    refine ⟨F1, ptrs, args, obs, _, R1.same, p4 [] rfl, ⟨p2, p3, nodup_ptrs R1.nodup p1 nd, fun a ha => R1.nof a (lm a ha), fun a ha => R1.live a (lm a ha)⟩, q1, fun x obs' v F' H' hq P hd rd => ?_⟩
    refine post (.d x) (puts locs obs' en1) v F' fps1 H' hq (R1.call p1 nd P hd) (s1.trans P.f) (k1.trans (kp_puts locs obs' en1 fun i hi => ?_)) (.d rd)
    obtain ⟨k, hk⟩ := List.getElem?_of_mem hi
    have hk' : k < ptrs.length := by
      have := (List.getElem?_eq_some_iff.mp hk).1
      have := p1.length
      omega
    exact (paired_get p1 hk (List.getElem?_eq_getElem hk')).2
  · exact q1.elim
theorem de_call {dsp : DSp} {t : TDL} {k : Nat} {f : Addr} {fd : FuncData} {ps : List Str} {x : Str} {p : Pos} (F : GFn X.prog X.w X.K X.mg X.base k f fd ps (LSp X.K dsp)) (g : X.A.guards = some []) (hr : Room k X.A) (hg : Gl X x) (hm : X.mg x = some (.ref f)) (hk : PySem.W.keepIn X.K (.ref f) = true) (hb : Binds X.K fd ps [])
    (ha : DL X (e :: es) t) (hdb : (x == ("__debug__" : Str)) = false := by decide) (he : starEach (e :: es) X.env = (false, eval e X.env) :: starEach es X.env := by rfl) (hpl : (backTo pos (starEach es X.env)).any (·.1) = false := by rfl) : DE X (.Call (.Name x p) (e :: es) [] pos) (dCall dsp t) :=
  PE.imp (g_call F g hr hg hm hk hb ha hdb he hpl) fun _ _ _ h => call_read h
end
end DL

/-! DL6: comprehensions by pure data. -/
namespace DL
open PySem PySem.Spec PyProof.Rows L2

/-! ### targets of a comprehension: they touch the slots vs alone -/
def Off (vs : List Nat) (σ σ' : L2.St) : Prop := σ'.length = σ.length ∧ ∀ j : Nat, j ∉ vs → σ'[j]? = σ[j]?
theorem Off.refl {vs : List Nat} {σ : L2.St} : Off vs σ σ := ⟨rfl, fun _ _ => rfl⟩
theorem Off.trans {vs : List Nat} {σ σ1 σ2 : L2.St} (a : Off vs σ σ1) (b : Off vs σ1 σ2) : Off vs σ σ2 := ⟨b.1.trans a.1, fun j h => (b.2 j h).trans (a.2 j h)⟩
theorem wipe_in {σ : L2.St} {j : Nat} : ∀ {vs : List Nat}, j ∈ vs → j < σ.length → (wipe σ vs)[j]? = some none
  | v :: vs, h, hj => by
    unfold wipe
    by_cases e : v = j
    · subst e
      exact List.getElem?_set_self (by rw [wipe_length]; exact hj)
    · rw [List.getElem?_set_ne e]
      rcases List.mem_cons.mp h with z | z
      · exact absurd z.symm e
      · exact wipe_in z hj
theorem Off.wipe {vs : List Nat} {σ σ' : L2.St} (o : Off vs σ σ') : L2.wipe σ' vs = L2.wipe σ vs := by
  refine List.ext_getElem? fun j => ?_
  by_cases h : j ∈ vs
  · by_cases hj : j < σ.length
    · rw [wipe_in h hj, wipe_in h (by rw [o.1]; exact hj)]
    · rw [List.getElem?_eq_none (by rw [wipe_length, o.1]; omega), List.getElem?_eq_none (by rw [wipe_length]; omega)]
  · rw [wipe_out h, wipe_out h]
    exact o.2 j h
def LGc (K : Frg) (vs : List Nat) (g : TDG) : TG := fun v σ H Q => ∃ B F fps en x, ∃ Q' : En → Prop, Rel K B F fps en σ H ∧ RD K F v x ∧ g x en Q' ∧ ∀ en' F' fps' σ' H', Q' en' → Rel K B F' fps' en' σ' H' → Off vs σ σ' → Kp en fps en' fps' → Q σ' H'
abbrev CG (X : Cx) (vs : List Nat) (tg : Expr) (g : TDG) : Prop := PG X tg (LGc X.K vs g)
def LGcs (K : Frg) (vs : List Nat) (g : TDGs) : TGs := fun ws σ H Q => ∃ B F fps en xs, ∃ Q' : En → Prop, Rel K B F fps en σ H ∧ RDs K F ws xs ∧ g xs en Q' ∧ ∀ en' F' fps' σ' H', Q' en' → Rel K B F' fps' en' σ' H' → Off vs σ σ' → Kp en fps en' fps' → Q σ' H'
abbrev CGs (X : Cx) (vs : List Nat) (tgs : List Expr) (g : TDGs) : Prop := PGs X tgs (LGcs X.K vs g)
section
variable {X : Cx} {pos : Pos} {vs : List Nat}
theorem cg_name {i : Nat} {x : Str} (hv : i ∈ vs) (hN : X.N.Nodup) (hi : X.N[i]? = some x) (hx : Loc X.env.scope x) (hf : X.fn x = true ∨ X.env.scope.names.lookup x = some .local := by first | exact .inl rfl | exact .inr rfl | assumption) : CG X vs (.Name x pos) (gN i) :=
  PG.imp (pg_name hN hi hx hf) fun v σ H Q ⟨B, F, fps, en, x, Q', R, rd, q, post⟩ => post _ F _ _ H q (R.put (.d rd)) ⟨List.length_set, fun j hj => List.getElem?_set_ne fun e => hj (by rw [← e]; exact hv)⟩ (kp_set fun o z => by cases z)
theorem cgs_nil : CGs X vs [] gNil' := PGs.imp pgs_nil fun v σ H Q ⟨B, F, fps, en, x, Q', R, rd, q, post⟩ => by
  obtain ⟨rfl, q⟩ := q
  cases rd
  exact ⟨rfl, post _ F _ _ H q R .refl .refl⟩
theorem cgs_cons {e : Expr} {es : List Expr} {g : TDG} {gs : TDGs} (h1 : CG X vs e g) (h2 : CGs X vs es gs)
    (hs : (assignEach (e :: es) X.env).map (·.2) = assign e X.env :: (assignEach es X.env).map (·.2) := by rfl) : CGs X vs (e :: es) (gCons' g gs) :=
  PGs.imp (pgs_cons h1 h2 hs) fun ws σ H Q ⟨B, F, fps, en, xs, Q', R, rd, q, post⟩ => by
    cases rd with
    | nil => exact q.elim
    | cons h t =>
      refine ⟨_, _, rfl, B.from F H fps, F, fps, en, _, _, R.rebase, h, q, fun en1 F1 fps1 σ1 H1 q1 R1 o1 k1 => ⟨B, F1, fps1, en1, _, Q', R.back R1, t.mono R1.sameF, q1, fun en' F' fps' σ' H' h' R' o' k' => post en' F' fps' σ' H' h' R' (o1.trans o') (k1.trans k')⟩⟩
theorem cg_tup {es : List Expr} {k : Nat} {gs : TDGs} {n : Nat} (hc : X.calm = true) (h : CGs X vs es gs)
    (hn : (assignEach es X.env).length = n := by rfl) (hst : (assignEach es X.env).findIdx? (·.1) = none := by rfl) : CG X vs (.Tuple es k pos) (gTup' n gs) :=
  PG.imp (pg_tup hc h hn hst) fun v σ H Q ⟨B, F, fps, en, x, Q', R, rd, q, post⟩ => by
    unfold gTup' at q
    split at q
    · obtain ⟨hl, q⟩ := q
      cases rd with
      | tup h1 h2 h3 => exact ⟨_, _, rfl, seqT R.same h1, h3.length.trans hl, B, F, fps, en, _, Q', R, h3, q, post⟩
    · exact q.elim
end

/-! ### slots forgotten and got back -/
def wipeE : List Nat → En → En
  | [], en => en
  | v :: vs, en => (wipeE vs en).set v none
def wipeF : List Nat → List (List Addr) → List (List Addr)
  | [], fps => fps
  | v :: vs, fps => (wipeF vs fps).set v []
def restE (en0 : En) : List Nat → En → En
  | [], en => en
  | v :: vs, en => match en0.sl[v]? with
    | some s => (restE en0 vs en).set v s
    | none => restE en0 vs en
def nOwn (en : En) : List Nat → Prop
  | [] => True
  | v :: vs => (match en.sl[v]? with
    | some (some (.own _)) => False
    | _ => True) ∧ nOwn en vs
section
variable {K : Frg} {B : Base} {F H F' H' : Hp} {fps fps' : List (List Addr)} {en en' en0 : En} {σ : L2.St} {vs : List Nat}
theorem Rel.drop' (R : Rel K B F fps en σ H) (i : Nat) : Rel K B F (fps.set i []) (en.set i none) (σ.set i none) H := by
  have R0 := R.drop i
  refine ⟨R0.same, by simpa [En.set] using R.len, fun j s v fp h1 h2 h3 => ?_, R0.lst, R0.store, R0.nodup, R0.nof, R0.live, R0.sub, R0.sameF, R0.newF, R0.new, R0.grow, R0.keep⟩
  by_cases e : i = j
  · subst e
    have h1 : (en.sl.set i none)[i]? = some s := h1
    by_cases hi : i < en.sl.length
    · rw [List.getElem?_set_self hi] at h1
      rw [List.getElem?_set_self (by have := R.len; omega)] at h3
      cases h1
      cases h3
      exact .none
    · rw [List.getElem?_eq_none (by simpa using hi)] at h1
      cases h1
  · rw [List.getElem?_set_ne e] at h2
    exact R0.slot j s v fp h1 h2 h3
theorem Rel.wipe (R : Rel K B F fps en σ H) : ∀ vs : List Nat, Rel K B F (wipeF vs fps) (wipeE vs en) (L2.wipe σ vs) H
  | [] => R
  | v :: vs => (Rel.wipe R vs).drop' v
/-- a slot that owns nothing gets what it held -/
theorem Rel.putS (R : Rel K B F fps en σ H) {i : Nat} {s : Option Sl} {v : Option V} (r : RS K F H B.ptrs s v []) : Rel K B F (fps.set i []) (en.set i s) (σ.set i v) H := by
  cases r with
  | none =>
    have R0 := R.drop' i
    refine ⟨R0.same, by simpa [En.set] using R.len, fun j s' v' fp h1 h2 h3 => ?_, R0.lst, R0.store, R0.nodup, R0.nof, R0.live, R0.sub, R0.sameF, R0.newF, R0.new, R0.grow, R0.keep⟩
    by_cases e : i = j
    · subst e
      have h1 : (en.sl.set i none)[i]? = some s' := h1
      by_cases hi : i < en.sl.length
      · rw [List.getElem?_set_self hi] at h1
        rw [List.getElem?_set_self (by have := R.len; omega)] at h3
        cases h1
        cases h3
        exact .none
      · rw [List.getElem?_eq_none (by simpa using hi)] at h1
        cases h1
    · have h1 : (en.sl.set i none)[j]? = some s' := h1
      rw [List.getElem?_set_ne e] at h1 h2 h3
      exact R.slot j s' v' fp h1 h2 h3
  | d h => exact R.put (.d h)
  | p h => exact R.put (.p h)
  | f => exact R.put .f
theorem nOwn_at : ∀ {vs : List Nat}, nOwn en vs → ∀ i ∈ vs, ∀ o, en.sl[i]? ≠ some (some (Sl.own o))
  | v :: vs, h, i, hi, o, e => by
    obtain ⟨h1, h2⟩ := h
    rcases List.mem_cons.mp hi with z | z
    · subst z
      rw [e] at h1
      exact h1
    · exact nOwn_at h2 i z o e
/-- behind the block: the slots as they were -/
theorem Rel.rest {B0 : Base} {F0 H0 : Hp} {fps0 : List (List Addr)} {σ0 : L2.St} (R0 : Rel K B0 F0 fps0 en0 σ0 H0) (hp : B.ptrs = B0.ptrs) (s : Same F0 F) : ∀ (vs : List Nat) (σ : L2.St) (en : En) (fps : List (List Addr)), Rel K B F fps en σ H → nOwn en0 vs → σ.length = σ0.length →
    ∃ (fps' : List (List Addr)) (σ' : L2.St), Rel K B F fps' (restE en0 vs en) σ' H ∧ σ'.length = σ0.length ∧ (∀ j : Nat, σ'[j]? = if j ∈ vs then σ0[j]? else σ[j]?) ∧ (∀ j : Nat, (restE en0 vs en).sl[j]? = if j ∈ vs then en0.sl[j]? else en.sl[j]?) ∧ (∀ j : Nat, j ∉ vs → fps'[j]? = fps[j]?) ∧ ∀ a ∈ fps'.flatten, a ∈ fps.flatten
  | [], σ, en, fps, R, _, hl => ⟨fps, σ, R, hl, fun j => by simp, fun j => by simp [restE], fun j _ => rfl, fun _ h => h⟩
  | v :: vs, σ, en, fps, R, hn, hl => by
    obtain ⟨fps1, σ1, R1, l1, g1, g2, g3, g4⟩ := Rel.rest R0 hp s vs σ en fps R hn.2 hl
    have ll := R1.len
    have l0 := R0.len
    have lr := R.len
    unfold restE
    cases hv : en0.sl[v]? with
    | none =>
      have hlen := (List.getElem?_eq_none_iff.mp hv)
      have h0 : σ0[v]? = none := List.getElem?_eq_none (by omega)
      refine ⟨fps1, σ1, R1, l1, fun j => ?_, fun j => ?_, fun j hj => g3 j fun z => hj (List.mem_cons_of_mem _ z), g4⟩
      · rw [g1 j]
        by_cases e : j = v
        · subst e
          have h1 : σ[j]? = none := List.getElem?_eq_none (by omega)
          simp [h0, h1]
        · simp [e]
      · show (restE en0 vs en).sl[j]? = _
        rw [g2 j]
        by_cases e : j = v
        · subst e
          have h1 : en.sl[j]? = none := List.getElem?_eq_none (by omega)
          simp [hv, h1]
        · simp [e]
    | some sv =>
      have hlt := (List.getElem?_eq_some_iff.mp hv).1
      have hσ : v < σ0.length := by omega
      have hf : v < fps0.length := by omega
      have rs := R0.slot v sv _ _ hv (List.getElem?_eq_getElem hσ) (List.getElem?_eq_getElem hf)
      have rs' : RS K F H B.ptrs sv σ0[v] [] := by
        rw [hp]
        generalize σ0[v] = w at rs
        generalize fps0[v] = fpv at rs
        cases rs with
        | none => exact .none
        | d h => exact .d (h.mono s)
        | p h => exact .p h
        | f => exact .f
        | own h => exact absurd hv (nOwn_at hn v List.mem_cons_self _)
      refine ⟨fps1.set v [], σ1.set v σ0[v], R1.putS rs', by simpa using l1, fun j => ?_, fun j => ?_, fun j hj => ?_, fun a ha => g4 a (mem_set_nil ha)⟩
      · by_cases e : v = j
        · subst e
          rw [List.getElem?_set_self (by omega)]
          simp [List.getElem?_eq_getElem hσ]
        · rw [List.getElem?_set_ne e, g1 j]
          simp [Ne.symm e]
      · show ((restE en0 vs en).sl.set v sv)[j]? = _
        by_cases e : v = j
        · subst e
          rw [List.getElem?_set_self (by omega)]
          simp [hv]
        · rw [List.getElem?_set_ne e, g2 j]
          simp [Ne.symm e]
      · have e : v ≠ j := fun z => hj (by rw [z]; exact List.mem_cons_self)
        rw [List.getElem?_set_ne e]
        exact g3 j fun z => hj (List.mem_cons_of_mem _ z)
theorem wipeE_out {j : Nat} : ∀ {vs : List Nat}, j ∉ vs → (wipeE vs en).sl[j]? = en.sl[j]?
  | [], _ => rfl
  | v :: vs, h => by
    show ((wipeE vs en).sl.set v none)[j]? = _
    rw [List.getElem?_set_ne (fun e => h (by rw [e]; exact List.mem_cons_self))]
    exact wipeE_out fun z => h (List.mem_cons_of_mem _ z)
theorem wipeF_out {j : Nat} : ∀ {vs : List Nat}, j ∉ vs → (wipeF vs fps)[j]? = fps[j]?
  | [], _ => rfl
  | v :: vs, h => by
    show ((wipeF vs fps).set v [])[j]? = _
    rw [List.getElem?_set_ne (fun e => h (by rw [e]; exact List.mem_cons_self))]
    exact wipeF_out fun z => h (List.mem_cons_of_mem _ z)
theorem wipeE_in {j : Nat} {s : Option Sl} : ∀ {vs : List Nat}, j ∈ vs → (wipeE vs en).sl[j]? = some s → s = none
  | v :: vs, h, e => by
    have e : ((wipeE vs en).sl.set v none)[j]? = some s := e
    by_cases q : v = j
    · subst q
      by_cases hl : v < (wipeE vs en).sl.length
      · rw [List.getElem?_set_self hl] at e
        exact (Option.some.inj e).symm
      · rw [List.getElem?_eq_none (by simpa using hl)] at e
        cases e
    · rw [List.getElem?_set_ne q] at e
      rcases List.mem_cons.mp h with z | z
      · exact absurd z.symm q
      · exact wipeE_in z e
end

/-! ### the block's turns -/
def cmpL (vs : List Nat) (g : TDG) (tt : TDT) (te : TD) : List PyData → List PyData → En → (List PyData → En → Prop) → Prop
  | [], acc, en, Q => Q acc en
  | x :: xs, acc, en, Q => g x en fun en1 => tt en1 fun b en2 => if b = true then te en2 fun y en3 => frz y en3 fun d en4 => cmpL vs g tt te xs (acc ++ [d]) (wipeE vs en4) Q else cmpL vs g tt te xs acc (wipeE vs en2) Q
def dLc (ti : TDI) (vs : List Nat) (g : TDG) (tt : TDT) (te : TD) : TDF := fun en Q => ti en fun xs en1 => nOwn en1 vs ∧ cmpL vs g tt te xs [] (wipeE vs en1) fun acc en2 => Q (.lst acc) (restE en1 vs en2)
def LTs (K : Frg) (t : TDT) : TT := LT K t
def dYes : TDT := fun en Q => Q true en
abbrev DTs (X : Cx) (ifs : List Expr) (t : TDT) : Prop := PTs X ifs (LT X.K t)
section
variable {X : Cx}
theorem dts_nil : DTs X [] dYes := ⟨fun pins s σ H Q I ⟨B, F, fps, en, Q', R, q, post⟩ => pts_nil.run pins s σ H Q I (post true en F fps H q R (.refl _) .refl)⟩
theorem dts_one {c : Expr} {t : TDT} (h : DT X c t) : DTs X [c] t := pts_one h
/-- the state within the block: the list so far at D -/
def Blk (K : Frg) (B : Base) (D : Addr) (σ : L2.St) (acc : List PyData) (en : En) (H : Hp) : Prop :=
  ∃ F fps, Rel K B F fps en σ H ∧ Fr K B F H fps (.ref D) (.lst acc) [D]
theorem Fr.wipe {K : Frg} {B : Base} {F H : Hp} {fps : List (List Addr)} {v : V} {o : Ob} {fp : List Addr} (f : Fr K B F H fps v o fp) : ∀ vs : List Nat, Fr K B F H (wipeF vs fps) v o fp
  | [] => f
  | i :: vs => by
    obtain ⟨at_, ob, nd, nof, out, new⟩ := Fr.wipe f vs
    refine ⟨at_, ob, nd, nof, fun a ha z => out a ha ?_, new⟩
    rcases List.mem_append.mp z with z | z
    · exact List.mem_append_left _ (mem_set_nil z)
    · exact List.mem_append_right _ z
theorem Fr.ext {K : Frg} {B : Base} {F H F' H' : Hp} {fps : List (List Addr)} {v : V} {o : Ob} {fp : List Addr} (f : Fr K B F H fps v o fp) (e : Ext F H F' H') : Fr K B F' H' fps v o fp := by
  obtain ⟨at_, ob, nd, nof, out, new⟩ := f
  refine ⟨at_, ob.mono e.f fun a ha => ?_, nd, fun a ha => ?_, out, new⟩
  · cases q : H a with
    | none => exact absurd q (ro_live ob a ha)
    | some u => exact e.h a u q
  · cases q : F' a with
    | none => rfl
    | some u =>
      rcases e.new a u q with z | z
      · rw [nof a ha] at z
        cases z
      · exact absurd z (ro_live ob a ha)
theorem Fr.frz {K : Frg} {B : Base} {F H F' : Hp} {fps fps' : List (List Addr)} {en en' : En} {σ σ' : L2.St} {v : V} {o : Ob} {fp : List Addr} (R : Rel K B F fps en σ H) (f : Fr K B F H fps v o fp) (R' : Rel K (B.from F H fps) F' fps' en' σ' H) : Fr K B F' H fps' v o fp := Fr.after R f R'
/-- one more item -/
theorem Blk.add {K : Frg} {B : Base} {F H : Hp} {fps : List (List Addr)} {en : En} {σ : L2.St} {D : Addr} {acc : List PyData} {v : V} {d : PyData} (R : Rel K B F fps en σ H) (f : Fr K B F H fps (.ref D) (.lst acc) [D]) (hl : acc.length < sizeLine) (rd : RD K F v d) :
    ∃ va, H D = some (.lst va) ∧ va.length < sizeLine ∧ Rel K B F fps en σ (upd H D (.lst (va ++ [v]))) ∧ Fr K B F (upd H D (.lst (va ++ [v]))) fps (.ref D) (.lst (acc ++ [d])) [D] := by
  obtain ⟨at_, ob, nd, nof, out, new⟩ := f
  cases ob with
  | lst h l r =>
    rename_i va
    have hl' : va.length < sizeLine := by rw [r.length]; exact hl
    have hD := out D (by simp)
    have kf : ∀ a ∈ fps.flatten ++ B.ptrs.flatten, (upd H D (.lst (va ++ [v]))) a = H a := fun a ha => upd_ne fun e => hD (by rw [← e]; exact ha)
    have sF : Same F (upd H D (.lst (va ++ [v]))) := fun a o q => by
      rw [upd_ne (fun e => ?_)]
      · exact R.same a o q
      · rw [e, nof D (by simp)] at q
        cases q
    refine ⟨va, h, hl', ⟨sF, R.len, fun i s w fp h1 h2 h3 => (R.slot i s w fp h1 h2 h3).mono (.refl _) fun a ha => kf a (List.mem_append_left _ (mem_fp h3 ha)), R.lst, fun n o fp h1 h2 => (R.store n o fp h1 h2).mono (.refl _) fun a ha => kf a (List.mem_append_right _ (mem_fp h2 ha)), R.nodup, R.nof, fun a ha => by rw [kf a ha]; exact R.live a ha, R.sub, R.sameF, R.newF, R.new, fun a q => ?_, fun a o q n => ?_⟩, at_, .lst upd_same (by simp; omega) (r.snoc rd), nd, nof, out, new⟩
    · by_cases e : a = D
      · rw [e, upd_same] at q
        cases q
      · rw [upd_ne e] at q
        exact R.grow a q
    · rw [upd_ne (fun e => ?_)]
      · exact R.keep a o q n
      · have := new D (by simp)
        rw [e, this] at q
        cases q
theorem kp_wipe {en : En} {fps : List (List Addr)} {vs : List Nat} : Kp en fps (wipeE vs en) (wipeF vs fps) := fun i o h => by
  by_cases e : i ∈ vs
  · exact nomatch wipeE_in e h
  · rw [wipeE_out e] at h
    exact ⟨⟨o, h⟩, wipeF_out e⟩
theorem wipe_wipe {σ : L2.St} {vs : List Nat} : Off vs σ (L2.wipe σ vs) := ⟨wipe_length σ vs, fun j h => wipe_out h⟩
/-- the state within the block, with the list so far -/
def Tn (K : Frg) (B1 : Base) (D : Addr) (en0 : En) (fps0 : List (List Addr)) (σ : L2.St) (i : Nat) (G : List PyData → En → Prop) (H : Hp) : Prop :=
  ∃ F fps en acc, Rel K B1 F fps en σ H ∧ Fr K B1 F H fps (.ref D) (.lst acc) [D] ∧ acc.length ≤ i ∧ Kp en0 fps0 en fps ∧ G acc en
theorem lc_read {K : Frg} {ti : TDI} {vs : List Nat} {g : TDG} {tt : TDT} {te : TD} {σ : L2.St} {H : Hp} {Q : VK} (h : LF K (dLc ti vs g tt te) σ H Q) : tLc (LI K ti) (LGc K vs g) (LT K tt) (LE K te) vs σ H Q := by
  obtain ⟨B, F, fps, en, Q', R, q, post⟩ := h
  refine ⟨B, F, fps, en, _, R, q, fun xs en1 F1 fps1 H1 J q1 R1 s1 k1 wk D hD => ?_⟩
  obtain ⟨no, q1⟩ := q1
  have Rw := R1.rebase.wipe vs
  obtain ⟨Rw2, f0⟩ := Rw.fresh (p := D) (ob := .lst []) (o := .lst []) hD (.lst upd_same (Nat.zero_le _) .nil)
  refine ⟨fun i m H => m = xs.length - i ∧ i ≤ xs.length ∧ Tn K (B.from F1 H1 fps1) D (wipeE vs en1) (wipeF vs fps1) (L2.wipe σ vs) i (fun acc en2 => cmpL vs g tt te (xs.drop i) acc en2 fun acc en3 => Q' (.lst acc) (restE en1 vs en3)) H,
    ⟨_, rfl, Nat.zero_le _, _, _, _, [], Rw2, f0, Nat.le_refl _, .refl, q1⟩, ?_⟩
  rintro i m H2 ⟨rfl, hi, F2, fps2, en2, acc, R2, f2, hacc, k2, q2⟩
  by_cases hlt : i < xs.length
  · refine .inr ⟨wk.go F2 H2 i R2.sameF R2.same hlt, Tn K (B.from F1 H1 fps1) D (wipeE vs en1) (wipeF vs fps1) (L2.wipe σ vs) (i + 1) (fun acc en2 => cmpL vs g tt te (xs.drop (i + 1)) acc en2 fun acc en3 => Q' (.lst acc) (restE en1 vs en3)), fun H' h' => ⟨xs.length - (i + 1), by omega, rfl, hlt, h'⟩, fun v H3 hy => ?_⟩
    obtain ⟨F3, e3, rd⟩ := wk.yld F2 H2 i v H3 xs[i] R2.sameF R2.same hy (List.getElem?_eq_getElem hlt)
    rw [List.drop_eq_getElem_cons hlt] at q2
    have R3 := R2.ext e3
    have f3 := Fr.ext f2 e3
    refine ⟨_, F3, fps2, en2, xs[i], _, R3.rebase, rd, q2, fun en4 F4 fps4 σ4 H4 q4 R4 o4 k4 => ?_⟩
    have ew : L2.wipe σ4 vs = L2.wipe σ vs := by
      rw [o4.wipe]
      exact wipe_wipe.wipe
    refine ⟨ew, ?_⟩
    have f4 := Fr.after R3 f3 R4
    have R4 := R3.back R4
    refine ⟨_, F4, fps4, en4, _, R4.rebase, q4, fun b en5 F5 fps5 H5 q5 R5 s5 k5 => ?_⟩
    have f5 := Fr.after R4 f4 R5
    have R5 := R4.back R5
    cases b with
    | false =>
      refine ⟨F5, wipeF vs fps5, wipeE vs en5, acc, ?_, Fr.wipe f5 vs, by omega, k2.trans (k4.trans (k5.trans kp_wipe)), q5⟩
      rw [← ew]
      exact R5.wipe vs
    | true =>
      refine ⟨_, F5, fps5, en5, _, R5.rebase, q5, fun y en6 w F6 fps6 H6 q6 R6 s6 k6 r6 => ?_⟩
      have f6 := Fr.after R5 f5 R6
      have R6 := R5.back R6
      obtain ⟨d, en7, F7, fps7, q7, R7, s7, k7, rd7⟩ := R6.rebase.frz r6 q6
      have f7 := Fr.after R6 f6 R7
      have R7 := R6.back R7
      have hz := wk.sz
      obtain ⟨va, g1, g2, R8, f8⟩ := Blk.add R7 f7 (by omega) rd7
      refine ⟨va, g1, g2, F7, wipeF vs fps7, wipeE vs en7, acc ++ [d], ?_, Fr.wipe f8 vs, by simp; omega, k2.trans (k4.trans (k5.trans (k6.trans (k7.trans kp_wipe)))), q7⟩
      rw [← ew]
      exact R8.wipe vs
  · have e : i = xs.length := by omega
    subst e
    refine .inl ⟨wk.stop F2 H2 _ R2.sameF R2.same (Nat.le_refl _), ?_⟩
    rw [List.drop_eq_nil_of_le (Nat.le_refl _)] at q2
    obtain ⟨fps', σ', R', hl', g1, g2, g3, g4⟩ := Rel.rest R1 (show (B.from F1 H1 fps1).ptrs = B.ptrs from rfl) R2.sameF vs _ _ _ R2 no (wipe_length σ vs)
    have eσ : σ' = σ := List.ext_getElem? fun j => by
      rw [g1 j]
      by_cases e : j ∈ vs
      · rw [if_pos e]
      · rw [if_neg e, wipe_out e]
    subst eσ
    have R'' := R1.back R'
    obtain ⟨at_, ob, nd, nof, out, new⟩ := Fr.back R1 f2
    refine post (.lst acc) (restE en1 vs en2) (.ref D) [D] F2 fps' H2 q2 R'' (s1.trans R2.sameF) (k1.trans fun j o h => ?_) ⟨at_, ob, nd, nof, fun a ha z => out a ha ?_, new⟩
    · rw [g2 j] at h
      by_cases e : j ∈ vs
      · rw [if_pos e] at h
        exact absurd h (nOwn_at no j e o)
      · rw [if_neg e] at h
        obtain ⟨h1, h2⟩ := k2 j o h
        rw [wipeE_out e] at h1
        rw [wipeF_out e] at h2
        exact ⟨h1, (g3 j e).trans h2⟩
    · rcases List.mem_append.mp z with z | z
      · exact List.mem_append_left _ (g4 a z)
      · exact List.mem_append_right _ z
theorem df_lc {elt tg iter : Expr} {ifs : List Expr} {scope : Scope} {own : List (Str × Nat)} {pos : Pos} {ti : TDI} {g : TDG} {tt : TDT} {te : TD} (hc : X.calm = true) (hN : X.N.Nodup) (hi : DI X tg iter ti) (ok : BlkOk X.N X.env.scope scope own)
    (hg : ∀ (s : Shared) (H : Hp) (C : Addr) (cl : List (Str × Addr)) (fp : List Addr), CG (X.blk s H scope (compEnvC scope cl C X.env) fp) (own.map (·.2)) tg g) (ht : ∀ (s : Shared) (H : Hp) (C : Addr) (cl : List (Str × Addr)) (fp : List Addr), DTs (X.blk s H scope (compEnvC scope cl C X.env) fp) ifs tt)
    (he : ∀ (s : Shared) (H : Hp) (C : Addr) (cl : List (Str × Addr)) (fp : List Addr), DE (X.blk s H scope (compEnvC scope cl C X.env) fp) elt te) (hs : ∀ x, foldedSetIterable iter X.env x = pure x := by intro _; rfl) :
    DF X (.ListComp elt [⟨tg, iter, ifs, 0⟩] scope pos) (dLc ti (own.map (·.2)) g tt te) :=
  PE.imp (pe_lc hc hN hi ok hg ht he hs) fun _ _ _ h => lc_read h
theorem ds_setLc {i : Nat} {y : Str} {py : Pos} {elt tg iter : Expr} {ifs : List Expr} {scope : Scope} {own : List (Str × Nat)} {pos spos : Pos} {ti : TDI} {g : TDG} {tt : TDT} {te : TD} (hc : X.calm = true) (hN : X.N.Nodup) (hy : X.N[i]? = some y) (hyl : X.env.scope.names.lookup y = some .local)
    (hsw : swapsWith (.ListComp elt [⟨tg, iter, ifs, 0⟩] scope pos) (some (.Name y py)) spos.line X.env = pure true) (hi : DI X tg iter ti) (ok : BlkOk X.N X.env.scope scope own)
    (hg : ∀ (s : Shared) (H : Hp) (C : Addr) (cl : List (Str × Addr)) (fp : List Addr), CG (X.blk s H scope (compEnvC scope cl C X.env) fp) (own.map (·.2)) tg g) (ht : ∀ (s : Shared) (H : Hp) (C : Addr) (cl : List (Str × Addr)) (fp : List Addr), DTs (X.blk s H scope (compEnvC scope cl C X.env) fp) ifs tt)
    (he : ∀ (s : Shared) (H : Hp) (C : Addr) (cl : List (Str × Addr)) (fp : List Addr), DE (X.blk s H scope (compEnvC scope cl C X.env) fp) elt te) (hs : ∀ x, foldedSetIterable iter X.env x = pure x := by intro _; rfl) :
    DS X (.Assign [.Name y py] (.ListComp elt [⟨tg, iter, ifs, 0⟩] scope pos) spos) (dSetF i (dLc ti (own.map (·.2)) g tt te)) :=
  PS.imp (ps_setLc hc hN hy hyl hsw hi ok hg ht he hs) fun D σ H ⟨B, F, fps, en, D', R, q, l⟩ => lc_read ⟨B, F, fps, en, _, R, q, fun o en' v fp F' fps' H' h R' s k f => l.nx _ F' _ _ H' h (R'.own f)⟩
end
end DL

/-! DL7: operators, built-ins, subscripts, methods on data. -/
namespace DL
open PySem PySem.Spec PyProof.Rows L2

/-! ### arithmetic -/
abbrev Big (n : Nat) : Prop := n ≤ 16777216
theorem big_line {n : Nat} (h : Big n) : n ≤ sizeLine := by
  rw [sizeLine_eq]
  exact h
def fAdd : F2
  | .int i, .int j, k => k (.int (i + j))
  | .list xs, .list ys, k => Big (xs.length + ys.length) ∧ k (.list (xs ++ ys))
  | .tuple xs, .tuple ys, k => Big (xs.length + ys.length) ∧ k (.tuple (xs ++ ys))
  | _, _, _ => False
def fSub : F2
  | .int i, .int j, k => k (.int (i - j))
  | _, _, _ => False
abbrev Sm (i j : Int) : Prop := (-(2 ^ 64) < i ∧ i < 2 ^ 64) ∨ (-(2 ^ 64) < j ∧ j < 2 ^ 64)
def fMul : F2
  | .int i, .int j, k => Sm i j ∧ k (.int (i * j))
  | _, _, _ => False
def fRep : F2
  | .list xs, .int n, k => (-1000000 ≤ n ∧ n ≤ 16777216 ∧ Big (xs.length * n.toNat)) ∧ k (.list (List.replicate n.toNat xs).flatten)
  | _, _, _ => False
def fDiv : F2
  | .int i, .int j, k => (0 < j ∧ j < 1073741824) ∧ k (.int (i / j))
  | _, _, _ => False
def fMod : F2
  | .int i, .int j, k => 0 < j ∧ k (.int (i % j))
  | _, _, _ => False
def fShl : F2
  | .int i, .int j, k => (0 ≤ j ∧ j ≤ 1000000 ∧ i.natAbs < 2 ^ 64) ∧ k (.int (i * 2 ^ j.toNat))
  | _, _, _ => False
section
variable {K : Frg}
theorem rd_laid {F H : Hp} {p : Addr} {vs : List V} {xs : List PyData} (s : Same F H) (h : H p = none) (l : vs.length ≤ sizeLine) (r : RDs K F vs xs) : RD K (upd F p (.lst vs)) (.ref p) (.list xs) :=
  .lst upd_same l (r.mono (same_upd (s.free h)))
theorem rd_laidT {F H : Hp} {p : Addr} {vs : List V} {xs : List PyData} (s : Same F H) (h : H p = none) (l : vs.length ≤ sizeLine) (r : RDs K F vs xs) : RD K (upd F p (.tup vs)) (.ref p) (.tuple xs) :=
  .tup (.inl (.inl upd_same)) l (r.mono (same_upd (s.free h)))
theorem RC.rdT {F H : Hp} {v : V} {xs : List PyData} (h : RC K F H v (.tuple xs)) : RD K F v (.tuple xs) := by
  cases h with
  | d h => exact h
theorem rd_nil {F : Hp} {a : Addr} {xs : List PyData} {vs : List V} (h : RDs K F vs xs) : vs = [] ↔ xs = [] := by
  cases h with
  | nil => simp
  | cons _ _ => simp
abbrev rAddA (K : Frg) : R2 := fun x y H Q => rI0 (fun i j => .int (i + j)) x y H Q ∨ rCat x y H Q ∨ rCatA K x y H Q
theorem op_addA {X : Cx} : OpR X (binaryOp .Add) (rAddA X.K) := op_add.or (op_cat.or op_catA)
theorem oAdd : OpD K (rAddA K) fAdd := ⟨fun F H x y dx dy Q k s hx hy hf post => by
  unfold fAdd at hf
  split at hf
  · rw [hx.int, hy.int]
    exact .inl ⟨_, _, rfl, rfl, post _ _ F H hf (.refl s) (.int _)⟩
  · obtain ⟨hl, hf⟩ := hf
    obtain ⟨a, vs, rfl, h1, h2, h3⟩ := hx.list s
    obtain ⟨b, ws, rfl, g1, g2, g3⟩ := hy.list s
    have hlen : vs.length + ws.length ≤ sizeLine := by rw [h3.length, g3.length]; exact big_line hl
    exact .inr (.inl ⟨a, b, vs, ws, rfl, rfl, h1, g1, hlen, fun p hp => post _ _ _ _ hf (.laid s hp) (rd_laid s hp (by rw [List.length_append]; exact hlen) (h3.append g3))⟩)
  · obtain ⟨hl, hf⟩ := hf
    obtain ⟨a, vs, rfl, h1, h2, h3⟩ := hx.tuple s
    obtain ⟨b, ws, rfl, g1, g2, g3⟩ := hy.tuple s
    have hlen : vs.length + ws.length ≤ sizeLine := by rw [h3.length, g3.length]; exact big_line hl
    refine .inr (.inr ⟨a, b, vs, ws, rfl, rfl, h1, g1, hlen, fun e => ?_, fun _ e => ?_, fun _ _ p hp => post _ _ _ _ hf (.laid s hp) (rd_laidT s hp (by rw [List.length_append]; exact hlen) (h3.append g3))⟩)
    · subst e
      cases h3
      exact post _ _ F H hf (.refl s) hy.rdT
    · subst e
      cases g3
      rw [List.append_nil] at hf
      exact post _ _ F H hf (.refl s) hx.rdT
  · exact hf.elim⟩
theorem oI {C : Int → Int → Prop} {g : Int → Int → Int} {f : F2} (h : ∀ x y k, f x y k → ∃ i j, x = .int i ∧ y = .int j ∧ C i j ∧ k (.int (g i j))) : OpD K (rI C fun i j => .int (g i j)) f := ⟨fun F H x y dx dy Q k s hx hy hf post => by
  obtain ⟨i, j, rfl, rfl, c, q⟩ := h _ _ _ hf
  rw [hx.int, hy.int]
  exact ⟨_, _, rfl, rfl, c, post _ _ F H q (.refl s) (.int _)⟩⟩
theorem oSub : OpD K (rI0 fun i j => .int (i - j)) fSub := ⟨fun F H x y dx dy Q k s hx hy hf post => by
  unfold fSub at hf
  split at hf
  · rw [hx.int, hy.int]
    exact ⟨_, _, rfl, rfl, post _ _ F H hf (.refl s) (.int _)⟩
  · exact hf.elim⟩
theorem oMul : OpD K (rI CMul fun i j => .int (i * j)) fMul := oI fun x y k h => by
  unfold fMul at h
  split at h
  · exact ⟨_, _, rfl, rfl, h.1, h.2⟩
  · exact h.elim
theorem oDiv : OpD K (rI CDiv fun i j => .int (i / j)) fDiv := oI fun x y k h => by
  unfold fDiv at h
  split at h
  · exact ⟨_, _, rfl, rfl, h.1, h.2⟩
  · exact h.elim
theorem oMod : OpD K (rI (fun _ j => 0 < j) fun i j => .int (i % j)) fMod := oI fun x y k h => by
  unfold fMod at h
  split at h
  · exact ⟨_, _, rfl, rfl, h.1, h.2⟩
  · exact h.elim
theorem oShl : OpD K (rI CPow fun i j => .int (i * 2 ^ j.toNat)) fShl := oI fun x y k h => by
  unfold fShl at h
  split at h
  · exact ⟨_, _, rfl, rfl, h.1, h.2⟩
  · exact h.elim
theorem oRep : OpD K rRep fRep := ⟨fun F H x y dx dy Q k s hx hy hf post => by
  unfold fRep at hf
  split at hf
  · rename_i xs n
    obtain ⟨⟨h0, h1, hb⟩, hf⟩ := hf
    obtain ⟨a, vs, rfl, g1, g2, g3⟩ := hx.list s
    rw [hy.int]
    have hlen : vs.length * n.toNat ≤ sizeLine := by rw [g3.length]; exact big_line hb
    refine ⟨a, n, vs, rfl, rfl, g1, by omega, by omega, hlen, fun p hp => post _ _ _ _ hf (.laid s hp) (rd_laid s hp ?_ (g3.replicate _))⟩
    rw [List.length_flatten, List.map_replicate, List.sum_replicate_nat, Nat.mul_comm]
    exact hlen
  · exact hf.elim⟩
def fNeg : PyData → (PyData → Prop) → Prop
  | .int i, k => k (.int (-i))
  | _, _ => False
theorem de_neg {X : Cx} {a : Expr} {ta : TD} {pos : Pos} (ha : DE X a ta) : DE X (.UnaryOp .USub a pos) (dUn fNeg ta) :=
  PE.imp (pe_un un_neg ha) fun σ H Q h => un_read (r := rU fun i => .int (-i)) (f := fNeg) (fun F H x dx Q k s hx hf post => by
    unfold fNeg at hf
    split at hf
    · rw [hx.int]
      exact ⟨_, rfl, post _ _ F H hf (.refl s) (.int _)⟩
    · exact hf.elim) h

/-! ### comparisons -/
def fCmp (c : Int → Int → Bool) : F2
  | .int i, .int j, k => k (.bool (c i j))
  | _, _, _ => False
theorem oCmp {c : Int → Int → Bool} : OpD K (rI0 fun i j => .bl (c i j)) (fCmp c) := ⟨fun F H x y dx dy Q k s hx hy hf post => by
  unfold fCmp at hf
  split at hf
  · rw [hx.int, hy.int]
    exact ⟨_, _, rfl, rfl, post _ _ F H hf (.refl s) (.bl _)⟩
  · exact hf.elim⟩
abbrev fLt : F2 := fCmp fun i j => decide (i < j)
abbrev fLe : F2 := fCmp fun i j => decide (i ≤ j)
abbrev fGt : F2 := fCmp fun i j => decide (j < i)
abbrev fGe : F2 := fCmp fun i j => decide (j ≤ i)
mutual
theorem RD.plain {F : Hp} : ∀ {v : V} {d : PyData}, RD K F v d → d.plain = true
  | _, _, .non => rfl
  | _, _, .bl _ => rfl
  | _, _, .int _ => rfl
  | _, _, .str _ => rfl
  | _, _, .lst _ _ hs => by
    rw [PyData.plain]
    exact RDs.plain hs
  | _, _, .tup _ _ hs => by
    rw [PyData.plain]
    exact RDs.plain hs
theorem RDs.plain {F : Hp} : ∀ {v : List V} {d : List PyData}, RDs K F v d → PyData.plainAll d = true
  | _, _, .nil => rfl
  | _, _, .cons h t => by
    rw [PyData.plainAll, RD.plain h, RDs.plain t]
    rfl
end
/-- == : the data, of which one is not deep -/
def rEqP (K : Frg) : R2 := fun x y H Q => ∃ d e, RD K H x d ∧ RD K H y e ∧ min d.depth e.depth ≤ 60 ∧ Q (.bl (PyData.eqv d e)) H
def rNeP (K : Frg) : R2 := fun x y H Q => ∃ d e, RD K H x d ∧ RD K H y e ∧ min d.depth e.depth ≤ 60 ∧ Q (.bl (!PyData.eqv d e)) H
theorem op_eqP {X : Cx} (hu : X.A.units + 64 < cLine) : OpR X (compareOp .Eq) (rEqP X.K) := by
  intro pins s σ H x y v u Q I rx ry h
  obtain ⟨d, e, hd, he, hm, q⟩ := h
  obtain ⟨as, r1⟩ := Dp.reads I d x v hd.dp rx
  obtain ⟨bs, r2⟩ := Dp.reads I e y u he.dp ry
  exact SeqAt.eq_plain r1 r2 hd.plain he.plain (by omega) ⟨.bl _, H, I, rfl, q⟩
theorem op_neP {X : Cx} (hu : X.A.units + 64 < cLine) : OpR X (compareOp .NotEq) (rNeP X.K) := by
  intro pins s σ H x y v u Q I rx ry h
  obtain ⟨d, e, hd, he, hm, q⟩ := h
  obtain ⟨as, r1⟩ := Dp.reads I d x v hd.dp rx
  obtain ⟨bs, r2⟩ := Dp.reads I e y u he.dp ry
  exact SeqAt.ne_plain r1 r2 hd.plain he.plain (by omega) ⟨.bl _, H, I, rfl, q⟩
def fEq : F2
  | .int i, .int j, k => k (.bool (decide (i = j)))
  | .str i, .str j, k => k (.bool (decide (i = j)))
  | .bool i, .bool j, k => k (.bool (i == j))
  | x, y, k => min x.depth y.depth ≤ 60 ∧ k (.bool (PyData.eqv x y))
def fNe : F2
  | .int i, .int j, k => k (.bool (!decide (i = j)))
  | .str i, .str j, k => k (.bool (!decide (i = j)))
  | .bool i, .bool j, k => k (.bool (!(i == j)))
  | x, y, k => min x.depth y.depth ≤ 60 ∧ k (.bool (!PyData.eqv x y))
theorem fEq_gen {x y : PyData} {k : PyData → Prop} (h : fEq x y k) : min x.depth y.depth ≤ 60 ∧ k (.bool (PyData.eqv x y)) := by
  unfold fEq at h
  split at h
  · exact ⟨by simp [PyData.depth], by rw [PyData.eqv, Bool.beq_eq_decide_eq]; exact h⟩
  · refine ⟨by simp [PyData.depth], ?_⟩
    have e : ∀ i j : Str, (i == j) = decide (i = j) := fun i j => by
      rw [Bool.eq_iff_iff, beq_iff_eq, decide_eq_true_eq]
    rw [PyData.eqv, e]
    exact h
  · exact ⟨by simp [PyData.depth], by rw [PyData.eqv]; exact h⟩
  · exact h
theorem fNe_gen {x y : PyData} {k : PyData → Prop} (h : fNe x y k) : min x.depth y.depth ≤ 60 ∧ k (.bool (!PyData.eqv x y)) := by
  unfold fNe at h
  split at h
  · exact ⟨by simp [PyData.depth], by rw [PyData.eqv, Bool.beq_eq_decide_eq]; exact h⟩
  · refine ⟨by simp [PyData.depth], ?_⟩
    have e : ∀ i j : Str, (i == j) = decide (i = j) := fun i j => by
      rw [Bool.eq_iff_iff, beq_iff_eq, decide_eq_true_eq]
    rw [PyData.eqv, e]
    exact h
  · exact ⟨by simp [PyData.depth], by rw [PyData.eqv]; exact h⟩
  · exact h
theorem oEq : OpD K (rEqP K) fEq := ⟨fun F H x y dx dy Q k s hx hy hf post => by
  obtain ⟨h1, h2⟩ := fEq_gen hf
  exact ⟨_, _, hx.rd s, hy.rd s, h1, post _ _ F H h2 (.refl s) (.bl _)⟩⟩
theorem oNe : OpD K (rNeP K) fNe := ⟨fun F H x y dx dy Q k s hx hy hf post => by
  obtain ⟨h1, h2⟩ := fNe_gen hf
  exact ⟨_, _, hx.rd s, hy.rd s, h1, post _ _ F H h2 (.refl s) (.bl _)⟩⟩
/-- in, not in: a list or a tuple -/
def rInP (K : Frg) (neg : Bool) : R2 := fun x c H Q => ∃ d xs, RD K H x d ∧ (RD K H c (.list xs) ∨ RD K H c (.tuple xs)) ∧ min (PyData.depthAll xs) d.depth ≤ 60 ∧ Q (.bl (if neg then !(xs.any fun y => PyData.eqv y d) else xs.any fun y => PyData.eqv y d)) H
theorem op_inP {X : Cx} (hu : X.A.units + 64 < cLine) : OpR X (compareOp .In) (rInP X.K false) := by
  intro pins s σ H x y v u Q I rx ry h
  obtain ⟨d, xs, hd, hc, hm, q⟩ := h
  obtain ⟨as, r1⟩ := Dp.reads I d x v hd.dp rx
  rcases hc with hc | hc
  · obtain ⟨bs, r2⟩ := Dp.reads I _ y u hc.dp ry
    have hp := hc.plain
    rw [PyData.plain] at hp
    exact SeqAt.in_list_data r2 r1 hp hd.plain (by omega) ⟨.bl _, H, I, rfl, q⟩
  · obtain ⟨bs, r2⟩ := Dp.reads I _ y u hc.dp ry
    have hp := hc.plain
    rw [PyData.plain] at hp
    exact SeqAt.in_tuple_data r2 r1 hp hd.plain (by omega) ⟨.bl _, H, I, rfl, q⟩
theorem op_notInP {X : Cx} (hu : X.A.units + 64 < cLine) : OpR X (compareOp .NotIn) (rInP X.K true) := by
  intro pins s σ H x y v u Q I rx ry h
  obtain ⟨d, xs, hd, hc, hm, q⟩ := h
  obtain ⟨as, r1⟩ := Dp.reads I d x v hd.dp rx
  rcases hc with hc | hc
  · obtain ⟨bs, r2⟩ := Dp.reads I _ y u hc.dp ry
    have hp := hc.plain
    rw [PyData.plain] at hp
    exact SeqAt.notIn_list_data r2 r1 hp hd.plain (by omega) ⟨.bl _, H, I, rfl, q⟩
  · obtain ⟨bs, r2⟩ := Dp.reads I _ y u hc.dp ry
    have hp := hc.plain
    rw [PyData.plain] at hp
    exact SeqAt.notIn_tuple_data r2 r1 hp hd.plain (by omega) ⟨.bl _, H, I, rfl, q⟩
def hasD (xs : List PyData) (d : PyData) : Bool := xs.any fun y => PyData.eqv y d
def fIn : F2
  | x, .list xs, k => min (PyData.depthAll xs) x.depth ≤ 60 ∧ k (.bool (hasD xs x))
  | x, .tuple xs, k => min (PyData.depthAll xs) x.depth ≤ 60 ∧ k (.bool (hasD xs x))
  | _, _, _ => False
def fNotIn : F2
  | x, .list xs, k => min (PyData.depthAll xs) x.depth ≤ 60 ∧ k (.bool (!hasD xs x))
  | x, .tuple xs, k => min (PyData.depthAll xs) x.depth ≤ 60 ∧ k (.bool (!hasD xs x))
  | _, _, _ => False
theorem oIn : OpD K (rInP K false) fIn := ⟨fun F H x y dx dy Q k s hx hy hf post => by
  unfold fIn at hf
  split at hf
  · exact ⟨_, _, hx.rd s, .inl (hy.rd s), hf.1, post _ _ F H hf.2 (.refl s) (.bl _)⟩
  · exact ⟨_, _, hx.rd s, .inr (hy.rd s), hf.1, post _ _ F H hf.2 (.refl s) (.bl _)⟩
  · exact hf.elim⟩
theorem oNotIn : OpD K (rInP K true) fNotIn := ⟨fun F H x y dx dy Q k s hx hy hf post => by
  unfold fNotIn at hf
  split at hf
  · exact ⟨_, _, hx.rd s, .inl (hy.rd s), hf.1, post _ _ F H hf.2 (.refl s) (.bl _)⟩
  · exact ⟨_, _, hx.rd s, .inr (hy.rd s), hf.1, post _ _ F H hf.2 (.refl s) (.bl _)⟩
  · exact hf.elim⟩
/-- is None, is not None -/
def fIsN : F2
  | .none, .none, k => k (.bool true)
  | .int _, .none, k => k (.bool false)
  | .bool _, .none, k => k (.bool false)
  | .str _, .none, k => k (.bool false)
  | .list _, .none, k => k (.bool false)
  | .tuple _, .none, k => k (.bool false)
  | _, _, _ => False
def fNotN : F2
  | .none, .none, k => k (.bool false)
  | .int _, .none, k => k (.bool true)
  | .bool _, .none, k => k (.bool true)
  | .str _, .none, k => k (.bool true)
  | .list _, .none, k => k (.bool true)
  | .tuple _, .none, k => k (.bool true)
  | _, _, _ => False
theorem RC.nonB {F H : Hp} {v : V} {d : PyData} (h : RC K F H v d) : decide (v = .non) = (match d with | .none => true | _ => false) := by
  cases h with
  | lst _ _ _ => rfl
  | d h => cases h <;> rfl
theorem oIsN : OpD K (fun x y H Q => y = .non ∧ Q (.bl (decide (x = .non))) H) fIsN := ⟨fun F H x y dx dy Q k s hx hy hf post => by
  have e := hx.nonB
  unfold fIsN at hf
  split at hf <;> first
    | exact hf.elim
    | exact ⟨hy.none, by rw [e]; exact post _ _ F H hf (.refl s) (.bl _)⟩⟩
theorem oNotN : OpD K (fun x y H Q => y = .non ∧ Q (.bl (!decide (x = .non))) H) fNotN := ⟨fun F H x y dx dy Q k s hx hy hf post => by
  have e := hx.nonB
  unfold fNotN at hf
  split at hf <;> first
    | exact hf.elim
    | exact ⟨hy.none, by rw [e]; exact post _ _ F H hf (.refl s) (.bl _)⟩⟩
end
end DL

/-! DL8: built-ins, subscripts, slices, methods of lists. -/
namespace DL
open PySem PySem.Spec PyProof.Rows L2

def intsOf : List PyData → Option (List Int)
  | [] => some []
  | .int i :: r => match intsOf r with
    | some ns => some (i :: ns)
    | none => none
  | _ => none
def boolsOf : List PyData → Option (List Bool)
  | [] => some []
  | .bool i :: r => match boolsOf r with
    | some ns => some (i :: ns)
    | none => none
  | _ => none
theorem intsOf_map : ∀ ns : List Int, intsOf (ns.map PyData.int) = some ns
  | [] => rfl
  | n :: ns => by rw [List.map_cons, intsOf, intsOf_map ns]
theorem boolsOf_map : ∀ ns : List Bool, boolsOf (ns.map PyData.bool) = some ns
  | [] => rfl
  | n :: ns => by rw [List.map_cons, boolsOf, boolsOf_map ns]
theorem intsOf_eq : ∀ {xs : List PyData} {ns : List Int}, intsOf xs = some ns → xs = ns.map PyData.int
  | [], ns, h => by cases h; rfl
  | x :: r, ns, h => by
    unfold intsOf at h
    split at h
    · rename_i heq
      cases heq
    · rename_i i r' heq
      injection heq with e1 e2
      subst e1 e2
      split at h
      · rename_i ms hm
        cases h
        rw [List.map_cons, intsOf_eq hm]
      · cases h
    · cases h
theorem boolsOf_eq : ∀ {xs : List PyData} {ns : List Bool}, boolsOf xs = some ns → xs = ns.map PyData.bool
  | [], ns, h => by cases h; rfl
  | x :: r, ns, h => by
    unfold boolsOf at h
    split at h
    · rename_i heq
      cases heq
    · rename_i i r' heq
      injection heq with e1 e2
      subst e1 e2
      split at h
      · rename_i ms hm
        cases h
        rw [List.map_cons, boolsOf_eq hm]
      · cases h
    · cases h
def minI : List Int → Int
  | [] => 0
  | n :: ns => ns.foldl min n
def maxI : List Int → Int
  | [] => 0
  | n :: ns => ns.foldl max n
theorem foldl_min (ns : List Int) : ∀ n : Int, ns.foldl min n ≤ n ∧ (∀ y ∈ ns, ns.foldl min n ≤ y) ∧ (ns.foldl min n = n ∨ ns.foldl min n ∈ ns) := by
  induction ns with
  | nil => intro n; exact ⟨Int.le_refl _, by simp, .inl rfl⟩
  | cons m ns ih =>
    intro n
    obtain ⟨h1, h2, h3⟩ := ih (min n m)
    rw [List.foldl_cons]
    refine ⟨by omega, fun y hy => ?_, ?_⟩
    · rcases List.mem_cons.mp hy with e | e
      · subst e; omega
      · exact h2 y e
    · rcases h3 with e | e
      · rw [e]
        by_cases q : n ≤ m
        · exact .inl (by omega)
        · exact .inr (by rw [show min n m = m by omega]; exact List.mem_cons_self)
      · exact .inr (List.mem_cons_of_mem _ e)
theorem foldl_max (ns : List Int) : ∀ n : Int, n ≤ ns.foldl max n ∧ (∀ y ∈ ns, y ≤ ns.foldl max n) ∧ (ns.foldl max n = n ∨ ns.foldl max n ∈ ns) := by
  induction ns with
  | nil => intro n; exact ⟨Int.le_refl _, by simp, .inl rfl⟩
  | cons m ns ih =>
    intro n
    obtain ⟨h1, h2, h3⟩ := ih (max n m)
    rw [List.foldl_cons]
    refine ⟨by omega, fun y hy => ?_, ?_⟩
    · rcases List.mem_cons.mp hy with e | e
      · subst e; omega
      · exact h2 y e
    · rcases h3 with e | e
      · rw [e]
        by_cases q : m ≤ n
        · exact .inl (by omega)
        · exact .inr (by rw [show max n m = m by omega]; exact List.mem_cons_self)
      · exact .inr (List.mem_cons_of_mem _ e)
theorem minI_mem : ∀ {ns : List Int}, ns ≠ [] → minI ns ∈ ns
  | [], h => absurd rfl h
  | n :: ns, _ => by
    rcases (foldl_min ns n).2.2 with e | e
    · exact List.mem_cons.mpr (.inl e)
    · exact List.mem_cons_of_mem _ e
theorem minI_le : ∀ {ns : List Int} {y : Int}, y ∈ ns → minI ns ≤ y
  | n :: ns, y, h => by
    rcases List.mem_cons.mp h with e | e
    · rw [e]; exact (foldl_min ns n).1
    · exact (foldl_min ns n).2.1 y e
theorem maxI_mem : ∀ {ns : List Int}, ns ≠ [] → maxI ns ∈ ns
  | [], h => absurd rfl h
  | n :: ns, _ => by
    rcases (foldl_max ns n).2.2 with e | e
    · exact List.mem_cons.mpr (.inl e)
    · exact List.mem_cons_of_mem _ e
theorem le_maxI : ∀ {ns : List Int} {y : Int}, y ∈ ns → y ≤ maxI ns
  | n :: ns, y, h => by
    rcases List.mem_cons.mp h with e | e
    · rw [e]; exact (foldl_max ns n).1
    · exact (foldl_max ns n).2.1 y e
theorem minI_uniq {ns : List Int} {m : Int} (h1 : m ∈ ns) (h2 : ∀ y ∈ ns, m ≤ y) : m = minI ns := by
  have h3 := minI_le h1
  have h4 := h2 _ (minI_mem (fun e => by rw [e] at h1; cases h1))
  omega
theorem maxI_uniq {ns : List Int} {m : Int} (h1 : m ∈ ns) (h2 : ∀ y ∈ ns, y ≤ m) : m = maxI ns := by
  have h3 := le_maxI h1
  have h4 := h2 _ (maxI_mem (fun e => by rw [e] at h1; cases h1))
  omega

/-! ### built-ins -/
def fLen : FL
  | [.list xs], k => k (.int xs.length)
  | [.tuple xs], k => k (.int xs.length)
  | _, _ => False
def fInt : FL
  | [.int i], k => k (.int i)
  | [.bool b], k => k (.int (if b = true then 1 else 0))
  | _, _ => False
def fAbs : FL
  | [.int i], k => k (.int (i.natAbs : Int))
  | _, _ => False
def fMin2 : FL
  | [.int i, .int j], k => k (.int (min i j))
  | _, _ => False
def fMax2 : FL
  | [.int i, .int j], k => k (.int (max i j))
  | _, _ => False
def fSum : FL
  | [.list xs], k => ∃ ns, intsOf xs = some ns ∧ k (.int ns.sum)
  | _, _ => False
def fAll : FL
  | [.list xs], k => ∃ bs, boolsOf xs = some bs ∧ k (.bool (bs.all id))
  | _, _ => False
def fAny : FL
  | [.list xs], k => ∃ bs, boolsOf xs = some bs ∧ k (.bool (bs.any id))
  | _, _ => False
def fMinL : FL
  | [.list xs], k => ∃ ns, intsOf xs = some ns ∧ ns ≠ [] ∧ k (.int (minI ns))
  | _, _ => False
def fMaxL : FL
  | [.list xs], k => ∃ ns, intsOf xs = some ns ∧ ns ≠ [] ∧ k (.int (maxI ns))
  | _, _ => False
def fTuple : FL
  | [.list xs], k => k (.tuple xs)
  | [.tuple xs], k => k (.tuple xs)
  | _, _ => False
def fList : FLF
  | [.list xs], k => k (.lst xs)
  | [.tuple xs], k => k (.lst xs)
  | _, _ => False
def fSortI : FLF
  | [.list xs], k => ∃ ns, intsOf xs = some ns ∧ ∀ ns' : List Int, ns'.Perm ns → ns'.Pairwise (· ≤ ·) → k (.lst (ns'.map PyData.int))
  | _, _ => False
section
variable {K : Frg}
theorem one_of {F H : Hp} {vs : List V} {x : PyData} (h : Paired (RC K F H) vs [x]) : ∃ v, vs = [v] ∧ RC K F H v x := by
  cases h with
  | cons r t =>
    cases t
    exact ⟨_, rfl, r⟩
theorem two_of {F H : Hp} {vs : List V} {x y : PyData} (h : Paired (RC K F H) vs [x, y]) : ∃ v w, vs = [v, w] ∧ RC K F H v x ∧ RC K F H w y := by
  cases h with
  | cons r t =>
    cases t with
    | cons r' t =>
      cases t
      exact ⟨_, _, rfl, r, r'⟩
theorem cLen : CallD K (fun xs H Q => ∃ p ys, xs = [.ref p] ∧ (SqL K H p ys ∨ SqT K H p ys) ∧ Q (.int ys.length) H) fLen := ⟨fun F H vs xs Q k s hv hf post => by
  unfold fLen at hf
  split at hf
  · obtain ⟨v, rfl, r⟩ := one_of hv
    obtain ⟨a, ws, rfl, h1, h2, h3⟩ := r.list s
    exact ⟨a, ws, rfl, .inl (.inl (.inl h1)), by rw [h3.length]; exact post _ _ F H hf (.refl s) (.int _)⟩
  · obtain ⟨v, rfl, r⟩ := one_of hv
    obtain ⟨a, ws, rfl, h1, h2, h3⟩ := r.tuple s
    exact ⟨a, ws, rfl, .inr h1, by rw [h3.length]; exact post _ _ F H hf (.refl s) (.int _)⟩
  · exact hf.elim⟩
theorem cInt : CallD K (fun xs H Q => (∃ i, xs = [.int i] ∧ Q (.int i) H) ∨ ∃ k, xs = [.bl k] ∧ Q (.int (if k then 1 else 0)) H) fInt := ⟨fun F H vs xs Q k s hv hf post => by
  unfold fInt at hf
  split at hf
  · obtain ⟨v, rfl, r⟩ := one_of hv
    rw [r.int]
    exact .inl ⟨_, rfl, post _ _ F H hf (.refl s) (.int _)⟩
  · obtain ⟨v, rfl, r⟩ := one_of hv
    rw [r.bool]
    exact .inr ⟨_, rfl, post _ _ F H hf (.refl s) (.int _)⟩
  · exact hf.elim⟩
theorem cAbs : CallD K (fun xs H Q => ∃ i, xs = [.int i] ∧ Q (.int (if i < 0 then -i else i)) H) fAbs := ⟨fun F H vs xs Q k s hv hf post => by
  unfold fAbs at hf
  split at hf
  · rename_i i
    obtain ⟨v, rfl, r⟩ := one_of hv
    rw [r.int]
    have e : (if i < 0 then -i else i) = (i.natAbs : Int) := by split <;> omega
    exact ⟨_, rfl, by rw [e]; exact post _ _ F H hf (.refl s) (.int _)⟩
  · exact hf.elim⟩
theorem cMin2 : CallD K (fun xs H Q => ∃ i j, xs = [.int i, .int j] ∧ Q (.int (if j < i then j else i)) H) fMin2 := ⟨fun F H vs xs Q k s hv hf post => by
  unfold fMin2 at hf
  split at hf
  · rename_i i j
    obtain ⟨v, w, rfl, r1, r2⟩ := two_of hv
    rw [r1.int, r2.int]
    have e : (if j < i then j else i) = min i j := by split <;> omega
    exact ⟨_, _, rfl, by rw [e]; exact post _ _ F H hf (.refl s) (.int _)⟩
  · exact hf.elim⟩
theorem cMax2 : CallD K (fun xs H Q => ∃ i j, xs = [.int i, .int j] ∧ Q (.int (if j > i then j else i)) H) fMax2 := ⟨fun F H vs xs Q k s hv hf post => by
  unfold fMax2 at hf
  split at hf
  · rename_i i j
    obtain ⟨v, w, rfl, r1, r2⟩ := two_of hv
    rw [r1.int, r2.int]
    have e : (if j > i then j else i) = max i j := by split <;> omega
    exact ⟨_, _, rfl, by rw [e]; exact post _ _ F H hf (.refl s) (.int _)⟩
  · exact hf.elim⟩
theorem ints_at {F H : Hp} {v : V} {xs : List PyData} {ns : List Int} (s : Same F H) (r : RC K F H v (.list xs)) (e : intsOf xs = some ns) : ∃ a, v = .ref a ∧ H a = some (.lst (ns.map V.int)) := by
  obtain ⟨a, ws, rfl, h1, h2, h3⟩ := r.list s
  rw [intsOf_eq e] at h3
  rw [h3.ofInts] at h1
  exact ⟨a, rfl, h1⟩
theorem bools_at {F H : Hp} {v : V} {xs : List PyData} {ns : List Bool} (s : Same F H) (r : RC K F H v (.list xs)) (e : boolsOf xs = some ns) : ∃ a, v = .ref a ∧ H a = some (.lst (ns.map V.bl)) := by
  obtain ⟨a, ws, rfl, h1, h2, h3⟩ := r.list s
  rw [boolsOf_eq e] at h3
  rw [h3.ofBools] at h1
  exact ⟨a, rfl, h1⟩
theorem cSum : CallD K (rSum K) fSum := ⟨fun F H vs xs Q k s hv hf post => by
  unfold fSum at hf
  split at hf
  · obtain ⟨v, rfl, r⟩ := one_of hv
    obtain ⟨ns, e, hf⟩ := hf
    obtain ⟨a, rfl, h⟩ := ints_at s r e
    exact ⟨a, ns, rfl, .inl (.inl h), post _ _ F H hf (.refl s) (.int _)⟩
  · exact hf.elim⟩
theorem cAll : CallD K (rAll K) fAll := ⟨fun F H vs xs Q k s hv hf post => by
  unfold fAll at hf
  split at hf
  · obtain ⟨v, rfl, r⟩ := one_of hv
    obtain ⟨ns, e, hf⟩ := hf
    obtain ⟨a, rfl, h⟩ := bools_at s r e
    exact ⟨a, ns, rfl, .inl (.inl h), post _ _ F H hf (.refl s) (.bl _)⟩
  · exact hf.elim⟩
theorem cAny : CallD K (rAny K) fAny := ⟨fun F H vs xs Q k s hv hf post => by
  unfold fAny at hf
  split at hf
  · obtain ⟨v, rfl, r⟩ := one_of hv
    obtain ⟨ns, e, hf⟩ := hf
    obtain ⟨a, rfl, h⟩ := bools_at s r e
    exact ⟨a, ns, rfl, .inl (.inl h), post _ _ F H hf (.refl s) (.bl _)⟩
  · exact hf.elim⟩
theorem cMinL : CallD K (rMin K) fMinL := ⟨fun F H vs xs Q k s hv hf post => by
  unfold fMinL at hf
  split at hf
  · obtain ⟨v, rfl, r⟩ := one_of hv
    obtain ⟨ns, e, hf⟩ := hf
    obtain ⟨a, rfl, h⟩ := ints_at s r e
    exact ⟨a, ns, rfl, .inl (.inl h), List.length_pos_iff.mpr hf.1, fun m h1 h2 => post _ _ F H (by rw [minI_uniq h1 h2]; exact hf.2) (.refl s) (.int _)⟩
  · exact hf.elim⟩
theorem cMaxL : CallD K (rMax K) fMaxL := ⟨fun F H vs xs Q k s hv hf post => by
  unfold fMaxL at hf
  split at hf
  · obtain ⟨v, rfl, r⟩ := one_of hv
    obtain ⟨ns, e, hf⟩ := hf
    obtain ⟨a, rfl, h⟩ := ints_at s r e
    exact ⟨a, ns, rfl, .inl (.inl h), List.length_pos_iff.mpr hf.1, fun m h1 h2 => post _ _ F H (by rw [maxI_uniq h1 h2]; exact hf.2) (.refl s) (.int _)⟩
  · exact hf.elim⟩
theorem cTuple : CallD K (fun xs H Q => ∃ p ys, xs = [.ref p] ∧ ((SqL K H p ys ∧ ∀ l, H l = none → Q (.ref l) (upd H l (.tup ys))) ∨ (SqT K H p ys ∧ Q (.ref p) H))) fTuple := ⟨fun F H vs xs Q k s hv hf post => by
  unfold fTuple at hf
  split at hf
  · obtain ⟨v, rfl, r⟩ := one_of hv
    obtain ⟨a, ws, rfl, h1, h2, h3⟩ := r.list s
    exact ⟨a, ws, rfl, .inl ⟨.inl (.inl h1), fun p hp => post _ _ _ _ hf (.laid s hp) (rd_laidT s hp h2 h3)⟩⟩
  · obtain ⟨v, rfl, r⟩ := one_of hv
    obtain ⟨a, ws, rfl, h1, h2, h3⟩ := r.tuple s
    exact ⟨a, ws, rfl, .inr ⟨h1, post _ _ F H hf (.refl s) r.rdT⟩⟩
  · exact hf.elim⟩
theorem cList : CallF K (fun xs H Q => ∃ p ys, xs = [.ref p] ∧ (SqL K H p ys ∨ SqT K H p ys) ∧ ∀ l, H l = none → Q (.ref l) (upd H l (.lst ys))) fList := ⟨fun F H vs xs Q k s hv hf post => by
  unfold fList at hf
  split at hf
  · obtain ⟨v, rfl, r⟩ := one_of hv
    obtain ⟨a, ws, rfl, h1, h2, h3⟩ := r.list s
    exact ⟨a, ws, rfl, .inl (.inl (.inl h1)), fun p hp => post _ _ _ F H hf (.refl s) hp (.lst upd_same h2 h3)⟩
  · obtain ⟨v, rfl, r⟩ := one_of hv
    obtain ⟨a, ws, rfl, h1, h2, h3⟩ := r.tuple s
    exact ⟨a, ws, rfl, .inr h1, fun p hp => post _ _ _ F H hf (.refl s) hp (.lst upd_same h2 h3)⟩
  · exact hf.elim⟩
theorem cSortI : CallF K (rSortedI K) fSortI := ⟨fun F H vs xs Q k s hv hf post => by
  unfold fSortI at hf
  split at hf
  · obtain ⟨v, rfl, r⟩ := one_of hv
    obtain ⟨ns, e, hf⟩ := hf
    obtain ⟨a, ws, rfl, h1, h2, h3⟩ := r.list s
    rw [intsOf_eq e] at h3
    have e3 := h3.ofInts
    subst e3
    refine ⟨a, ns, rfl, .inl (.inl h1), fun ns' p g1 g2 hp => post _ _ _ F H (hf ns' g1 g2) (.refl s) hp (.lst upd_same ?_ (RDs.ints ns'))⟩
    rw [List.length_map, g1.length_eq]
    rw [List.length_map] at h2
    exact h2
  · exact hf.elim⟩

/-! ### subscripts -/
theorem atI_rd {F : Hp} {vs : List V} {xs : List PyData} {i : Int} {d : PyData} (r : RDs K F vs xs) (h : atI xs i = some d) : ∃ v, atI vs i = some v ∧ RD K F v d := by
  unfold atI at h ⊢
  rw [r.length]
  cases e : ixN xs.length i with
  | none =>
    rw [e] at h
    cases h
  | some j =>
    rw [e] at h
    exact r.get' h
def fIx : F2
  | .list xs, .int i, k => ∃ v, atI xs i = some v ∧ k v
  | .tuple xs, .int i, k => ∃ v, atI xs i = some v ∧ k v
  | _, _, _ => False
theorem oIx : OpD K (fun x y H Q => rIxL K x y H Q ∨ rIxT K x y H Q) fIx := ⟨fun F H x y dx dy Q k s hx hy hf post => by
  unfold fIx at hf
  split at hf
  · obtain ⟨v, e, hf⟩ := hf
    obtain ⟨a, ws, rfl, h1, h2, h3⟩ := hx.list s
    obtain ⟨w, e1, rd⟩ := atI_rd h3 e
    rw [hy.int]
    exact .inl ⟨a, ws, _, w, rfl, rfl, .inl (.inl h1), e1, post _ _ F H hf (.refl s) rd⟩
  · obtain ⟨v, e, hf⟩ := hf
    obtain ⟨a, ws, rfl, h1, h2, h3⟩ := hx.tuple s
    obtain ⟨w, e1, rd⟩ := atI_rd h3 e
    rw [hy.int]
    exact .inr ⟨a, ws, _, w, rfl, rfl, h1, e1, post _ _ F H hf (.refl s) rd⟩
  · exact hf.elim⟩
theorem de_ix {X : Cx} {a b : Expr} {ta tb : TD} {pos : Pos} (ha : DE X a ta) (hb : DE X b tb) (hs : PlainIx b := by exact fun _ _ => rfl) : DE X (.Subscript a b pos) (dOp fIx ta tb) :=
  PE.imp (pe_ix (ix_list.or ix_tup) ha hb hs) fun _ _ _ h => op_read oIx h

/-! ### slices -/
abbrev TDO := En → (Option Int → En → Prop) → Prop
def LO (K : Frg) (t : TDO) : TO := fun σ H Q => ∃ B F fps en, ∃ Q' : Option Int → En → Prop, Rel K B F fps en σ H ∧ t en Q' ∧
  ∀ o en' F' fps' H', Q' o en' → Rel K B F' fps' en' σ H' → Same F F' → Kp en fps en' fps' → Q o H'
abbrev DO (X : Cx) (e : Option Expr) (t : TDO) : Prop := PO X e (LO X.K t)
def oNone : TDO := fun en Q => Q none en
def oSome (t : TD) : TDO := fun en Q => t en fun y en1 => match y with
  | .d (.int i) => Q (some i) en1
  | _ => False
theorem PO.imp {X : Cx} {e : Option Expr} {t t' : TO} (h : PO X e t) (i : ∀ σ H Q, t' σ H Q → t σ H Q) : PO X e t' := ⟨fun pins s σ H Q I q => h.run pins s σ H Q I (i σ H Q q)⟩
theorem do_none {X : Cx} : DO X none oNone := PO.imp po_none fun σ H Q ⟨B, F, fps, en, Q', R, q, post⟩ => post none en F fps H q R (.refl _) .refl
theorem do_some {X : Cx} {e : Expr} {t : TD} (h : DE X e t) : DO X (some e) (oSome t) := PO.imp (po_some h) fun σ H Q ⟨B, F, fps, en, Q', R, q, post⟩ => ⟨B, F, fps, en, _, R, q, fun y en1 v F1 fps1 H1 q1 R1 s1 k1 r1 => by
  split at q1
  · cases r1 with
    | d h =>
      cases h
      exact ⟨_, rfl, post _ en1 F1 fps1 H1 q1 R1 s1 k1⟩
  · exact q1.elim⟩
def cutD (xs : List PyData) (lo hi : Option Int) : List PyData := (xs.drop (HT.sIx xs.length 0 lo)).take (HT.sIx xs.length xs.length hi - HT.sIx xs.length 0 lo)
theorem cut_rd {F : Hp} {vs : List V} {xs : List PyData} (r : RDs K F vs xs) (lo hi : Option Int) : RDs K F (cutV vs lo hi) (cutD xs lo hi) := by
  unfold cutV cutD
  rw [r.length]
  exact (r.drop _).take _
def dSlL (te : TD) (tl th : TDO) : TDF := fun en Q => te en fun y en1 => tl en1 fun l en2 => th en2 fun u en3 => match look en3 y with
  | some (.list xs) => Q (.lst (cutD xs l u)) en3
  | _ => False
def dSlT (te : TD) (tl th : TDO) : TD := fun en Q => te en fun y en1 => tl en1 fun l en2 => th en2 fun u en3 => match look en3 y with
  | some (.tuple xs) => Q (.d (.tuple (cutD xs l u))) en3
  | _ => False
theorem df_slice {X : Cx} {e : Expr} {lo hi : Option Expr} {te : TD} {tl th : TDO} {p2 pos : Pos} (he : DE X e te) (hl : DO X lo tl) (hu : DO X hi th) : DF X (.Subscript e (.Slice lo hi none p2) pos) (dSlL te tl th) :=
  PE.imp (pe_slice sl_list he hl hu) fun σ H Q ⟨B, F, fps, en, Q', R, q, post⟩ => ⟨B, F, fps, en, _, R, q, fun y en1 v F1 fps1 H1 q1 R1 s1 k1 r1 => ⟨B, F1, fps1, en1, _, R1, q1, fun l en2 F2 fps2 H2 q2 R2 s2 k2 => ⟨B, F2, fps2, en2, _, R2, q2, fun u en3 F3 fps3 H3 q3 R3 s3 k3 => by
    split at q3
    · rename_i xs hx
      have rc := R3.rc (r1.later_look (s2.trans s3) (k2.trans k3) hx) hx
      obtain ⟨a, ws, rfl, h1, h2, h3⟩ := rc.list R3.same
      refine ⟨a, ws, rfl, .inl (.inl h1), fun p hp => ?_⟩
      obtain ⟨R4, f4⟩ := R3.fresh (o := .lst (cutD xs l u)) hp (.lst upd_same (Nat.le_trans (cutV_length ws l u) h2) (cut_rd h3 l u))
      exact post _ en3 _ _ F3 fps3 _ q3 R4 (s1.trans (s2.trans s3)) (k1.trans (k2.trans k3)) f4
    · exact q3.elim⟩⟩⟩
theorem de_slice {X : Cx} {e : Expr} {lo hi : Option Expr} {te : TD} {tl th : TDO} {p2 pos : Pos} (he : DE X e te) (hl : DO X lo tl) (hu : DO X hi th) : DE X (.Subscript e (.Slice lo hi none p2) pos) (dSlT te tl th) :=
  PE.imp (pe_slice sl_tupA he hl hu) fun σ H Q ⟨B, F, fps, en, Q', R, q, post⟩ => ⟨B, F, fps, en, _, R, q, fun y en1 v F1 fps1 H1 q1 R1 s1 k1 r1 => ⟨B, F1, fps1, en1, _, R1, q1, fun l en2 F2 fps2 H2 q2 R2 s2 k2 => ⟨B, F2, fps2, en2, _, R2, q2, fun u en3 F3 fps3 H3 q3 R3 s3 k3 => by
    split at q3
    · rename_i xs hx
      have rc := R3.rc (r1.later_look (s2.trans s3) (k2.trans k3) hx) hx
      obtain ⟨a, ws, rfl, h1, h2, h3⟩ := rc.tuple R3.same
      refine ⟨a, ws, rfl, h1, fun ⟨e1, e2⟩ => ?_, fun _ p hp => ?_⟩
      · have e : cutD xs l u = xs := by
          unfold cutD
          rw [← h3.length, e1, e2, List.drop_zero, Nat.sub_zero]
          exact List.take_of_length_le (by rw [h3.length]; exact Nat.le_refl _)
        rw [e] at q3
        exact post _ en3 _ F3 fps3 H3 q3 R3 (s1.trans (s2.trans s3)) (k1.trans (k2.trans k3)) (.d rc.rdT)
      · have e4 := Ext.laid (o := .tup (cutV ws l u)) R3.same hp
        exact post _ en3 _ _ fps3 _ q3 (R3.ext e4) (s1.trans (s2.trans (s3.trans e4.f))) (k1.trans (k2.trans k3)) (.d (rd_laidT R3.same hp (Nat.le_trans (cutV_length ws l u) h2) (cut_rd h3 l u)))
    · exact q3.elim⟩⟩⟩

/-! ### lists that are changed -/
def loOf : Val → Option Lo
  | .o i => some (.s i)
  | .p n => some (.p n)
  | _ => none
theorem Rel.wr {B : Base} {F H : Hp} {fps : List (List Addr)} {en : En} {σ : L2.St} (R : Rel K B F fps en σ H) {y : Val} {lo : Lo} {v : V} {xs xs' : List PyData} (r : RV K F H B.ptrs fps v y) (ho : obAt en y = some (.lst xs)) (hl : loOf y = some lo) :
    ∃ a va, v = .ref a ∧ H a = some (.lst va) ∧ va.length ≤ sizeLine ∧ RDs K F va xs ∧ ∀ va', va'.length ≤ sizeLine → RDs K F va' xs' → Rel K B F fps (puts [lo] [.lst xs'] en) σ (upd H a (.lst va')) ∧ Kp en fps (puts [lo] [.lst xs'] en) fps := by
  obtain ⟨a, fp, rfl, ro, at_⟩ := R.ob r ho
  cases ro with
  | lst h l rs =>
    rename_i va
    refine ⟨a, va, rfl, h, l, rs, fun va' l' rs' => ?_⟩
    have pl : Plc B fps en lo [a] := by
      cases y with
      | d _ => cases hl
      | f _ => cases hl
      | o i =>
        cases hl
        rcases at_ with ⟨j, e, hf⟩ | ⟨j, e, hf⟩
        · cases e
          exact ⟨hf, _, ob_own ho⟩
        · cases e
      | p n =>
        cases hl
        rcases at_ with ⟨j, e, hf⟩ | ⟨j, e, hf⟩
        · cases e
        · cases e
          exact ⟨hf, (List.getElem?_eq_some_iff.mp (show en.st[n]? = some _ from ho)).1⟩
    have ha := loc_mem pl (List.mem_singleton.mpr rfl)
    refine ⟨R.call (.cons pl .nil) (by simp) ⟨.refl _, fun b o q => ?_, fun b o q => .inl q, fun b q => ?_, fun b o q n => ?_⟩ ⟨rfl, fun n o fp h1 h2 => ?_, by simp, fun b hb => ?_, fun b hb => ?_⟩, kp_puts [lo] _ en fun i hi => ?_⟩
    · rw [upd_ne (fun e => ?_)]
      · exact R.same b o q
      · rw [e, R.nof a ha] at q
        cases q
    · by_cases e : b = a
      · rw [e, upd_same] at q
        cases q
      · rw [upd_ne e] at q
        exact q
    · rw [upd_ne (fun e => n (by simp [e]))]
      exact q
    · cases n with
      | zero =>
        simp at h1 h2
        subst h1 h2
        exact .lst upd_same l' rs'
      | succ n => simp at h1
    · have e : b = a := by simpa using hb
      rw [e]
      exact R.nof a ha
    · have e : b = a := by simpa using hb
      rw [e, upd_same]
      exact fun z => by cases z
    · have e : Lo.s i = lo := by simpa using hi
      subst e
      exact pl.2
/-- list methods: the list, the arguments; the answer, the list behind -/
abbrev FM := List PyData → List PyData → (PyData → List PyData → Prop) → Prop
structure MtD (K : Frg) (r : V → List V → Hp → VK → Prop) (f : FM) : Prop where
  run : ∀ (F H : Hp) (a : Addr) (va : List V) (xs : List PyData) (ws : List V) (args : List PyData) (Q : VK) (k : PyData → List PyData → Prop), Same F H → H a = some (.lst va) → va.length ≤ sizeLine → RDs K F va xs → RDs K F ws args → f xs args k →
    (∀ z xs' w va', k z xs' → RD K F w z → va'.length ≤ sizeLine → RDs K F va' xs' → Q w (upd H a (.lst va'))) → r (.ref a) ws H Q
def dMt (f : FM) (to : TD) (t : TDs) : TD := fun en Q => to en fun y en1 => match obAt en1 y, loOf y with
  | some (.lst _), some lo => t en1 fun args en2 => match obAt en2 y with
    | some (.lst xs) => f xs args fun z xs' => Q (.d z) (puts [lo] [.lst xs'] en2)
    | _ => False
  | _, _ => False
def dMt0 (f : FM) (to : TD) : TD := fun en Q => to en fun y en1 => match obAt en1 y, loOf y with
  | some (.lst xs), some lo => f xs [] fun z xs' => Q (.d z) (puts [lo] [.lst xs'] en1)
  | _, _ => False
theorem de_mt {X : Cx} {id : String} {name : Str} {e o : Expr} {es : List Expr} {apos cpos : Pos} {r : V → List V → Hp → VK → Prop} {f : FM} {to : TD} {t : TDs} (pa : PlainAttrs "list") (slot : Slot "list" name id) (hty : typeOf (.builtin id) = pure (.type "method_descriptor")) (hm : MtR X id r) (hf : MtD X.K r f) (ho : DE X o to) (ha : DDs X (e :: es) t)
    (hbase : attributeBase o name X.env (eval o X.env) = eval o X.env := by rfl)
    (hfew : ((backTo cpos (starEach (e :: es) X.env)).all (fun x => !x.1) && (backToKw cpos (keywordEach [] X.env)).all (fun x => x.1.isSome)
      && decide ((e :: es).length + ([] : List Keyword).length + (if ([] : List Keyword).isEmpty then 0 else 1) < 30)) = true := by rfl)
    (hline : (apos.endLine == cpos.line) = true := by rfl) (hs : starEach (e :: es) X.env = (false, eval e X.env) :: starEach es X.env := by rfl) (hplain : (backTo cpos (starEach es X.env)).any (·.1) = false := by rfl) :
    DE X (.Call (.Attribute o name apos) (e :: es) [] cpos) (dMt f to t) :=
  PE.imp (pe_bm pa slot hty hm ho ha hbase hfew hline hs hplain) fun σ H Q ⟨B, F, fps, en, Q', R, q, post⟩ => ⟨B, F, fps, en, _, R, q, fun y en1 v F1 fps1 H1 q1 R1 s1 k1 r1 => by
    split at q1
    · rename_i zs lo ho1 hlo
      obtain ⟨a, va, rfl, g1, g2, g3, _⟩ := R1.wr (xs' := zs) r1 ho1 hlo
      refine ⟨.inl ⟨rfl, va, .inl (.inl g1)⟩, B, F1, fps1, en1, _, R1, q1, fun args en2 ws F2 fps2 H2 q2 R2 s2 k2 rs => ?_⟩
      split at q2
      · rename_i xs ho2
        obtain ⟨a', va2, e, g1', g2', g3', wr⟩ := R2.wr (xs' := xs) (r1.later_ob s2 k2 ho2) ho2 hlo
        cases e
        refine hf.run F2 H2 a va2 xs ws args Q _ R2.same g1' g2' g3' rs q2 fun z xs' w va' hk rd hl' rs' => ?_
        obtain ⟨a'', va3, e, _, _, _, wr⟩ := R2.wr (xs' := xs') (r1.later_ob s2 k2 ho2) ho2 hlo
        cases e
        obtain ⟨R3, k3⟩ := wr va' hl' rs'
        exact post (.d z) _ w F2 fps2 _ hk R3 (s1.trans s2) (k1.trans (k2.trans k3)) (.d rd)
      · exact q2.elim
    · exact q1.elim⟩
theorem de_mt0 {X : Cx} {id : String} {name : Str} {o : Expr} {apos cpos : Pos} {r : V → List V → Hp → VK → Prop} {f : FM} {to : TD} (pa : PlainAttrs "list") (slot : Slot "list" name id) (hty : typeOf (.builtin id) = pure (.type "method_descriptor")) (hm : MtR X id r) (hf : MtD X.K r f) (ho : DE X o to)
    (hb : attributeBase o name X.env (eval o X.env) = eval o X.env := by rfl) (hl : (apos.endLine == cpos.line) = true := by rfl) :
    DE X (.Call (.Attribute o name apos) [] [] cpos) (dMt0 f to) :=
  PE.imp (pe_bm0 pa slot hty hm ho hb hl) fun σ H Q ⟨B, F, fps, en, Q', R, q, post⟩ => ⟨B, F, fps, en, _, R, q, fun y en1 v F1 fps1 H1 q1 R1 s1 k1 r1 => by
    split at q1
    · rename_i xs lo ho1 hlo
      obtain ⟨a, va, rfl, g1, g2, g3, _⟩ := R1.wr (xs' := xs) r1 ho1 hlo
      refine ⟨.inl ⟨rfl, va, .inl (.inl g1)⟩, hf.run F1 H1 a va xs [] [] Q _ R1.same g1 g2 g3 .nil q1 fun z xs' w va' hk rd hl' rs' => ?_⟩
      obtain ⟨a'', va3, e, _, _, _, wr⟩ := R1.wr (xs' := xs') r1 ho1 hlo
      cases e
      obtain ⟨R3, k3⟩ := wr va' hl' rs'
      exact post (.d z) _ w F1 fps1 _ hk R3 s1 (k1.trans k3) (.d rd)
    · exact q1.elim⟩
def mApp : FM
  | xs, [x], k => xs.length < 16777216 ∧ k .none (xs ++ [x])
  | _, _, _ => False
def mExt : FM
  | xs, [.list ys], k => Big (xs.length + ys.length) ∧ k .none (xs ++ ys)
  | _, _, _ => False
def mPop : FM
  | xs, [], k => ∃ x, xs[xs.length - 1]? = some x ∧ k x xs.dropLast
  | _, _, _ => False
def mPopAt : FM
  | xs, [.int i], k => (-(2 ^ 63) ≤ i ∧ i < 2 ^ 63) ∧ ∃ j, seqIndex? i xs.length = some j ∧ ∃ x, xs[j]? = some x ∧ k x (xs.eraseIdx j)
  | _, _, _ => False
theorem RDs.dropLast {F : Hp} {vs : List V} {ds : List PyData} (h : RDs K F vs ds) : RDs K F vs.dropLast ds.dropLast := by
  rw [List.dropLast_eq_take, List.dropLast_eq_take, h.length]
  exact h.take _
theorem mtApp : MtD K rAppend mApp := ⟨fun F H a va xs ws args Q k s ha hl r rs hf post => by
  unfold mApp at hf
  split at hf
  · obtain ⟨h1, h2⟩ := hf
    cases rs with
    | cons r1 t =>
      cases t
      have hlt : va.length < sizeLine := by rw [r.length, sizeLine_eq]; exact h1
      exact ⟨a, va, _, rfl, rfl, ha, hlt, post _ _ _ _ h2 .non (by rw [List.length_append]; exact hlt) (r.snoc r1)⟩
  · exact hf.elim⟩
theorem mtExt : MtD K rExtend mExt := ⟨fun F H a va xs ws args Q k s ha hl r rs hf post => by
  unfold mExt at hf
  split at hf
  · obtain ⟨h1, h2⟩ := hf
    cases rs with
    | cons r1 t =>
      cases t
      cases r1 with
      | lst g1 g2 g3 =>
        rename_i zs
        have hle : va.length + zs.length ≤ sizeLine := by rw [r.length, g3.length]; exact big_line h1
        exact ⟨a, _, va, _, rfl, rfl, ha, s _ _ g1, hle, post _ _ _ _ h2 .non (by rw [List.length_append]; exact hle) (r.append g3)⟩
  · exact hf.elim⟩
theorem mtPop : MtD K rPop mPop := ⟨fun F H a va xs ws args Q k s ha hl r rs hf post => by
  unfold mPop at hf
  split at hf
  · obtain ⟨x, e, hf⟩ := hf
    cases rs
    rw [← r.length] at e
    obtain ⟨w, e1, rd⟩ := r.get' e
    exact ⟨a, va, w, rfl, rfl, ha, e1, post _ _ _ _ hf rd (Nat.le_trans (by rw [List.length_dropLast]; omega) hl) r.dropLast⟩
  · exact hf.elim⟩
theorem mtPopAt : MtD K rPopAt mPopAt := ⟨fun F H a va xs ws args Q k s ha hl r rs hf post => by
  unfold mPopAt at hf
  split at hf
  · rename_i i
    obtain ⟨⟨h1, h2⟩, j, ej, x, ex, hf⟩ := hf
    cases rs with
    | cons r1 t =>
      cases t
      cases r1
      obtain ⟨w, e1, rd⟩ := r.get' ex
      exact ⟨a, va, i, j, w, rfl, rfl, ha, h1, h2, by rw [r.length]; exact ej, e1, post _ _ _ _ hf rd (Nat.le_trans (List.length_eraseIdx_le va j) hl) (r.erase j)⟩
  · exact hf.elim⟩
/-- o[i] = e, a list -/
def dSub (te to ti : TD) : TDS := fun D en => te en fun y en1 => frz y en1 fun d en2 => to en2 fun r en3 => ti en3 fun ix en4 => match obAt en4 r, loOf r, ix with
  | some (.lst xs), some lo, .d (.int i) => ∃ j, ixN xs.length i = some j ∧ D.nx (puts [lo] [.lst (xs.set j d)] en4)
  | _, _, _ => False
theorem ds_sub {X : Cx} {o i e : Expr} {te to ti : TD} {p pos : Pos} (he : DE X e te) (ho : DE X o to) (hi : DE X i ti)
    (ha : ∀ v, assign (.Subscript o i p) X.env v = (do
      let ov ← holding [v] (eval o X.env)
      let iv ← holding [v, ov] (eval i X.env)
      standAt p
      holding [v, ov, iv] (setItem ov iv v)
      release [v, ov, iv] []) := by intro _; rfl)
    (hs : swapsWithSole [.Subscript o i p] e pos.line X.env = pure false := by rfl) (hw : swappedStores [.Subscript o i p] e X.env = pure none := by rfl)
    (h1 : (assignEach [.Subscript o i p] X.env).map (·.2) = [assign (.Subscript o i p) X.env] := by rfl) : DS X (.Assign [.Subscript o i p] e pos) (dSub te to ti) :=
  PS.imp (ps_asg he (pg_sub ho hi set_list ha) hs hw h1) fun D σ H ⟨B, F, fps, en, D', R, q, l⟩ => ⟨B, F, fps, en, _, R, q, fun y en1 v F1 fps1 H1 q1 R1 s1 k1 r1 => by
    obtain ⟨d, en2, F2, fps2, q2, R2, s2, k2, rd⟩ := R1.frz r1 q1
    refine ⟨B, F2, fps2, en2, _, R2, q2, fun r en3 w F3 fps3 H3 q3 R3 s3 k3 r3 => ⟨B, F3, fps3, en3, _, R3, q3, fun ix en4 u F4 fps4 H4 q4 R4 s4 k4 r4 => ?_⟩⟩
    split at q4
    · rename_i xs lo i ho4 hlo
      obtain ⟨j, hj, q4⟩ := q4
      cases r4 with
      | d r4 =>
        cases r4
        obtain ⟨a, va, rfl, g1, g2, g3, wr⟩ := R4.wr (xs' := xs.set j d) (r3.later_ob s4 k4 ho4) ho4 hlo
        obtain ⟨R5, k5⟩ := wr (va.set j v) (by rw [List.length_set]; exact g2) (RDs.set (rd.mono (s3.trans s4)) j g3)
        exact ⟨a, va, i, j, rfl, rfl, g1, by rw [g3.length]; exact hj, l.nx _ F4 fps4 σ _ q4 R5⟩
    · exact q4.elim⟩
end
end DL

/-! DR: repr of data. -/
namespace DL
open PySem PySem.Spec PyProof.Rows L2
mutual
def leafOk : PyData → Bool
  | .none | .bool _ => true
  | .int i => decide (-1000000000000 < i ∧ i < 1000000000000)
  | .str x => x.cps.toList.all fun c => decide (c < 16 ^ 8)
  | .list xs | .tuple xs => leafOkAll xs
  | .dict _ => false
def leafOkAll : List PyData → Bool
  | [] => true
  | x :: xs => leafOk x && leafOkAll xs
end
mutual
theorem leafOk_ok : ∀ d : PyData, leafOk d = true → d.leavesShort 13 = true ∧ d.showable = true ∧ d.hasDict = false
  | .none, _ => by simp [PyData.leavesShort, PyData.showable, PyData.hasDict]
  | .bool _, _ => by simp [PyData.leavesShort, PyData.showable, PyData.hasDict]
  | .int i, h => by
    have h : -1000000000000 < i ∧ i < 1000000000000 := by simpa [leafOk] using h
    refine ⟨?_, ?_, by simp [PyData.hasDict]⟩
    · simp only [PyData.leavesShort, decide_eq_true_eq]
      exact PyData.shown_int_le2 (by omega) (by omega)
    · simp only [PyData.showable, decide_eq_true_eq]
      have h1 : i.natAbs < 2 ^ 40 := by
        have : (2 : Nat) ^ 40 = 1099511627776 := by decide
        omega
      by_cases h0 : i.natAbs = 0
      · rw [h0]
        decide
      · have := (Nat.log2_lt h0).mpr h1
        omega
  | .str x, h => by
    refine ⟨?_, by simp [PyData.showable], by simp [PyData.hasDict]⟩
    rw [leafOk] at h
    simpa [PyData.leavesShort] using h
  | .list xs, h => by
    obtain ⟨h1, h2, h3⟩ := leafOkAll_ok xs (by simpa [leafOk] using h)
    exact ⟨by simpa [PyData.leavesShort] using h1, by simpa [PyData.showable] using h2, by simpa [PyData.hasDict] using h3⟩
  | .tuple xs, h => by
    obtain ⟨h1, h2, h3⟩ := leafOkAll_ok xs (by simpa [leafOk] using h)
    exact ⟨by simpa [PyData.leavesShort] using h1, by simpa [PyData.showable] using h2, by simpa [PyData.hasDict] using h3⟩
  | .dict _, h => by simp [leafOk] at h
theorem leafOkAll_ok : ∀ d : List PyData, leafOkAll d = true → PyData.leavesShortAll 13 d = true ∧ PyData.showableAll d = true ∧ PyData.hasDictAll d = false
  | [], _ => by simp [PyData.leavesShortAll, PyData.showableAll, PyData.hasDictAll]
  | x :: xs, h => by
    have h : leafOk x = true ∧ leafOkAll xs = true := by simpa [leafOkAll] using h
    obtain ⟨a1, a2, a3⟩ := leafOk_ok x h.1
    obtain ⟨b1, b2, b3⟩ := leafOkAll_ok xs h.2
    simp [PyData.leavesShortAll, PyData.showableAll, PyData.hasDictAll, a1, a2, a3, b1, b2, b3]
end
def RShow (d : PyData) : Prop := leafOk d = true ∧ d.depth ≤ 50 ∧ d.bulk ≤ 1048576
theorem RShow.fits {d : PyData} (h : RShow d) : d.shown.length ≤ sizeLine := PyData.shown_fits_bulk (by decide) (by decide) (leafOk_ok d h.1).1 (by have := h.2.2; omega)
def rReprP (K : Frg) (xs : List V) (H : Hp) (Q : VK) : Prop := ∃ x d, xs = [x] ∧ RD K H x d ∧ RShow d ∧ Q (.str d.shown) H
theorem call_reprP {X : Cx} (hg : X.A.guards = some []) (hu : X.A.units + 64 < cLine) : CallR X (.builtin "repr") (rReprP X.K) := by
  intro pins s σ H xs us Q I r h
  obtain ⟨x, d, rfl, rd, hs, q⟩ := h
  obtain ⟨u, rfl, ru⟩ := Vals.one r
  obtain ⟨as, r1⟩ := Dp.reads I d x u rd.dp ru
  obtain ⟨k1, k2, k3⟩ := leafOk_ok d hs.1
  have fits := hs.fits
  have ref : ∀ a, u = .ref a → wpAny (model X.prog X.w) X.A (call (.builtin "repr") [u]) (EP X pins σ Q) X.xe s := fun a e => by
    subst e
    exact repr_of_reads' r1 k2 (PyData.noDict_hsm k3) hg (by have := hs.2.1; omega) (fun _ _ e => e) (fun h' u tk hk => ⟨.str _, H, I.kept hk, ⟨_, rfl⟩, q⟩) fits
  cases r1 with
  | none => exact PySem.P.repr_of_none ⟨.str _, H, I.tok _, ⟨_, rfl⟩, by simpa [PyData.shown] using q⟩
  | bool b => exact PySem.P.repr_of_bool ⟨.str _, H, I.tok _, ⟨_, rfl⟩, by simpa [PyData.shown] using q⟩
  | int i t => exact PySem.P.repr_of_int (by simpa [PyData.showable] using k2) ⟨.str _, H, I.tok _, ⟨_, rfl⟩, by simpa [PyData.shown] using q⟩
  | str x t => exact PySem.P.repr_of_str ⟨.str _, H, I.tok _, ⟨_, rfl⟩, by simpa [PyData.shown] using q⟩ (by simpa [PyData.shown] using fits)
  | list h1 h2 h3 h4 => exact ref _ rfl
  | tuple h1 h2 h3 h4 => exact ref _ rfl
  | dict h1 h2 h3 h4 h5 => simp [PyData.hasDict] at k3
def fRepr : FL
  | [x], k => RShow x ∧ k (.str x.shown)
  | _, _ => False
theorem cRepr {K : Frg} : CallD K (rReprP K) fRepr := ⟨fun F H vs xs Q k s hv hf post => by
  unfold fRepr at hf
  split at hf
  · obtain ⟨v, rfl, r⟩ := one_of hv
    exact ⟨v, _, rfl, r.rd s, hf.1, post _ _ F H hf.2 (.refl s) (.str _)⟩
  · exact hf.elim⟩
end DL

/-! DT: sum of tuples. -/
namespace DL
open PySem PySem.Spec PyProof.Rows L2
theorem CallR.or {X : Cx} {c : Value} {r q : List V → Hp → VK → Prop} (h : CallR X c r) (k : CallR X c q) : CallR X c fun xs H Q => r xs H Q ∨ q xs H Q := fun pins s σ H xs us Q I rv z => z.elim (h pins s σ H xs us Q I rv) (k pins s σ H xs us Q I rv)
theorem CallD.or {K : Frg} {r q : List V → Hp → VK → Prop} {f g : FL} (h : CallD K r f) (k : CallD K q g) : CallD K (fun xs H Q => r xs H Q ∨ q xs H Q) fun xs k => f xs k ∨ g xs k :=
  ⟨fun F H vs xs Q p s hv hf post => hf.elim (fun z => .inl (h.run F H vs xs Q p s hv z post)) fun z => .inr (k.run F H vs xs Q p s hv z post)⟩
def rSumT (K : Frg) : List V → Hp → VK → Prop := fun vs H Q => ∃ (a : Addr) (ns : List Int), vs = [V.ref a] ∧ SqT K H a (ns.map V.int) ∧ Q (.int ns.sum) H
theorem cr_sumT {X : Cx} (hc : X.calm = true) : CallR X (.builtin "sum") (rSumT X.K) := by
  intro pins s σ H vs us Q I r h
  obtain ⟨a, ns, rfl, hs, q⟩ := h
  obtain ⟨its, rv, hl, _⟩ := I.tuple hs
  rw [Vals.ref1 r]
  have hi := rv.ints
  obtain ⟨xs, e⟩ := hi.allInts.items
  have hn : numsOf (intItems xs).toList = ns := by rw [← e]; exact hi.numsOf
  rw [nums_intItems] at hn
  rw [e] at hl
  refine PySem.W.ktm_sumG (I.ok.hd hc) hl fun h' tk t' hk => ?_
  rw [preSum_eq, List.take_of_length_le (by simp), hn]
  exact ⟨.int _, H, I.kept hk, ⟨_, rfl⟩, q⟩
def fSumA : FL
  | [.list xs], k => ∃ ns, intsOf xs = some ns ∧ k (.int ns.sum)
  | [.tuple xs], k => ∃ ns, intsOf xs = some ns ∧ k (.int ns.sum)
  | _, _ => False
abbrev rSumA (K : Frg) : List V → Hp → VK → Prop := fun xs H Q => rSum K xs H Q ∨ rSumT K xs H Q
theorem cr_sumA {X : Cx} (hc : X.calm = true) : CallR X (.builtin "sum") (rSumA X.K) := CallR.or (cr_sum hc) (cr_sumT hc)
theorem cSumA {K : Frg} : CallD K (rSumA K) fSumA := ⟨fun F H vs xs Q k s hv hf post => by
  unfold fSumA at hf
  split at hf
  · obtain ⟨v, rfl, r⟩ := one_of hv
    obtain ⟨ns, e, hf⟩ := hf
    obtain ⟨a, rfl, h⟩ := ints_at s r e
    exact .inl ⟨a, ns, rfl, .inl (.inl h), post _ _ F H hf (.refl s) (.int _)⟩
  · obtain ⟨v, rfl, r⟩ := one_of hv
    obtain ⟨ns, e, hf⟩ := hf
    obtain ⟨a, ws, rfl, h1, h2, h3⟩ := r.tuple s
    rw [intsOf_eq e] at h3
    rw [h3.ofInts] at h1
    exact .inr ⟨a, ns, rfl, h1, post _ _ F H hf (.refl s) (.int _)⟩
  · exact hf.elim⟩
end DL

/-! DS: the source of draws as an object: its dict, its list. -/
namespace DL
open PySem PySem.Spec PyProof.Rows L2

abbrev kC : Key := Sum.inr (Str.ofString "cells")
abbrev kL : Key := Sum.inr (Str.ofString "left")
abbrev kM : Key := Sum.inr (Str.ofString "mixed")
abbrev kT : Key := Sum.inr (Str.ofString "turn")
theorem kCL : Str.ofString "cells" ≠ Str.ofString "left" := by decide +kernel
theorem kCM : Str.ofString "cells" ≠ Str.ofString "mixed" := by decide +kernel
theorem kCT : Str.ofString "cells" ≠ Str.ofString "turn" := by decide +kernel
theorem kLM : Str.ofString "left" ≠ Str.ofString "mixed" := by decide +kernel
theorem kLT : Str.ofString "left" ≠ Str.ofString "turn" := by decide +kernel
theorem kMT : Str.ofString "mixed" ≠ Str.ofString "turn" := by decide +kernel
def srcD (c : Addr) (l m t : Int) : List (Key × V) := [(kC, .ref c), (kL, .int l), (kM, .int m), (kT, .int t)]
section
variable {c : Addr} {l m t : Int}
theorem src_len : (srcD c l m t).length < sizeLine := by
  rw [sizeLine_eq]
  show 4 < 16777216
  omega
theorem srcV_C : valV (srcD c l m t) kC = some (.ref c) := by simp [valV, srcD]
theorem srcV_L : valV (srcD c l m t) kL = some (.int l) := by simp [valV, srcD, kCL]
theorem srcV_M : valV (srcD c l m t) kM = some (.int m) := by simp [valV, srcD, kCM, kLM]
theorem srcV_T : valV (srcD c l m t) kT = some (.int t) := by simp [valV, srcD, kCT, kLT, kMT]
theorem srcP_L {v : Int} : putK (srcD c l m t) kL (.int v) = srcD c v m t := by simp [putK, srcD, kCL, kLM.symm, kLT.symm, kLM, kLT]
theorem srcP_M {v : Int} : putK (srcD c l m t) kM (.int v) = srcD c l v t := by simp [putK, srcD, kCM, kLM, kMT.symm, kMT]
theorem srcP_T {v : Int} : putK (srcD c l m t) kT (.int v) = srcD c l m v := by simp [putK, srcD, kCT, kLT, kMT]
end
section
variable {c : Addr} {l m t : Int} {H : Hp} {a : Addr}
theorem gC (h : H a = some (.dK (srcD c l m t))) : DGet H a (.str (Str.ofString "cells")) (some (.ref c)) := (srcV_C (c := c) (l := l) (m := m) (t := t)) ▸ DGet.k (k := kC) h
theorem gL (h : H a = some (.dK (srcD c l m t))) : DGet H a (.str (Str.ofString "left")) (some (.int l)) := (srcV_L (c := c) (l := l) (m := m) (t := t)) ▸ DGet.k (k := kL) h
theorem gM (h : H a = some (.dK (srcD c l m t))) : DGet H a (.str (Str.ofString "mixed")) (some (.int m)) := (srcV_M (c := c) (l := l) (m := m) (t := t)) ▸ DGet.k (k := kM) h
theorem gT (h : H a = some (.dK (srcD c l m t))) : DGet H a (.str (Str.ofString "turn")) (some (.int t)) := (srcV_T (c := c) (l := l) (m := m) (t := t)) ▸ DGet.k (k := kT) h
theorem pL (v : Int) (h : H a = some (.dK (srcD c l m t))) : DPut H a (.str (Str.ofString "left")) (.int v) (upd H a (.dK (srcD c v m t))) := (srcP_L (c := c) (l := l) (m := m) (t := t) (v := v)) ▸ DPut.k (k := kL) h src_len
theorem pM (v : Int) (h : H a = some (.dK (srcD c l m t))) : DPut H a (.str (Str.ofString "mixed")) (.int v) (upd H a (.dK (srcD c l v t))) := (srcP_M (c := c) (l := l) (m := m) (t := t) (v := v)) ▸ DPut.k (k := kM) h src_len
theorem pT (v : Int) (h : H a = some (.dK (srcD c l m t))) : DPut H a (.str (Str.ofString "turn")) (.int v) (upd H a (.dK (srcD c l m v))) := (srcP_T (c := c) (l := l) (m := m) (t := t) (v := v)) ▸ DPut.k (k := kT) h src_len
end
theorem iteD {c A B : Prop} [Decidable c] (h1 : c → A) (h2 : ¬ c → B) : if decide c = true then A else B := by
  by_cases h : c
  · rw [if_pos (decide_eq_true h)]
    exact h1 h
  · rw [if_neg (by simpa using h)]
    exact h2 h
/-- the law's draw: a number below most (0 where most is below 2) -/
def dPick : DSp := fun args obs Q => ∃ m : Int, args = [.p 0, .d (.int m)] ∧ obs = [.src] ∧ m < 1073741824 ∧ ∀ r : Int, 0 ≤ r → r < max 1 m → Q (.int r) [.src]
/-- the source's objects in the heap H, all else as in H0 -/
def SrcAt (a c : Addr) (H0 H : Hp) : Prop := (∀ b, b ≠ a → b ≠ c → H b = H0 b) ∧ a ≠ c ∧
  ∃ (cells : List Int) (l m t : Int), H a = some (.dK (srcD c l m t)) ∧ H c = some (.lst (cells.map V.int)) ∧ SrcOk cells l m t
theorem SrcAt.setL {a c : Addr} {H0 H : Hp} {cells : List Int} {l m t : Int} (ne : a ≠ c) (o : ∀ b, b ≠ a → b ≠ c → H b = H0 b) (h2 : H c = some (.lst (cells.map V.int))) (ok : SrcOk cells l m t) : SrcAt a c H0 (upd H a (.dK (srcD c l m t))) :=
  ⟨fun b h1 h2 => by rw [upd_ne h1]; exact o b h1 h2, ne, cells, l, m, t, upd_same, by rw [upd_ne ne.symm]; exact h2, ok⟩
/-- what LSp dPick gives, and what it asks -/
theorem pick_sp {K : Frg} {vs : List V} {H : Hp} {Q : VK} {E : XK} (h : LSp K dPick vs H Q E) : ∃ (a c : Addr) (m : Int), vs = [.ref a, .int m] ∧ SrcAt a c H H ∧ m < 1073741824 ∧ ∀ (r : Int) (H' : Hp), 0 ≤ r → r < max 1 m → SrcAt a c H H' → Q (.int r) H' := by
  obtain ⟨F, ptrs, args, obs, Q', same, ra, hand, ⟨m, rfl, rfl, hm, q⟩, post⟩ := h
  cases ra with
  | cons r1 t =>
    cases t with
    | cons r2 t =>
      cases t
      cases r2 with
      | d r2 =>
        cases r2
        cases r1 with
        | p hp =>
          rename_i a r
          have ro := hand.ro 0 _ _ rfl hp
          cases ro with
          | src g1 g2 ok =>
            rename_i c cells l m' t
            have hl : ptrs.length = 1 := hand.lst.symm
            have ep : ptrs = [[a, c]] := by
              match ptrs, hl, hp with
              | [x], _, hp => simp at hp; rw [hp]
            subst ep
            have nd := hand.nodup
            have ne : a ≠ c := by
              intro e
              subst e
              simp at nd
            refine ⟨a, c, m, rfl, ⟨fun _ _ _ => rfl, ne, cells, l, m', t, g1, g2, ok⟩, hm, fun r H' h0 h1 ⟨o, _, cells', l', m'', t', k1, k2, ok'⟩ => ?_⟩
            have fa : F a = none := hand.nof a (by simp)
            have fc : F c = none := hand.nof c (by simp)
            refine post _ _ _ F H' (q r h0 h1) ⟨.refl _, fun b x e => ?_, fun b x e => .inl e, fun b e => ?_, fun b x e n => ?_⟩ ⟨rfl, fun n x fp e1 e2 => ?_, nd, hand.nof, fun b hb => ?_⟩ (.int r)
            · rw [o b (fun z => by rw [z, fa] at e; cases e) (fun z => by rw [z, fc] at e; cases e)]
              exact same b x e
            · by_cases z : b = a
              · rw [z, k1] at e
                cases e
              · by_cases z2 : b = c
                · rw [z2, k2] at e
                  cases e
                · rw [o b z z2] at e
                  exact e
            · rw [o b (fun z => n (by simp [z])) (fun z => n (by simp [z]))]
              exact e
            · cases n with
              | zero =>
                simp at e1 e2
                subst e1 e2
                exact .src k1 k2 ok'
              | succ n => simp at e1
            · have hb : b = a ∨ b = c := by simpa using hb
              rcases hb with z | z
              · rw [z, k1]
                exact fun z => by cases z
              · rw [z, k2]
                exact fun z => by cases z
end DL

/-! DQ: defs as promises by name; the reading of loops and comprehensions. -/
namespace DL
open PySem PySem.Spec PyProof.Rows L2

structure Cal (P : Program) (w : World) (K : Frg) (mg : Str → Option Value) (base : Heap) (k : Nat) (x : Str) (ps : List Str) (dsp : DSp) : Prop where
  ex : ∃ (f : Addr) (fd : FuncData), GFn P w K mg base k f fd ps (LSp K dsp) ∧ mg x = some (.ref f) ∧ PySem.W.keepIn K (.ref f) = true ∧ Binds K fd ps []
section
variable {P : Program} {w : World} {K : Frg} {mg : Str → Option Value} {base : Heap}
theorem Cal.up {j k : Nat} {x : Str} {ps : List Str} {dsp : DSp} (C : Cal P w K mg base j x ps dsp) (h : j ≤ k) : Cal P w K mg base k x ps dsp := by
  obtain ⟨f, fd, F, r⟩ := C.ex
  exact ⟨f, fd, F.up h, r⟩
theorem Cal.imp {k : Nat} {x : Str} {ps : List Str} {dsp dsp' : DSp} (C : Cal P w K mg base k x ps dsp) (h : ∀ args obs Q, dsp' args obs Q → dsp args obs Q) : Cal P w K mg base k x ps dsp' := by
  obtain ⟨f, fd, F, r⟩ := C.ex
  refine ⟨f, fd, F.imp fun xs H Q E ⟨F0, ptrs, args, obs, Q', same, ra, hand, hd, post⟩ => ⟨F0, ptrs, args, obs, Q', same, ra, hand, h _ _ _ hd, post⟩, r⟩
abbrev ends (Q : PyData → List Ob → Prop) : DEn := { nx := fun en => Q .none en.st, rt := fun x en => Q x en.st }
theorem cal_mk {x : Str} {st : Stmt} {f : Addr} {fd : FuncData} {N ps : List Str} {k : Nat} {dsp : DSp} {t : TDS} (F : Fun K x x st f fd) (hm : mg x = some (.ref f)) (S : FnScope N ps (defScope st)) (hb : Binds K fd ps [])
    (len : ∀ args obs Q, dsp args obs Q → args.length = ps.length)
    (walk : ∀ (cdv : Value) (A : Around) (outer : List Env) (s : Shared) (H : Hp) (E : XK), A.guards = some [] → Room k (A.deeper (envOfC x (defScope st) s.heap.objs.size f cdv)) → DSs (cxOf CX0 P w K mg base N x (defScope st) f cdv A outer s H E).nox (defBody st) t)
    (rd : ∀ args obs Q, dsp args obs Q → t (ends Q) ⟨startEn N args, obs⟩) : Cal P w K mg base (k + 1) x ps dsp :=
  ⟨f, fd, dfun_ok F S len fun cdv A outer s H E args obs Q g hr hd => ⟨t, walk cdv A outer s H E g hr, rd args obs Q hd⟩, hm, F.kp, hb⟩
end
section
variable {X : Cx} {e : Expr} {es : List Expr} {pos : Pos}
theorem de_cal {dsp : DSp} {t : TDL} {j k : Nat} {ps : List Str} {x : Str} {p : Pos} (C : Cal X.prog X.w X.K X.mg X.base j x ps dsp) (g : X.A.guards = some []) (hr : Room k X.A) (hj : j ≤ k) (hg : Gl X x)
    (ha : DL X (e :: es) t) (hdb : (x == ("__debug__" : Str)) = false := by decide) (he : starEach (e :: es) X.env = (false, eval e X.env) :: starEach es X.env := by rfl) (hpl : (backTo pos (starEach es X.env)).any (·.1) = false := by rfl) : DE X (.Call (.Name x p) (e :: es) [] pos) (dCall dsp t) := by
  obtain ⟨f, fd, F, hm, hk, hb⟩ := C.ex
  exact de_call F g (hr.mono hj) hg hm hk hb ha hdb he hpl
end

/-! ### ints and lists under * -/
def fMulA : F2
  | .int i, .int j, k => Sm i j ∧ k (.int (i * j))
  | .list xs, .int n, k => (-1000000 ≤ n ∧ n ≤ 16777216 ∧ Big (xs.length * n.toNat)) ∧ k (.list (List.replicate n.toNat xs).flatten)
  | _, _, _ => False
abbrev rMulA : R2 := fun x y H Q => rI CMul (fun i j => .int (i * j)) x y H Q ∨ rRep x y H Q
theorem op_mulA {X : Cx} : OpR X (binaryOp .Mult) rMulA := op_mul.or op_rep
theorem oMulA {K : Frg} : OpD K rMulA fMulA := ⟨fun F H x y dx dy Q k s hx hy hf post => by
  unfold fMulA at hf
  split at hf
  · exact .inl ((oMul (K := K)).run F H x y _ _ Q k s hx hy hf post)
  · exact .inr ((oRep (K := K)).run F H x y _ _ Q k s hx hy hf post)
  · exact hf.elim⟩

theorem bt_len : bootBuiltins "len" = some (.builtin "len") := by decide +kernel
theorem bt_abs : bootBuiltins "abs" = some (.builtin "abs") := by decide +kernel
theorem bt_min : bootBuiltins "min" = some (.builtin "min") := by decide +kernel
theorem bt_max : bootBuiltins "max" = some (.builtin "max") := by decide +kernel
theorem bt_sum : bootBuiltins "sum" = some (.builtin "sum") := by decide +kernel
theorem bt_all : bootBuiltins "all" = some (.builtin "all") := by decide +kernel
theorem bt_any : bootBuiltins "any" = some (.builtin "any") := by decide +kernel
theorem bt_sorted : bootBuiltins "sorted" = some (.builtin "sorted") := by decide +kernel
theorem bt_repr : bootBuiltins "repr" = some (.builtin "repr") := by decide +kernel
theorem bt_int : bootBuiltins "int" = some (.type "int") := by decide +kernel
theorem bt_tuple : bootBuiltins "tuple" = some (.type "tuple") := by decide +kernel
theorem bt_list : bootBuiltins "list" = some (.type "list") := by decide +kernel

/-! ### reading loops and comprehensions -/
theorem forL_inv {g : TDG} {body : TDS} {D : DEn} (I : List PyData → En → Prop) : ∀ (xs : List PyData) (en : En), I xs en →
    (∀ x r en (k : En → Prop), I (x :: r) en → (∀ en', I r en' → k en') → g x en fun en1 => body { nx := k, rt := D.rt, bk := D.nx, ct := k } en1) →
    (∀ en, I [] en → D.nx en) → forL g body D xs en
  | [], en, h, _, hd => hd en h
  | x :: xs, en, h, hs, hd => hs x xs en _ h fun en' h' => forL_inv I xs en' h' hs hd
/-- by the turn's number -/
theorem forL_ix {g : TDG} {body : TDS} {D : DEn} {xs : List PyData} {en : En} (I : Nat → En → Prop) (h0 : I 0 en)
    (hs : ∀ (i : Nat) (x : PyData) (en : En) (k : En → Prop), xs[i]? = some x → I i en → (∀ en', I (i + 1) en' → k en') → g x en fun en1 => body { nx := k, rt := D.rt, bk := D.nx, ct := k } en1)
    (hd : ∀ en, I xs.length en → D.nx en) : forL g body D xs en := by
  have all : ∀ (n i : Nat) (en : En), n + i = xs.length → I i en → forL g body D (xs.drop i) en := by
    intro n
    induction n with
    | zero =>
      intro i en e h
      rw [List.drop_eq_nil_of_le (by omega)]
      exact hd en (by rw [← e, Nat.zero_add]; exact h)
    | succ n ih =>
      intro i en e h
      have hi : i < xs.length := by omega
      rw [List.drop_eq_getElem_cons hi]
      exact hs i xs[i] en _ (List.getElem?_eq_getElem hi) h fun en' h' => ih (i + 1) en' (by omega) h'
  exact all xs.length 0 en rfl h0
theorem whl_inv {c : TDT} {body : TDS} {D : DEn} (I : Nat → En → Prop) (hs : ∀ (m : Nat) (en : En) (k : En → Prop), I m en → (∀ m' en', m' < m → I m' en' → k en') → c en fun b en1 => if b = true then body { nx := k, rt := D.rt, bk := D.nx, ct := k } en1 else D.nx en1) :
    ∀ (n m : Nat) (en : En), m < n → I m en → whl c body D n en
  | 0, m, en, h, _ => by omega
  | n + 1, m, en, h, q => hs m en _ q fun m' en' lt q' => whl_inv I hs n m' en' (by omega) q'
theorem dWhile_inv {c : TDT} {body : TDS} {D : DEn} {en : En} (I : Nat → En → Prop) (m : Nat) (h0 : I m en) (hs : ∀ (m : Nat) (en : En) (k : En → Prop), I m en → (∀ m' en', m' < m → I m' en' → k en') → c en fun b en1 => if b = true then body { nx := k, rt := D.rt, bk := D.nx, ct := k } en1 else D.nx en1) :
    dWhile c body D en := ⟨m + 1, whl_inv I hs (m + 1) m en (Nat.lt_succ_self m) h0⟩
/-- a comprehension whose turns all start and end in the same state; S: what a turn may add -/
theorem cmpL_run {vs : List Nat} {g : TDG} {tt : TDT} {te : TD} {en0 : En} {Q : List PyData → En → Prop} (S : PyData → Option PyData → Prop) : ∀ (xs acc : List PyData),
    (∀ x ∈ xs, ∀ (kT : PyData → En → Prop) (kF : En → Prop), (∀ d, S x (some d) → kT d en0) → (S x none → kF en0) →
      g x en0 fun en1 => tt en1 fun b en2 => if b = true then te en2 fun y en3 => frz y en3 fun d en4 => kT d (wipeE vs en4) else kF (wipeE vs en2)) →
    (∀ rs : List (Option PyData), rs.length = xs.length → (∀ (i : Nat) x r, xs[i]? = some x → rs[i]? = some r → S x r) → Q (acc ++ rs.filterMap id) en0) → cmpL vs g tt te xs acc en0 Q
  | [], acc, _, hd => by
    have := hd [] rfl (fun i x r h => by simp at h)
    simpa [cmpL] using this
  | x :: xs, acc, hs, hd => by
    refine hs x List.mem_cons_self (fun d en => cmpL vs g tt te xs (acc ++ [d]) en Q) (fun en => cmpL vs g tt te xs acc en Q) (fun d sd => cmpL_run S xs _ (fun y hy => hs y (List.mem_cons_of_mem _ hy)) fun rs hl hr => ?_) (fun sn => cmpL_run S xs _ (fun y hy => hs y (List.mem_cons_of_mem _ hy)) fun rs hl hr => ?_)
    · have := hd (some d :: rs) (by simp [hl]) (fun i y r h1 h2 => by
        cases i with
        | zero =>
          simp at h1 h2
          subst h1 h2
          exact sd
        | succ i => exact hr i y r (by simpa using h1) (by simpa using h2))
      simpa using this
    · have := hd (none :: rs) (by simp [hl]) (fun i y r h1 h2 => by
        cases i with
        | zero =>
          simp at h1 h2
          subst h1 h2
          exact sn
        | succ i => exact hr i y r (by simpa using h1) (by simpa using h2))
      simpa using this
/-- all turns add what h says -/
theorem cmpL_fm {vs : List Nat} {g : TDG} {tt : TDT} {te : TD} {en0 : En} {Q : List PyData → En → Prop} {h : PyData → Option PyData} : ∀ (xs acc : List PyData),
    (∀ x ∈ xs, ∀ (kT : PyData → En → Prop) (kF : En → Prop), (∀ d, h x = some d → kT d en0) → (h x = none → kF en0) →
      g x en0 fun en1 => tt en1 fun b en2 => if b = true then te en2 fun y en3 => frz y en3 fun d en4 => kT d (wipeE vs en4) else kF (wipeE vs en2)) →
    Q (acc ++ xs.filterMap h) en0 → cmpL vs g tt te xs acc en0 Q
  | [], acc, _, hd => by simpa [cmpL] using hd
  | x :: xs, acc, hs, hd => by
    refine hs x List.mem_cons_self (fun d en => cmpL vs g tt te xs (acc ++ [d]) en Q) (fun en => cmpL vs g tt te xs acc en Q) (fun d sd => cmpL_fm xs _ (fun y hy => hs y (List.mem_cons_of_mem _ hy)) ?_) (fun sn => cmpL_fm xs _ (fun y hy => hs y (List.mem_cons_of_mem _ hy)) ?_)
    · simpa [List.filterMap_cons, sd] using hd
    · simpa [List.filterMap_cons, sn] using hd
/-- no test -/
theorem cmpL_map {vs : List Nat} {g : TDG} {te : TD} {en0 : En} {Q : List PyData → En → Prop} {h : PyData → PyData} : ∀ (xs acc : List PyData),
    (∀ x ∈ xs, ∀ (k : PyData → En → Prop), k (h x) en0 → g x en0 fun en1 => te en1 fun y en3 => frz y en3 fun d en4 => k d (wipeE vs en4)) →
    Q (acc ++ xs.map h) en0 → cmpL vs g dYes te xs acc en0 Q
  | [], acc, _, hd => by simpa [cmpL] using hd
  | x :: xs, acc, hs, hd => hs x List.mem_cons_self (fun d en => cmpL vs g dYes te xs (acc ++ [d]) en Q) (cmpL_map xs _ (fun y hy => hs y (List.mem_cons_of_mem _ hy)) (by simpa using hd))
end DL

/-! DW: the law's own def: its first statement opens the source. -/
namespace DL
open PySem PySem.Spec PyProof.Rows L2
def spOpen (K : Frg) : Sp := fun vs H Q E => ∃ (a : Addr) (ns : List Int), vs = [.ref a] ∧ SqL K H a (ns.map V.int) ∧ ns.length ≤ 63 ∧
  ∀ (p c : Addr) (cells : List Int) (mx : Int) (H' : Hp), H p = none → H c = none → p ≠ c → SrcOk cells 1 mx 0 → H' p = some (.dK (srcD c 1 mx 0)) → H' c = some (.lst (cells.map V.int)) → Same H H' → Q (.ref p) H'
def spLaw (K : Frg) : Sp := fun vs H Q _ => ∃ (a : Addr) (ns : List Int), vs = [.ref a] ∧ SqL K H a (ns.map V.int) ∧ ns.length ≤ 63 ∧ ∀ H', Q (.bl true) H'
abbrev lawEnds : DEn := { nx := fun _ => False, rt := fun x _ => x = .bool true }
theorem law_read {K : Frg} {H : Hp} {p c a : Addr} {n : Nat} {t : TDS} {D : Ends} {cells : List Int} {mx : Int} (ne : p ≠ c) (ok : SrcOk cells 1 mx 0) (g1 : H p = some (.dK (srcD c 1 mx 0))) (g2 : H c = some (.lst (cells.map V.int)))
    (ht : t lawEnds ⟨none :: some (.own .src) :: List.replicate n none, []⟩) (hD : ∀ H', D.rt (.bl true) H') : LS K t D (some (.ref a) :: some (.ref p) :: List.replicate n none) H := by
  have R : Rel K ⟨fun _ => none, fun _ => none, [], []⟩ (fun _ => none) ([] :: [p, c] :: List.replicate n []) ⟨none :: some (.own .src) :: List.replicate n none, []⟩ (some (.ref a) :: some (.ref p) :: List.replicate n none) H := by
    constructor
    case same => exact fun _ _ e => nomatch e
    case len => exact ⟨by simp, by simp⟩
    case lst => rfl
    case store => exact fun n o fp h1 _ => by simp at h1
    case nof => exact fun _ _ => rfl
    case sub => exact fun b hb => by simp at hb
    case sameF => exact fun _ _ e => e
    case newF => exact fun _ _ e => nomatch e
    case new => exact fun _ _ => .inl rfl
    case grow => exact fun _ _ => rfl
    case keep => exact fun _ _ e _ => nomatch e
    case slot =>
      intro i s v fp h1 h2 h3
      match i with
      | 0 =>
        simp at h1 h2 h3
        subst h1 h2 h3
        exact .none
      | 1 =>
        simp at h1 h2 h3
        subst h1 h2 h3
        exact .own (.src g1 g2 ok)
      | i + 2 =>
        have h1 : (List.replicate n (none : Option Sl))[i]? = some s := h1
        have h2 : (List.replicate n (none : Option V))[i]? = some v := h2
        have h3 : (List.replicate n ([] : List Addr))[i]? = some fp := h3
        rw [List.getElem?_replicate] at h1 h2 h3
        split at h1
        · rename_i hi
          rw [if_pos hi] at h2 h3
          cases h1
          cases h2
          cases h3
          exact .none
        · cases h1
    case nodup => simp [flat_nil, ne]
    case live =>
      intro b hb
      have : b = p ∨ b = c := by simpa [flat_nil] using hb
      rcases this with e | e
      · rw [e, g1]
        exact fun z => by cases z
      · rw [e, g2]
        exact fun z => by cases z
  refine ⟨_, _, _, _, _, R, ht, ⟨fun _ _ _ _ _ h _ => h.elim, fun x en v F fps σ H' h R rd => ?_, fun _ _ _ _ _ h _ => h.elim, fun _ _ _ _ _ h _ => h.elim⟩⟩
  have h : x = .bool true := h
  subst h
  cases rd
  exact hD H'
section
variable {P : Program} {w : World} {K : Frg} {mg : Str → Option Value} {base : Heap}
structure COpen (P : Program) (w : World) (K : Frg) (mg : Str → Option Value) (base : Heap) (x : Str) : Prop where
  ex : ∃ (f : Addr) (fd : FuncData), GFn P w K mg base 1 f fd ["script"] (spOpen K) ∧ mg x = some (.ref f) ∧ PySem.W.keepIn K (.ref f) = true ∧ Binds K fd ["script"] []
theorem cal_pick {x : Str} {ps : List Str} {f : Addr} {fd : FuncData} {st : Stmt} (F : Fun K x x st f fd) (hm : mg x = some (.ref f)) (hb : Binds K fd ps []) (G : GFn P w K mg base 1 f fd ps (LSp K dPick)) : Cal P w K mg base 1 x ps dPick :=
  ⟨f, fd, G, hm, F.kp, hb⟩
theorem copen_mk {x : Str} {f : Addr} {fd : FuncData} {st : Stmt} (F : Fun K x x st f fd) (hm : mg x = some (.ref f)) (hb : Binds K fd ["script"] []) (G : GFn P w K mg base 1 f fd ["script"] (spOpen K)) : COpen P w K mg base x :=
  ⟨f, fd, G, hm, F.kp, hb⟩
end
section
variable {X : Cx} {e : Expr} {es : List Expr} {pos : Pos}
theorem pe_open {x : Str} {p : Pos} {k : Nat} {t : TA} (C : COpen X.prog X.w X.K X.mg X.base x) (g : X.A.guards = some []) (hr : Room k X.A) (hk : 1 ≤ k) (hg : Gl X x)
    (ha : PA X (e :: es) t) (hdb : (x == ("__debug__" : Str)) = false := by decide) (he : starEach (e :: es) X.env = (false, eval e X.env) :: starEach es X.env := by rfl) (hpl : (backTo pos (starEach es X.env)).any (·.1) = false := by rfl) :
    PE X (.Call (.Name x p) (e :: es) [] pos) fun σ H Q => t σ H fun xs H1 => spOpen X.K xs H1 Q E0 := by
  obtain ⟨f, fd, F, hm, hk', hb⟩ := C.ex
  exact g_call F g (hr.mono hk) hg hm hk' hb ha hdb he hpl
end
end DL

/-! DZ: helps for readings. -/
namespace DL
open PySem PySem.Spec PyProof.Rows L2

theorem q_int {Q : PyData → List Ob → Prop} {a b : Int} {l : List Ob} (q : Q (.int a) l) (e : a = b) : Q (.int b) l := e ▸ q
theorem k_en {k : En → Prop} {a b : En} (q : k a) (e : a = b) : k b := e ▸ q
theorem rng_get {a b : Int} {i : Nat} {x : PyData} (h : (rng a b)[i]? = some x) : i < (b - a).toNat ∧ x = .int (a + (i : Nat)) := by
  unfold rng at h
  rw [List.getElem?_map] at h
  obtain ⟨j, hj, rfl⟩ := Option.map_eq_some_iff.mp h
  obtain ⟨h1, h2⟩ := List.getElem?_eq_some_iff.mp hj
  rw [List.getElem_range] at h2
  subst h2
  rw [List.length_range] at h1
  exact ⟨h1, rfl⟩
theorem rng0_get {n : Nat} {i : Nat} {x : PyData} (h : (rng 0 (n : Int))[i]? = some x) : i < n ∧ x = .int (i : Nat) := by
  obtain ⟨h1, rfl⟩ := rng_get h
  exact ⟨by omega, by rw [Int.zero_add]⟩
theorem rng0_len (n : Nat) : (rng 0 (n : Int)).length = n := by rw [rng_length]; omega
theorem rng0_eq (n : Nat) : rng 0 (n : Int) = (List.range n).map fun i => PyData.int (i : Nat) := by
  unfold rng
  have e : ((n : Int) - 0).toNat = n := by omega
  rw [e]
  exact List.map_congr_left fun i _ => by rw [Int.zero_add]
/-- comprehensions over range(n) -/
theorem cmpL_rng {vs : List Nat} {g : TDG} {te : TD} {en0 : En} {Q : List PyData → En → Prop} {n : Nat} (f : Nat → PyData)
    (hs : ∀ i, i < n → ∀ (k : PyData → En → Prop), k (f i) en0 → g (.int (i : Nat)) en0 fun en1 => te en1 fun y en3 => frz y en3 fun d en4 => k d (wipeE vs en4))
    (hd : Q ((List.range n).map f) en0) : cmpL vs g dYes te (rng 0 (n : Int)) [] en0 Q := by
  rw [rng0_eq]
  refine cmpL_map (h := fun d => match d with
    | .int i => f i.toNat
    | _ => .none) _ _ (fun x hx k hk => ?_) ?_
  · obtain ⟨i, hi, rfl⟩ := List.mem_map.mp hx
    exact hs i (List.mem_range.mp hi) k (by simpa using hk)
  · rw [List.map_map, List.nil_append]
    exact hd
theorem cmpL_rngF {vs : List Nat} {g : TDG} {tt : TDT} {te : TD} {en0 : En} {Q : List PyData → En → Prop} {n : Nat} (p : Nat → Bool) (f : Nat → PyData)
    (hs : ∀ i, i < n → ∀ (kT : PyData → En → Prop) (kF : En → Prop), (p i = true → kT (f i) en0) → (p i = false → kF en0) →
      g (.int (i : Nat)) en0 fun en1 => tt en1 fun b en2 => if b = true then te en2 fun y en3 => frz y en3 fun d en4 => kT d (wipeE vs en4) else kF (wipeE vs en2))
    (hd : Q (((List.range n).filter p).map f) en0) : cmpL vs g tt te (rng 0 (n : Int)) [] en0 Q := by
  rw [rng0_eq]
  refine cmpL_fm (h := fun d => match d with
    | .int i => if p i.toNat = true then some (f i.toNat) else none
    | _ => none) _ _ (fun x hx kT kF h1 h2 => ?_) ?_
  · obtain ⟨i, hi, rfl⟩ := List.mem_map.mp hx
    exact hs i (List.mem_range.mp hi) kT kF (fun e => h1 _ (by simp [e])) (fun e => h2 (by simp [e]))
  · rw [List.filterMap_map, List.nil_append]
    have e : ∀ l : List Nat, List.filterMap ((fun d => match d with
      | PyData.int i => if p i.toNat = true then some (f i.toNat) else none
      | _ => none) ∘ fun (i : Nat) => PyData.int (i : Nat)) l = (l.filter p).map f := fun l => by
      induction l with
      | nil => rfl
      | cons x l ih =>
        rw [List.filterMap_cons, List.filter_cons]
        by_cases h : p x = true
        · simp [h, ih]
        · simp [h, ih]
    rw [e]
    exact hd
/-- all items of a kind, as many as turns (no test) -/
theorem cmpL_all {vs : List Nat} {g : TDG} {te : TD} {en0 : En} {Q : List PyData → En → Prop} (P : PyData → Prop) : ∀ (xs acc : List PyData),
    (∀ x ∈ xs, ∀ (k : PyData → En → Prop), (∀ d, P d → k d en0) → g x en0 fun en1 => te en1 fun y en3 => frz y en3 fun d en4 => k d (wipeE vs en4)) →
    (∀ ds : List PyData, ds.length = xs.length → (∀ d ∈ ds, P d) → Q (acc ++ ds) en0) → cmpL vs g dYes te xs acc en0 Q
  | [], acc, _, hd => by simpa [cmpL] using hd [] rfl (by simp)
  | x :: xs, acc, hs, hd => hs x List.mem_cons_self (fun d en => cmpL vs g dYes te xs (acc ++ [d]) en Q) fun d hp => cmpL_all P xs _ (fun y hy => hs y (List.mem_cons_of_mem _ hy)) fun ds hl hds => by
    have := hd (d :: ds) (by simp [hl]) (fun e he => (List.mem_cons.mp he).elim (fun z => z ▸ hp) (hds e))
    simpa using this
/-- all items of a kind, at most as many as turns -/
theorem cmpL_some {vs : List Nat} {g : TDG} {tt : TDT} {te : TD} {en0 : En} {Q : List PyData → En → Prop} (P : PyData → Prop) : ∀ (xs acc : List PyData),
    (∀ x ∈ xs, ∀ (kT : PyData → En → Prop) (kF : En → Prop), (∀ d, P d → kT d en0) → kF en0 →
      g x en0 fun en1 => tt en1 fun b en2 => if b = true then te en2 fun y en3 => frz y en3 fun d en4 => kT d (wipeE vs en4) else kF (wipeE vs en2)) →
    (∀ ds : List PyData, ds.length ≤ xs.length → (∀ d ∈ ds, P d) → Q (acc ++ ds) en0) → cmpL vs g tt te xs acc en0 Q
  | [], acc, _, hd => by simpa [cmpL] using hd [] (Nat.le_refl _) (by simp)
  | x :: xs, acc, hs, hd => hs x List.mem_cons_self (fun d en => cmpL vs g tt te xs (acc ++ [d]) en Q) (fun en => cmpL vs g tt te xs acc en Q)
    (fun d hp => cmpL_some P xs _ (fun y hy => hs y (List.mem_cons_of_mem _ hy)) fun ds hl hds => by
      have := hd (d :: ds) (by simp; omega) (fun e he => (List.mem_cons.mp he).elim (fun z => z ▸ hp) (hds e))
      simpa using this)
    (cmpL_some P xs _ (fun y hy => hs y (List.mem_cons_of_mem _ hy)) fun ds hl hds => hd ds (by simp; omega) hds)
/-- over a list of data that is a map -/
theorem cmpL_mapF {α : Type} {vs : List Nat} {g : TDG} {tt : TDT} {te : TD} {en0 : En} {Q : List PyData → En → Prop} {c : α → PyData} (p : α → Bool) (f : α → PyData) : ∀ (xs : List α) (acc : List PyData),
    (∀ x ∈ xs, ∀ (kT : PyData → En → Prop) (kF : En → Prop), (p x = true → kT (f x) en0) → (p x = false → kF en0) →
      g (c x) en0 fun en1 => tt en1 fun b en2 => if b = true then te en2 fun y en3 => frz y en3 fun d en4 => kT d (wipeE vs en4) else kF (wipeE vs en2)) →
    Q (acc ++ (xs.filter p).map f) en0 → cmpL vs g tt te (xs.map c) acc en0 Q
  | [], acc, _, hd => by simpa [cmpL] using hd
  | x :: xs, acc, hs, hd => by
    refine hs x List.mem_cons_self (fun d en => cmpL vs g tt te (xs.map c) (acc ++ [d]) en Q) (fun en => cmpL vs g tt te (xs.map c) acc en Q) (fun e => ?_) (fun e => ?_)
    · exact cmpL_mapF p f xs _ (fun y hy => hs y (List.mem_cons_of_mem _ hy)) (by simpa [List.filter_cons, e] using hd)
    · exact cmpL_mapF p f xs _ (fun y hy => hs y (List.mem_cons_of_mem _ hy)) (by simpa [List.filter_cons, e] using hd)
theorem cmpL_mapM {α : Type} {vs : List Nat} {g : TDG} {te : TD} {en0 : En} {Q : List PyData → En → Prop} {c : α → PyData} (f : α → PyData) : ∀ (xs : List α) (acc : List PyData),
    (∀ x ∈ xs, ∀ (k : PyData → En → Prop), k (f x) en0 → g (c x) en0 fun en1 => te en1 fun y en3 => frz y en3 fun d en4 => k d (wipeE vs en4)) →
    Q (acc ++ xs.map f) en0 → cmpL vs g dYes te (xs.map c) acc en0 Q
  | [], acc, _, hd => by simpa [cmpL] using hd
  | x :: xs, acc, hs, hd => hs x List.mem_cons_self (fun d en => cmpL vs g dYes te (xs.map c) (acc ++ [d]) en Q) (cmpL_mapM f xs _ (fun y hy => hs y (List.mem_cons_of_mem _ hy)) (by simpa using hd))
/-- the state may change within I -/
theorem cmpL_inv {vs : List Nat} {g : TDG} {te : TD} {Q : List PyData → En → Prop} (I : En → Prop) (P : PyData → Prop) : ∀ (xs acc : List PyData) (en : En), I en →
    (∀ x ∈ xs, ∀ en, I en → ∀ (k : PyData → En → Prop), (∀ d en', P d → I en' → k d en') → g x en fun en1 => te en1 fun y en3 => frz y en3 fun d en4 => k d (wipeE vs en4)) →
    (∀ (ds : List PyData) en', ds.length = xs.length → (∀ d ∈ ds, P d) → I en' → Q (acc ++ ds) en') → cmpL vs g dYes te xs acc en Q
  | [], acc, en, h, _, hd => by simpa [cmpL] using hd [] en rfl (by simp) h
  | x :: xs, acc, en, h, hs, hd => hs x List.mem_cons_self en h (fun d en => cmpL vs g dYes te xs (acc ++ [d]) en Q) fun d en' hp h' => cmpL_inv I P xs _ en' h' (fun y hy => hs y (List.mem_cons_of_mem _ hy)) fun ds en2 hl hds h2 => by
    have := hd (d :: ds) en2 (by simp [hl]) (fun e he => (List.mem_cons.mp he).elim (fun z => z ▸ hp) (hds e)) h2
    simpa using this
/-- the same with a test -/
theorem cmpL_invT {vs : List Nat} {g : TDG} {tt : TDT} {te : TD} {Q : List PyData → En → Prop} (I : En → Prop) (P : PyData → Prop) : ∀ (xs acc : List PyData) (en : En), I en →
    (∀ x ∈ xs, ∀ en, I en → ∀ (kT : PyData → En → Prop) (kF : En → Prop), (∀ d en', P d → I en' → kT d en') → (∀ en', I en' → kF en') →
      g x en fun en1 => tt en1 fun b en2 => if b = true then te en2 fun y en3 => frz y en3 fun d en4 => kT d (wipeE vs en4) else kF (wipeE vs en2)) →
    (∀ (ds : List PyData) en', ds.length ≤ xs.length → (∀ d ∈ ds, P d) → I en' → Q (acc ++ ds) en') → cmpL vs g tt te xs acc en Q
  | [], acc, en, h, _, hd => by simpa [cmpL] using hd [] en (Nat.le_refl _) (by simp) h
  | x :: xs, acc, en, h, hs, hd => hs x List.mem_cons_self en h (fun d en => cmpL vs g tt te xs (acc ++ [d]) en Q) (fun en => cmpL vs g tt te xs acc en Q)
    (fun d en' hp h' => cmpL_invT I P xs _ en' h' (fun y hy => hs y (List.mem_cons_of_mem _ hy)) fun ds en2 hl hds h2 => by
      have := hd (d :: ds) en2 (by simp; omega) (fun e he => (List.mem_cons.mp he).elim (fun z => z ▸ hp) (hds e)) h2
      simpa using this)
    (fun en' h' => cmpL_invT I P xs _ en' h' (fun y hy => hs y (List.mem_cons_of_mem _ hy)) fun ds en2 hl hds h2 => hd ds en2 (by simp; omega) hds h2)
theorem seq_inv {t u : TDS} {D : DEn} {en : En} (P : En → Prop) (h1 : ∀ k : En → Prop, (∀ en', P en' → k en') → t { D with nx := k } en) (h2 : ∀ en', P en' → u D en') : dSeq t u D en := h1 _ h2
/-- powers of two as they come -/
theorem shl_nat (i : Nat) : (1 : Int) * 2 ^ ((i : Int)).toNat = ((2 ^ i : Nat) : Int) := by simp
theorem two_pow_lt {i n : Nat} (h : i ≤ n) : 2 ^ i ≤ 2 ^ n := Nat.pow_le_pow_right (by decide) h
/-- 1 << i -/
theorem shl_one {i : Nat} {k : PyData → Prop} (hi : i ≤ 1000000) (h : k (.int ((2 ^ i : Nat) : Int))) : fShl (.int 1) (.int (i : Nat)) k := by
  refine ⟨⟨by omega, by omega, by decide⟩, ?_⟩
  rw [shl_nat]
  exact h
theorem div_nat {a b : Nat} {k : PyData → Prop} (h0 : 0 < b) (h1 : b < 1073741824) (h : k (.int ((a / b : Nat) : Int))) : fDiv (.int (a : Nat)) (.int (b : Nat)) k := by
  refine ⟨⟨by omega, by omega⟩, ?_⟩
  rw [← Int.natCast_ediv]
  exact h
theorem mod_nat {a b : Nat} {k : PyData → Prop} (h0 : 0 < b) (h : k (.int ((a % b : Nat) : Int))) : fMod (.int (a : Nat)) (.int (b : Nat)) k := by
  refine ⟨by omega, ?_⟩
  rw [← Int.natCast_emod]
  exact h
theorem ints_nat (l : List Nat) : intsOf (l.map fun b => PyData.int (b : Nat)) = some (l.map fun b => ((b : Nat) : Int)) := by
  have := intsOf_map (l.map fun b => ((b : Nat) : Int))
  rwa [List.map_map] at this
theorem sum_nat (l : List Nat) : (l.map fun b => ((b : Nat) : Int)).sum = ((l.sum : Nat) : Int) := by
  induction l with
  | nil => rfl
  | cons x l ih => simp [ih]
end DL

namespace DL
open PySem PySem.Spec PyProof.Rows L2
def topS (i : Nat) : Stmt := PySem.Challenge.pw_bitsasked_k47_whole_least_shares.main.body.getD i (.Pass ⟨0, 0, 0, 0⟩)
abbrev s_law_pick : Stmt := topS 16
theorem scPick : FnScope ["source", "most", "cells", "others", "lap", "stirred"] ["source", "most"] (defScope s_law_pick) := ⟨rfl, rfl, rfl, by decide +kernel, rfl, by decide +kernel, by decide +kernel⟩
section
variable {P : Program} {w : World} {K : Frg} {mg : Str → Option Value} {base : Heap}
theorem ok_pick {f : Addr} {fd : FuncData} (F : Fun K "_law_pick" "_law_pick" s_law_pick f fd) (mI : mg "int" = none) (mL : mg "len" = none) : GFn P w K mg base 1 f fd ["source", "most"] (LSp K dPick) := by
  refine gfn_ok F scPick (fun vs H Q E h => ?_) (fun cdv A outer s H vs Q E g hr h => ?_)
  · obtain ⟨a, c, m, rfl, _⟩ := pick_sp h
    rfl
  · obtain ⟨a, c, m, rfl, sa, hm, post⟩ := pick_sp h
    have hu := hu_of hr
    refine ⟨_, pss_cons (ps_if (pt_cmpR op_lt (pv 1) pe_int (nomark _)) (pss_one (ps_ret pe_int)) pss_nil)
      (pss_cons (ps_set (i := 2) scPick.nd rfl (.inl rfl) (pe_dget hu (pv 0) pe_str (fun _ _ => rfl)))
      (pss_cons (ps_while PassesOwn.never (PW.pt (pw_and (pt_cmpR op_lt (pe_dget hu (pv 0) pe_str (fun _ _ => rfl)) pe_int (nomark _)) (pw_and1 (pt_cmpR op_gt (pe_callB call_len_seq (by rfl) mL PySem.boot_len (pa_cons (pv 2) pa_nil)) pe_int (nomark _)))))
        (pss_one (ps_dput hu (pv 0) pe_str (pe_bm0 PySem.F.plainAttrs_list PySem.F.slot_list_pop PySem.F.type_list_pop mt_pop (pv 2)) rfl)))
      (pss_cons (ps_set (i := 3) scPick.nd rfl (.inl rfl) (pe_dget hu (pv 0) pe_str (fun _ _ => rfl)))
      (pss_cons (ps_if (pt_cmpR op_gt (pv 3) pe_int (nomark _)) (pss_cons (ps_dput hu (pv 0) pe_str (pe_op op_fdiv (pv 3) (pv 1)) rfl) (pss_one (ps_ret (pe_op op_mod (pe_callTy call_int1 (by rfl) mI boot_int (pa_cons (pv 3) pa_nil)) (pv 1))))) pss_nil)
      (pss_cons (ps_dput hu (pv 0) pe_str (pe_op op_add (pe_dget hu (pv 0) pe_str (fun _ _ => rfl)) pe_int) rfl)
      (pss_cons (ps_set (i := 4) scPick.nd rfl (.inl rfl) (pe_dget hu (pv 0) pe_str (fun _ _ => rfl)))
      (pss_cons (ps_set (i := 5) scPick.nd rfl (.inl rfl) (pe_op op_mod (pe_callTy call_int1 (by rfl) mI boot_int (pa_cons (pe_op op_add (pe_dget hu (pv 0) pe_str (fun _ _ => rfl)) (pe_op op_mul (pv 4) pe_int)) pa_nil)) pe_int))
      (pss_cons (ps_set (i := 5) scPick.nd rfl (.inl rfl) (pe_op op_mod (pe_callTy call_int1 (by rfl) mI boot_int (pa_cons (pe_op op_add (pe_op op_mul (pv 5) (pv 5)) (pe_op op_mul (pv 4) pe_int)) pa_nil)) pe_int))
      (pss_one (ps_ret (pe_op op_mod (pe_callTy call_int1 (by rfl) mI boot_int (pa_cons (pe_op op_fdiv (pv 5) pe_int) pa_nil)) (pv 1)))))))))))), ?_⟩
    -- most < 2
    refine ⟨_, rfl, _, _, rfl, rfl, _, rfl, iteD (fun c1 => ?_) fun c1 => ?_⟩
    · exact post 0 H (by omega) (by omega) sa
    obtain ⟨o, ne, cells, l, mx, t, h1, h2, ok⟩ := sa
    -- cells = source['cells']
    refine ⟨_, rfl, a, _, rfl, gC h1, ?_⟩
    -- the loop
    refine ⟨fun n σ H1 => ∃ cells l, n = cells.length ∧ σ = [some (.ref a), some (.int m), some (.ref c), none, none, none] ∧ (∀ b, b ≠ a → b ≠ c → H1 b = H b) ∧ H1 a = some (.dK (srcD c l mx t)) ∧ H1 c = some (.lst (cells.map V.int)) ∧ SrcOk cells l mx t,
      ⟨_, cells, l, rfl, rfl, fun _ _ _ => rfl, h1, h2, ok⟩, ?_⟩
    rintro n σ H1 ⟨cells, l, rfl, rfl, o1, k1, k2, ok⟩
    refine (show ∀ Q : Bool → Hp → Prop, (l < 2 → 0 < cells.length → Q true H1) → ((l < 2 → cells = []) → Q false H1) → tAnd _ _ [some (.ref a), some (.int m), some (.ref c), none, none, none] H1 Q from fun Q q1 q2 => ?_) _ (fun c2 c3 => ?_) (fun c2 => ?_)
    · refine ⟨_, rfl, a, _, rfl, gL k1, _, _, rfl, rfl, _, rfl, iteD (fun c2 => ?_) fun c2 => ?_⟩
      · refine ⟨_, rfl, c, _, rfl, .inl (SqL.of k2), _, _, rfl, rfl, _, rfl, ?_⟩
        have el : (cells.map V.int).length = cells.length := List.length_map ..
        rw [el]
        by_cases c3 : 0 < cells.length
        · have e : decide ((cells.length : Int) > 0) = true := by simpa using c3
          rw [e]
          exact q1 c2 c3
        · have e : decide ((cells.length : Int) > 0) = false := by simpa using c3
          rw [e]
          exact q2 fun _ => List.length_eq_zero_iff.mp (by omega)
      · exact q2 fun h => absurd h c2
    · refine iteT ?_
      obtain ⟨ok1, ok2, ok3, ok4, ok5, ok6⟩ := ok
      refine ⟨fun σ' H' => ∃ cells' l', cells'.length < cells.length ∧ σ' = [some (.ref a), some (.int m), some (.ref c), none, none, none] ∧ (∀ b, b ≠ a → b ≠ c → H' b = H b) ∧ H' a = some (.dK (srcD c l' mx t)) ∧ H' c = some (.lst (cells'.map V.int)) ∧ SrcOk cells' l' mx t, fun σ' H' ⟨cells', l', q1, q2, q3, q4, q5, q6⟩ => ⟨_, q1, cells', l', rfl, q2, q3, q4, q5, q6⟩, ?_⟩
      have hl : cells.length - 1 < cells.length := by omega
      have e1 : (cells.map V.int)[(cells.map V.int).length - 1]? = some (.int cells[cells.length - 1]) := by
        rw [List.length_map, List.getElem?_map, List.getElem?_eq_getElem hl]
        rfl
      refine ⟨_, rfl, .inl ⟨rfl, _, .inl (.inl k2)⟩, c, _, _, rfl, rfl, k2, e1, ?_⟩
      have k1' : (upd H1 c (.lst (cells.map V.int).dropLast)) a = some (.dK (srcD c l mx t)) := by rw [upd_ne ne]; exact k1
      refine ⟨_, rfl, a, _, rfl, pL _ k1', ?_⟩
      refine ⟨cells.dropLast, cells[cells.length - 1], by rw [List.length_dropLast]; omega, rfl, fun b h1 h2 => ?_, upd_same, ?_, fun x hx => ok1 x (List.dropLast_subset _ hx), by rw [List.length_dropLast]; omega, ok1 _ (List.getElem_mem hl), ok4, ok5, ok6⟩
      · rw [upd_ne h1, upd_ne h2]
        exact o1 b h1 h2
      · rw [upd_ne ne.symm, upd_same, List.map_dropLast]
    · refine iteF ?_
      have fin : ∀ (l' mx' t' r : Int) (H2 : Hp), (∀ b, b ≠ a → b ≠ c → H2 b = H b) → H2 a = some (.dK (srcD c l' mx' t')) → H2 c = some (.lst (cells.map V.int)) → SrcOk cells l' mx' t' → 0 ≤ r → r < max 1 m → Q (.int r) H2 :=
        fun l' mx' t' r H2 o h1 h2 ok r1 r2 => post r H2 r1 r2 ⟨o, ne, cells, l', mx', t', h1, h2, ok⟩
      obtain ⟨ok1, ok2, ok3, ok4, ok5, ok6⟩ := ok
      -- others = source['left']
      refine ⟨_, rfl, a, _, rfl, gL k1, ?_⟩
      refine ⟨_, rfl, _, _, rfl, rfl, _, rfl, iteD (fun c4 => ?_) fun c4 => ?_⟩
      · refine ⟨_, rfl, _, rfl, _, _, rfl, rfl, ⟨by omega, hm⟩, _, rfl, a, _, rfl, pL _ k1, ?_⟩
        refine ⟨_, rfl, .inl ⟨_, rfl, _, rfl, _, _, rfl, rfl, by omega, ?_⟩⟩
        refine fin (l / m) mx t _ _ (fun b h1 h2 => by rw [upd_ne h1]; exact o1 b h1 h2) upd_same (by rw [upd_ne ne.symm]; exact k2) ⟨ok1, ok2, Int.ediv_nonneg (by omega) (by omega), ok4, ok5, ok6⟩ (Int.emod_nonneg _ (by omega)) ?_
        have := Int.emod_lt_of_pos l (show 0 < m by omega)
        omega
      · refine ⟨_, rfl, a, _, rfl, gT k1, _, _, rfl, rfl, _, rfl, a, _, rfl, pT _ k1, ?_⟩
        have k3 : (upd H1 a (.dK (srcD c l mx (t + 1)))) a = some (.dK (srcD c l mx (t + 1))) := upd_same
        refine ⟨_, rfl, a, _, rfl, gT k3, ?_⟩
        refine ⟨_, rfl, a, _, rfl, gM k3, _, rfl, _, _, rfl, rfl, .inr ⟨by decide, by decide⟩, _, _, rfl, rfl, .inl ⟨_, rfl, _, _, rfl, rfl, (by show (0 : Int) < _; decide), ?_⟩⟩
        generalize hx : (mx + (t + 1) * 104729) % 998244353 = x
        have x1 : 0 ≤ x := by rw [← hx]; exact Int.emod_nonneg _ (by decide)
        have x2 : x < 998244353 := by rw [← hx]; exact Int.emod_lt_of_pos _ (by decide)
        refine ⟨_, rfl, _, rfl, _, _, rfl, rfl, .inr ⟨by omega, by omega⟩, _, rfl, _, _, rfl, rfl, .inr ⟨by decide, by decide⟩, _, _, rfl, rfl, .inl ⟨_, rfl, _, _, rfl, rfl, (by show (0 : Int) < _; decide), ?_⟩⟩
        generalize hy : (x * x + (t + 1) * 17) % 2147483647 = y
        refine ⟨_, rfl, _, _, rfl, rfl, ⟨by decide, by decide⟩, .inl ⟨_, rfl, _, rfl, _, _, rfl, rfl, (by show (0 : Int) < m; omega), ?_⟩⟩
        refine fin l mx (t + 1) _ _ (fun b h1 h2 => by rw [upd_ne h1]; exact o1 b h1 h2) upd_same (by rw [upd_ne ne.symm]; exact k2) ⟨ok1, ok2, ok3, ok4, ok5, by omega⟩ (Int.emod_nonneg _ (by omega)) ?_
        refine Int.lt_of_lt_of_le (Int.emod_lt_of_pos _ (by omega)) ?_
        omega
end
end DL

namespace DL
open PySem PySem.Spec PyProof.Rows L2
abbrev s_law_open_cells : Stmt := topS 15
theorem scCells : FnScope ["script", "stirred", "cell", "cells"] ["script"] (defScope s_law_open_cells) := ⟨rfl, rfl, rfl, by decide +kernel, rfl, by decide +kernel, by decide +kernel⟩
section
variable {P : Program} {w : World} {K : Frg} {mg : Str → Option Value} {base : Heap}
theorem ok_open {f : Addr} {fd : FuncData} (F : Fun K "_law_open_cells" "_law_open_cells" s_law_open_cells f fd) (mI : mg "int" = none) (mA : mg "abs" = none) : GFn P w K mg base 1 f fd ["script"] (spOpen K) := by
  refine gfn_ok F scCells (fun vs H Q E h => ?_) (fun cdv A outer s H vs Q E g hr h => ?_)
  · obtain ⟨a, ns, rfl, _⟩ := h
    rfl
  · obtain ⟨a, ns, rfl, hS, hl, post⟩ := h
    have hu := hu_of hr
    refine ⟨_, pss_cons (ps_set (i := 1) scCells.nd rfl (.inl rfl) pe_int)
      (pss_cons (ps_for PassesOwn.never rfl (pi_list (pv 0)) (pg_name (i := 2) scCells.nd rfl (.inl rfl))
        (pss_one (ps_set (i := 1) scCells.nd rfl (.inl rfl) (pe_op op_mod (pe_callTy call_int1 (by rfl) mI boot_int (pa_cons (pe_op op_add (pe_op op_add (pe_op op_mul (pv 1) pe_int) (pe_op op_mul (pv 2) pe_int)) pe_int) pa_nil)) pe_int))))
      (pss_cons (ps_setLc (i := 3) (own := [("cell", 2)]) (g := gName 2) (tt := tYes) rfl scCells.nd rfl rfl (sw_true rfl rfl rfl (by decide +kernel)) (pi_list (pv 0)) (blkOk_by (N := ["script", "stirred", "cell", "cells"]) (sc := defScope s_law_open_cells) (by decide +kernel)) (fun _ _ _ _ _ => pg_name (i := 2) scCells.nd rfl (Or.inl rfl)) (fun _ _ _ _ _ => pts_nil)
        (fun _ _ _ _ _ => pe_callB call_abs (by rfl) mA (by decide +kernel) (pa_cons (pv 2) pa_nil)))
      (pss_one (ps_ret (pe_disp (pps_cons pe_str (pe_revL (pv 3)) (pps_cons pe_str pe_int (pps_cons pe_str (pv 1) (pps_cons pe_str pe_int pps_nil)))) (by rfl) (by rfl) (fun z => by cases z) (by decide)))))), ?_⟩
    -- the mixing
    refine ⟨_, rfl, a, rfl, ⟨_, hS⟩, for_list (xs := ns.map V.int) (fun i σ H1 => ∃ (mx : Int) (y : Option V), σ = [some (.ref a), some (.int mx), y, none] ∧ H1 = H ∧ 0 ≤ mx ∧ mx < 2147483648) ⟨11, none, rfl, rfl, by decide, by decide⟩ (fun i σ H1 _ ⟨_, _, _, e, _⟩ => e ▸ hS) (fun i x σ H1 hx ⟨mx, y, e1, e2, _, _⟩ => ?_) (fun σ H1 ⟨mx, y, e1, e2, m0, m1⟩ => ?_)⟩
    · subst e1 e2
      rw [List.getElem?_map] at hx
      obtain ⟨j, hj, rfl⟩ := Option.map_eq_some_iff.mp hx
      refine ⟨_, rfl, _, _, rfl, rfl, .inr ⟨by decide, by decide⟩, _, rfl, _, _, rfl, rfl, .inr ⟨by decide, by decide⟩, _, _, rfl, rfl, _, _, rfl, rfl, .inl ⟨_, rfl, _, _, rfl, rfl, (by show (0 : Int) < _; decide), ?_⟩⟩
      exact ⟨_, _, rfl, rfl, Int.emod_nonneg _ (by decide), Int.lt_trans (Int.emod_lt_of_pos _ (by decide)) (by decide)⟩
    · subst e1 e2
      -- the absolute values
      refine ⟨_, rfl, a, rfl, ⟨_, hS⟩, fun D hD => ?_⟩
      have sD : ∀ o, Same H1 (upd H1 D o) := fun o => same_upd hD
      refine lc_list (xs := ns.map V.int) (fun i H2 => H2 = upd H1 D (.lst (((ns.take i).map fun z => (z.natAbs : Int)).map V.int))) rfl (fun i H2 _ e => by subst e; exact (sD _).seq hS) (fun i x H2 hx e => ?_) (fun H2 e => ?_)
      · subst e
        rw [List.getElem?_map] at hx
        obtain ⟨j, hj, rfl⟩ := Option.map_eq_some_iff.mp hx
        constructor
        · rfl
        dsimp only [tYes]
        rw [if_pos rfl]
        refine ⟨_, rfl, _, rfl, _, upd_same, ?_, ?_⟩
        · rw [List.length_map, List.length_map, List.length_take, sizeLine_eq]
          omega
        · rw [List.take_add_one, hj]
          have e : (if j < 0 then -j else j) = (j.natAbs : Int) := by split <;> omega
          rw [e]
          simp [upd_upd]
      · subst e
        rw [List.length_map, List.take_length]
        have nd0 : ∀ b, (upd H1 D (.lst ((ns.map fun z => (z.natAbs : Int)).map V.int))) b = none → b ≠ D := fun b e z => by
          rw [z, upd_same] at e
          cases e
        intro p hp
        have hnD : ∀ b, (upd H1 D (.lst ((ns.map fun z => (z.natAbs : Int)).map V.int))) b = none → H1 b = none := fun b e => by
          rw [upd_ne (nd0 b e)] at e
          exact e
        refine ⟨_, rfl, D, (ns.map fun z => (z.natAbs : Int)).map V.int, rfl, .inl (.inl ?_), fun c hc => ?_⟩
        · rw [upd_ne (nd0 p hp).symm, upd_same]
        · have cp : c ≠ p := fun z => by
            rw [z, upd_same] at hc
            cases hc
          have hc0 := hc
          rw [upd_ne cp] at hc0
          refine ⟨_, rfl, ?_⟩
          refine ⟨by rw [upd_ne cp.symm, upd_same], [(kC, .ref c), (kL, .int 1), (kM, .int mx), (kT, .int 0)], rfl, (by show 4 ≤ 15; decide), ?_⟩
          have em : mergeK [] [(kC, .ref c), (kL, .int 1), (kM, .int mx), (kT, .int 0)] = srcD c 1 mx 0 := by
            simp [mergeK, putK, srcD, kCL, kCM, kCT, kLM, kLT, kMT]
          rw [em]
          refine post p c ((ns.map fun z => (z.natAbs : Int)).reverse) mx _ (hnD p hp) (hnD c hc0) cp.symm ⟨fun z hz => ?_, by simp; omega, by decide, m0, m1, by decide⟩ upd_same ?_ fun b o e => ?_
          · obtain ⟨y, _, rfl⟩ := List.mem_map.mp (List.mem_reverse.mp hz)
            omega
          · rw [upd_ne cp, upd_same, List.map_reverse]
          · have e1 := hnD p hp
            have e2 := hnD c hc0
            rw [upd_ne (ne_of_none e e1), upd_ne (ne_of_none e e2), upd_ne (ne_of_none e e1), upd_ne (ne_of_none e hD)]
            exact e
end
end DL

/-! K47M: the edge bound of the cube, plain. -/
namespace DL
def popF : Nat → Nat → Nat
  | 0, _ => 0
  | k + 1, x => x % 2 + popF k (x / 2)
theorem popF_zero : ∀ k, popF k 0 = 0
  | 0 => rfl
  | k + 1 => by simp [popF, popF_zero k]
theorem popF_ext : ∀ (k x : Nat), x < 2 ^ k → popF (k + 1) x = popF k x
  | 0, x, h => by
    have e : x = 0 := by simpa using h
    subst e
    rfl
  | k + 1, x, h => by
    show x % 2 + popF (k + 1) (x / 2) = x % 2 + popF k (x / 2)
    rw [popF_ext k (x / 2) (by rw [Nat.pow_succ] at h; omega)]
def popc (x : Nat) : Nat := popF 16 x
theorem popc_step (x : Nat) (h : x < 65536) : popc x = x % 2 + popc (x / 2) := by
  show x % 2 + popF 15 (x / 2) = x % 2 + popF 16 (x / 2)
  rw [popF_ext 15 (x / 2) (by show x / 2 < 32768; omega)]
def hh : Nat → Nat
  | 0 => 0
  | m + 1 => hh m + popc m
theorem hh_sup : ∀ a, a < 33 → ∀ b, b < 33 → hh a + hh b + min a b ≤ hh (a + b) := by decide +kernel
def cnt : Nat → (Nat → Bool) → Nat
  | 0, _ => 0
  | n + 1, p => cnt n p + (if p n = true then 1 else 0)
theorem cnt_add (a : Nat) (p : Nat → Bool) : ∀ b, cnt (a + b) p = cnt a p + cnt b fun x => p (x + a)
  | 0 => rfl
  | b + 1 => by
    show cnt (a + b) p + (if p (a + b) = true then 1 else 0) = cnt a p + (cnt b (fun x => p (x + a)) + (if p (b + a) = true then 1 else 0))
    rw [cnt_add a p b, Nat.add_comm b a, Nat.add_assoc]
theorem cnt_congr {p q : Nat → Bool} : ∀ n, (∀ x, x < n → p x = q x) → cnt n p = cnt n q
  | 0, _ => rfl
  | n + 1, h => by
    show cnt n p + _ = cnt n q + _
    rw [cnt_congr n fun x hx => h x (by omega), h n (by omega)]
theorem cnt_none {p : Nat → Bool} : ∀ n, (∀ x, x < n → p x = false) → cnt n p = 0
  | 0, _ => rfl
  | n + 1, h => by
    show cnt n p + _ = 0
    rw [cnt_none n fun x hx => h x (by omega), h n (by omega)]
    rfl
theorem cnt_filter (p : Nat → Bool) : ∀ n, ((List.range n).filter p).length = cnt n p
  | 0 => rfl
  | n + 1 => by
    rw [List.range_succ, List.filter_append, List.length_append, cnt_filter p n]
    show _ = cnt n p + _
    by_cases h : p n = true
    · simp [h]
    · simp [h]
def tot : Nat → (Nat → Nat) → Nat
  | 0, _ => 0
  | n + 1, t => tot n t + t n
theorem tot_add (a : Nat) (t : Nat → Nat) : ∀ b, tot (a + b) t = tot a t + tot b fun x => t (x + a)
  | 0 => rfl
  | b + 1 => by
    show tot (a + b) t + t (a + b) = tot a t + (tot b (fun x => t (x + a)) + t (b + a))
    rw [tot_add a t b, Nat.add_comm b a, Nat.add_assoc]
theorem tot_le {t : Nat → Nat} : ∀ n, (∀ x, x < n → t x ≤ 1) → tot n t ≤ n
  | 0, _ => Nat.le_refl _
  | n + 1, h => by
    have := tot_le n fun x hx => h x (by omega)
    have := h n (by omega)
    show tot n t + t n ≤ n + 1
    omega
theorem tot_diff {t u : Nat → Nat} : ∀ n, (∀ x, x < n → t x ≤ 1) → tot n t ≤ tot n u + cnt n fun x => t x != u x
  | 0, _ => Nat.le_refl _
  | n + 1, h => by
    have h1 := tot_diff (u := u) n fun x hx => h x (by omega)
    have h2 := h n (by omega)
    show tot n t + t n ≤ (tot n u + u n) + (cnt n (fun x => t x != u x) + if (t n != u n) = true then 1 else 0)
    by_cases e : t n = u n
    · simp [e]
      omega
    · simp [e]
      omega
theorem cnt_symm {t u : Nat → Nat} (n : Nat) : (cnt n fun x => t x != u x) = cnt n fun x => u x != t x :=
  cnt_congr n fun x _ => by
    show (t x != u x) = (u x != t x)
    exact bne_comm
def dirs (n : Nat) (t : Nat → Nat) (i : Nat) : Nat := cnt (2 ^ n) fun x => x / 2 ^ i % 2 == 0 && t x != t (x + 2 ^ i)
def wh (n : Nat) (t : Nat → Nat) : Nat → Nat
  | 0 => 0
  | k + 1 => wh n t k + dirs n t k
theorem bit_add {n i x : Nat} (h : i < n) : (x + 2 ^ n) / 2 ^ i % 2 = x / 2 ^ i % 2 := by
  obtain ⟨d, rfl⟩ : ∃ d, n = i + (d + 1) := ⟨n - i - 1, by omega⟩
  rw [Nat.pow_add, Nat.add_comm x, Nat.mul_add_div (Nat.two_pow_pos i), Nat.pow_succ]
  omega
theorem dirs_split {n i : Nat} (t : Nat → Nat) (h : i < n) : dirs (n + 1) t i = dirs n t i + dirs n (fun x => t (x + 2 ^ n)) i := by
  unfold dirs
  rw [Nat.pow_succ, Nat.mul_two, cnt_add]
  refine congrArg _ (cnt_congr _ fun x _ => ?_)
  rw [bit_add h, Nat.add_right_comm]
theorem dirs_top (n : Nat) (t : Nat → Nat) : dirs (n + 1) t n = cnt (2 ^ n) fun x => t x != t (x + 2 ^ n) := by
  unfold dirs
  rw [Nat.pow_succ, Nat.mul_two, cnt_add]
  have e : (cnt (2 ^ n) fun x => (x + 2 ^ n) / 2 ^ n % 2 == 0 && t (x + 2 ^ n) != t (x + 2 ^ n + 2 ^ n)) = 0 := cnt_none _ fun x hx => by
    rw [Nat.add_div_right _ (Nat.two_pow_pos n), Nat.div_eq_of_lt hx]
    rfl
  rw [e, Nat.add_zero]
  exact cnt_congr _ fun x hx => by rw [Nat.div_eq_of_lt hx]; simp
theorem wh_split (n : Nat) (t : Nat → Nat) : ∀ k, k ≤ n → wh (n + 1) t k = wh n t k + wh n (fun x => t (x + 2 ^ n)) k
  | 0, _ => rfl
  | k + 1, h => by
    show wh (n + 1) t k + _ = (wh n t k + _) + (wh n _ k + _)
    rw [wh_split n t k (by omega), dirs_split t (by omega)]
    omega
theorem harper : ∀ (n : Nat) (t : Nat → Nat), n ≤ 6 → (∀ x, x < 2 ^ n → t x ≤ 1) → n * tot (2 ^ n) t ≤ wh n t n + 2 * hh (tot (2 ^ n) t)
  | 0, t, _, _ => by simp
  | n + 1, t, hn, h => by
    have e2 : 2 ^ (n + 1) = 2 ^ n + 2 ^ n := by rw [Nat.pow_succ, Nat.mul_two]
    have i0 := harper n t (by omega) fun x hx => h x (by omega)
    have i1 := harper n (fun x => t (x + 2 ^ n)) (by omega) fun x hx => h (x + 2 ^ n) (by omega)
    have e : wh (n + 1) t (n + 1) = wh (n + 1) t n + dirs (n + 1) t n := rfl
    rw [e, wh_split n t n (Nat.le_refl _), dirs_top, e2, tot_add]
    have d1 := tot_diff (t := t) (u := fun x => t (x + 2 ^ n)) (2 ^ n) fun x hx => h x (by omega)
    have d2 := tot_diff (t := fun x => t (x + 2 ^ n)) (u := t) (2 ^ n) fun x hx => h (x + 2 ^ n) (by omega)
    rw [cnt_symm] at d2
    have l0 := tot_le (t := t) (2 ^ n) fun x hx => h x (by omega)
    have l1 := tot_le (t := fun x => t (x + 2 ^ n)) (2 ^ n) fun x hx => h (x + 2 ^ n) (by omega)
    have p32 : 2 ^ n ≤ 2 ^ 5 := Nat.pow_le_pow_right (by decide) (by omega)
    generalize tot (2 ^ n) t = a at *
    generalize tot (2 ^ n) (fun x => t (x + 2 ^ n)) = b at *
    have s := hh_sup a (by omega) b (by omega)
    have m1 : (n + 1) * (a + b) = n * a + n * b + a + b := by
      rw [Nat.add_mul, Nat.mul_add]
      omega
    rw [m1]
    omega
/-- 0 and 1 exchanged -/
theorem wh_flip (n : Nat) (t : Nat → Nat) (h : ∀ x, x < 2 ^ n → t x ≤ 1) : ∀ k, k ≤ n → wh n (fun x => 1 - t x) k = wh n t k
  | 0, _ => rfl
  | k + 1, hk => by
    show wh n _ k + _ = wh n t k + _
    rw [wh_flip n t h k (by omega)]
    refine congrArg _ (cnt_congr _ fun x hx => ?_)
    by_cases e : x / 2 ^ k % 2 = 0
    · have hx2 : x + 2 ^ k < 2 ^ n := by
        obtain ⟨d, rfl⟩ : ∃ d, n = k + (d + 1) := ⟨n - k - 1, by omega⟩
        have p := Nat.two_pow_pos k
        have h1 : x / 2 ^ k < 2 ^ (d + 1) := by
          rw [Nat.div_lt_iff_lt_mul p, ← Nat.pow_add, Nat.add_comm]
          exact hx
        rw [Nat.pow_succ] at h1
        have h2 : x / 2 ^ k + 1 < 2 ^ d * 2 := by omega
        have h3 : (x / 2 ^ k + 1 + 1) * 2 ^ k ≤ (2 ^ d * 2) * 2 ^ k := Nat.mul_le_mul_right _ h2
        have h4 := Nat.div_add_mod x (2 ^ k)
        have h5 := Nat.mod_lt x p
        rw [Nat.pow_add, Nat.pow_succ, Nat.mul_comm (2 ^ k)]
        rw [Nat.add_mul, Nat.add_mul, Nat.mul_comm _ (2 ^ k)] at h3
        omega
      have a1 := h x hx
      have a2 := h _ hx2
      rw [e]
      rw [Bool.eq_iff_iff]
      simp
      omega
    · have e1 : x / 2 ^ k % 2 = 1 := by omega
      rw [e1]
      rfl
theorem tot_flip {t : Nat → Nat} : ∀ N, (∀ x, x < N → t x ≤ 1) → tot N (fun x => 1 - t x) = N - tot N t
  | 0, _ => rfl
  | N + 1, h => by
    have h1 := tot_flip N fun x hx => h x (by omega)
    have h2 := tot_le N fun x hx => h x (by omega)
    have h3 := h N (by omega)
    show tot N (fun x => 1 - t x) + (1 - t N) = N + 1 - (tot N t + t N)
    omega
def bnd (n m : Nat) : Nat := n * m - 2 * hh m
theorem bnd_le {n : Nat} {t : Nat → Nat} (hn : n ≤ 6) (h : ∀ x, x < 2 ^ n → t x ≤ 1) : bnd n (min (tot (2 ^ n) t) (2 ^ n - tot (2 ^ n) t)) ≤ wh n t n := by
  have h1 := harper n t hn h
  have h2 := harper n (fun x => 1 - t x) hn fun x _ => by omega
  rw [tot_flip _ h, wh_flip n t h n (Nat.le_refl _)] at h2
  unfold bnd
  rcases Nat.le_total (tot (2 ^ n) t) (2 ^ n - tot (2 ^ n) t) with z | z
  · rw [Nat.min_eq_left z]
    omega
  · rw [Nat.min_eq_right z]
    omega
theorem bnd_pos : ∀ n, n < 7 → ∀ m, m ≤ 2 ^ n / 2 → 2 * hh m ≤ n * m := by decide +kernel
theorem first_is : ∀ n, n < 7 → ∀ s, s ≤ 2 ^ n / 2 → wh n (fun x => if x < s then 1 else 0) n + 2 * hh s = n * s := by decide +kernel
/-- the law's own count -/
def onesF : Nat → Nat → Nat → Nat
  | 0, _, _ => 0
  | k + 1, m, p => m / (2 * p) * p + (m % (2 * p) - p) + onesF k m (2 * p)
theorem ones_is : ∀ m, m < 65 → onesF 12 m 1 = hh m := by decide +kernel
end DL

namespace DL
open PySem PySem.Spec PyProof.Rows L2
theorem len1 {args : List Val} {a : Val} (h : args = [a]) : args.length = 1 := by rw [h]; rfl
theorem len2 {args : List Val} {a b : Val} (h : args = [a, b]) : args.length = 2 := by rw [h]; rfl
abbrev nI (n : Nat) : PyData := .int (n : Nat)
def tD (tb : List Nat) : PyData := .tuple (tb.map nI)
def fnD (n : Nat) (tb : List Nat) : PyData := .tuple [nI n, tD tb]
def FOk (n : Nat) (tb : List Nat) : Prop := 1 ≤ n ∧ n ≤ 6 ∧ tb.length = 2 ^ n ∧ ∀ b ∈ tb, b ≤ 1
def tt (tb : List Nat) (x : Nat) : Nat := tb[x]?.getD 0
def sp_first_pairs : DSp := fun args obs Q => ∃ m : Nat, args = [.d (nI m)] ∧ obs = [] ∧ m ≤ 64 ∧ Q (nI (hh m)) []
def sp_most_pairs : DSp := fun args obs Q => ∃ n m : Nat, args = [.d (nI n), .d (nI m)] ∧ obs = [] ∧ n ≤ 6 ∧ m ≤ 2 ^ n ∧ Q (nI (hh m)) []
def sp_least_rim : DSp := fun args obs Q => ∃ n m : Nat, args = [.d (nI n), .d (nI m)] ∧ obs = [] ∧ n ≤ 6 ∧ m ≤ 2 ^ n / 2 ∧ Q (nI (bnd n m)) []
def sp_share_part : DSp := fun args obs Q => ∃ a b : Nat, args = [.d (nI a), .d (nI b)] ∧ obs = [] ∧ Q (nI (max 1 (Nat.gcd a b))) []
def cutD2 (a b : Nat) : PyData := .tuple [nI (a / Nat.gcd a b), nI (b / Nat.gcd a b)]
def sp_share_pair : DSp := fun args obs Q => ∃ a b : Nat, args = [.d (nI a), .d (nI b)] ∧ obs = [] ∧ 0 < b ∧ b < 1073741824 ∧ Q (cutD2 a b) []
def sp_cut : DSp := fun args obs Q => ∃ a b : Nat, args = [.d (nI a), .d (nI b)] ∧ obs = [] ∧ 0 < b ∧ b < 1073741824 ∧ Q (cutD2 a b) []
def sp_matter_pairs : DSp := fun args obs Q => ∃ (n i : Nat) (tb : List Nat), args = [.d (fnD n tb), .d (nI i)] ∧ obs = [] ∧ FOk n tb ∧ i < n ∧ ∀ ds : List PyData, ds.length = dirs n (tt tb) i → Q (.tuple ds) []
def sp_pairs : DSp := fun args obs Q => ∃ (n i : Nat) (tb : List Nat), args = [.d (fnD n tb), .d (nI i)] ∧ obs = [] ∧ FOk n tb ∧ i < n ∧ ∀ ds : List PyData, ds.length = dirs n (tt tb) i → Q (.list ds) []
def sp_whole_share : DSp := fun args obs Q => ∃ (n : Nat) (tb : List Nat), args = [.d (fnD n tb)] ∧ obs = [] ∧ FOk n tb ∧ Q (cutD2 (2 * wh n (tt tb) n) (2 ^ n)) []
def leastOf (n : Nat) (tb : List Nat) : Nat := bnd n (min (tot (2 ^ n) (tt tb)) (2 ^ n - tot (2 ^ n) (tt tb)))
def sp_share_bound : DSp := fun args obs Q => ∃ (n : Nat) (tb : List Nat), args = [.d (fnD n tb)] ∧ obs = [] ∧ FOk n tb ∧ Q (cutD2 (2 * leastOf n tb) (2 ^ n)) []
def sp_bit : DSp := fun args obs Q => ∃ x i : Nat, args = [.d (nI x), .d (nI i)] ∧ obs = [] ∧ i < 30 ∧ Q (nI (x / 2 ^ i % 2)) []
def sp_draw : DSp := fun args obs Q => args = [.p 0, .d (.int 6)] ∧ obs = [.src] ∧ ∀ n tb, FOk n tb → Q (fnD n tb) [.src]
def sp_whole : DSp := fun args obs Q => ∃ (n : Nat) (tb : List Nat), args = [.d (fnD n tb)] ∧ obs = [] ∧ FOk n tb ∧ Q (nI (wh n (tt tb) n)) []
def sp_ones : DSp := fun args obs Q => ∃ m : Nat, args = [.d (nI m)] ∧ obs = [] ∧ m ≤ 64 ∧ Q (nI (hh m)) []
def sp_bound : DSp := fun args obs Q => ∃ (n : Nat) (tb : List Nat), args = [.d (fnD n tb)] ∧ obs = [] ∧ FOk n tb ∧ Q (nI (leastOf n tb)) []
theorem len_first_pairs : ∀ args obs Q, sp_first_pairs args obs Q → args.length = 1 := by
  intro args obs Q h
  unfold sp_first_pairs at h
  grind
theorem len_most_pairs : ∀ args obs Q, sp_most_pairs args obs Q → args.length = 2 := by
  intro args obs Q h
  unfold sp_most_pairs at h
  grind
theorem len_least_rim : ∀ args obs Q, sp_least_rim args obs Q → args.length = 2 := by
  intro args obs Q h
  unfold sp_least_rim at h
  grind
theorem len_share_part : ∀ args obs Q, sp_share_part args obs Q → args.length = 2 := by
  intro args obs Q h
  unfold sp_share_part at h
  grind
theorem len_share_pair : ∀ args obs Q, sp_share_pair args obs Q → args.length = 2 := by
  intro args obs Q h
  unfold sp_share_pair at h
  grind
theorem len_matter_pairs : ∀ args obs Q, sp_matter_pairs args obs Q → args.length = 2 := by
  intro args obs Q h
  unfold sp_matter_pairs at h
  grind
theorem len_whole_share : ∀ args obs Q, sp_whole_share args obs Q → args.length = 1 := by
  intro args obs Q h
  unfold sp_whole_share at h
  grind
theorem len_share_bound : ∀ args obs Q, sp_share_bound args obs Q → args.length = 1 := by
  intro args obs Q h
  unfold sp_share_bound at h
  grind
theorem len_law_bit : ∀ args obs Q, sp_bit args obs Q → args.length = 2 := by
  intro args obs Q h
  unfold sp_bit at h
  grind
theorem len_law_draw_function : ∀ args obs Q, sp_draw args obs Q → args.length = 2 := by
  intro args obs Q h
  unfold sp_draw at h
  grind
theorem len_law_cut : ∀ args obs Q, sp_cut args obs Q → args.length = 2 := by
  intro args obs Q h
  unfold sp_cut at h
  grind
theorem len_law_pairs : ∀ args obs Q, sp_pairs args obs Q → args.length = 2 := by
  intro args obs Q h
  unfold sp_pairs at h
  grind
theorem len_law_whole : ∀ args obs Q, sp_whole args obs Q → args.length = 1 := by
  intro args obs Q h
  unfold sp_whole at h
  grind
theorem len_law_ones : ∀ args obs Q, sp_ones args obs Q → args.length = 1 := by
  intro args obs Q h
  unfold sp_ones at h
  grind
theorem len_law_bound : ∀ args obs Q, sp_bound args obs Q → args.length = 1 := by
  intro args obs Q h
  unfold sp_bound at h
  grind
end DL

namespace DL
open PySem PySem.Spec PyProof.Rows L2
def w_first_pairs : TDS := (dSeq (dSet 1 (dC (.int 0)))
  (dSeq (dFor (iR1 (dCons (dVar 0) dNil)) (gN 2) (dWhile (dTest (dOp fGt (dVar 2) (dC (.int 0)))) (dPar 1 2 (aD (dOp fAdd (dVar 1) (dOp fMod (dVar 2) (dC (.int 2))))) (aD (dOp fDiv (dVar 2) (dC (.int 2)))))))
  (dRet (dVar 1))))
def w_most_pairs : TDS := (dSeq (dIfS (dTest (dOp fGt (dVar 1) (dOp fShl (dC (.int 1)) (dVar 0)))) dNever dNext)
  (dRet (dCall sp_first_pairs (lConsZ (dVar 1) lNil))))
def w_least_rim : TDS := (dRet (dOp fSub (dOp fMulA (dVar 0) (dVar 1)) (dOp fMulA (dC (.int 2)) (dCall sp_most_pairs (lConsZ (dVar 0) (lConsZ (dVar 1) lNil))))))
def w_share_part : TDS := (dSeq (dWhile (dTest (dOp fNe (dVar 1) (dC (.int 0)))) (dPar 0 1 (aD (dVar 1)) (aD (dOp fMod (dVar 0) (dVar 1)))))
  (dRet (dBl fMax2 (lCons (dC (.int 1)) (lCons (dVar 0) lNil)))))
def w_share_pair : TDS := (dSeq (dSet 2 (dCall sp_share_part (lConsZ (dVar 0) (lConsZ (dVar 1) lNil))))
  (dRet (dTup (dCons (dOp fDiv (dVar 0) (dVar 2)) (dCons (dOp fDiv (dVar 1) (dVar 2)) dNil)))))
def w_matter_pairs : TDS := (dSeq (dAsg (dVar 0) (gTup' 2 (gCons' (gN 2) (gCons' (gN 3) gNil'))))
  (dSeq (dSetF 4 (dLc (iR1 (dCons (dOp fShl (dC (.int 1)) (dVar 2)) dNil)) [5] (gN 5) (dTest (dOp fEq (dOp fMod (dOp fDiv (dVar 5) (dOp fShl (dC (.int 1)) (dVar 1))) (dC (.int 2))) (dC (.int 0)))) (dTup (dCons (dVar 5) (dCons (dOp fAdd (dVar 5) (dOp fShl (dC (.int 1)) (dVar 1))) dNil)))))
  (dRet (dBl fTuple (lCons (dFz (dLc (iL (dVar 4)) [5, 6] (gTup' 2 (gCons' (gN 5) (gCons' (gN 6) gNil'))) (dTest (dOp fNe (dOp fIx (dVar 3) (dVar 5)) (dOp fIx (dVar 3) (dVar 6)))) (dTup (dCons (dVar 5) (dCons (dVar 6) dNil))))) lNil)))))
def w_whole_share : TDS := (dSeq (dSet 1 (dBl fSumA (lCons (dFz (dLc (iR1 (dCons (dOp fIx (dVar 0) (dC (.int 0))) dNil)) [2] (gN 2) dYes (dBl fLen (lCons (dCall sp_matter_pairs (lConsZ (dVar 0) (lConsZ (dVar 2) lNil))) lNil)))) lNil)))
  (dRet (dCall sp_share_pair (lConsZ (dOp fMulA (dC (.int 2)) (dVar 1)) (lConsZ (dOp fShl (dC (.int 1)) (dOp fIx (dVar 0) (dC (.int 0)))) lNil)))))
def w_share_bound : TDS := (dSeq (dPar 1 2 (aD (dOp fIx (dVar 0) (dC (.int 0)))) (aD (dBl fSumA (lCons (dOp fIx (dVar 0) (dC (.int 1))) lNil))))
  (dSeq (dSet 3 (dCall sp_least_rim (lConsZ (dVar 1) (lConsZ (dBl fMin2 (lCons (dVar 2) (lCons (dOp fSub (dOp fShl (dC (.int 1)) (dVar 1)) (dVar 2)) lNil))) lNil))))
  (dRet (dCall sp_share_pair (lConsZ (dOp fMulA (dC (.int 2)) (dVar 3)) (lConsZ (dOp fShl (dC (.int 1)) (dVar 1)) lNil))))))
def w_law_bit : TDS := (dRet (dOp fMod (dOp fDiv (dVar 0) (dOp fShl (dC (.int 1)) (dVar 1))) (dC (.int 2))))
def w_law_draw_function : TDS := (dSeq (dAsg (dTup (dCons (dOp fAdd (dC (.int 1)) (dCall dPick (lCons (dVar 0) (lConsZ (dVar 1) lNil)))) (dCons (dCall dPick (lCons (dVar 0) (lConsZ (dC (.int 4)) lNil))) dNil))) (gTup' 2 (gCons' (gN 2) (gCons' (gN 3) gNil'))))
  (dSeq (dSetF 4 (dLc (iR1 (dCons (dOp fShl (dC (.int 1)) (dVar 2)) dNil)) [7] (gN 7) dYes (dCall dPick (lCons (dVar 0) (lConsZ (dC (.int 2)) lNil)))))
  (dSeq (dIfS (dTest (dOp fEq (dVar 3) (dC (.int 1)))) (dSetF 4 (dLc (iR1 (dCons (dOp fShl (dC (.int 1)) (dVar 2)) dNil)) [7] (gN 7) dYes (dBl fInt (lCons (dOp fEq (dCall dPick (lCons (dVar 0) (lConsZ (dC (.int 5)) lNil))) (dC (.int 0))) lNil)))) dNext)
  (dSeq (dIfS (dTest (dOp fEq (dVar 3) (dC (.int 2)))) (dSeq (dSetF 5 (dLc (iR1 (dCons (dOp fAdd (dC (.int 1)) (dCall dPick (lCons (dVar 0) (lConsZ (dC (.int 3)) lNil)))) dNil)) [8] (gN 8) dYes (dCall dPick (lCons (dVar 0) (lConsZ (dOp fShl (dC (.int 1)) (dVar 2)) lNil)))))
  (dSetF 4 (dLc (iR1 (dCons (dOp fShl (dC (.int 1)) (dVar 2)) dNil)) [7] (gN 7) dYes (dBl fInt (lCons (dBl fAny (lCons (dFz (dLc (iL (dVar 5)) [9] (gN 9) dYes (dBl fAll (lCons (dFz (dLc (iR1 (dCons (dVar 2) dNil)) [10] (gN 10) dYes (dOp fGe (dCall sp_bit (lConsZ (dVar 7) (lConsZ (dVar 10) lNil))) (dCall sp_bit (lConsZ (dVar 9) (lConsZ (dVar 10) lNil)))))) lNil)))) lNil)) lNil))))) dNext)
  (dSeq (dIfS (dTest (dOp fEq (dVar 3) (dC (.int 3)))) (dSeq (dSetF 6 (dLc (iR1 (dCons (dVar 2) dNil)) [10] (gN 10) (dTest (dOp fEq (dCall dPick (lCons (dVar 0) (lConsZ (dC (.int 2)) lNil))) (dC (.int 1)))) (dVar 10)))
  (dSetF 4 (dLc (iR1 (dCons (dOp fShl (dC (.int 1)) (dVar 2)) dNil)) [7] (gN 7) dYes (dOp fMod (dBl fSumA (lCons (dFz (dLc (iL (dVar 6)) [10] (gN 10) dYes (dCall sp_bit (lConsZ (dVar 7) (lConsZ (dVar 10) lNil))))) lNil)) (dC (.int 2)))))) dNext)
  (dRet (dTup (dCons (dVar 2) (dCons (dBl fTuple (lCons (dVar 4) lNil)) dNil)))))))))
def w_law_cut : TDS := (dSeq (dPar 2 3 (aD (dVar 0)) (aD (dVar 1)))
  (dSeq (dWhile (dTest (dOp fNe (dVar 3) (dC (.int 0)))) (dPar 2 3 (aD (dVar 3)) (aD (dOp fMod (dVar 2) (dVar 3)))))
  (dSeq (dSet 2 (dBl fMax2 (lCons (dC (.int 1)) (lCons (dVar 2) lNil))))
  (dRet (dTup (dCons (dOp fDiv (dVar 0) (dVar 2)) (dCons (dOp fDiv (dVar 1) (dVar 2)) dNil)))))))
def w_law_pairs : TDS := (dSeq (dAsg (dVar 0) (gTup' 2 (gCons' (gN 2) (gCons' (gN 3) gNil'))))
  (dRet (dFz (dLc (iR1 (dCons (dOp fShl (dC (.int 1)) (dVar 2)) dNil)) [4] (gN 4) (dAnd (dTest (dOp fEq (dCall sp_bit (lConsZ (dVar 4) (lConsZ (dVar 1) lNil))) (dC (.int 0)))) (dTest (dOp fNe (dOp fIx (dVar 3) (dVar 4)) (dOp fIx (dVar 3) (dOp fAdd (dVar 4) (dOp fShl (dC (.int 1)) (dVar 1))))))) (dTup (dCons (dVar 4) (dCons (dOp fAdd (dVar 4) (dOp fShl (dC (.int 1)) (dVar 1))) dNil)))))))
def w_law_whole : TDS := (dRet (dBl fSumA (lCons (dFz (dLc (iR1 (dCons (dOp fIx (dVar 0) (dC (.int 0))) dNil)) [1] (gN 1) dYes (dBl fLen (lCons (dCall sp_pairs (lConsZ (dVar 0) (lConsZ (dVar 1) lNil))) lNil)))) lNil)))
def w_law_ones : TDS := (dSeq (dAsg (dTup (dCons (dC (.int 0)) (dCons (dC (.int 1)) dNil))) (gTup' 2 (gCons' (gN 1) (gCons' (gN 2) gNil'))))
  (dSeq (dFor (iR1 (dCons (dC (.int 12)) dNil)) (gN 3) (dSeq (dPar 4 5 (aD (dOp fDiv (dVar 0) (dOp fMulA (dC (.int 2)) (dVar 2)))) (aD (dOp fMod (dVar 0) (dOp fMulA (dC (.int 2)) (dVar 2)))))
  (dPar 1 2 (aD (dOp fAdd (dOp fAdd (dVar 1) (dOp fMulA (dVar 4) (dVar 2))) (dBl fMax2 (lCons (dC (.int 0)) (lCons (dOp fSub (dVar 5) (dVar 2)) lNil))))) (aD (dOp fMulA (dC (.int 2)) (dVar 2))))))
  (dRet (dVar 1))))
def w_law_bound : TDS := (dSeq (dPar 1 2 (aD (dOp fIx (dVar 0) (dC (.int 0)))) (aD (dBl fSumA (lCons (dOp fIx (dVar 0) (dC (.int 1))) lNil))))
  (dSeq (dSet 3 (dBl fMin2 (lCons (dVar 2) (lCons (dOp fSub (dOp fShl (dC (.int 1)) (dVar 1)) (dVar 2)) lNil))))
  (dRet (dOp fSub (dOp fMulA (dVar 1) (dVar 3)) (dOp fMulA (dC (.int 2)) (dCall sp_ones (lConsZ (dVar 3) lNil)))))))
def w_law : TDS := (dSeq (dSet 2 (dOp fAdd (dC (.int 1)) (dCall dPick (lCons (dVar 1) (lConsZ (dC (.int 3)) lNil)))))
  (dSeq (dFor (iR1 (dCons (dOp fShl (dC (.int 1)) (dOp fShl (dC (.int 1)) (dVar 2))) dNil)) (gN 3) (dSeq (dSet 4 (dTup (dCons (dVar 2) (dCons (dBl fTuple (lCons (dFz (dLc (iR1 (dCons (dOp fShl (dC (.int 1)) (dVar 2)) dNil)) [14] (gN 14) dYes (dCall sp_bit (lConsZ (dVar 3) (lConsZ (dVar 14) lNil))))) lNil)) dNil))))
  (dSeq (dPar 5 6 (aD (dCall sp_whole (lConsZ (dVar 4) lNil))) (aD (dCall sp_bound (lConsZ (dVar 4) lNil))))
  (dSeq (dIfS (dTest (dOp fLt (dVar 5) (dVar 6))) (dRet (dC (.bool false))) dNext)
  (dIfS (dTest (dOp fEq (dOp fMulA (dC (.int 2)) (dBl fSumA (lCons (dOp fIx (dVar 4) (dC (.int 1))) lNil))) (dOp fShl (dC (.int 1)) (dVar 2)))) (dSeq (dSetF 7 (dLc (iR1 (dCons (dVar 2) dNil)) [15] (gN 15) dYes (dTup (dCons (dVar 2) (dCons (dBl fTuple (lCons (dFz (dLc (iR1 (dCons (dOp fShl (dC (.int 1)) (dVar 2)) dNil)) [14] (gN 14) dYes (dCall sp_bit (lConsZ (dVar 14) (lConsZ (dVar 15) lNil))))) lNil)) dNil)))))
  (dSeq (dSetF 8 (dLc (iL (dVar 7)) [16] (gN 16) dYes (dTup (dCons (dVar 2) (dCons (dBl fTuple (lCons (dFz (dLc (iT (dOp fIx (dVar 16) (dC (.int 1)))) [14] (gN 14) dYes (dOp fSub (dC (.int 1)) (dVar 14)))) lNil)) dNil)))))
  (dIfS (dTest (dOp fNe (dOp fEq (dVar 5) (dOp fShl (dC (.int 1)) (dOp fSub (dVar 2) (dC (.int 1))))) (dOp fIn (dVar 4) (dOp fAdd (dVar 7) (dVar 8))))) (dRet (dC (.bool false))) dNext))) dNext)))))
  (dSeq (dFor (iR1 (dCons (dC (.int 3)) dNil)) (gN 9) (dSeq (dSet 4 (dCall sp_draw (lCons (dVar 1) (lConsZ (dC (.int 6)) lNil))))
  (dSeq (dSet 6 (dCall sp_bound (lConsZ (dVar 4) lNil)))
  (dSeq (dSet 10 (dCall sp_share_bound (lConsZ (dVar 4) lNil)))
  (dSeq (dIfS (dOr (dTest (dOp fNe (dBl fRepr (lCons (dVar 10) lNil)) (dBl fRepr (lCons (dCall sp_cut (lConsZ (dVar 6) (lConsZ (dOp fShl (dC (.int 1)) (dOp fSub (dOp fIx (dVar 4) (dC (.int 0))) (dC (.int 1)))) lNil))) lNil)))) (dTest (dOp fLt (dCall sp_whole (lConsZ (dVar 4) lNil)) (dVar 6)))) (dRet (dC (.bool false))) dNext)
  (dSeq (dAsg (dCall sp_whole_share (lConsZ (dVar 4) lNil)) (gTup' 2 (gCons' (gN 11) (gCons' (gN 12) gNil'))))
  (dSeq (dIfS (dTest (dOp fLt (dOp fMulA (dVar 11) (dOp fIx (dVar 10) (dC (.int 1)))) (dOp fMulA (dOp fIx (dVar 10) (dC (.int 0))) (dVar 12)))) (dRet (dC (.bool false))) dNext)
  (dSeq (dSet 13 (dTup (dCons (dOp fIx (dVar 4) (dC (.int 0))) (dCons (dBl fTuple (lCons (dFz (dLc (iR1 (dCons (dOp fShl (dC (.int 1)) (dOp fIx (dVar 4) (dC (.int 0)))) dNil)) [14] (gN 14) dYes (dBl fInt (lCons (dOp fLt (dVar 14) (dBl fSumA (lCons (dOp fIx (dVar 4) (dC (.int 1))) lNil))) lNil)))) lNil)) dNil))))
  (dIfS (dAnd (dTest (dOp fLe (dOp fMulA (dC (.int 2)) (dBl fSumA (lCons (dOp fIx (dVar 4) (dC (.int 1))) lNil))) (dOp fShl (dC (.int 1)) (dOp fIx (dVar 4) (dC (.int 0)))))) (dTest (dOp fNe (dCall sp_whole_share (lConsZ (dVar 13) lNil)) (dVar 10)))) (dRet (dC (.bool false))) dNext)))))))))
  (dRet (dC (.bool true))))))
end DL

namespace DL
open PySem PySem.Spec PyProof.Rows L2
local macro_rules | `(tactic| walk_at "st") => `(tactic| simp only [startEn, Val.sl, wipeE, restE, En.set, List.map_cons, List.map_nil, List.length_cons, List.length_nil, List.cons_append, List.nil_append, List.set_cons_zero, List.set_cons_succ, List.replicate_succ, List.replicate_zero, List.getElem?_cons_succ, List.getElem?_cons_zero, Nat.reduceAdd, Nat.reduceSub])
theorem rd_first_pairs : ∀ args obs Q, sp_first_pairs args obs Q → w_first_pairs (ends Q) ⟨startEn ["m", "many", "x"] args, obs⟩ := by
  rintro _ _ Q ⟨m, rfl, rfl, hm, q⟩
  refine ⟨⟨by omega, by omega⟩, forL_ix (fun i en => ∃ y, en = ⟨[some (.d (nI m)), some (.d (nI (hh i))), y], []⟩) ⟨none, rfl⟩ ?_ ?_⟩
  · rintro i x en k hx ⟨y, rfl⟩ next
    obtain ⟨hi, rfl⟩ := rng0_get hx
    refine dWhile_inv (fun z en => z < 65536 ∧ ∃ s : Nat, s + popc z = hh (i + 1) ∧ en = ⟨[some (.d (nI m)), some (.d (nI s)), some (.d (nI z))], []⟩) i ⟨by omega, hh i, rfl, rfl⟩ ?_
    rintro z en k2 ⟨hz6, s, hs, rfl⟩ n2
    refine iteD (fun c => ?_) fun c => ?_
    · refine ⟨by decide, ⟨by decide, by decide⟩, ?_⟩
      have hz : 0 < z := by omega
      refine n2 (z / 2) _ (by omega) ⟨by omega, s + z % 2, ?_, rfl⟩
      rw [popc_step z hz6] at hs
      omega
    · have hz : z = 0 := by omega
      subst hz
      refine next _ ⟨some (.d (.int 0)), ?_⟩
      rw [← hs]
      rfl
  · rintro en ⟨y, rfl⟩
    rw [rng0_len]
    exact q
theorem rd_most_pairs : ∀ args obs Q, sp_most_pairs args obs Q → w_most_pairs (ends Q) ⟨startEn ["n", "m"] args, obs⟩ := by
  rintro _ _ Q ⟨n, m, rfl, rfl, hn, hm, q⟩
  have p64 : 2 ^ n ≤ 2 ^ 6 := two_pow_lt hn
  refine ⟨⟨by omega, by omega, by decide⟩, ?_⟩
  refine iteD (fun c => ?_) fun c => ?_
  · have c : (1 : Int) * 2 ^ ((n : Int)).toNat < (m : Int) := c
    rw [shl_nat] at c
    omega
  · exact ⟨List.nodup_nil, m, rfl, rfl, by omega, q⟩
theorem rd_least_rim : ∀ args obs Q, sp_least_rim args obs Q → w_least_rim (ends Q) ⟨startEn ["n", "m"] args, obs⟩ := by
  rintro _ _ Q ⟨n, m, rfl, rfl, hn, hm, q⟩
  refine ⟨.inl ⟨by omega, by omega⟩, List.nodup_nil, n, m, rfl, rfl, hn, by omega, .inl ⟨by decide, by decide⟩, ?_⟩
  have h := bnd_pos n (by omega) m hm
  refine q_int q ?_
  show ((n * m - 2 * hh m : Nat) : Int) = (n : Int) * m - 2 * (hh m : Nat)
  rw [Int.ofNat_sub h]
  simp
theorem rd_share_part : ∀ args obs Q, sp_share_part args obs Q → w_share_part (ends Q) ⟨startEn ["one", "other"] args, obs⟩ := by
  rintro _ _ Q ⟨a, b, rfl, rfl, q⟩
  refine dWhile_inv (fun z en => ∃ y : Nat, Nat.gcd y z = Nat.gcd a b ∧ en = ⟨[some (.d (nI y)), some (.d (nI z))], []⟩) b ⟨a, rfl, rfl⟩ ?_
  rintro z en k2 ⟨y, hy, rfl⟩ n2
  show (if (!decide ((z : Int) = 0)) = true then _ else _)
  by_cases c : z = 0
  · subst c
    refine q_int q ?_
    rw [Nat.gcd_zero_right] at hy
    rw [← hy]
    omega
  · have e : (!decide ((z : Int) = 0)) = true := by simp [c]
    rw [if_pos e]
    refine ⟨by omega, n2 (y % z) _ (Nat.mod_lt _ (by omega)) ⟨z, ?_, rfl⟩⟩
    rw [← hy, Nat.gcd_comm y z, Nat.gcd_rec z y, Nat.gcd_comm]
theorem gcd_max {a b : Nat} (h : 0 < b) : max 1 (Nat.gcd a b) = Nat.gcd a b := by
  have := Nat.gcd_pos_of_pos_right a h
  omega
theorem gcd_small {a b n : Nat} (h : 0 < b) (hb : b < n) : Nat.gcd a b < n := Nat.lt_of_le_of_lt (Nat.gcd_le_right a h) hb
theorem rd_share_pair : ∀ args obs Q, sp_share_pair args obs Q → w_share_pair (ends Q) ⟨startEn ["above", "below", "by"] args, obs⟩ := by
  rintro _ _ Q ⟨a, b, rfl, rfl, h0, h1, q⟩
  have g0 := Nat.gcd_pos_of_pos_right a h0
  have g1 := gcd_small (a := a) h0 h1
  refine ⟨List.nodup_nil, a, b, rfl, rfl, ?_⟩
  rw [gcd_max h0]
  refine ⟨⟨by omega, by omega⟩, ⟨by omega, by omega⟩, (by show 2 ≤ sizeLine; decide), ?_⟩
  exact q
theorem rd_law_cut : ∀ args obs Q, sp_cut args obs Q → w_law_cut (ends Q) ⟨startEn ["above", "below", "a", "b"] args, obs⟩ := by
  rintro _ _ Q ⟨a, b, rfl, rfl, h0, h1, q⟩
  have g0 := Nat.gcd_pos_of_pos_right a h0
  have g1 := gcd_small (a := a) h0 h1
  refine dWhile_inv (fun z en => ∃ y : Nat, Nat.gcd y z = Nat.gcd a b ∧ en = ⟨[some (.d (nI a)), some (.d (nI b)), some (.d (nI y)), some (.d (nI z))], []⟩) b ⟨a, rfl, rfl⟩ ?_
  rintro z en k2 ⟨y, hy, rfl⟩ n2
  show (if (!decide ((z : Int) = 0)) = true then _ else _)
  by_cases c : z = 0
  · subst c
    rw [Nat.gcd_zero_right] at hy
    subst hy
    have e : max (1 : Int) ((Nat.gcd a b : Nat) : Int) = ((Nat.gcd a b : Nat) : Int) := by omega
    have e0 : ¬ ((!decide (((0 : Nat) : Int) = 0)) = true) := by decide
    rw [if_neg e0]
    have c1 : (0 : Int) < max 1 ((Nat.gcd a b : Nat) : Int) ∧ max 1 ((Nat.gcd a b : Nat) : Int) < 1073741824 := by omega
    refine ⟨c1, c1, (by show 2 ≤ sizeLine; decide), ?_⟩
    show Q (.tuple [.int ((a : Int) / max 1 ((Nat.gcd a b : Nat) : Int)), .int ((b : Int) / max 1 ((Nat.gcd a b : Nat) : Int))]) []
    rw [e]
    exact q
  · have e : (!decide ((z : Int) = 0)) = true := by simp [c]
    rw [if_pos e]
    refine ⟨by omega, n2 (y % z) _ (Nat.mod_lt _ (by omega)) ⟨z, ?_, rfl⟩⟩
    rw [← hy, Nat.gcd_comm y z, Nat.gcd_rec z y, Nat.gcd_comm]
theorem shl_pos (i : Nat) : (0 : Int) < 1 * 2 ^ ((i : Int)).toNat := by
  rw [shl_nat]
  have := Nat.two_pow_pos i
  omega
theorem shl_lt {i : Nat} (h : i < 30) : (1 : Int) * 2 ^ ((i : Int)).toNat < 1073741824 := by
  rw [shl_nat]
  have : 2 ^ i < 2 ^ 30 := Nat.pow_lt_pow_right (by decide) h
  omega
theorem rd_law_bit : ∀ args obs Q, sp_bit args obs Q → w_law_bit (ends Q) ⟨startEn ["x", "i"] args, obs⟩ := by
  rintro _ _ Q ⟨x, i, rfl, rfl, hi, q⟩
  refine ⟨⟨by omega, by omega, by decide⟩, ⟨shl_pos i, shl_lt hi⟩, by decide, ?_⟩
  refine q_int q ?_
  rw [shl_nat]
  simp
theorem up_lt {n i x : Nat} (hi : i < n) (hx : x < 2 ^ n) (e : x / 2 ^ i % 2 = 0) : x + 2 ^ i < 2 ^ n := by
  obtain ⟨d, rfl⟩ : ∃ d, n = i + (d + 1) := ⟨n - i - 1, by omega⟩
  have p := Nat.two_pow_pos i
  have h1 : x / 2 ^ i < 2 ^ (d + 1) := by
    rw [Nat.div_lt_iff_lt_mul p, ← Nat.pow_add, Nat.add_comm]
    exact hx
  rw [Nat.pow_succ] at h1
  have h2 : x / 2 ^ i + 1 < 2 ^ d * 2 := by omega
  have h3 : (x / 2 ^ i + 1 + 1) * 2 ^ i ≤ (2 ^ d * 2) * 2 ^ i := Nat.mul_le_mul_right _ h2
  have h4 := Nat.div_add_mod x (2 ^ i)
  have h5 := Nat.mod_lt x p
  rw [Nat.pow_add, Nat.pow_succ, Nat.mul_comm (2 ^ i)]
  rw [Nat.add_mul, Nat.add_mul, Nat.mul_comm _ (2 ^ i)] at h3
  omega
theorem tt_at {tb : List Nat} {x : Nat} (h : x < tb.length) : atI (tb.map nI) (x : Int) = some (nI (tt tb x)) := by
  refine atI_nat (j := x) ?_
  rw [List.getElem?_map, List.getElem?_eq_getElem h]
  unfold tt
  rw [List.getElem?_eq_getElem h]
  rfl
theorem bit_int {x i : Nat} : ((x : Int) / (1 * 2 ^ ((i : Int)).toNat) % 2 = 0) ↔ x / 2 ^ i % 2 = 0 := by
  rw [shl_nat, ← Int.natCast_ediv]
  omega
theorem rd_matter_pairs : ∀ args obs Q, sp_matter_pairs args obs Q → w_matter_pairs (ends Q) ⟨startEn ["f", "i", "n", "table", "pairs", "x", "y"] args, obs⟩ := by
  rintro _ _ Q ⟨n, i, tb, rfl, rfl, ⟨f1, f2, f3, f4⟩, hi, q⟩
  have p64 : 2 ^ n ≤ 2 ^ 6 := two_pow_lt f2
  refine ⟨rfl, rfl, ⟨by omega, by omega, by decide⟩, ⟨?_, ?_⟩, ⟨trivial, trivial⟩, ?_⟩
  · have := shl_pos n
    omega
  · have := shl_lt (i := n) (by omega)
    rw [shl_nat] at *
    omega
  show cmpL _ _ _ _ (rng 0 ((1 : Int) * 2 ^ ((n : Int)).toNat)) [] _ _
  rw [shl_nat]
  refine cmpL_rngF (fun x => x / 2 ^ i % 2 == 0) (fun x => .tuple [nI x, nI (x + 2 ^ i)]) (fun x hx kT kF h1 h2 => ?_) ?_
  · refine ⟨⟨by omega, by omega, by decide⟩, ⟨shl_pos i, shl_lt (by omega)⟩, by decide, ?_⟩
    refine iteD (fun c => ?_) fun c => ?_
    · refine ⟨⟨by omega, by omega, by decide⟩, (by show 2 ≤ sizeLine; decide), ?_⟩
      show kT (.tuple [.int (x : Int), .int ((x : Int) + 1 * 2 ^ ((i : Int)).toNat)]) _
      rw [shl_nat]
      exact h1 (by simpa using bit_int.mp c)
    · exact h2 (by simpa using fun z => c (bit_int.mpr z))
  · walk_at "st"
    refine ⟨⟨trivial, trivial, trivial⟩, ?_⟩
    refine cmpL_mapF (c := fun x => .tuple [nI x, nI (x + 2 ^ i)]) (fun x => tt tb x != tt tb (x + 2 ^ i)) (fun x => .tuple [nI x, nI (x + 2 ^ i)]) _ _ (fun x hx kT kF h1 h2 => ?_) ?_
    · obtain ⟨m1, m2⟩ := List.mem_filter.mp hx
      have m1 := List.mem_range.mp m1
      have m2 : x / 2 ^ i % 2 = 0 := by simpa using m2
      have m3 := up_lt hi m1 m2
      refine ⟨rfl, rfl, _, tt_at (by omega), _, tt_at (x := x + 2 ^ i) (by omega), ?_⟩
      show (if (!decide (((tt tb x : Nat) : Int) = ((tt tb (x + 2 ^ i) : Nat) : Int))) = true then _ else _)
      by_cases c : tt tb x = tt tb (x + 2 ^ i)
      · rw [if_neg (by simp [c])]
        exact h2 (by simp [c])
      · rw [if_pos (by simp; omega)]
        exact ⟨(by show 2 ≤ sizeLine; decide), h1 (by simpa using c)⟩
    · refine q _ ?_
      rw [List.nil_append, List.length_map, List.filter_filter, cnt_filter]
      exact cnt_congr _ fun x _ => Bool.and_comm _ _
theorem rd_law_pairs : ∀ args obs Q, sp_pairs args obs Q → w_law_pairs (ends Q) ⟨startEn ["f", "i", "n", "table", "x"] args, obs⟩ := by
  rintro _ _ Q ⟨n, i, tb, rfl, rfl, ⟨f1, f2, f3, f4⟩, hi, q⟩
  have p64 : 2 ^ n ≤ 2 ^ 6 := two_pow_lt f2
  refine ⟨rfl, rfl, ⟨by omega, by omega, by decide⟩, ⟨?_, ?_⟩, ⟨trivial, trivial⟩, ?_⟩
  · have := shl_pos n
    omega
  · have := shl_lt (i := n) (by omega)
    rw [shl_nat] at *
    omega
  show cmpL _ _ _ _ (rng 0 ((1 : Int) * 2 ^ ((n : Int)).toNat)) [] _ _
  rw [shl_nat]
  refine cmpL_rngF (fun x => x / 2 ^ i % 2 == 0 && tt tb x != tt tb (x + 2 ^ i)) (fun x => .tuple [nI x, nI (x + 2 ^ i)]) (fun x hx kT kF h1 h2 => ?_) ?_
  · refine ⟨List.nodup_nil, x, i, rfl, rfl, by omega, ?_⟩
    refine iteD (fun c => ?_) fun c => ?_
    · have c : x / 2 ^ i % 2 = 0 := by
        have c : ((x / 2 ^ i % 2 : Nat) : Int) = 0 := c
        omega
      have m3 := up_lt hi hx c
      refine ⟨_, tt_at (by omega), ⟨by omega, by omega, by decide⟩, nI (tt tb (x + 2 ^ i)), ?_, ?_⟩
      · show atI _ ((x : Int) + 1 * 2 ^ ((i : Int)).toNat) = _
        rw [shl_nat]
        exact tt_at (x := x + 2 ^ i) (by omega)
      show (if (!decide (((tt tb x : Nat) : Int) = ((tt tb (x + 2 ^ i) : Nat) : Int))) = true then _ else _)
      by_cases c2 : tt tb x = tt tb (x + 2 ^ i)
      · rw [if_neg (by simp [c2])]
        exact h2 (by simp [c2])
      · rw [if_pos (by simp; omega)]
        refine ⟨⟨by omega, by omega, by decide⟩, (by show 2 ≤ sizeLine; decide), ?_⟩
        show kT (.tuple [.int (x : Int), .int ((x : Int) + 1 * 2 ^ ((i : Int)).toNat)]) _
        rw [shl_nat]
        exact h1 (by simp [c, c2])
    · refine h2 ?_
      have c : ¬ ((x / 2 ^ i % 2 : Nat) : Int) = 0 := c
      have : ¬ x / 2 ^ i % 2 = 0 := by omega
      simp [this]
  · refine q _ ?_
    rw [List.length_map, cnt_filter]
    rfl
theorem wh_sum (n : Nat) (t : Nat → Nat) : ∀ k, ((List.range k).map (dirs n t)).sum = wh n t k
  | 0 => rfl
  | k + 1 => by
    rw [List.range_succ, List.map_append, List.sum_append, wh_sum n t k]
    simp [wh]
theorem sum_map (k : Nat) (f : Nat → Nat) : intsOf ((List.range k).map fun i => nI (f i)) = some ((((List.range k).map f)).map fun b => ((b : Nat) : Int)) := by
  have := ints_nat ((List.range k).map f)
  rwa [List.map_map] at this
theorem rd_whole_share : ∀ args obs Q, sp_whole_share args obs Q → w_whole_share (ends Q) ⟨startEn ["f", "many", "i"] args, obs⟩ := by
  rintro _ _ Q ⟨n, tb, rfl, rfl, ok, q⟩
  obtain ⟨f1, f2, f3, f4⟩ := id ok
  refine ⟨nI n, rfl, ⟨by omega, by omega⟩, ⟨trivial, trivial⟩, ?_⟩
  refine cmpL_rng (fun i => nI (dirs n (tt tb) i)) (fun i hi k hk => ?_) ?_
  · exact ⟨List.nodup_nil, n, i, tb, rfl, rfl, ok, hi, fun ds hd => by rw [← hd] at hk; exact hk⟩
  · refine ⟨_, sum_map n _, ?_⟩
    rw [sum_nat, wh_sum]
    walk_at "st"
    refine ⟨.inl ⟨by decide, by decide⟩, nI n, rfl, ⟨by omega, by omega, by decide⟩, List.nodup_nil, 2 * wh n (tt tb) n, 2 ^ n, ?_, rfl, Nat.two_pow_pos n, ?_, q⟩
    · rw [shl_nat]
      simp
    · have : 2 ^ n ≤ 2 ^ 6 := two_pow_lt f2
      omega
end DL

namespace DL
open PySem PySem.Spec PyProof.Rows L2
local macro_rules | `(tactic| walk_at "st") => `(tactic| simp only [frz, sto, Asg.sl, startEn, Val.sl, wipeE, restE, En.set, List.map_cons, List.map_nil, List.length_cons, List.length_nil, List.cons_append, List.nil_append, List.set_cons_zero, List.set_cons_succ, List.replicate_succ, List.replicate_zero, List.getElem?_cons_succ, List.getElem?_cons_zero, Nat.reduceAdd, Nat.reduceSub])
theorem tot_take (tb : List Nat) : ∀ k, k ≤ tb.length → tot k (tt tb) = (tb.take k).sum
  | 0, _ => rfl
  | k + 1, h => by
    show tot k (tt tb) + tt tb k = _
    have e : tb[k]? = some tb[k] := List.getElem?_eq_getElem (by omega)
    have e2 : tb.take (k + 1) = tb.take k ++ [tb[k]] := by rw [List.take_add_one, e]; rfl
    rw [tot_take tb k (by omega), e2, List.sum_append]
    unfold tt
    rw [e]
    simp
theorem tot_tt {n : Nat} {tb : List Nat} (h : tb.length = 2 ^ n) : tot (2 ^ n) (tt tb) = tb.sum := by
  rw [tot_take tb _ (by omega), ← h, List.take_length]
theorem tt_le {tb : List Nat} (h : ∀ b ∈ tb, b ≤ 1) (x : Nat) : tt tb x ≤ 1 := by
  unfold tt
  cases e : tb[x]? with
  | none => simp
  | some b => exact h b (List.mem_of_getElem? e)
theorem sum_le {n : Nat} {tb : List Nat} (h : tb.length = 2 ^ n) (h2 : ∀ b ∈ tb, b ≤ 1) : tb.sum ≤ 2 ^ n := by
  rw [← tot_tt h]
  exact tot_le _ fun x _ => tt_le h2 x
theorem min_int (n s : Nat) (h : s ≤ 2 ^ n) : min (s : Int) (1 * 2 ^ ((n : Int)).toNat - s) = ((min s (2 ^ n - s) : Nat) : Int) := by
  rw [shl_nat]
  omega
theorem rd_share_bound : ∀ args obs Q, sp_share_bound args obs Q → w_share_bound (ends Q) ⟨startEn ["f", "n", "many", "least"] args, obs⟩ := by
  rintro _ _ Q ⟨n, tb, rfl, rfl, ok, q⟩
  obtain ⟨f1, f2, f3, f4⟩ := id ok
  refine ⟨nI n, rfl, tD tb, rfl, _, ints_nat tb, ?_⟩
  rw [sum_nat]
  walk_at "st"
  have hs := sum_le f3 f4
  refine ⟨⟨by omega, by omega, by decide⟩, List.nodup_nil, n, min tb.sum (2 ^ n - tb.sum), ?_, rfl, f2, by omega, ?_⟩
  · rw [min_int n _ hs]
  walk_at "st"
  have p64 : 2 ^ n ≤ 2 ^ 6 := two_pow_lt f2
  refine ⟨.inl ⟨by decide, by decide⟩, ⟨by omega, by omega, by decide⟩, List.nodup_nil, 2 * leastOf n tb, 2 ^ n, ?_, rfl, Nat.two_pow_pos n, by omega, q⟩
  rw [shl_nat]
  unfold leastOf
  rw [tot_tt f3]
  simp
theorem rd_law_whole : ∀ args obs Q, sp_whole args obs Q → w_law_whole (ends Q) ⟨startEn ["f", "i"] args, obs⟩ := by
  rintro _ _ Q ⟨n, tb, rfl, rfl, ok, q⟩
  obtain ⟨f1, f2, f3, f4⟩ := id ok
  refine ⟨nI n, rfl, ⟨by omega, by omega⟩, ⟨trivial, trivial⟩, ?_⟩
  refine cmpL_rng (fun i => nI (dirs n (tt tb) i)) (fun i hi k hk => ?_) ?_
  · exact ⟨List.nodup_nil, n, i, tb, rfl, rfl, ok, hi, fun ds hd => by rw [← hd] at hk; exact hk⟩
  · refine ⟨_, sum_map n _, ?_⟩
    rw [sum_nat, wh_sum]
    exact q
theorem rd_law_ones : ∀ args obs Q, sp_ones args obs Q → w_law_ones (ends Q) ⟨startEn ["m", "found", "place", "turn", "whole", "rest"] args, obs⟩ := by
  rintro _ _ Q ⟨m, rfl, rfl, hm, q⟩
  refine ⟨(by show 2 ≤ sizeLine; decide), rfl, rfl, ⟨by decide, by decide⟩, forL_ix (fun i en => i ≤ 12 ∧ ∃ (s : Nat) (x y z : Option Sl), s + onesF (12 - i) m (2 ^ i) = hh m ∧ en = ⟨[some (.d (nI m)), some (.d (nI s)), some (.d (nI (2 ^ i))), x, y, z], []⟩) ⟨by omega, 0, none, none, none, ?_, rfl⟩ ?_ ?_⟩
  · rw [Nat.zero_add]
    exact ones_is m (by omega)
  · rintro i x en k hx ⟨hi, s, a, b, c, hs, rfl⟩ next
    obtain ⟨hi, rfl⟩ := rng0_get (n := 12) hx
    have p0 := Nat.two_pow_pos i
    have p1 : 2 ^ i ≤ 2 ^ 11 := two_pow_lt (by omega)
    refine ⟨.inl ⟨by decide, by decide⟩, ⟨by omega, by omega⟩, .inl ⟨by decide, by decide⟩, by omega, ?_⟩
    have e1 : (m : Int) / (2 * ((2 ^ i : Nat) : Int)) = ((m / (2 * 2 ^ i) : Nat) : Int) := by simp
    have e2 : (m : Int) % (2 * ((2 ^ i : Nat) : Int)) = ((m % (2 * 2 ^ i) : Nat) : Int) := by simp
    walk_at "st"
    rw [e1, e2]
    have l1 : m / (2 * 2 ^ i) ≤ m := Nat.div_le_self _ _
    refine ⟨.inr ⟨by omega, by omega⟩, .inl ⟨by decide, by decide⟩, ?_⟩
    walk_at "st"
    have e4 : (s : Int) + ((m / (2 * 2 ^ i) : Nat) : Int) * ((2 ^ i : Nat) : Int) + max 0 (((m % (2 * 2 ^ i) : Nat) : Int) - ((2 ^ i : Nat) : Int)) = ((s + m / (2 * 2 ^ i) * 2 ^ i + (m % (2 * 2 ^ i) - 2 ^ i) : Nat) : Int) := by
      rw [Int.natCast_add, Int.natCast_add, Int.natCast_mul]
      omega
    have e5 : (2 : Int) * ((2 ^ i : Nat) : Int) = ((2 ^ (i + 1) : Nat) : Int) := by
      rw [Nat.pow_succ, Nat.mul_comm _ 2, Int.natCast_mul]
      rfl
    rw [e4, e5]
    refine next _ ⟨by omega, _, some (.d (nI i)), some (.d (nI (m / (2 * 2 ^ i)))), some (.d (nI (m % (2 * 2 ^ i)))), ?_, rfl⟩
    have e3 : 12 - i = (12 - (i + 1)) + 1 := by omega
    rw [e3, onesF] at hs
    rw [Nat.pow_succ, Nat.mul_comm _ 2]
    omega
  · rintro en ⟨hi, s, a, b, c, hs, rfl⟩
    have e : (rng 0 12).length = 12 := rfl
    rw [e] at hs
    have hs : s + 0 = hh m := hs
    refine q_int q ?_
    omega
theorem rd_law_bound : ∀ args obs Q, sp_bound args obs Q → w_law_bound (ends Q) ⟨startEn ["f", "n", "many", "m"] args, obs⟩ := by
  rintro _ _ Q ⟨n, tb, rfl, rfl, ok, q⟩
  obtain ⟨f1, f2, f3, f4⟩ := id ok
  refine ⟨nI n, rfl, tD tb, rfl, _, ints_nat tb, ?_⟩
  rw [sum_nat]
  walk_at "st"
  have hs := sum_le f3 f4
  have p64 : 2 ^ n ≤ 2 ^ 6 := two_pow_lt f2
  refine ⟨⟨by omega, by omega, by decide⟩, .inl ⟨by omega, by omega⟩, List.nodup_nil, min tb.sum (2 ^ n - tb.sum), ?_, rfl, by omega, .inl ⟨by decide, by decide⟩, ?_⟩
  · rw [min_int n _ hs]
  have h := bnd_pos n (by omega) (min tb.sum (2 ^ n - tb.sum)) (by omega)
  unfold leastOf at q
  rw [tot_tt f3] at q
  refine q_int q ?_
  show _ = (n : Int) * (min (tb.sum : Int) (1 * 2 ^ ((n : Int)).toNat - tb.sum)) - 2 * (hh (min tb.sum (2 ^ n - tb.sum)) : Nat)
  rw [min_int n _ hs]
  generalize min tb.sum (2 ^ n - tb.sum) = m at *
  unfold bnd
  rw [Int.ofNat_sub h]
  simp
end DL

namespace DL
open PySem PySem.Spec PyProof.Rows L2
local macro_rules | `(tactic| walk_at "st") => `(tactic| simp only [frz, sto, Asg.sl, startEn, Val.sl, wipeE, restE, En.set, List.map_cons, List.map_nil, List.length_cons, List.length_nil, List.cons_append, List.nil_append, List.set_cons_zero, List.set_cons_succ, List.replicate_succ, List.replicate_zero, List.getElem?_cons_succ, List.getElem?_cons_zero, Nat.reduceAdd, Nat.reduceSub])
abbrev IsNat (d : PyData) : Prop := ∃ k : Nat, d = nI k
abbrev Is01 (d : PyData) : Prop := ∃ k : Nat, k ≤ 1 ∧ d = nI k
abbrev IsB (d : PyData) : Prop := ∃ k : Bool, d = .bool k
theorem nats_of : ∀ {ds : List PyData}, (∀ d ∈ ds, IsNat d) → ∃ l : List Nat, ds = l.map nI
  | [], _ => ⟨[], rfl⟩
  | d :: ds, h => by
    obtain ⟨k, rfl⟩ := h d List.mem_cons_self
    obtain ⟨l, rfl⟩ := nats_of (ds := ds) fun e he => h e (List.mem_cons_of_mem _ he)
    exact ⟨k :: l, rfl⟩
theorem bits_of : ∀ {ds : List PyData}, (∀ d ∈ ds, Is01 d) → ∃ l : List Nat, ds = l.map nI ∧ ∀ b ∈ l, b ≤ 1
  | [], _ => ⟨[], rfl, by simp⟩
  | d :: ds, h => by
    obtain ⟨k, hk, rfl⟩ := h d List.mem_cons_self
    obtain ⟨l, rfl, hl⟩ := bits_of (ds := ds) fun e he => h e (List.mem_cons_of_mem _ he)
    exact ⟨k :: l, rfl, fun b hb => (List.mem_cons.mp hb).elim (fun e => e ▸ hk) (hl b)⟩
theorem bools_of : ∀ {ds : List PyData}, (∀ d ∈ ds, IsB d) → ∃ l : List Bool, boolsOf ds = some l
  | [], _ => ⟨[], rfl⟩
  | d :: ds, h => by
    obtain ⟨k, rfl⟩ := h d List.mem_cons_self
    obtain ⟨l, hl⟩ := bools_of (ds := ds) fun e he => h e (List.mem_cons_of_mem _ he)
    exact ⟨k :: l, by rw [boolsOf, hl]⟩
theorem is01_bool (b : Bool) : Is01 (.int (if b = true then 1 else 0)) := by
  cases b
  · exact ⟨0, by decide, rfl⟩
  · exact ⟨1, by decide, rfl⟩
theorem is01_mod (a : Int) : Is01 (.int (a % 2)) := ⟨(a % 2).toNat, by omega, congrArg PyData.int (by omega)⟩
theorem nat_of {r : Int} (h : 0 ≤ r) : ∃ k : Nat, r = k := ⟨r.toNat, by omega⟩
/-- the state of the drawing def: the table in slot 4, others -/
abbrev drE (n r : Nat) (t s l : Option Sl) : En := ⟨[some (.p 0), some (.d (.int 6)), some (.d (nI n)), some (.d (nI r)), t, s, l, none, none, none, none], [.src]⟩
abbrev TabOk (n : Nat) (t : Option Sl) : Prop := ∃ tb : List Nat, t = some (.own (.lst (tb.map nI))) ∧ tb.length = 2 ^ n ∧ ∀ b ∈ tb, b ≤ 1
theorem tab_of {n : Nat} {ds : List PyData} (hl : ds.length = (rng 0 ((2 ^ n : Nat) : Int)).length) (h : ∀ d ∈ ds, Is01 d) : TabOk n (some (.own (.lst ds))) := by
  obtain ⟨l, rfl, hb⟩ := bits_of h
  rw [rng0_len, List.length_map] at hl
  exact ⟨l, rfl, hl, hb⟩
theorem rd_law_draw_function : ∀ args obs Q, sp_draw args obs Q → w_law_draw_function (ends Q) ⟨startEn ["source", "most", "n", "road", "table", "starts", "lot", "x", "lap", "y", "i"] args, obs⟩ := by
  rintro _ _ Q ⟨rfl, rfl, q⟩
  refine ⟨by simp, 6, rfl, rfl, by decide, fun r r0 r1 => ⟨by simp, 4, rfl, rfl, by decide, fun s s0 s1 => ⟨(by show 2 ≤ sizeLine; decide), rfl, rfl, ?_⟩⟩⟩
  obtain ⟨n, hn⟩ := nat_of (show 0 ≤ 1 + r by omega)
  obtain ⟨s, rfl⟩ := nat_of s0
  have n1 : 1 ≤ n := by omega
  have n6 : n ≤ 6 := by omega
  have p64 : 2 ^ n ≤ 2 ^ 6 := two_pow_lt n6
  walk_at "st"
  rw [hn]
  have c2 : (-16777216 : Int) ≤ 1 * 2 ^ ((n : Int)).toNat ∧ (1 : Int) * 2 ^ ((n : Int)).toNat ≤ 16777216 := by
    rw [shl_nat]
    generalize 2 ^ n = N at p64
    have p64 : N ≤ 64 := p64
    omega
  have c1 : (0 : Int) ≤ (n : Int) ∧ (n : Int) ≤ 1000000 ∧ (1 : Int).natAbs < 2 ^ 64 := ⟨by omega, by omega, by decide⟩
  refine seq_inv (fun en => ∃ t x y, TabOk n t ∧ en = drE n s t x y) (fun k hk => ?_) ?_
  · refine ⟨c1, c2, ⟨trivial, trivial⟩, ?_⟩
    show cmpL _ _ _ _ (rng 0 ((1 : Int) * 2 ^ ((n : Int)).toNat)) [] _ _
    rw [shl_nat]
    refine cmpL_all Is01 _ _ (fun x hx k2 hk2 => ?_) (fun ds hl hd => hk _ ⟨_, none, none, tab_of hl hd, rfl⟩)
    refine ⟨by simp, 2, rfl, rfl, by decide, fun r r0 r1 => hk2 _ ?_⟩
    obtain ⟨r, rfl⟩ := nat_of r0
    exact ⟨r, by omega, rfl⟩
  rintro _ ⟨t, x, y, ht, rfl⟩
  refine seq_inv (fun en => ∃ t x y, TabOk n t ∧ en = drE n s t x y) (fun k hk => ?_) ?_
  · refine iteD (fun c => ?_) (fun c => hk _ ⟨t, x, y, ht, rfl⟩)
    refine ⟨c1, c2, ⟨trivial, trivial⟩, ?_⟩
    show cmpL _ _ _ _ (rng 0 ((1 : Int) * 2 ^ ((n : Int)).toNat)) [] _ _
    rw [shl_nat]
    refine cmpL_all Is01 _ _ (fun x hx k2 hk2 => ?_) (fun ds hl hd => hk _ ⟨_, x, y, tab_of hl hd, rfl⟩)
    exact ⟨by simp, 5, rfl, rfl, by decide, fun r r0 r1 => hk2 _ (is01_bool _)⟩
  rintro _ ⟨t, x, y, ht, rfl⟩
  refine seq_inv (fun en => ∃ t x y, TabOk n t ∧ en = drE n s t x y) (fun k hk => ?_) ?_
  · refine iteD (fun c => ?_) (fun c => hk _ ⟨t, x, y, ht, rfl⟩)
    refine seq_inv (fun en => ∃ l : List Nat, en = drE n s t (some (.own (.lst (l.map nI)))) y) (fun k hk => ?_) ?_
    · refine ⟨by simp, 3, rfl, rfl, by decide, fun r r0 r1 => ⟨⟨by omega, by omega⟩, ⟨trivial, trivial⟩, ?_⟩⟩
      refine cmpL_all IsNat _ _ (fun x hx k2 hk2 => ?_) (fun ds hl hd => ?_)
      · refine ⟨c1, by simp, (2 ^ n : Nat), ?_, rfl, by omega, fun r r0 r1 => hk2 _ (nat_of r0 |>.imp fun k e => by rw [e])⟩
        rw [shl_nat]
      · obtain ⟨l, rfl⟩ := nats_of hd
        exact hk _ ⟨l, rfl⟩
    rintro _ ⟨l, rfl⟩
    refine ⟨c1, c2, ⟨trivial, trivial⟩, ?_⟩
    show cmpL _ _ _ _ (rng 0 ((1 : Int) * 2 ^ ((n : Int)).toNat)) [] _ _
    rw [shl_nat]
    refine cmpL_inv (fun en => en = drE n s t (some (.own (.lst (l.map nI)))) y ∨ en = drE n s t (some (.d (.list (l.map nI)))) y) Is01 _ _ _ (.inl rfl) (fun x hx en hen k2 hk2 => ?_) (fun ds en' hl hd hen => ?_)
    · rw [rng0_eq] at hx
      obtain ⟨x, hx, rfl⟩ := List.mem_map.mp hx
      have turn : ∀ Q2 : List PyData → En → Prop, (∀ ds bs, boolsOf ds = some bs → Q2 ds ⟨[some (.p 0), some (.d (.int 6)), some (.d (nI n)), some (.d (nI s)), t, some (.d (.list (l.map nI))), y, some (.d (nI x)), none, none, none], [.src]⟩) →
          cmpL [9] (gN 9) dYes (dBl fAll (lCons (dFz (dLc (iR1 (dCons (dVar 2) dNil)) [10] (gN 10) dYes (dOp fGe (dCall sp_bit (lConsZ (dVar 7) (lConsZ (dVar 10) lNil))) (dCall sp_bit (lConsZ (dVar 9) (lConsZ (dVar 10) lNil)))))) lNil)) (l.map nI) []
          ⟨[some (.p 0), some (.d (.int 6)), some (.d (nI n)), some (.d (nI s)), t, some (.d (.list (l.map nI))), y, some (.d (nI x)), none, none, none], [.src]⟩ Q2 := by
        intro Q2 h
        refine cmpL_all IsB _ _ (fun z hz k3 hk3 => ?_) (fun ds hl hd => ?_)
        · obtain ⟨z, hz, rfl⟩ := List.mem_map.mp hz
          refine ⟨⟨by omega, by omega⟩, ⟨trivial, trivial⟩, cmpL_all IsB _ _ (fun w hw k4 hk4 => ?_) (fun ds hl hd => ?_)⟩
          · rw [rng0_eq] at hw
            obtain ⟨w, hw', rfl⟩ := List.mem_map.mp hw
            have hw := List.mem_range.mp hw'
            exact ⟨by simp, x, w, rfl, rfl, by omega, by simp, z, w, rfl, rfl, by omega, hk4 _ ⟨_, rfl⟩⟩
          · obtain ⟨bs, e⟩ := bools_of hd
            exact ⟨bs, by simpa using e, hk3 _ ⟨_, rfl⟩⟩
        · obtain ⟨bs, e⟩ := bools_of hd
          exact h _ bs (by simpa using e)
      rcases hen with rfl | rfl
      · exact ⟨⟨trivial, trivial⟩, turn _ fun ds bs e => ⟨bs, e, hk2 _ _ (is01_bool _) (.inr rfl)⟩⟩
      · exact ⟨⟨trivial, trivial⟩, turn _ fun ds bs e => ⟨bs, e, hk2 _ _ (is01_bool _) (.inr rfl)⟩⟩
    · rcases hen with rfl | rfl
      · exact hk _ ⟨_, _, y, tab_of hl hd, rfl⟩
      · exact hk _ ⟨_, _, y, tab_of hl hd, rfl⟩
  rintro _ ⟨t, x, y, ht, rfl⟩
  refine seq_inv (fun en => ∃ t x y, TabOk n t ∧ en = drE n s t x y) (fun k hk => ?_) ?_
  · refine iteD (fun c => ?_) (fun c => hk _ ⟨t, x, y, ht, rfl⟩)
    refine seq_inv (fun en => ∃ l : List Nat, (∀ w ∈ l, w < 30) ∧ en = drE n s t x (some (.own (.lst (l.map nI))))) (fun k hk => ?_) ?_
    · refine ⟨⟨by omega, by omega⟩, ⟨trivial, trivial⟩, ?_⟩
      refine cmpL_some (fun d => ∃ w : Nat, w < 30 ∧ d = nI w) _ _ (fun x hx kT kF h1 h2 => ?_) (fun ds hl hd => ?_)
      · rw [rng0_eq] at hx
        obtain ⟨w, hw, rfl⟩ := List.mem_map.mp hx
        have hw := List.mem_range.mp hw
        refine ⟨by simp, 2, rfl, rfl, by decide, fun r r0 r1 => ?_⟩
        refine iteD (fun c => ?_) (fun c => h2)
        exact h1 _ ⟨w, by omega, rfl⟩
      · obtain ⟨l, rfl⟩ := nats_of (ds := ds) fun d hd' => (hd d hd').imp fun w h => h.2
        refine hk _ ⟨l, fun w hw => ?_, rfl⟩
        obtain ⟨w', h1, h2⟩ := hd _ (List.mem_map.mpr ⟨w, hw, rfl⟩)
        have : (w : Int) = w' := PyData.int.inj h2
        omega
    rintro _ ⟨l, hl30, rfl⟩
    refine ⟨c1, c2, ⟨trivial, trivial⟩, ?_⟩
    show cmpL _ _ _ _ (rng 0 ((1 : Int) * 2 ^ ((n : Int)).toNat)) [] _ _
    rw [shl_nat]
    refine cmpL_inv (fun en => en = drE n s t x (some (.own (.lst (l.map nI)))) ∨ en = drE n s t x (some (.d (.list (l.map nI))))) Is01 _ _ _ (.inl rfl) (fun z hz en hen k2 hk2 => ?_) (fun ds en' hl hd hen => ?_)
    · rw [rng0_eq] at hz
      obtain ⟨z, hz, rfl⟩ := List.mem_map.mp hz
      have turn : ∀ Q2 : List PyData → En → Prop, (∀ l2 : List Nat, Q2 (l2.map nI) ⟨[some (.p 0), some (.d (.int 6)), some (.d (nI n)), some (.d (nI s)), t, x, some (.d (.list (l.map nI))), some (.d (nI z)), none, none, none], [.src]⟩) →
          cmpL [10] (gN 10) dYes (dCall sp_bit (lConsZ (dVar 7) (lConsZ (dVar 10) lNil))) (l.map nI) []
          ⟨[some (.p 0), some (.d (.int 6)), some (.d (nI n)), some (.d (nI s)), t, x, some (.d (.list (l.map nI))), some (.d (nI z)), none, none, none], [.src]⟩ Q2 := by
        intro Q2 h
        refine cmpL_all IsNat _ _ (fun w hw k3 hk3 => ?_) (fun ds hl hd => ?_)
        · obtain ⟨w, hw', rfl⟩ := List.mem_map.mp hw
          exact ⟨by simp, z, w, rfl, rfl, hl30 w hw', hk3 _ ⟨_, rfl⟩⟩
        · obtain ⟨l2, rfl⟩ := nats_of hd
          exact h l2
      rcases hen with rfl | rfl
      · exact ⟨⟨trivial, trivial⟩, turn _ fun l2 => ⟨_, ints_nat l2, by decide, hk2 _ _ (is01_mod _) (.inr rfl)⟩⟩
      · exact ⟨⟨trivial, trivial⟩, turn _ fun l2 => ⟨_, ints_nat l2, by decide, hk2 _ _ (is01_mod _) (.inr rfl)⟩⟩
    · rcases hen with rfl | rfl
      · exact hk _ ⟨_, x, _, tab_of hl hd, rfl⟩
      · exact hk _ ⟨_, x, _, tab_of hl hd, rfl⟩
  rintro _ ⟨_, x, y, ⟨tb, rfl, h1, h2⟩, rfl⟩
  exact ⟨(by show 2 ≤ sizeLine; decide), q n tb ⟨n1, n6, h1, h2⟩⟩
end DL

namespace DL
open PySem PySem.Spec PyProof.Rows L2
def cb (n code : Nat) : List Nat := (List.range (2 ^ n)).map fun x => code / 2 ^ x % 2
def bt (n i : Nat) : List Nat := (List.range (2 ^ n)).map fun x => x / 2 ^ i % 2
def ft (n i : Nat) : List Nat := (bt n i).map fun b => 1 - b
def turnD (n i : Nat) : PyData := .tuple [nI n, .tuple ((bt n i).map fun (b : Nat) => PyData.int (1 - (b : Int)))]
theorem turnD_eq (n i : Nat) : turnD n i = fnD n (ft n i) := by
  unfold turnD fnD tD ft
  rw [List.map_map]
  refine congrArg (fun z => PyData.tuple [nI n, .tuple z]) (List.map_congr_left fun b hb => ?_)
  have : b ≤ 1 := by
    obtain ⟨x, _, rfl⟩ := List.mem_map.mp hb
    omega
  show PyData.int (1 - (b : Int)) = PyData.int ((1 - b : Nat) : Int)
  congr 1
  omega
theorem eqv_nats : ∀ l m : List Nat, PyData.eqvAll (l.map nI) (m.map nI) = decide (l = m)
  | [], [] => by simp [PyData.eqvAll]
  | [], _ :: _ => by simp [PyData.eqvAll]
  | _ :: _, [] => by simp [PyData.eqvAll]
  | x :: l, y :: m => by
    rw [List.map_cons, List.map_cons, PyData.eqvAll, PyData.eqv, eqv_nats l m, Bool.eq_iff_iff]
    simp
    omega
theorem eqv_fn (n : Nat) (l m : List Nat) : PyData.eqv (fnD n l) (fnD n m) = decide (l = m) := by
  unfold fnD tD
  rw [PyData.eqv, PyData.eqvAll, PyData.eqvAll, PyData.eqvAll, PyData.eqv, PyData.eqv, eqv_nats]
  simp
def memC (n code : Nat) : Bool := (List.range n).any (fun i => decide (bt n i = cb n code)) || (List.range n).any (fun i => decide (ft n i = cb n code))
theorem has_mem (n code : Nat) : hasD ((List.range n).map (fun i => fnD n (bt n i)) ++ (List.range n).map (turnD n)) (fnD n (cb n code)) = memC n code := by
  unfold hasD memC
  rw [List.any_append, List.any_map, List.any_map]
  congr 1
  · exact congrArg (fun z => (List.range n).any z) (funext fun i => eqv_fn n _ _)
  · exact congrArg (fun z => (List.range n).any z) (funext fun i => by
      rw [Function.comp_apply, turnD_eq]
      exact eqv_fn n _ _)
def chk (n code : Nat) : Bool := !(2 * (cb n code).sum == 2 ^ n) || (decide (wh n (tt (cb n code)) n = 2 ^ (n - 1)) == memC n code)
theorem chk1 : ∀ n, n < 4 → 1 ≤ n → ∀ code, code < 2 ^ (2 ^ n) → chk n code = true := by decide +kernel
theorem depth_nats (l : List Nat) : PyData.depthAll (l.map nI) ≤ 1 := by
  induction l with
  | nil => simp [PyData.depthAll]
  | cons x l ih =>
    simp only [List.map_cons, PyData.depthAll, PyData.depth]
    omega
theorem depth_fn (n : Nat) (tb : List Nat) : (fnD n tb).depth ≤ 10 := by
  have := depth_nats tb
  simp only [fnD, tD, PyData.depth, PyData.depthAll]
  omega
local macro_rules | `(tactic| walk_at "st") => `(tactic| simp only [look, puts, En.put, fAdd, fSub, frz, sto, Asg.sl, startEn, Val.sl, wipeE, restE, En.set, List.map_cons, List.map_nil, List.length_cons, List.length_nil, List.cons_append, List.nil_append, List.set_cons_zero, List.set_cons_succ, List.replicate_succ, List.replicate_zero, List.getElem?_cons_succ, List.getElem?_cons_zero, Nat.reduceAdd, Nat.reduceSub])
theorem forL_all {g : TDG} {body : TDS} {D : DEn} (I : En → Prop) : ∀ (xs : List PyData) (en : En), I en →
    (∀ x ∈ xs, ∀ en (k : En → Prop), I en → (∀ en', I en' → k en') → g x en fun en1 => body { nx := k, rt := D.rt, bk := D.nx, ct := k } en1) →
    (∀ en, I en → D.nx en) → forL g body D xs en
  | [], en, h, _, hd => hd en h
  | x :: xs, en, h, hs, hd => hs x List.mem_cons_self en _ h fun en' h' => forL_all I xs en' h' (fun y hy => hs y (List.mem_cons_of_mem _ hy)) hd
def lwE (n : Nat) (a3 a4 a5 a6 a7 a8 a9 a10 a11 a12 a13 : Option Sl) : En := ⟨[none, some (.own .src), some (.d (nI n)), a3, a4, a5, a6, a7, a8, a9, a10, a11, a12, a13, none, none, none], []⟩
abbrev LW (n : Nat) (en : En) : Prop := ∃ a3 a4 a5 a6 a7 a8 a9 a10 a11 a12 a13, en = lwE n a3 a4 a5 a6 a7 a8 a9 a10 a11 a12 a13
theorem cb_ok {n code : Nat} (h1 : 1 ≤ n) (h6 : n ≤ 6) : FOk n (cb n code) := by
  refine ⟨h1, h6, by simp [cb], fun b hb => ?_⟩
  obtain ⟨x, _, rfl⟩ := List.mem_map.mp hb
  omega
theorem dirs_le (n : Nat) (t : Nat → Nat) (i : Nat) : dirs n t i ≤ 2 ^ n := by
  unfold dirs
  rw [← cnt_filter]
  exact Nat.le_trans (List.length_filter_le _ _) (by rw [List.length_range]; exact Nat.le_refl _)
theorem wh_le (n : Nat) (t : Nat → Nat) : ∀ k, wh n t k ≤ k * 2 ^ n
  | 0 => by simp [wh]
  | k + 1 => by
    have h1 := wh_le n t k
    have h2 := dirs_le n t k
    show wh n t k + dirs n t k ≤ (k + 1) * 2 ^ n
    rw [Nat.succ_mul]
    omega
theorem wh_congr {n : Nat} {t u : Nat → Nat} (h : ∀ x, x < 2 ^ n → t x = u x) : ∀ k, k ≤ n → wh n t k = wh n u k
  | 0, _ => rfl
  | k + 1, hk => by
    show wh n t k + dirs n t k = wh n u k + dirs n u k
    rw [wh_congr h k (by omega)]
    refine congrArg _ (cnt_congr _ fun x hx => ?_)
    by_cases e : x / 2 ^ k % 2 = 0
    · rw [h x hx, h _ (up_lt (by omega) hx e)]
    · have e1 : (x / 2 ^ k % 2 == 0) = false := by simpa using e
      rw [e1]
      rfl
theorem show_cut {a b : Nat} (ha : a < 1000000000) (hb : b < 1000000000) : RShow (cutD2 a b) := by
  have h1 := Nat.div_le_self a (Nat.gcd a b)
  have h2 := Nat.div_le_self b (Nat.gcd a b)
  refine ⟨?_, ?_, ?_⟩
  · simp only [cutD2, leafOk, leafOkAll, Bool.and_true, Bool.and_eq_true, decide_eq_true_eq]
    generalize a / Nat.gcd a b = x at h1
    generalize b / Nat.gcd a b = y at h2
    omega
  · simp [cutD2, PyData.depth, PyData.depthAll]
  · simp [cutD2, PyData.bulk, PyData.bulkAll]
theorem cut_eq (L m : Nat) (hm : 1 ≤ m) : cutD2 (2 * L) (2 ^ m) = cutD2 L (2 ^ (m - 1)) := by
  have e : 2 ^ m = 2 * 2 ^ (m - 1) := by
    rw [Nat.mul_comm, ← Nat.pow_succ]
    congr 1
    omega
  unfold cutD2
  rw [e, Nat.gcd_mul_left, Nat.mul_div_mul_left _ _ (by decide), Nat.mul_div_mul_left _ _ (by decide)]
theorem cut_lt {A B D : Nat} (h : B ≤ A) (hD : 0 < D) : ¬ (A / Nat.gcd A D) * (D / Nat.gcd B D) < (B / Nat.gcd B D) * (D / Nat.gcd A D) := by
  intro c
  have g1 := Nat.gcd_pos_of_pos_right A hD
  have g2 := Nat.gcd_pos_of_pos_right B hD
  have a1 := Nat.div_mul_cancel (Nat.gcd_dvd_left A D)
  have a2 := Nat.div_mul_cancel (Nat.gcd_dvd_right A D)
  have b1 := Nat.div_mul_cancel (Nat.gcd_dvd_left B D)
  have b2 := Nat.div_mul_cancel (Nat.gcd_dvd_right B D)
  generalize A / Nat.gcd A D = x at *
  generalize D / Nat.gcd A D = y at *
  generalize B / Nat.gcd B D = u at *
  generalize D / Nat.gcd B D = v at *
  generalize Nat.gcd A D = g at *
  generalize Nat.gcd B D = e at *
  have h1 : x * v * (g * e) = A * D := by
    rw [show x * v * (g * e) = (x * g) * (v * e) by simp [Nat.mul_comm, Nat.mul_assoc, Nat.mul_left_comm], a1, b2]
  have h2 : u * y * (g * e) = B * D := by
    rw [show u * y * (g * e) = (u * e) * (y * g) by simp [Nat.mul_comm, Nat.mul_assoc, Nat.mul_left_comm], b1, a2]
  have h3 := Nat.mul_lt_mul_of_pos_right c (Nat.mul_pos g1 g2)
  rw [h1, h2] at h3
  have := Nat.mul_le_mul_right D h
  omega
theorem eqv_cut (a b : Nat) : PyData.eqv (cutD2 a b) (cutD2 a b) = true := by
  simp [cutD2, PyData.eqv, PyData.eqvAll]
def f2 (m s : Nat) : List Nat := (List.range (2 ^ m)).map fun x => if x < s then 1 else 0
theorem f2_ok {m s : Nat} (h1 : 1 ≤ m) (h6 : m ≤ 6) : FOk m (f2 m s) := by
  refine ⟨h1, h6, by simp [f2], fun b hb => ?_⟩
  obtain ⟨x, _, rfl⟩ := List.mem_map.mp hb
  split <;> omega
theorem f2_wh {m s : Nat} (h6 : m ≤ 6) (hs : 2 * s ≤ 2 ^ m) : wh m (tt (f2 m s)) m = bnd m s := by
  have e : wh m (tt (f2 m s)) m = wh m (fun x => if x < s then 1 else 0) m := wh_congr (fun x hx => by
    unfold tt f2
    rw [List.getElem?_map, List.getElem?_range hx]
    rfl) m (Nat.le_refl _)
  have h := first_is m (by omega) s (by omega)
  rw [e]
  unfold bnd
  omega
theorem least_half {m : Nat} {tb : List Nat} (h : tb.length = 2 ^ m) (hs : 2 * tb.sum ≤ 2 ^ m) : leastOf m tb = bnd m tb.sum := by
  unfold leastOf
  rw [tot_tt h, Nat.min_eq_left (by omega)]
theorem least_le {m : Nat} {tb : List Nat} (ok : FOk m tb) : leastOf m tb ≤ wh m (tt tb) m :=
  bnd_le ok.2.1 fun x _ => tt_le ok.2.2.2 x
theorem sm_nat {a : Nat} (h : a < 1000000) (b : Int) : Sm (a : Int) b := .inl ⟨by omega, by omega⟩
theorem depth_cut (a b : Nat) : (cutD2 a b).depth ≤ 10 := by simp [cutD2, PyData.depth, PyData.depthAll]
theorem rd_law : w_law lawEnds ⟨none :: some (.own .src) :: List.replicate 15 none, []⟩ := by
  refine ⟨by simp, 3, rfl, rfl, by decide, fun r r0 r1 => ?_⟩
  obtain ⟨n, hn⟩ := nat_of (show 0 ≤ 1 + r by omega)
  have n1 : 1 ≤ n := by omega
  have n3 : n ≤ 3 := by omega
  walk_at "st"
  rw [hn]
  refine seq_inv (LW n) (fun k hk => ?_) ?_
  · have p8 : 2 ^ n ≤ 8 := two_pow_lt (n := 3) n3
    have p256 : 2 ^ 2 ^ n ≤ 256 := two_pow_lt (n := 8) p8
    have c1 : (0 : Int) ≤ (n : Int) ∧ (n : Int) ≤ 1000000 ∧ (1 : Int).natAbs < 2 ^ 64 := ⟨by omega, by omega, by decide⟩
    have c2 : (0 : Int) ≤ 1 * 2 ^ ((n : Int)).toNat ∧ (1 : Int) * 2 ^ ((n : Int)).toNat ≤ 1000000 ∧ (1 : Int).natAbs < 2 ^ 64 := by
      rw [shl_nat]
      generalize 2 ^ n = N at p8
      exact ⟨by omega, by omega, by decide⟩
    have c3 : (-16777216 : Int) ≤ 1 * 2 ^ ((n : Int)).toNat ∧ (1 : Int) * 2 ^ ((n : Int)).toNat ≤ 16777216 := ⟨by have := c2.1; omega, by have := c2.2.1; omega⟩
    refine ⟨c1, c2, ?_, ?_⟩
    · rw [shl_nat, shl_nat]
      generalize 2 ^ 2 ^ n = N at p256
      exact ⟨by omega, by omega⟩
    show forL _ _ _ (rng 0 ((1 : Int) * 2 ^ ((1 : Int) * 2 ^ ((n : Int)).toNat).toNat)) _
    rw [shl_nat, shl_nat]
    refine forL_all (LW n) _ _ ⟨none, none, none, none, none, none, none, none, none, none, none, rfl⟩ ?_ hk
    rintro x hx _ k2 ⟨a3, a4, a5, a6, a7, a8, a9, a10, a11, a12, a13, rfl⟩ hk2
    rw [rng0_eq] at hx
    obtain ⟨code, hc, rfl⟩ := List.mem_map.mp hx
    have hc := List.mem_range.mp hc
    have ok := cb_ok (code := code) n1 (show n ≤ 6 by omega)
    refine ⟨c1, c3, ⟨trivial, trivial⟩, ?_⟩
    show cmpL _ _ _ _ (rng 0 ((1 : Int) * 2 ^ ((n : Int)).toNat)) [] _ _
    rw [shl_nat]
    refine cmpL_rng (fun x => nI (code / 2 ^ x % 2)) (fun x hx k hk => ⟨by simp, code, x, rfl, rfl, by omega, hk⟩) ?_
    have e : (List.range (2 ^ n)).map (fun x => nI (code / 2 ^ x % 2)) = (cb n code).map nI := by
      unfold cb
      rw [List.map_map]
      rfl
    rw [e]
    refine ⟨(by show 2 ≤ sizeLine; decide), ?_⟩
    unfold lwE
    walk_at "st"
    refine ⟨by simp, n, cb n code, rfl, rfl, ok, by simp, n, cb n code, rfl, rfl, ok, ?_⟩
    walk_at "st"
    refine iteD (fun c => ?_) (fun c => ?_)
    · have c : ((wh n (tt (cb n code)) n : Nat) : Int) < ((leastOf n (cb n code) : Nat) : Int) := c
      have := bnd_le (n := n) (t := tt (cb n code)) (by omega) fun x _ => tt_le ok.2.2.2 x
      unfold leastOf at c
      omega
    refine ⟨tD (cb n code), rfl, _, ints_nat (cb n code), .inl ⟨by decide, by decide⟩, c1, ?_⟩
    refine iteD (fun c4 => ?_) (fun c4 => hk2 _ ⟨_, _, _, _, _, _, _, _, _, _, _, rfl⟩)
    have c4 : (2 : Int) * ((cb n code).map fun (b : Nat) => (b : Int)).sum = 1 * 2 ^ ((n : Int)).toNat := c4
    rw [shl_nat, sum_nat] at c4
    have c5 : 2 * (cb n code).sum = 2 ^ n := by
      generalize 2 ^ n = N at c4
      omega
    refine ⟨⟨by omega, by omega⟩, ⟨trivial, trivial⟩, ?_⟩
    refine cmpL_rng (fun i => fnD n (bt n i)) (fun i hi k3 hk3 => ?_) ?_
    · refine ⟨c1, c3, ⟨trivial, trivial⟩, ?_⟩
      show cmpL _ _ _ _ (rng 0 ((1 : Int) * 2 ^ ((n : Int)).toNat)) [] _ _
      rw [shl_nat]
      refine cmpL_rng (fun x => nI (x / 2 ^ i % 2)) (fun x hx k hk => ⟨by simp, x, i, rfl, rfl, by omega, hk⟩) ?_
      have e : (List.range (2 ^ n)).map (fun x => nI (x / 2 ^ i % 2)) = (bt n i).map nI := by
        unfold bt
        rw [List.map_map]
        rfl
      rw [e]
      exact ⟨(by show 2 ≤ sizeLine; decide), hk3⟩
    walk_at "st"
    refine ⟨⟨trivial, trivial⟩, ?_⟩
    refine cmpL_mapM (c := fun i => fnD n (bt n i)) (turnD n) _ _ (fun i hi k3 hk3 => ?_) ?_
    · refine ⟨_, rfl, ⟨trivial, trivial⟩, ?_⟩
      refine cmpL_mapM (c := nI) (fun (b : Nat) => PyData.int (1 - (b : Int))) (bt n i) _ (fun b hb k hk => hk) ?_
      exact ⟨(by show 2 ≤ sizeLine; decide), hk3⟩
    walk_at "st"
    refine ⟨⟨by omega, by omega, by decide⟩, ?_, Nat.le_trans (Nat.min_le_right _ _) (Nat.le_trans (depth_fn n (cb n code)) (by decide)), ?_⟩
    · simp
      omega
    have last : (!(decide (((wh n (tt (cb n code)) n : Nat) : Int) = 1 * 2 ^ ((n : Int) - 1).toNat) == hasD ((List.range n).map (fun i => fnD n (bt n i)) ++ (List.range n).map (turnD n)) (fnD n (cb n code)))) = false := by
      have h := chk1 n (by omega) n1 code hc
      unfold chk at h
      rw [has_mem]
      have e1 : ((n : Int) - 1).toNat = n - 1 := by omega
      have e2 : (1 : Int) * 2 ^ (n - 1) = ((2 ^ (n - 1) : Nat) : Int) := by simp
      rw [e1, e2]
      have e3 : decide (((wh n (tt (cb n code)) n : Nat) : Int) = ((2 ^ (n - 1) : Nat) : Int)) = decide (wh n (tt (cb n code)) n = 2 ^ (n - 1)) := decide_eq_decide.mpr (by omega)
      rw [e3]
      simp [c5] at h
      simp [h]
    show (if (!(decide (((wh n (tt (cb n code)) n : Nat) : Int) = 1 * 2 ^ ((n : Int) - 1).toNat) == hasD ((List.range n).map (fun i => fnD n (bt n i)) ++ (List.range n).map (turnD n)) (fnD n (cb n code)))) = true then _ else _)
    rw [last, if_neg (by decide)]
    exact hk2 _ ⟨_, _, _, _, _, _, _, _, _, _, _, rfl⟩
  rintro _ ⟨a3, a4, a5, a6, a7, a8, a9, a10, a11, a12, a13, rfl⟩
  refine seq_inv (LW n) (fun k hk => ?_) ?_
  · refine ⟨⟨by decide, by decide⟩, forL_all (LW n) _ _ ⟨a3, a4, a5, a6, a7, a8, a9, a10, a11, a12, a13, rfl⟩ ?_ hk⟩
    rintro x hx _ k2 ⟨a3, a4, a5, a6, a7, a8, a9, a10, a11, a12, a13, rfl⟩ hk2
    refine ⟨by simp, rfl, rfl, fun m tb ok => ?_⟩
    obtain ⟨f1, f2', f3, f4⟩ := id ok
    unfold lwE
    walk_at "st"
    refine ⟨by simp, m, tb, rfl, rfl, ok, ?_⟩
    walk_at "st"
    refine ⟨by simp, m, tb, rfl, rfl, ok, ?_⟩
    walk_at "st"
    have p64 : 2 ^ m ≤ 2 ^ 6 := two_pow_lt f2'
    have p32 : 2 ^ (m - 1) ≤ 2 ^ 6 := two_pow_lt (by omega)
    have q0 := Nat.two_pow_pos m
    have q1 := Nat.two_pow_pos (m - 1)
    have w1 := wh_le m (tt tb) m
    have w2 : m * 2 ^ m ≤ 6 * 2 ^ 6 := Nat.mul_le_mul f2' p64
    have l1 := least_le ok
    have sh1 : RShow (cutD2 (2 * leastOf m tb) (2 ^ m)) := show_cut (by omega) (by omega)
    have sh2 : RShow (cutD2 (leastOf m tb) (2 ^ (m - 1))) := show_cut (by omega) (by omega)
    refine ⟨sh1, nI m, rfl, ⟨by omega, by omega, by decide⟩, by simp, leastOf m tb, 2 ^ (m - 1), ?_, rfl, q1, by omega, sh2, ?_⟩
    · have e1 : ((m : Int) - 1).toNat = m - 1 := by omega
      rw [e1]
      simp
    rw [cut_eq (leastOf m tb) m f1]
    have st1 : ∀ T : Str, (!decide (T = T)) = false := fun T => by simp
    show (if (!decide ((cutD2 (leastOf m tb) (2 ^ (m - 1))).shown = (cutD2 (leastOf m tb) (2 ^ (m - 1))).shown)) = true then _ else _)
    rw [st1, if_neg (by decide)]
    refine ⟨by simp, m, tb, rfl, rfl, ok, ?_⟩
    refine iteD (fun c => ?_) (fun c => ?_)
    · have c : ((wh m (tt tb) m : Nat) : Int) < ((leastOf m tb : Nat) : Int) := c
      omega
    walk_at "st"
    refine ⟨by simp, m, tb, rfl, rfl, ok, rfl, rfl, ?_⟩
    walk_at "st"
    rw [← cut_eq (leastOf m tb) m f1]
    have d1 := Nat.div_le_self (2 * wh m (tt tb) m) (Nat.gcd (2 * wh m (tt tb) m) (2 ^ m))
    have d2 := Nat.div_le_self (2 * leastOf m tb) (Nat.gcd (2 * leastOf m tb) (2 ^ m))
    have no := cut_lt (A := 2 * wh m (tt tb) m) (B := 2 * leastOf m tb) (D := 2 ^ m) (by omega) q0
    refine ⟨_, rfl, sm_nat (a := 2 * wh m (tt tb) m / Nat.gcd (2 * wh m (tt tb) m) (2 ^ m)) (by omega) _, _, rfl, sm_nat (a := 2 * leastOf m tb / Nat.gcd (2 * leastOf m tb) (2 ^ m)) (by omega) _, ?_⟩
    refine iteD (fun c => ?_) (fun c => ?_)
    · refine absurd ?_ no
      have c : ((2 * wh m (tt tb) m / Nat.gcd (2 * wh m (tt tb) m) (2 ^ m) : Nat) : Int) * ((2 ^ m / Nat.gcd (2 * leastOf m tb) (2 ^ m) : Nat) : Int) < ((2 * leastOf m tb / Nat.gcd (2 * leastOf m tb) (2 ^ m) : Nat) : Int) * ((2 ^ m / Nat.gcd (2 * wh m (tt tb) m) (2 ^ m) : Nat) : Int) := c
      rw [← Int.natCast_mul, ← Int.natCast_mul] at c
      exact Int.ofNat_lt.mp c
    walk_at "st"
    have c1 : (0 : Int) ≤ (m : Int) ∧ (m : Int) ≤ 1000000 ∧ (1 : Int).natAbs < 2 ^ 64 := ⟨by omega, by omega, by decide⟩
    have c3 : (-16777216 : Int) ≤ 1 * 2 ^ ((m : Int)).toNat ∧ (1 : Int) * 2 ^ ((m : Int)).toNat ≤ 16777216 := by
      rw [shl_nat]
      generalize 2 ^ m = N at p64
      have p64 : N ≤ 64 := p64
      omega
    refine ⟨nI m, rfl, nI m, rfl, c1, c3, ⟨trivial, trivial⟩, ?_⟩
    show cmpL _ _ _ _ (rng 0 ((1 : Int) * 2 ^ ((m : Int)).toNat)) [] _ _
    rw [shl_nat]
    refine cmpL_rng (fun x => nI (if x < tb.sum then 1 else 0)) (fun x hx k hk => ⟨tD tb, rfl, _, ints_nat tb, ?_⟩) ?_
    · show k (.int (if decide ((x : Int) < (tb.map fun (b : Nat) => (b : Int)).sum) = true then 1 else 0)) _
      rw [sum_nat]
      have e : (if decide ((x : Int) < ((tb.sum : Nat) : Int)) = true then (1 : Int) else 0) = ((if x < tb.sum then 1 else 0 : Nat) : Int) := by
        by_cases h : x < tb.sum
        · simp [h]
        · simp [h]
      rw [e]
      exact hk
    have e : (List.range (2 ^ m)).map (fun x => nI (if x < tb.sum then 1 else 0)) = (f2 m tb.sum).map nI := by
      unfold f2
      rw [List.map_map]
      rfl
    rw [e]
    refine ⟨(by show 2 ≤ sizeLine; decide), ?_⟩
    walk_at "st"
    refine ⟨tD tb, rfl, _, ints_nat tb, .inl ⟨by decide, by decide⟩, nI m, rfl, c1, ?_⟩
    refine iteD (fun c => ?_) (fun c => ?_)
    · have c : (2 : Int) * (tb.map fun (b : Nat) => (b : Int)).sum ≤ 1 * 2 ^ ((m : Int)).toNat := c
      rw [shl_nat, sum_nat] at c
      have c5 : 2 * tb.sum ≤ 2 ^ m := by
        generalize 2 ^ m = N at c
        omega
      refine ⟨by simp, m, f2 m tb.sum, rfl, rfl, f2_ok f1 f2', ?_⟩
      rw [f2_wh f2' c5, ← least_half f3 c5]
      refine ⟨Nat.le_trans (Nat.min_le_right _ _) (Nat.le_trans (depth_cut _ _) (by decide)), ?_⟩
      show (if (!PyData.eqv (cutD2 (2 * leastOf m tb) (2 ^ m)) (cutD2 (2 * leastOf m tb) (2 ^ m))) = true then _ else _)
      rw [eqv_cut, if_neg (by decide)]
      exact hk2 _ ⟨_, _, _, _, _, _, _, _, _, _, _, rfl⟩
    · exact hk2 _ ⟨_, _, _, _, _, _, _, _, _, _, _, rfl⟩
  rintro _ ⟨a3, a4, a5, a6, a7, a8, a9, a10, a11, a12, a13, rfl⟩
  exact rfl
end DL

namespace DL
open PySem PySem.Spec PyProof.Rows L2
abbrev s_first_pairs : Stmt := topS 5
theorem sc_first_pairs : FnScope ["m", "many", "x"] ["m"] (defScope s_first_pairs) := ⟨rfl, rfl, rfl, by decide +kernel, rfl, by decide +kernel, by decide +kernel⟩
theorem wk_first_pairs {P : Program} {w : World} {K : Frg} {mg : Str → Option Value} {base : Heap} {f : Addr} {k : Nat} {cdv : Value} {A : Around} {outer : List Env} {s : Shared} {H : Hp} {E : XK} (z_range : mg "range" = none) (g : A.guards = some []) (hr : Room k (A.deeper (envOfC "first_pairs" (defScope s_first_pairs) s.heap.objs.size f cdv))) (hk : 0 ≤ k) :
    DSs (cxOf CX0 P w K mg base ["m", "many", "x"] "first_pairs" (defScope s_first_pairs) f cdv A outer s H E).nox (defBody s_first_pairs) w_first_pairs := by
  have hu := hr.units
  exact (dss_cons (ds_set (i := 1) sc_first_pairs.nd rfl (.inl rfl) de_int)
    (dss_cons (ds_for PassesOwn.never rfl (di_range1 (by rfl) z_range (dd_cons (de_of (pv 0)) dd_nil)) (dg_name (i := 2) sc_first_pairs.nd rfl (.inl rfl)) (dss_one (ds_while PassesOwn.never (dt_cmp op_gt oCmp (de_of (pv 2)) de_int (by rfl)) (dss_one (ds_par (i := 1) (j := 2) rfl sc_first_pairs.nd rfl rfl (by decide) rfl rfl (da_d (de_op op_addA oAdd (de_of (pv 1)) (de_op op_mod oMod (de_of (pv 2)) de_int))) (da_d (de_op op_fdiv oDiv (de_of (pv 2)) de_int)) (by rfl))))))
    (dss_one (ds_ret (de_of (pv 1))))))
theorem ok_first_pairs {P : Program} {w : World} {K : Frg} {mg : Str → Option Value} {base : Heap} {f : Addr} {fd : FuncData} (F : Fun K "first_pairs" "first_pairs" s_first_pairs f fd) (hm : mg "first_pairs" = some (.ref f)) (z_range : mg "range" = none) : Cal P w K mg base 1 "first_pairs" ["m"] sp_first_pairs :=
  cal_mk F hm sc_first_pairs (F.binds fun _ _ _ _ _ _ us hl => match us, hl with | [_], _ => rfl) len_first_pairs (fun cdv A outer s H E g hr => wk_first_pairs z_range g hr (Nat.le_refl _)) rd_first_pairs
abbrev s_most_pairs : Stmt := topS 6
theorem sc_most_pairs : FnScope ["n", "m"] ["n", "m"] (defScope s_most_pairs) := ⟨rfl, rfl, rfl, by decide +kernel, rfl, by decide +kernel, by decide +kernel⟩
theorem wk_most_pairs {P : Program} {w : World} {K : Frg} {mg : Str → Option Value} {base : Heap} {f : Addr} {k : Nat} {cdv : Value} {A : Around} {outer : List Env} {s : Shared} {H : Hp} {E : XK} (c_first_pairs : Cal P w K mg base 1 "first_pairs" ["m"] sp_first_pairs) (g : A.guards = some []) (hr : Room k (A.deeper (envOfC "most_pairs" (defScope s_most_pairs) s.heap.objs.size f cdv))) (hk : 1 ≤ k) :
    DSs (cxOf CX0 P w K mg base ["n", "m"] "most_pairs" (defScope s_most_pairs) f cdv A outer s H E).nox (defBody s_most_pairs) w_most_pairs := by
  have hu := hr.units
  exact (dss_cons (ds_if (dt_cmp op_gt oCmp (de_of (pv 1)) (de_op op_shl oShl de_int (de_of (pv 0))) (by rfl)) (dss_one ds_never) dss_nil)
    (dss_one (ds_ret (de_cal c_first_pairs g hr (Nat.le_trans (by decide) hk) (by rfl) (dl_consz (de_of (pv 1)) dl_nil)))))
theorem ok_most_pairs {P : Program} {w : World} {K : Frg} {mg : Str → Option Value} {base : Heap} {f : Addr} {fd : FuncData} (F : Fun K "most_pairs" "most_pairs" s_most_pairs f fd) (hm : mg "most_pairs" = some (.ref f)) (c_first_pairs : Cal P w K mg base 1 "first_pairs" ["m"] sp_first_pairs) : Cal P w K mg base 2 "most_pairs" ["n", "m"] sp_most_pairs :=
  cal_mk F hm sc_most_pairs (F.binds fun _ _ _ _ _ _ us hl => match us, hl with | [_, _], _ => rfl) len_most_pairs (fun cdv A outer s H E g hr => wk_most_pairs c_first_pairs g hr (Nat.le_refl _)) rd_most_pairs
abbrev s_least_rim : Stmt := topS 7
theorem sc_least_rim : FnScope ["n", "m"] ["n", "m"] (defScope s_least_rim) := ⟨rfl, rfl, rfl, by decide +kernel, rfl, by decide +kernel, by decide +kernel⟩
theorem wk_least_rim {P : Program} {w : World} {K : Frg} {mg : Str → Option Value} {base : Heap} {f : Addr} {k : Nat} {cdv : Value} {A : Around} {outer : List Env} {s : Shared} {H : Hp} {E : XK} (c_most_pairs : Cal P w K mg base 2 "most_pairs" ["n", "m"] sp_most_pairs) (g : A.guards = some []) (hr : Room k (A.deeper (envOfC "least_rim" (defScope s_least_rim) s.heap.objs.size f cdv))) (hk : 2 ≤ k) :
    DSs (cxOf CX0 P w K mg base ["n", "m"] "least_rim" (defScope s_least_rim) f cdv A outer s H E).nox (defBody s_least_rim) w_least_rim := by
  have hu := hr.units
  exact (dss_one (ds_ret (de_op op_sub oSub (de_op op_mulA oMulA (de_of (pv 0)) (de_of (pv 1))) (de_op op_mulA oMulA de_int (de_cal c_most_pairs g hr (Nat.le_trans (by decide) hk) (by rfl) (dl_consz (de_of (pv 0)) (dl_consz (de_of (pv 1)) dl_nil)))))))
theorem ok_least_rim {P : Program} {w : World} {K : Frg} {mg : Str → Option Value} {base : Heap} {f : Addr} {fd : FuncData} (F : Fun K "least_rim" "least_rim" s_least_rim f fd) (hm : mg "least_rim" = some (.ref f)) (c_most_pairs : Cal P w K mg base 2 "most_pairs" ["n", "m"] sp_most_pairs) : Cal P w K mg base 3 "least_rim" ["n", "m"] sp_least_rim :=
  cal_mk F hm sc_least_rim (F.binds fun _ _ _ _ _ _ us hl => match us, hl with | [_, _], _ => rfl) len_least_rim (fun cdv A outer s H E g hr => wk_least_rim c_most_pairs g hr (Nat.le_refl _)) rd_least_rim
abbrev s_share_part : Stmt := topS 9
theorem sc_share_part : FnScope ["one", "other"] ["one", "other"] (defScope s_share_part) := ⟨rfl, rfl, rfl, by decide +kernel, rfl, by decide +kernel, by decide +kernel⟩
theorem wk_share_part {P : Program} {w : World} {K : Frg} {mg : Str → Option Value} {base : Heap} {f : Addr} {k : Nat} {cdv : Value} {A : Around} {outer : List Env} {s : Shared} {H : Hp} {E : XK} (z_max : mg "max" = none) (g : A.guards = some []) (hr : Room k (A.deeper (envOfC "share_part" (defScope s_share_part) s.heap.objs.size f cdv))) (hk : 0 ≤ k) :
    DSs (cxOf CX0 P w K mg base ["one", "other"] "share_part" (defScope s_share_part) f cdv A outer s H E).nox (defBody s_share_part) w_share_part := by
  have hu := hr.units
  exact (dss_cons (ds_while PassesOwn.never (dt_cmp (op_neP hu) oNe (de_of (pv 1)) de_int (by rfl)) (dss_one (ds_par (i := 0) (j := 1) rfl sc_share_part.nd rfl rfl (by decide) rfl rfl (da_d (de_of (pv 1))) (da_d (de_op op_mod oMod (de_of (pv 0)) (de_of (pv 1)))) (by rfl))))
    (dss_one (ds_ret (de_blt (call_max2 rfl) cMax2 (by rfl) z_max bt_max (dl_cons de_int (dl_cons (de_of (pv 0)) dl_nil))))))
theorem ok_share_part {P : Program} {w : World} {K : Frg} {mg : Str → Option Value} {base : Heap} {f : Addr} {fd : FuncData} (F : Fun K "share_part" "share_part" s_share_part f fd) (hm : mg "share_part" = some (.ref f)) (z_max : mg "max" = none) : Cal P w K mg base 1 "share_part" ["one", "other"] sp_share_part :=
  cal_mk F hm sc_share_part (F.binds fun _ _ _ _ _ _ us hl => match us, hl with | [_, _], _ => rfl) len_share_part (fun cdv A outer s H E g hr => wk_share_part z_max g hr (Nat.le_refl _)) rd_share_part
abbrev s_share_pair : Stmt := topS 10
theorem sc_share_pair : FnScope ["above", "below", "by"] ["above", "below"] (defScope s_share_pair) := ⟨rfl, rfl, rfl, by decide +kernel, rfl, by decide +kernel, by decide +kernel⟩
theorem wk_share_pair {P : Program} {w : World} {K : Frg} {mg : Str → Option Value} {base : Heap} {f : Addr} {k : Nat} {cdv : Value} {A : Around} {outer : List Env} {s : Shared} {H : Hp} {E : XK} (c_share_part : Cal P w K mg base 1 "share_part" ["one", "other"] sp_share_part) (g : A.guards = some []) (hr : Room k (A.deeper (envOfC "share_pair" (defScope s_share_pair) s.heap.objs.size f cdv))) (hk : 1 ≤ k) :
    DSs (cxOf CX0 P w K mg base ["above", "below", "by"] "share_pair" (defScope s_share_pair) f cdv A outer s H E).nox (defBody s_share_pair) w_share_pair := by
  have hu := hr.units
  exact (dss_cons (ds_set (i := 2) sc_share_pair.nd rfl (.inl rfl) (de_cal c_share_part g hr (Nat.le_trans (by decide) hk) (by rfl) (dl_consz (de_of (pv 0)) (dl_consz (de_of (pv 1)) dl_nil))))
    (dss_one (ds_ret (de_tup (dd_cons (de_op op_fdiv oDiv (de_of (pv 0)) (de_of (pv 2))) (dd_cons (de_op op_fdiv oDiv (de_of (pv 1)) (de_of (pv 2))) dd_nil))))))
theorem ok_share_pair {P : Program} {w : World} {K : Frg} {mg : Str → Option Value} {base : Heap} {f : Addr} {fd : FuncData} (F : Fun K "share_pair" "share_pair" s_share_pair f fd) (hm : mg "share_pair" = some (.ref f)) (c_share_part : Cal P w K mg base 1 "share_part" ["one", "other"] sp_share_part) : Cal P w K mg base 2 "share_pair" ["above", "below"] sp_share_pair :=
  cal_mk F hm sc_share_pair (F.binds fun _ _ _ _ _ _ us hl => match us, hl with | [_, _], _ => rfl) len_share_pair (fun cdv A outer s H E g hr => wk_share_pair c_share_part g hr (Nat.le_refl _)) rd_share_pair
abbrev s_matter_pairs : Stmt := topS 11
theorem sc_matter_pairs : FnScope ["f", "i", "n", "table", "pairs", "x", "y"] ["f", "i"] (defScope s_matter_pairs) := ⟨rfl, rfl, rfl, by decide +kernel, rfl, by decide +kernel, by decide +kernel⟩
theorem wk_matter_pairs {P : Program} {w : World} {K : Frg} {mg : Str → Option Value} {base : Heap} {f : Addr} {k : Nat} {cdv : Value} {A : Around} {outer : List Env} {s : Shared} {H : Hp} {E : XK} (z_range : mg "range" = none) (z_tuple : mg "tuple" = none) (g : A.guards = some []) (hr : Room k (A.deeper (envOfC "matter_pairs" (defScope s_matter_pairs) s.heap.objs.size f cdv))) (hk : 0 ≤ k) :
    DSs (cxOf CX0 P w K mg base ["f", "i", "n", "table", "pairs", "x", "y"] "matter_pairs" (defScope s_matter_pairs) f cdv A outer s H E).nox (defBody s_matter_pairs) w_matter_pairs := by
  have hu := hr.units
  exact (dss_cons (ds_asg (de_of (pv 0)) (dg_tup rfl (dgs_cons (dg_name (i := 2) sc_matter_pairs.nd rfl (.inl rfl)) (dgs_cons (dg_name (i := 3) sc_matter_pairs.nd rfl (.inr rfl)) dgs_nil))))
    (dss_cons (ds_setLc (i := 4) (own := [("x", 5)]) rfl sc_matter_pairs.nd rfl rfl (sw_true rfl rfl rfl (by kernel_rfl)) (di_range1 (by rfl) z_range (dd_cons (de_op op_shl oShl de_int (de_of (pv 2))) dd_nil)) (blkOk_by (by kernel_rfl)) (fun _ _ _ _ _ => (cg_name (i := 5) (by decide) sc_matter_pairs.nd rfl (.inl rfl))) (fun _ _ _ _ _ => (dts_one (dt_cmp (op_eqP hu) oEq (de_op op_mod oMod (de_op op_fdiv oDiv (de_of (pv 5)) (de_op op_shl oShl de_int (de_of (pv 1)))) de_int) de_int (by rfl)))) (fun _ _ _ _ _ => (de_tup (dd_cons (de_of (pv 5)) (dd_cons (de_op op_addA oAdd (de_of (pv 5)) (de_op op_shl oShl de_int (de_of (pv 1)))) dd_nil)))))
    (dss_one (ds_ret (de_ty call_tuple_of cTuple (by rfl) z_tuple bt_tuple (dl_cons (de_fz (df_lc (own := [("x", 5), ("y", 6)]) rfl sc_matter_pairs.nd (di_list (de_of (pv 4))) (blkOk_by (by kernel_rfl)) (fun _ _ _ _ _ => (cg_tup rfl (cgs_cons (cg_name (i := 5) (by decide) sc_matter_pairs.nd rfl (.inl rfl)) (cgs_cons (cg_name (i := 6) (by decide) sc_matter_pairs.nd rfl (.inl rfl)) cgs_nil)))) (fun _ _ _ _ _ => (dts_one (dt_cmp (op_neP hu) oNe (de_ix (de_of (pv 3)) (de_of (pv 5))) (de_ix (de_of (pv 3)) (de_of (pv 6))) (by rfl)))) (fun _ _ _ _ _ => (de_tup (dd_cons (de_of (pv 5)) (dd_cons (de_of (pv 6)) dd_nil)))))) dl_nil))))))
theorem ok_matter_pairs {P : Program} {w : World} {K : Frg} {mg : Str → Option Value} {base : Heap} {f : Addr} {fd : FuncData} (F : Fun K "matter_pairs" "matter_pairs" s_matter_pairs f fd) (hm : mg "matter_pairs" = some (.ref f)) (z_range : mg "range" = none) (z_tuple : mg "tuple" = none) : Cal P w K mg base 1 "matter_pairs" ["f", "i"] sp_matter_pairs :=
  cal_mk F hm sc_matter_pairs (F.binds fun _ _ _ _ _ _ us hl => match us, hl with | [_, _], _ => rfl) len_matter_pairs (fun cdv A outer s H E g hr => wk_matter_pairs z_range z_tuple g hr (Nat.le_refl _)) rd_matter_pairs
abbrev s_whole_share : Stmt := topS 12
theorem sc_whole_share : FnScope ["f", "many", "i"] ["f"] (defScope s_whole_share) := ⟨rfl, rfl, rfl, by decide +kernel, rfl, by decide +kernel, by decide +kernel⟩
theorem wk_whole_share {P : Program} {w : World} {K : Frg} {mg : Str → Option Value} {base : Heap} {f : Addr} {k : Nat} {cdv : Value} {A : Around} {outer : List Env} {s : Shared} {H : Hp} {E : XK} (c_matter_pairs : Cal P w K mg base 1 "matter_pairs" ["f", "i"] sp_matter_pairs) (c_share_pair : Cal P w K mg base 2 "share_pair" ["above", "below"] sp_share_pair) (z_sum : mg "sum" = none) (z_range : mg "range" = none) (z_len : mg "len" = none) (g : A.guards = some []) (hr : Room k (A.deeper (envOfC "whole_share" (defScope s_whole_share) s.heap.objs.size f cdv))) (hk : 2 ≤ k) :
    DSs (cxOf CX0 P w K mg base ["f", "many", "i"] "whole_share" (defScope s_whole_share) f cdv A outer s H E).nox (defBody s_whole_share) w_whole_share := by
  have hu := hr.units
  exact (dss_cons (ds_set (i := 1) sc_whole_share.nd rfl (.inl rfl) (de_blt (cr_sumA rfl) cSumA (by rfl) z_sum bt_sum (dl_cons (de_fz (df_lc (own := [("i", 2)]) rfl sc_whole_share.nd (di_range1 (by rfl) z_range (dd_cons (de_ix (de_of (pv 0)) de_int) dd_nil)) (blkOk_by (by kernel_rfl)) (fun _ _ _ _ _ => (cg_name (i := 2) (by decide) sc_whole_share.nd rfl (.inl rfl))) (fun _ _ _ _ _ => dts_nil) (fun _ _ _ _ _ => (de_blt call_len_seq cLen (by rfl) z_len bt_len (dl_cons (de_cal c_matter_pairs g hr (Nat.le_trans (by decide) hk) (by rfl) (dl_consz (de_of (pv 0)) (dl_consz (de_of (pv 2)) dl_nil))) dl_nil))))) dl_nil)))
    (dss_one (ds_ret (de_cal c_share_pair g hr (Nat.le_trans (by decide) hk) (by rfl) (dl_consz (de_op op_mulA oMulA de_int (de_of (pv 1))) (dl_consz (de_op op_shl oShl de_int (de_ix (de_of (pv 0)) de_int)) dl_nil))))))
theorem ok_whole_share {P : Program} {w : World} {K : Frg} {mg : Str → Option Value} {base : Heap} {f : Addr} {fd : FuncData} (F : Fun K "whole_share" "whole_share" s_whole_share f fd) (hm : mg "whole_share" = some (.ref f)) (c_matter_pairs : Cal P w K mg base 1 "matter_pairs" ["f", "i"] sp_matter_pairs) (c_share_pair : Cal P w K mg base 2 "share_pair" ["above", "below"] sp_share_pair) (z_sum : mg "sum" = none) (z_range : mg "range" = none) (z_len : mg "len" = none) : Cal P w K mg base 3 "whole_share" ["f"] sp_whole_share :=
  cal_mk F hm sc_whole_share (F.binds fun _ _ _ _ _ _ us hl => match us, hl with | [_], _ => rfl) len_whole_share (fun cdv A outer s H E g hr => wk_whole_share c_matter_pairs c_share_pair z_sum z_range z_len g hr (Nat.le_refl _)) rd_whole_share
abbrev s_share_bound : Stmt := topS 13
theorem sc_share_bound : FnScope ["f", "n", "many", "least"] ["f"] (defScope s_share_bound) := ⟨rfl, rfl, rfl, by decide +kernel, rfl, by decide +kernel, by decide +kernel⟩
theorem wk_share_bound {P : Program} {w : World} {K : Frg} {mg : Str → Option Value} {base : Heap} {f : Addr} {k : Nat} {cdv : Value} {A : Around} {outer : List Env} {s : Shared} {H : Hp} {E : XK} (c_least_rim : Cal P w K mg base 3 "least_rim" ["n", "m"] sp_least_rim) (c_share_pair : Cal P w K mg base 2 "share_pair" ["above", "below"] sp_share_pair) (z_sum : mg "sum" = none) (z_min : mg "min" = none) (g : A.guards = some []) (hr : Room k (A.deeper (envOfC "share_bound" (defScope s_share_bound) s.heap.objs.size f cdv))) (hk : 3 ≤ k) :
    DSs (cxOf CX0 P w K mg base ["f", "n", "many", "least"] "share_bound" (defScope s_share_bound) f cdv A outer s H E).nox (defBody s_share_bound) w_share_bound := by
  have hu := hr.units
  exact (dss_cons (ds_par (i := 1) (j := 2) rfl sc_share_bound.nd rfl rfl (by decide) rfl rfl (da_d (de_ix (de_of (pv 0)) de_int)) (da_d (de_blt (cr_sumA rfl) cSumA (by rfl) z_sum bt_sum (dl_cons (de_ix (de_of (pv 0)) de_int) dl_nil))) (by rfl))
    (dss_cons (ds_set (i := 3) sc_share_bound.nd rfl (.inl rfl) (de_cal c_least_rim g hr (Nat.le_trans (by decide) hk) (by rfl) (dl_consz (de_of (pv 1)) (dl_consz (de_blt (call_min2 rfl) cMin2 (by rfl) z_min bt_min (dl_cons (de_of (pv 2)) (dl_cons (de_op op_sub oSub (de_op op_shl oShl de_int (de_of (pv 1))) (de_of (pv 2))) dl_nil))) dl_nil))))
    (dss_one (ds_ret (de_cal c_share_pair g hr (Nat.le_trans (by decide) hk) (by rfl) (dl_consz (de_op op_mulA oMulA de_int (de_of (pv 3))) (dl_consz (de_op op_shl oShl de_int (de_of (pv 1))) dl_nil)))))))
theorem ok_share_bound {P : Program} {w : World} {K : Frg} {mg : Str → Option Value} {base : Heap} {f : Addr} {fd : FuncData} (F : Fun K "share_bound" "share_bound" s_share_bound f fd) (hm : mg "share_bound" = some (.ref f)) (c_least_rim : Cal P w K mg base 3 "least_rim" ["n", "m"] sp_least_rim) (c_share_pair : Cal P w K mg base 2 "share_pair" ["above", "below"] sp_share_pair) (z_sum : mg "sum" = none) (z_min : mg "min" = none) : Cal P w K mg base 4 "share_bound" ["f"] sp_share_bound :=
  cal_mk F hm sc_share_bound (F.binds fun _ _ _ _ _ _ us hl => match us, hl with | [_], _ => rfl) len_share_bound (fun cdv A outer s H E g hr => wk_share_bound c_least_rim c_share_pair z_sum z_min g hr (Nat.le_refl _)) rd_share_bound
abbrev s_law_bit : Stmt := topS 17
theorem sc_law_bit : FnScope ["x", "i"] ["x", "i"] (defScope s_law_bit) := ⟨rfl, rfl, rfl, by decide +kernel, rfl, by decide +kernel, by decide +kernel⟩
theorem wk_law_bit {P : Program} {w : World} {K : Frg} {mg : Str → Option Value} {base : Heap} {f : Addr} {k : Nat} {cdv : Value} {A : Around} {outer : List Env} {s : Shared} {H : Hp} {E : XK} (g : A.guards = some []) (hr : Room k (A.deeper (envOfC "_law_bit" (defScope s_law_bit) s.heap.objs.size f cdv))) (hk : 0 ≤ k) :
    DSs (cxOf CX0 P w K mg base ["x", "i"] "_law_bit" (defScope s_law_bit) f cdv A outer s H E).nox (defBody s_law_bit) w_law_bit := by
  have hu := hr.units
  exact (dss_one (ds_ret (de_op op_mod oMod (de_op op_fdiv oDiv (de_of (pv 0)) (de_op op_shl oShl de_int (de_of (pv 1)))) de_int)))
theorem ok_law_bit {P : Program} {w : World} {K : Frg} {mg : Str → Option Value} {base : Heap} {f : Addr} {fd : FuncData} (F : Fun K "_law_bit" "_law_bit" s_law_bit f fd) (hm : mg "_law_bit" = some (.ref f)) : Cal P w K mg base 1 "_law_bit" ["x", "i"] sp_bit :=
  cal_mk F hm sc_law_bit (F.binds fun _ _ _ _ _ _ us hl => match us, hl with | [_, _], _ => rfl) len_law_bit (fun cdv A outer s H E g hr => wk_law_bit g hr (Nat.le_refl _)) rd_law_bit
abbrev s_law_draw_function : Stmt := topS 18
theorem sc_law_draw_function : FnScope ["source", "most", "n", "road", "table", "starts", "lot", "x", "lap", "y", "i"] ["source", "most"] (defScope s_law_draw_function) := ⟨rfl, rfl, rfl, by decide +kernel, rfl, by decide +kernel, by decide +kernel⟩
theorem wk_law_draw_function {P : Program} {w : World} {K : Frg} {mg : Str → Option Value} {base : Heap} {f : Addr} {k : Nat} {cdv : Value} {A : Around} {outer : List Env} {s : Shared} {H : Hp} {E : XK} (c_law_pick : Cal P w K mg base 1 "_law_pick" ["source", "most"] dPick) (c_law_bit : Cal P w K mg base 1 "_law_bit" ["x", "i"] sp_bit) (z_range : mg "range" = none) (z_int : mg "int" = none) (z_any : mg "any" = none) (z_all : mg "all" = none) (z_sum : mg "sum" = none) (z_tuple : mg "tuple" = none) (g : A.guards = some []) (hr : Room k (A.deeper (envOfC "_law_draw_function" (defScope s_law_draw_function) s.heap.objs.size f cdv))) (hk : 1 ≤ k) :
    DSs (cxOf CX0 P w K mg base ["source", "most", "n", "road", "table", "starts", "lot", "x", "lap", "y", "i"] "_law_draw_function" (defScope s_law_draw_function) f cdv A outer s H E).nox (defBody s_law_draw_function) w_law_draw_function := by
  have hu := hr.units
  exact (dss_cons (ds_asg (de_tup (dd_cons (de_op op_addA oAdd de_int (de_cal c_law_pick g hr (Nat.le_trans (by decide) hk) (by rfl) (dl_cons (de_of (pv 0)) (dl_consz (de_of (pv 1)) dl_nil)))) (dd_cons (de_cal c_law_pick g hr (Nat.le_trans (by decide) hk) (by rfl) (dl_cons (de_of (pv 0)) (dl_consz de_int dl_nil))) dd_nil))) (dg_tup rfl (dgs_cons (dg_name (i := 2) sc_law_draw_function.nd rfl (.inr rfl)) (dgs_cons (dg_name (i := 3) sc_law_draw_function.nd rfl (.inl rfl)) dgs_nil))))
    (dss_cons (ds_setLc (i := 4) (own := [("x", 7)]) rfl sc_law_draw_function.nd rfl rfl (sw_true rfl rfl rfl (by kernel_rfl)) (di_range1 (by rfl) z_range (dd_cons (de_op op_shl oShl de_int (de_of (pv 2))) dd_nil)) (blkOk_by (by kernel_rfl)) (fun _ _ _ _ _ => (cg_name (i := 7) (by decide) sc_law_draw_function.nd rfl (.inl rfl))) (fun _ _ _ _ _ => dts_nil) (fun _ _ _ _ _ => (de_cal c_law_pick g hr (Nat.le_trans (by decide) hk) (by rfl) (dl_cons (de_of (pv 0)) (dl_consz de_int dl_nil)))))
    (dss_cons (ds_if (dt_cmp (op_eqP hu) oEq (de_of (pv 3)) de_int (by rfl)) (dss_one (ds_setLc (i := 4) (own := [("x", 7)]) rfl sc_law_draw_function.nd rfl rfl (sw_true rfl rfl rfl (by kernel_rfl)) (di_range1 (by rfl) z_range (dd_cons (de_op op_shl oShl de_int (de_of (pv 2))) dd_nil)) (blkOk_by (by kernel_rfl)) (fun _ _ _ _ _ => (cg_name (i := 7) (by decide) sc_law_draw_function.nd rfl (.inl rfl))) (fun _ _ _ _ _ => dts_nil) (fun _ _ _ _ _ => (de_ty call_int1 cInt (by rfl) z_int bt_int (dl_cons (de_cmp (op_eqP hu) oEq (de_cal c_law_pick g hr (Nat.le_trans (by decide) hk) (by rfl) (dl_cons (de_of (pv 0)) (dl_consz de_int dl_nil))) de_int (by rfl)) dl_nil))))) dss_nil)
    (dss_cons (ds_if (dt_cmp (op_eqP hu) oEq (de_of (pv 3)) de_int (by rfl)) (dss_cons (ds_setF (i := 5) sc_law_draw_function.nd rfl (.inr rfl) (df_lc (own := [("lap", 8)]) rfl sc_law_draw_function.nd (di_range1 (by rfl) z_range (dd_cons (de_op op_addA oAdd de_int (de_cal c_law_pick g hr (Nat.le_trans (by decide) hk) (by rfl) (dl_cons (de_of (pv 0)) (dl_consz de_int dl_nil)))) dd_nil)) (blkOk_by (by kernel_rfl)) (fun _ _ _ _ _ => (cg_name (i := 8) (by decide) sc_law_draw_function.nd rfl (.inl rfl))) (fun _ _ _ _ _ => dts_nil) (fun _ _ _ _ _ => (de_cal c_law_pick g hr (Nat.le_trans (by decide) hk) (by rfl) (dl_cons (de_of (pv 0)) (dl_consz (de_op op_shl oShl de_int (de_of (pv 2))) dl_nil))))))
    (dss_one (ds_setLc (i := 4) (own := [("x", 7)]) rfl sc_law_draw_function.nd rfl rfl (sw_true rfl rfl rfl (by kernel_rfl)) (di_range1 (by rfl) z_range (dd_cons (de_op op_shl oShl de_int (de_of (pv 2))) dd_nil)) (blkOk_by (by kernel_rfl)) (fun _ _ _ _ _ => (cg_name (i := 7) (by decide) sc_law_draw_function.nd rfl (.inr rfl))) (fun _ _ _ _ _ => dts_nil) (fun _ _ _ _ _ => (de_ty call_int1 cInt (by rfl) z_int bt_int (dl_cons (de_blt (cr_any rfl) cAny (by rfl) z_any bt_any (dl_cons (de_fz (df_lc (own := [("y", 9)]) rfl sc_law_draw_function.nd (di_list (de_of (pv 5))) (blkOk_by (by kernel_rfl)) (fun _ _ _ _ _ => (cg_name (i := 9) (by decide) sc_law_draw_function.nd rfl (.inr rfl))) (fun _ _ _ _ _ => dts_nil) (fun _ _ _ _ _ => (de_blt (cr_all rfl) cAll (by rfl) z_all bt_all (dl_cons (de_fz (df_lc (own := [("i", 10)]) rfl sc_law_draw_function.nd (di_range1 (by rfl) z_range (dd_cons (de_of (pv 2)) dd_nil)) (blkOk_by (by kernel_rfl)) (fun _ _ _ _ _ => (cg_name (i := 10) (by decide) sc_law_draw_function.nd rfl (.inl rfl))) (fun _ _ _ _ _ => dts_nil) (fun _ _ _ _ _ => (de_cmp op_ge oCmp (de_cal c_law_bit g hr (Nat.le_trans (by decide) hk) (by rfl) (dl_consz (de_of (pv 7)) (dl_consz (de_of (pv 10)) dl_nil))) (de_cal c_law_bit g hr (Nat.le_trans (by decide) hk) (by rfl) (dl_consz (de_of (pv 9)) (dl_consz (de_of (pv 10)) dl_nil))) (by rfl))))) dl_nil))))) dl_nil)) dl_nil)))))) dss_nil)
    (dss_cons (ds_if (dt_cmp (op_eqP hu) oEq (de_of (pv 3)) de_int (by rfl)) (dss_cons (ds_setF (i := 6) sc_law_draw_function.nd rfl (.inr rfl) (df_lc (own := [("i", 10)]) rfl sc_law_draw_function.nd (di_range1 (by rfl) z_range (dd_cons (de_of (pv 2)) dd_nil)) (blkOk_by (by kernel_rfl)) (fun _ _ _ _ _ => (cg_name (i := 10) (by decide) sc_law_draw_function.nd rfl (.inl rfl))) (fun _ _ _ _ _ => (dts_one (dt_cmp (op_eqP hu) oEq (de_cal c_law_pick g hr (Nat.le_trans (by decide) hk) (by rfl) (dl_cons (de_of (pv 0)) (dl_consz de_int dl_nil))) de_int (by rfl)))) (fun _ _ _ _ _ => (de_of (pv 10)))))
    (dss_one (ds_setLc (i := 4) (own := [("x", 7)]) rfl sc_law_draw_function.nd rfl rfl (sw_true rfl rfl rfl (by kernel_rfl)) (di_range1 (by rfl) z_range (dd_cons (de_op op_shl oShl de_int (de_of (pv 2))) dd_nil)) (blkOk_by (by kernel_rfl)) (fun _ _ _ _ _ => (cg_name (i := 7) (by decide) sc_law_draw_function.nd rfl (.inr rfl))) (fun _ _ _ _ _ => dts_nil) (fun _ _ _ _ _ => (de_op op_mod oMod (de_blt (cr_sumA rfl) cSumA (by rfl) z_sum bt_sum (dl_cons (de_fz (df_lc (own := [("i", 10)]) rfl sc_law_draw_function.nd (di_list (de_of (pv 6))) (blkOk_by (by kernel_rfl)) (fun _ _ _ _ _ => (cg_name (i := 10) (by decide) sc_law_draw_function.nd rfl (.inl rfl))) (fun _ _ _ _ _ => dts_nil) (fun _ _ _ _ _ => (de_cal c_law_bit g hr (Nat.le_trans (by decide) hk) (by rfl) (dl_consz (de_of (pv 7)) (dl_consz (de_of (pv 10)) dl_nil)))))) dl_nil)) de_int))))) dss_nil)
    (dss_one (ds_ret (de_tup (dd_cons (de_of (pv 2)) (dd_cons (de_ty call_tuple_of cTuple (by rfl) z_tuple bt_tuple (dl_cons (de_of (pv 4)) dl_nil)) dd_nil))))))))))
theorem ok_law_draw_function {P : Program} {w : World} {K : Frg} {mg : Str → Option Value} {base : Heap} {f : Addr} {fd : FuncData} (F : Fun K "_law_draw_function" "_law_draw_function" s_law_draw_function f fd) (hm : mg "_law_draw_function" = some (.ref f)) (c_law_pick : Cal P w K mg base 1 "_law_pick" ["source", "most"] dPick) (c_law_bit : Cal P w K mg base 1 "_law_bit" ["x", "i"] sp_bit) (z_range : mg "range" = none) (z_int : mg "int" = none) (z_any : mg "any" = none) (z_all : mg "all" = none) (z_sum : mg "sum" = none) (z_tuple : mg "tuple" = none) : Cal P w K mg base 2 "_law_draw_function" ["source", "most"] sp_draw :=
  cal_mk F hm sc_law_draw_function (F.binds fun _ _ _ _ _ _ us hl => match us, hl with | [_, _], _ => rfl) len_law_draw_function (fun cdv A outer s H E g hr => wk_law_draw_function c_law_pick c_law_bit z_range z_int z_any z_all z_sum z_tuple g hr (Nat.le_refl _)) rd_law_draw_function
abbrev s_law_cut : Stmt := topS 19
theorem sc_law_cut : FnScope ["above", "below", "a", "b"] ["above", "below"] (defScope s_law_cut) := ⟨rfl, rfl, rfl, by decide +kernel, rfl, by decide +kernel, by decide +kernel⟩
theorem wk_law_cut {P : Program} {w : World} {K : Frg} {mg : Str → Option Value} {base : Heap} {f : Addr} {k : Nat} {cdv : Value} {A : Around} {outer : List Env} {s : Shared} {H : Hp} {E : XK} (z_max : mg "max" = none) (g : A.guards = some []) (hr : Room k (A.deeper (envOfC "_law_cut" (defScope s_law_cut) s.heap.objs.size f cdv))) (hk : 0 ≤ k) :
    DSs (cxOf CX0 P w K mg base ["above", "below", "a", "b"] "_law_cut" (defScope s_law_cut) f cdv A outer s H E).nox (defBody s_law_cut) w_law_cut := by
  have hu := hr.units
  exact (dss_cons (ds_par (i := 2) (j := 3) rfl sc_law_cut.nd rfl rfl (by decide) rfl rfl (da_d (de_of (pv 0))) (da_d (de_of (pv 1))) (by rfl))
    (dss_cons (ds_while PassesOwn.never (dt_cmp (op_neP hu) oNe (de_of (pv 3)) de_int (by rfl)) (dss_one (ds_par (i := 2) (j := 3) rfl sc_law_cut.nd rfl rfl (by decide) rfl rfl (da_d (de_of (pv 3))) (da_d (de_op op_mod oMod (de_of (pv 2)) (de_of (pv 3)))) (by rfl))))
    (dss_cons (ds_set (i := 2) sc_law_cut.nd rfl (.inl rfl) (de_blt (call_max2 rfl) cMax2 (by rfl) z_max bt_max (dl_cons de_int (dl_cons (de_of (pv 2)) dl_nil))))
    (dss_one (ds_ret (de_tup (dd_cons (de_op op_fdiv oDiv (de_of (pv 0)) (de_of (pv 2))) (dd_cons (de_op op_fdiv oDiv (de_of (pv 1)) (de_of (pv 2))) dd_nil))))))))
theorem ok_law_cut {P : Program} {w : World} {K : Frg} {mg : Str → Option Value} {base : Heap} {f : Addr} {fd : FuncData} (F : Fun K "_law_cut" "_law_cut" s_law_cut f fd) (hm : mg "_law_cut" = some (.ref f)) (z_max : mg "max" = none) : Cal P w K mg base 1 "_law_cut" ["above", "below"] sp_cut :=
  cal_mk F hm sc_law_cut (F.binds fun _ _ _ _ _ _ us hl => match us, hl with | [_, _], _ => rfl) len_law_cut (fun cdv A outer s H E g hr => wk_law_cut z_max g hr (Nat.le_refl _)) rd_law_cut
abbrev s_law_pairs : Stmt := topS 20
theorem sc_law_pairs : FnScope ["f", "i", "n", "table", "x"] ["f", "i"] (defScope s_law_pairs) := ⟨rfl, rfl, rfl, by decide +kernel, rfl, by decide +kernel, by decide +kernel⟩
theorem wk_law_pairs {P : Program} {w : World} {K : Frg} {mg : Str → Option Value} {base : Heap} {f : Addr} {k : Nat} {cdv : Value} {A : Around} {outer : List Env} {s : Shared} {H : Hp} {E : XK} (c_law_bit : Cal P w K mg base 1 "_law_bit" ["x", "i"] sp_bit) (z_range : mg "range" = none) (g : A.guards = some []) (hr : Room k (A.deeper (envOfC "_law_pairs" (defScope s_law_pairs) s.heap.objs.size f cdv))) (hk : 1 ≤ k) :
    DSs (cxOf CX0 P w K mg base ["f", "i", "n", "table", "x"] "_law_pairs" (defScope s_law_pairs) f cdv A outer s H E).nox (defBody s_law_pairs) w_law_pairs := by
  have hu := hr.units
  exact (dss_cons (ds_asg (de_of (pv 0)) (dg_tup rfl (dgs_cons (dg_name (i := 2) sc_law_pairs.nd rfl (.inl rfl)) (dgs_cons (dg_name (i := 3) sc_law_pairs.nd rfl (.inr rfl)) dgs_nil))))
    (dss_one (ds_ret (de_fz (df_lc (own := [("x", 4)]) rfl sc_law_pairs.nd (di_range1 (by rfl) z_range (dd_cons (de_op op_shl oShl de_int (de_of (pv 2))) dd_nil)) (blkOk_by (by kernel_rfl)) (fun _ _ _ _ _ => (cg_name (i := 4) (by decide) sc_law_pairs.nd rfl (.inl rfl))) (fun _ _ _ _ _ => (dts_one (PW.pt (dw_and (dt_cmp (op_eqP hu) oEq (de_cal c_law_bit g hr (Nat.le_trans (by decide) hk) (by rfl) (dl_consz (de_of (pv 4)) (dl_consz (de_of (pv 1)) dl_nil))) de_int (by rfl)) (dw_and1 (dt_cmp (op_neP hu) oNe (de_ix (de_of (pv 3)) (de_of (pv 4))) (de_ix (de_of (pv 3)) (de_op op_addA oAdd (de_of (pv 4)) (de_op op_shl oShl de_int (de_of (pv 1))))) (by rfl))))))) (fun _ _ _ _ _ => (de_tup (dd_cons (de_of (pv 4)) (dd_cons (de_op op_addA oAdd (de_of (pv 4)) (de_op op_shl oShl de_int (de_of (pv 1)))) dd_nil)))))))))
theorem ok_law_pairs {P : Program} {w : World} {K : Frg} {mg : Str → Option Value} {base : Heap} {f : Addr} {fd : FuncData} (F : Fun K "_law_pairs" "_law_pairs" s_law_pairs f fd) (hm : mg "_law_pairs" = some (.ref f)) (c_law_bit : Cal P w K mg base 1 "_law_bit" ["x", "i"] sp_bit) (z_range : mg "range" = none) : Cal P w K mg base 2 "_law_pairs" ["f", "i"] sp_pairs :=
  cal_mk F hm sc_law_pairs (F.binds fun _ _ _ _ _ _ us hl => match us, hl with | [_, _], _ => rfl) len_law_pairs (fun cdv A outer s H E g hr => wk_law_pairs c_law_bit z_range g hr (Nat.le_refl _)) rd_law_pairs
abbrev s_law_whole : Stmt := topS 21
theorem sc_law_whole : FnScope ["f", "i"] ["f"] (defScope s_law_whole) := ⟨rfl, rfl, rfl, by decide +kernel, rfl, by decide +kernel, by decide +kernel⟩
theorem wk_law_whole {P : Program} {w : World} {K : Frg} {mg : Str → Option Value} {base : Heap} {f : Addr} {k : Nat} {cdv : Value} {A : Around} {outer : List Env} {s : Shared} {H : Hp} {E : XK} (c_law_pairs : Cal P w K mg base 2 "_law_pairs" ["f", "i"] sp_pairs) (z_sum : mg "sum" = none) (z_range : mg "range" = none) (z_len : mg "len" = none) (g : A.guards = some []) (hr : Room k (A.deeper (envOfC "_law_whole" (defScope s_law_whole) s.heap.objs.size f cdv))) (hk : 2 ≤ k) :
    DSs (cxOf CX0 P w K mg base ["f", "i"] "_law_whole" (defScope s_law_whole) f cdv A outer s H E).nox (defBody s_law_whole) w_law_whole := by
  have hu := hr.units
  exact (dss_one (ds_ret (de_blt (cr_sumA rfl) cSumA (by rfl) z_sum bt_sum (dl_cons (de_fz (df_lc (own := [("i", 1)]) rfl sc_law_whole.nd (di_range1 (by rfl) z_range (dd_cons (de_ix (de_of (pv 0)) de_int) dd_nil)) (blkOk_by (by kernel_rfl)) (fun _ _ _ _ _ => (cg_name (i := 1) (by decide) sc_law_whole.nd rfl (.inl rfl))) (fun _ _ _ _ _ => dts_nil) (fun _ _ _ _ _ => (de_blt call_len_seq cLen (by rfl) z_len bt_len (dl_cons (de_cal c_law_pairs g hr (Nat.le_trans (by decide) hk) (by rfl) (dl_consz (de_of (pv 0)) (dl_consz (de_of (pv 1)) dl_nil))) dl_nil))))) dl_nil))))
theorem ok_law_whole {P : Program} {w : World} {K : Frg} {mg : Str → Option Value} {base : Heap} {f : Addr} {fd : FuncData} (F : Fun K "_law_whole" "_law_whole" s_law_whole f fd) (hm : mg "_law_whole" = some (.ref f)) (c_law_pairs : Cal P w K mg base 2 "_law_pairs" ["f", "i"] sp_pairs) (z_sum : mg "sum" = none) (z_range : mg "range" = none) (z_len : mg "len" = none) : Cal P w K mg base 3 "_law_whole" ["f"] sp_whole :=
  cal_mk F hm sc_law_whole (F.binds fun _ _ _ _ _ _ us hl => match us, hl with | [_], _ => rfl) len_law_whole (fun cdv A outer s H E g hr => wk_law_whole c_law_pairs z_sum z_range z_len g hr (Nat.le_refl _)) rd_law_whole
abbrev s_law_ones : Stmt := topS 22
theorem sc_law_ones : FnScope ["m", "found", "place", "turn", "whole", "rest"] ["m"] (defScope s_law_ones) := ⟨rfl, rfl, rfl, by decide +kernel, rfl, by decide +kernel, by decide +kernel⟩
theorem wk_law_ones {P : Program} {w : World} {K : Frg} {mg : Str → Option Value} {base : Heap} {f : Addr} {k : Nat} {cdv : Value} {A : Around} {outer : List Env} {s : Shared} {H : Hp} {E : XK} (z_range : mg "range" = none) (z_max : mg "max" = none) (g : A.guards = some []) (hr : Room k (A.deeper (envOfC "_law_ones" (defScope s_law_ones) s.heap.objs.size f cdv))) (hk : 0 ≤ k) :
    DSs (cxOf CX0 P w K mg base ["m", "found", "place", "turn", "whole", "rest"] "_law_ones" (defScope s_law_ones) f cdv A outer s H E).nox (defBody s_law_ones) w_law_ones := by
  have hu := hr.units
  exact (dss_cons (ds_asg (de_tup (dd_cons de_int (dd_cons de_int dd_nil))) (dg_tup rfl (dgs_cons (dg_name (i := 1) sc_law_ones.nd rfl (.inl rfl)) (dgs_cons (dg_name (i := 2) sc_law_ones.nd rfl (.inl rfl)) dgs_nil))))
    (dss_cons (ds_for PassesOwn.never rfl (di_range1 (by rfl) z_range (dd_cons de_int dd_nil)) (dg_name (i := 3) sc_law_ones.nd rfl (.inl rfl)) (dss_cons (ds_par (i := 4) (j := 5) rfl sc_law_ones.nd rfl rfl (by decide) rfl rfl (da_d (de_op op_fdiv oDiv (de_of (pv 0)) (de_op op_mulA oMulA de_int (de_of (pv 2))))) (da_d (de_op op_mod oMod (de_of (pv 0)) (de_op op_mulA oMulA de_int (de_of (pv 2))))) (by rfl))
    (dss_one (ds_par (i := 1) (j := 2) rfl sc_law_ones.nd rfl rfl (by decide) rfl rfl (da_d (de_op op_addA oAdd (de_op op_addA oAdd (de_of (pv 1)) (de_op op_mulA oMulA (de_of (pv 4)) (de_of (pv 2)))) (de_blt (call_max2 rfl) cMax2 (by rfl) z_max bt_max (dl_cons de_int (dl_cons (de_op op_sub oSub (de_of (pv 5)) (de_of (pv 2))) dl_nil))))) (da_d (de_op op_mulA oMulA de_int (de_of (pv 2)))) (by rfl)))))
    (dss_one (ds_ret (de_of (pv 1))))))
theorem ok_law_ones {P : Program} {w : World} {K : Frg} {mg : Str → Option Value} {base : Heap} {f : Addr} {fd : FuncData} (F : Fun K "_law_ones" "_law_ones" s_law_ones f fd) (hm : mg "_law_ones" = some (.ref f)) (z_range : mg "range" = none) (z_max : mg "max" = none) : Cal P w K mg base 1 "_law_ones" ["m"] sp_ones :=
  cal_mk F hm sc_law_ones (F.binds fun _ _ _ _ _ _ us hl => match us, hl with | [_], _ => rfl) len_law_ones (fun cdv A outer s H E g hr => wk_law_ones z_range z_max g hr (Nat.le_refl _)) rd_law_ones
abbrev s_law_bound : Stmt := topS 23
theorem sc_law_bound : FnScope ["f", "n", "many", "m"] ["f"] (defScope s_law_bound) := ⟨rfl, rfl, rfl, by decide +kernel, rfl, by decide +kernel, by decide +kernel⟩
theorem wk_law_bound {P : Program} {w : World} {K : Frg} {mg : Str → Option Value} {base : Heap} {f : Addr} {k : Nat} {cdv : Value} {A : Around} {outer : List Env} {s : Shared} {H : Hp} {E : XK} (c_law_ones : Cal P w K mg base 1 "_law_ones" ["m"] sp_ones) (z_sum : mg "sum" = none) (z_min : mg "min" = none) (g : A.guards = some []) (hr : Room k (A.deeper (envOfC "_law_bound" (defScope s_law_bound) s.heap.objs.size f cdv))) (hk : 1 ≤ k) :
    DSs (cxOf CX0 P w K mg base ["f", "n", "many", "m"] "_law_bound" (defScope s_law_bound) f cdv A outer s H E).nox (defBody s_law_bound) w_law_bound := by
  have hu := hr.units
  exact (dss_cons (ds_par (i := 1) (j := 2) rfl sc_law_bound.nd rfl rfl (by decide) rfl rfl (da_d (de_ix (de_of (pv 0)) de_int)) (da_d (de_blt (cr_sumA rfl) cSumA (by rfl) z_sum bt_sum (dl_cons (de_ix (de_of (pv 0)) de_int) dl_nil))) (by rfl))
    (dss_cons (ds_set (i := 3) sc_law_bound.nd rfl (.inl rfl) (de_blt (call_min2 rfl) cMin2 (by rfl) z_min bt_min (dl_cons (de_of (pv 2)) (dl_cons (de_op op_sub oSub (de_op op_shl oShl de_int (de_of (pv 1))) (de_of (pv 2))) dl_nil))))
    (dss_one (ds_ret (de_op op_sub oSub (de_op op_mulA oMulA (de_of (pv 1)) (de_of (pv 3))) (de_op op_mulA oMulA de_int (de_cal c_law_ones g hr (Nat.le_trans (by decide) hk) (by rfl) (dl_consz (de_of (pv 3)) dl_nil))))))))
theorem ok_law_bound {P : Program} {w : World} {K : Frg} {mg : Str → Option Value} {base : Heap} {f : Addr} {fd : FuncData} (F : Fun K "_law_bound" "_law_bound" s_law_bound f fd) (hm : mg "_law_bound" = some (.ref f)) (c_law_ones : Cal P w K mg base 1 "_law_ones" ["m"] sp_ones) (z_sum : mg "sum" = none) (z_min : mg "min" = none) : Cal P w K mg base 2 "_law_bound" ["f"] sp_bound :=
  cal_mk F hm sc_law_bound (F.binds fun _ _ _ _ _ _ us hl => match us, hl with | [_], _ => rfl) len_law_bound (fun cdv A outer s H E g hr => wk_law_bound c_law_ones z_sum z_min g hr (Nat.le_refl _)) rd_law_bound
abbrev s_law : Stmt := topS 24
theorem sc_law : FnScope ["script", "source", "n", "code", "f", "pairs", "least", "bits", "turned", "lap", "told", "above", "below", "first", "x", "i", "one"] ["script"] (defScope s_law) := ⟨rfl, rfl, rfl, by decide +kernel, rfl, by decide +kernel, by decide +kernel⟩
theorem wk_law {P : Program} {w : World} {K : Frg} {mg : Str → Option Value} {base : Heap} {f : Addr} {k : Nat} {cdv : Value} {A : Around} {outer : List Env} {s : Shared} {H : Hp} {E : XK} (c_law_pick : Cal P w K mg base 1 "_law_pick" ["source", "most"] dPick) (c_law_bit : Cal P w K mg base 1 "_law_bit" ["x", "i"] sp_bit) (c_law_whole : Cal P w K mg base 3 "_law_whole" ["f"] sp_whole) (c_law_bound : Cal P w K mg base 2 "_law_bound" ["f"] sp_bound) (c_law_draw_function : Cal P w K mg base 2 "_law_draw_function" ["source", "most"] sp_draw) (c_share_bound : Cal P w K mg base 4 "share_bound" ["f"] sp_share_bound) (c_law_cut : Cal P w K mg base 1 "_law_cut" ["above", "below"] sp_cut) (c_whole_share : Cal P w K mg base 3 "whole_share" ["f"] sp_whole_share) (z_range : mg "range" = none) (z_tuple : mg "tuple" = none) (z_sum : mg "sum" = none) (z_repr : mg "repr" = none) (z_int : mg "int" = none) (g : A.guards = some []) (hr : Room k (A.deeper (envOfC "law" (defScope s_law) s.heap.objs.size f cdv))) (hk : 5 ≤ k) :
    DSs (cxOf CX0 P w K mg base ["script", "source", "n", "code", "f", "pairs", "least", "bits", "turned", "lap", "told", "above", "below", "first", "x", "i", "one"] "law" (defScope s_law) f cdv A outer s H E).nox (defBody s_law).tail w_law := by
  have hu := hr.units
  exact (dss_cons (ds_set (i := 2) sc_law.nd rfl (.inr rfl) (de_op op_addA oAdd de_int (de_cal c_law_pick g hr (Nat.le_trans (by decide) hk) (by rfl) (dl_cons (de_of (pv 1)) (dl_consz de_int dl_nil)))))
    (dss_cons (ds_for PassesOwn.never rfl (di_range1 (by rfl) z_range (dd_cons (de_op op_shl oShl de_int (de_op op_shl oShl de_int (de_of (pv 2)))) dd_nil)) (dg_name (i := 3) sc_law.nd rfl (.inr rfl)) (dss_cons (ds_set (i := 4) sc_law.nd rfl (.inr rfl) (de_tup (dd_cons (de_of (pv 2)) (dd_cons (de_ty call_tuple_of cTuple (by rfl) z_tuple bt_tuple (dl_cons (de_fz (df_lc (own := [("x", 14)]) rfl sc_law.nd (di_range1 (by rfl) z_range (dd_cons (de_op op_shl oShl de_int (de_of (pv 2))) dd_nil)) (blkOk_by (by kernel_rfl)) (fun _ _ _ _ _ => (cg_name (i := 14) (by decide) sc_law.nd rfl (.inl rfl))) (fun _ _ _ _ _ => dts_nil) (fun _ _ _ _ _ => (de_cal c_law_bit g hr (Nat.le_trans (by decide) hk) (by rfl) (dl_consz (de_of (pv 3)) (dl_consz (de_of (pv 14)) dl_nil)))))) dl_nil)) dd_nil))))
    (dss_cons (ds_par (i := 5) (j := 6) rfl sc_law.nd rfl rfl (by decide) rfl rfl (da_d (de_cal c_law_whole g hr (Nat.le_trans (by decide) hk) (by rfl) (dl_consz (de_of (pv 4)) dl_nil))) (da_d (de_cal c_law_bound g hr (Nat.le_trans (by decide) hk) (by rfl) (dl_consz (de_of (pv 4)) dl_nil))) (by rfl))
    (dss_cons (ds_if (dt_cmp op_lt oCmp (de_of (pv 5)) (de_of (pv 6)) (by rfl)) (dss_one (ds_ret de_bl)) dss_nil)
    (dss_one (ds_if (dt_cmp (op_eqP hu) oEq (de_op op_mulA oMulA de_int (de_blt (cr_sumA rfl) cSumA (by rfl) z_sum bt_sum (dl_cons (de_ix (de_of (pv 4)) de_int) dl_nil))) (de_op op_shl oShl de_int (de_of (pv 2))) (by rfl)) (dss_cons (ds_setLc (i := 7) (own := [("i", 15)]) rfl sc_law.nd rfl rfl (sw_true rfl rfl rfl (by kernel_rfl)) (di_range1 (by rfl) z_range (dd_cons (de_of (pv 2)) dd_nil)) (blkOk_by (by kernel_rfl)) (fun _ _ _ _ _ => (cg_name (i := 15) (by decide) sc_law.nd rfl (.inr rfl))) (fun _ _ _ _ _ => dts_nil) (fun _ _ _ _ _ => (de_tup (dd_cons (de_of (pv 2)) (dd_cons (de_ty call_tuple_of cTuple (by rfl) z_tuple bt_tuple (dl_cons (de_fz (df_lc (own := [("x", 14)]) rfl sc_law.nd (di_range1 (by rfl) z_range (dd_cons (de_op op_shl oShl de_int (de_of (pv 2))) dd_nil)) (blkOk_by (by kernel_rfl)) (fun _ _ _ _ _ => (cg_name (i := 14) (by decide) sc_law.nd rfl (.inl rfl))) (fun _ _ _ _ _ => dts_nil) (fun _ _ _ _ _ => (de_cal c_law_bit g hr (Nat.le_trans (by decide) hk) (by rfl) (dl_consz (de_of (pv 14)) (dl_consz (de_of (pv 15)) dl_nil)))))) dl_nil)) dd_nil)))))
    (dss_cons (ds_setLc (i := 8) (own := [("one", 16)]) rfl sc_law.nd rfl rfl (sw_true rfl rfl rfl (by kernel_rfl)) (di_list (de_of (pv 7))) (blkOk_by (by kernel_rfl)) (fun _ _ _ _ _ => (cg_name (i := 16) (by decide) sc_law.nd rfl (.inl rfl))) (fun _ _ _ _ _ => dts_nil) (fun _ _ _ _ _ => (de_tup (dd_cons (de_of (pv 2)) (dd_cons (de_ty call_tuple_of cTuple (by rfl) z_tuple bt_tuple (dl_cons (de_fz (df_lc (own := [("x", 14)]) rfl sc_law.nd (di_tup (de_ix (de_of (pv 16)) de_int)) (blkOk_by (by kernel_rfl)) (fun _ _ _ _ _ => (cg_name (i := 14) (by decide) sc_law.nd rfl (.inl rfl))) (fun _ _ _ _ _ => dts_nil) (fun _ _ _ _ _ => (de_op op_sub oSub de_int (de_of (pv 14)))))) dl_nil)) dd_nil)))))
    (dss_one (ds_if (dt_cmp (op_neP hu) oNe (de_cmp (op_eqP hu) oEq (de_of (pv 5)) (de_op op_shl oShl de_int (de_op op_sub oSub (de_of (pv 2)) de_int)) (by rfl)) (de_cmp (op_inP hu) oIn (de_of (pv 4)) (de_op op_addA oAdd (de_of (pv 7)) (de_of (pv 8))) (by rfl)) (by rfl)) (dss_one (ds_ret de_bl)) dss_nil)))) dss_nil))))))
    (dss_cons (ds_for PassesOwn.never rfl (di_range1 (by rfl) z_range (dd_cons de_int dd_nil)) (dg_name (i := 9) sc_law.nd rfl (.inl rfl)) (dss_cons (ds_set (i := 4) sc_law.nd rfl (.inr rfl) (de_cal c_law_draw_function g hr (Nat.le_trans (by decide) hk) (by rfl) (dl_cons (de_of (pv 1)) (dl_consz de_int dl_nil))))
    (dss_cons (ds_set (i := 6) sc_law.nd rfl (.inl rfl) (de_cal c_law_bound g hr (Nat.le_trans (by decide) hk) (by rfl) (dl_consz (de_of (pv 4)) dl_nil)))
    (dss_cons (ds_set (i := 10) sc_law.nd rfl (.inl rfl) (de_cal c_share_bound g hr (Nat.le_trans (by decide) hk) (by rfl) (dl_consz (de_of (pv 4)) dl_nil)))
    (dss_cons (ds_if (PW.pt (dw_or (dt_cmp (op_neP hu) oNe (de_blt (call_reprP g hu) cRepr (by rfl) z_repr bt_repr (dl_cons (de_of (pv 10)) dl_nil)) (de_blt (call_reprP g hu) cRepr (by rfl) z_repr bt_repr (dl_cons (de_cal c_law_cut g hr (Nat.le_trans (by decide) hk) (by rfl) (dl_consz (de_of (pv 6)) (dl_consz (de_op op_shl oShl de_int (de_op op_sub oSub (de_ix (de_of (pv 4)) de_int) de_int)) dl_nil))) dl_nil)) (by rfl)) (dw_or1 (dt_cmp op_lt oCmp (de_cal c_law_whole g hr (Nat.le_trans (by decide) hk) (by rfl) (dl_consz (de_of (pv 4)) dl_nil)) (de_of (pv 6)) (by rfl))))) (dss_one (ds_ret de_bl)) dss_nil)
    (dss_cons (ds_asg (de_cal c_whole_share g hr (Nat.le_trans (by decide) hk) (by rfl) (dl_consz (de_of (pv 4)) dl_nil)) (dg_tup rfl (dgs_cons (dg_name (i := 11) sc_law.nd rfl (.inl rfl)) (dgs_cons (dg_name (i := 12) sc_law.nd rfl (.inl rfl)) dgs_nil))))
    (dss_cons (ds_if (dt_cmp op_lt oCmp (de_op op_mulA oMulA (de_of (pv 11)) (de_ix (de_of (pv 10)) de_int)) (de_op op_mulA oMulA (de_ix (de_of (pv 10)) de_int) (de_of (pv 12))) (by rfl)) (dss_one (ds_ret de_bl)) dss_nil)
    (dss_cons (ds_set (i := 13) sc_law.nd rfl (.inl rfl) (de_tup (dd_cons (de_ix (de_of (pv 4)) de_int) (dd_cons (de_ty call_tuple_of cTuple (by rfl) z_tuple bt_tuple (dl_cons (de_fz (df_lc (own := [("x", 14)]) rfl sc_law.nd (di_range1 (by rfl) z_range (dd_cons (de_op op_shl oShl de_int (de_ix (de_of (pv 4)) de_int)) dd_nil)) (blkOk_by (by kernel_rfl)) (fun _ _ _ _ _ => (cg_name (i := 14) (by decide) sc_law.nd rfl (.inl rfl))) (fun _ _ _ _ _ => dts_nil) (fun _ _ _ _ _ => (de_ty call_int1 cInt (by rfl) z_int bt_int (dl_cons (de_cmp op_lt oCmp (de_of (pv 14)) (de_blt (cr_sumA rfl) cSumA (by rfl) z_sum bt_sum (dl_cons (de_ix (de_of (pv 4)) de_int) dl_nil)) (by rfl)) dl_nil))))) dl_nil)) dd_nil))))
    (dss_one (ds_if (PW.pt (dw_and (dt_cmp op_le oCmp (de_op op_mulA oMulA de_int (de_blt (cr_sumA rfl) cSumA (by rfl) z_sum bt_sum (dl_cons (de_ix (de_of (pv 4)) de_int) dl_nil))) (de_op op_shl oShl de_int (de_ix (de_of (pv 4)) de_int)) (by rfl)) (dw_and1 (dt_cmp (op_neP hu) oNe (de_cal c_whole_share g hr (Nat.le_trans (by decide) hk) (by rfl) (dl_consz (de_of (pv 13)) dl_nil)) (de_of (pv 10)) (by rfl))))) (dss_one (ds_ret de_bl)) dss_nil))))))))))
    (dss_one (ds_ret de_bl)))))
theorem ok_law {P : Program} {w : World} {K : Frg} {mg : Str → Option Value} {base : Heap} {f : Addr} {fd : FuncData} (F : Fun K "law" "law" s_law f fd) (co : COpen P w K mg base "_law_open_cells") (c_law_pick : Cal P w K mg base 1 "_law_pick" ["source", "most"] dPick) (c_law_bit : Cal P w K mg base 1 "_law_bit" ["x", "i"] sp_bit) (c_law_whole : Cal P w K mg base 3 "_law_whole" ["f"] sp_whole) (c_law_bound : Cal P w K mg base 2 "_law_bound" ["f"] sp_bound) (c_law_draw_function : Cal P w K mg base 2 "_law_draw_function" ["source", "most"] sp_draw) (c_share_bound : Cal P w K mg base 4 "share_bound" ["f"] sp_share_bound) (c_law_cut : Cal P w K mg base 1 "_law_cut" ["above", "below"] sp_cut) (c_whole_share : Cal P w K mg base 3 "whole_share" ["f"] sp_whole_share) (z_range : mg "range" = none) (z_tuple : mg "tuple" = none) (z_sum : mg "sum" = none) (z_repr : mg "repr" = none) (z_int : mg "int" = none) : GFn P w K mg base 6 f fd ["script"] (spLaw K) := by
  refine gfn_ok F sc_law (fun vs H Q E h => ?_) (fun cdv A outer s H vs Q E g hr h => ?_)
  · obtain ⟨a, ns, rfl, _⟩ := h
    rfl
  · obtain ⟨a, ns, rfl, hS, hl, q⟩ := h
    refine ⟨_, pss_cons (ps_set (i := 1) sc_law.nd rfl (.inl rfl) (pe_open co g hr (by decide) (by rfl) (pa_cons (pv 0) pa_nil))) (wk_law c_law_pick c_law_bit c_law_whole c_law_bound c_law_draw_function c_share_bound c_law_cut c_whole_share z_range z_tuple z_sum z_repr z_int g hr (Nat.le_refl _)), ?_⟩
    refine ⟨_, rfl, a, ns, rfl, hS, hl, fun p c cells mx H2 _ _ ne ok g1 g2 _ => law_read (n := 15) ne ok g1 g2 rd_law (fun _ => q _)⟩
theorem all_mk {P : Program} {w : World} {K : Frg} {h : Heap} {mg : Str → Option Value} {fa : Addr} (X : K.In h) (G : h.Ns mainGlobals mg) (hfa : mg "law" = some (.ref fa))
    {f0 : Addr} {od0 an0 : Option Addr} {sl0 : Array (Option Value)} {oc0 kV0 dc0 pm0 cd0 ct0 : Value}
    (a0 : PySem.W.nsIn K mainGlobals "_law_open_cells" = some (some (.ref f0))) (l0 : K.lookup f0 = some ⟨oc0, od0, .func (PySem.W.fnOf "_law_open_cells" "_law_open_cells" (defArgs s_law_open_cells) (defBody s_law_open_cells) (defScope s_law_open_cells) .none kV0 dc0 pm0 an0 cd0 ct0), sl0⟩) (c0 : PySem.W.codeIn K cd0 "_law_open_cells" = true) (k0 : PySem.W.keepIn K (.ref f0) = true)
    {f1 : Addr} {od1 an1 : Option Addr} {sl1 : Array (Option Value)} {oc1 kV1 dc1 pm1 cd1 ct1 : Value}
    (a1 : PySem.W.nsIn K mainGlobals "_law_pick" = some (some (.ref f1))) (l1 : K.lookup f1 = some ⟨oc1, od1, .func (PySem.W.fnOf "_law_pick" "_law_pick" (defArgs s_law_pick) (defBody s_law_pick) (defScope s_law_pick) .none kV1 dc1 pm1 an1 cd1 ct1), sl1⟩) (c1 : PySem.W.codeIn K cd1 "_law_pick" = true) (k1 : PySem.W.keepIn K (.ref f1) = true)
    {f2 : Addr} {od2 an2 : Option Addr} {sl2 : Array (Option Value)} {oc2 kV2 dc2 pm2 cd2 ct2 : Value}
    (a2 : PySem.W.nsIn K mainGlobals "first_pairs" = some (some (.ref f2))) (l2 : K.lookup f2 = some ⟨oc2, od2, .func (PySem.W.fnOf "first_pairs" "first_pairs" (defArgs s_first_pairs) (defBody s_first_pairs) (defScope s_first_pairs) .none kV2 dc2 pm2 an2 cd2 ct2), sl2⟩) (c2 : PySem.W.codeIn K cd2 "first_pairs" = true) (k2 : PySem.W.keepIn K (.ref f2) = true)
    {f3 : Addr} {od3 an3 : Option Addr} {sl3 : Array (Option Value)} {oc3 kV3 dc3 pm3 cd3 ct3 : Value}
    (a3 : PySem.W.nsIn K mainGlobals "most_pairs" = some (some (.ref f3))) (l3 : K.lookup f3 = some ⟨oc3, od3, .func (PySem.W.fnOf "most_pairs" "most_pairs" (defArgs s_most_pairs) (defBody s_most_pairs) (defScope s_most_pairs) .none kV3 dc3 pm3 an3 cd3 ct3), sl3⟩) (c3 : PySem.W.codeIn K cd3 "most_pairs" = true) (k3 : PySem.W.keepIn K (.ref f3) = true)
    {f4 : Addr} {od4 an4 : Option Addr} {sl4 : Array (Option Value)} {oc4 kV4 dc4 pm4 cd4 ct4 : Value}
    (a4 : PySem.W.nsIn K mainGlobals "least_rim" = some (some (.ref f4))) (l4 : K.lookup f4 = some ⟨oc4, od4, .func (PySem.W.fnOf "least_rim" "least_rim" (defArgs s_least_rim) (defBody s_least_rim) (defScope s_least_rim) .none kV4 dc4 pm4 an4 cd4 ct4), sl4⟩) (c4 : PySem.W.codeIn K cd4 "least_rim" = true) (k4 : PySem.W.keepIn K (.ref f4) = true)
    {f5 : Addr} {od5 an5 : Option Addr} {sl5 : Array (Option Value)} {oc5 kV5 dc5 pm5 cd5 ct5 : Value}
    (a5 : PySem.W.nsIn K mainGlobals "share_part" = some (some (.ref f5))) (l5 : K.lookup f5 = some ⟨oc5, od5, .func (PySem.W.fnOf "share_part" "share_part" (defArgs s_share_part) (defBody s_share_part) (defScope s_share_part) .none kV5 dc5 pm5 an5 cd5 ct5), sl5⟩) (c5 : PySem.W.codeIn K cd5 "share_part" = true) (k5 : PySem.W.keepIn K (.ref f5) = true)
    {f6 : Addr} {od6 an6 : Option Addr} {sl6 : Array (Option Value)} {oc6 kV6 dc6 pm6 cd6 ct6 : Value}
    (a6 : PySem.W.nsIn K mainGlobals "share_pair" = some (some (.ref f6))) (l6 : K.lookup f6 = some ⟨oc6, od6, .func (PySem.W.fnOf "share_pair" "share_pair" (defArgs s_share_pair) (defBody s_share_pair) (defScope s_share_pair) .none kV6 dc6 pm6 an6 cd6 ct6), sl6⟩) (c6 : PySem.W.codeIn K cd6 "share_pair" = true) (k6 : PySem.W.keepIn K (.ref f6) = true)
    {f7 : Addr} {od7 an7 : Option Addr} {sl7 : Array (Option Value)} {oc7 kV7 dc7 pm7 cd7 ct7 : Value}
    (a7 : PySem.W.nsIn K mainGlobals "matter_pairs" = some (some (.ref f7))) (l7 : K.lookup f7 = some ⟨oc7, od7, .func (PySem.W.fnOf "matter_pairs" "matter_pairs" (defArgs s_matter_pairs) (defBody s_matter_pairs) (defScope s_matter_pairs) .none kV7 dc7 pm7 an7 cd7 ct7), sl7⟩) (c7 : PySem.W.codeIn K cd7 "matter_pairs" = true) (k7 : PySem.W.keepIn K (.ref f7) = true)
    {f8 : Addr} {od8 an8 : Option Addr} {sl8 : Array (Option Value)} {oc8 kV8 dc8 pm8 cd8 ct8 : Value}
    (a8 : PySem.W.nsIn K mainGlobals "whole_share" = some (some (.ref f8))) (l8 : K.lookup f8 = some ⟨oc8, od8, .func (PySem.W.fnOf "whole_share" "whole_share" (defArgs s_whole_share) (defBody s_whole_share) (defScope s_whole_share) .none kV8 dc8 pm8 an8 cd8 ct8), sl8⟩) (c8 : PySem.W.codeIn K cd8 "whole_share" = true) (k8 : PySem.W.keepIn K (.ref f8) = true)
    {f9 : Addr} {od9 an9 : Option Addr} {sl9 : Array (Option Value)} {oc9 kV9 dc9 pm9 cd9 ct9 : Value}
    (a9 : PySem.W.nsIn K mainGlobals "share_bound" = some (some (.ref f9))) (l9 : K.lookup f9 = some ⟨oc9, od9, .func (PySem.W.fnOf "share_bound" "share_bound" (defArgs s_share_bound) (defBody s_share_bound) (defScope s_share_bound) .none kV9 dc9 pm9 an9 cd9 ct9), sl9⟩) (c9 : PySem.W.codeIn K cd9 "share_bound" = true) (k9 : PySem.W.keepIn K (.ref f9) = true)
    {f10 : Addr} {od10 an10 : Option Addr} {sl10 : Array (Option Value)} {oc10 kV10 dc10 pm10 cd10 ct10 : Value}
    (a10 : PySem.W.nsIn K mainGlobals "_law_bit" = some (some (.ref f10))) (l10 : K.lookup f10 = some ⟨oc10, od10, .func (PySem.W.fnOf "_law_bit" "_law_bit" (defArgs s_law_bit) (defBody s_law_bit) (defScope s_law_bit) .none kV10 dc10 pm10 an10 cd10 ct10), sl10⟩) (c10 : PySem.W.codeIn K cd10 "_law_bit" = true) (k10 : PySem.W.keepIn K (.ref f10) = true)
    {f11 : Addr} {od11 an11 : Option Addr} {sl11 : Array (Option Value)} {oc11 kV11 dc11 pm11 cd11 ct11 : Value}
    (a11 : PySem.W.nsIn K mainGlobals "_law_draw_function" = some (some (.ref f11))) (l11 : K.lookup f11 = some ⟨oc11, od11, .func (PySem.W.fnOf "_law_draw_function" "_law_draw_function" (defArgs s_law_draw_function) (defBody s_law_draw_function) (defScope s_law_draw_function) .none kV11 dc11 pm11 an11 cd11 ct11), sl11⟩) (c11 : PySem.W.codeIn K cd11 "_law_draw_function" = true) (k11 : PySem.W.keepIn K (.ref f11) = true)
    {f12 : Addr} {od12 an12 : Option Addr} {sl12 : Array (Option Value)} {oc12 kV12 dc12 pm12 cd12 ct12 : Value}
    (a12 : PySem.W.nsIn K mainGlobals "_law_cut" = some (some (.ref f12))) (l12 : K.lookup f12 = some ⟨oc12, od12, .func (PySem.W.fnOf "_law_cut" "_law_cut" (defArgs s_law_cut) (defBody s_law_cut) (defScope s_law_cut) .none kV12 dc12 pm12 an12 cd12 ct12), sl12⟩) (c12 : PySem.W.codeIn K cd12 "_law_cut" = true) (k12 : PySem.W.keepIn K (.ref f12) = true)
    {f13 : Addr} {od13 an13 : Option Addr} {sl13 : Array (Option Value)} {oc13 kV13 dc13 pm13 cd13 ct13 : Value}
    (a13 : PySem.W.nsIn K mainGlobals "_law_pairs" = some (some (.ref f13))) (l13 : K.lookup f13 = some ⟨oc13, od13, .func (PySem.W.fnOf "_law_pairs" "_law_pairs" (defArgs s_law_pairs) (defBody s_law_pairs) (defScope s_law_pairs) .none kV13 dc13 pm13 an13 cd13 ct13), sl13⟩) (c13 : PySem.W.codeIn K cd13 "_law_pairs" = true) (k13 : PySem.W.keepIn K (.ref f13) = true)
    {f14 : Addr} {od14 an14 : Option Addr} {sl14 : Array (Option Value)} {oc14 kV14 dc14 pm14 cd14 ct14 : Value}
    (a14 : PySem.W.nsIn K mainGlobals "_law_whole" = some (some (.ref f14))) (l14 : K.lookup f14 = some ⟨oc14, od14, .func (PySem.W.fnOf "_law_whole" "_law_whole" (defArgs s_law_whole) (defBody s_law_whole) (defScope s_law_whole) .none kV14 dc14 pm14 an14 cd14 ct14), sl14⟩) (c14 : PySem.W.codeIn K cd14 "_law_whole" = true) (k14 : PySem.W.keepIn K (.ref f14) = true)
    {f15 : Addr} {od15 an15 : Option Addr} {sl15 : Array (Option Value)} {oc15 kV15 dc15 pm15 cd15 ct15 : Value}
    (a15 : PySem.W.nsIn K mainGlobals "_law_ones" = some (some (.ref f15))) (l15 : K.lookup f15 = some ⟨oc15, od15, .func (PySem.W.fnOf "_law_ones" "_law_ones" (defArgs s_law_ones) (defBody s_law_ones) (defScope s_law_ones) .none kV15 dc15 pm15 an15 cd15 ct15), sl15⟩) (c15 : PySem.W.codeIn K cd15 "_law_ones" = true) (k15 : PySem.W.keepIn K (.ref f15) = true)
    {f16 : Addr} {od16 an16 : Option Addr} {sl16 : Array (Option Value)} {oc16 kV16 dc16 pm16 cd16 ct16 : Value}
    (a16 : PySem.W.nsIn K mainGlobals "_law_bound" = some (some (.ref f16))) (l16 : K.lookup f16 = some ⟨oc16, od16, .func (PySem.W.fnOf "_law_bound" "_law_bound" (defArgs s_law_bound) (defBody s_law_bound) (defScope s_law_bound) .none kV16 dc16 pm16 an16 cd16 ct16), sl16⟩) (c16 : PySem.W.codeIn K cd16 "_law_bound" = true) (k16 : PySem.W.keepIn K (.ref f16) = true)
    {f17 : Addr} {od17 an17 : Option Addr} {sl17 : Array (Option Value)} {oc17 kV17 dc17 pm17 cd17 ct17 : Value}
    (a17 : PySem.W.nsIn K mainGlobals "law" = some (some (.ref f17))) (l17 : K.lookup f17 = some ⟨oc17, od17, .func (PySem.W.fnOf "law" "law" (defArgs s_law) (defBody s_law) (defScope s_law) .none kV17 dc17 pm17 an17 cd17 ct17), sl17⟩) (c17 : PySem.W.codeIn K cd17 "law" = true) (k17 : PySem.W.keepIn K (.ref f17) = true)
    (z_range : PySem.W.nsIn K mainGlobals "range" = some none)
    (z_max : PySem.W.nsIn K mainGlobals "max" = some none)
    (z_tuple : PySem.W.nsIn K mainGlobals "tuple" = some none)
    (z_sum : PySem.W.nsIn K mainGlobals "sum" = some none)
    (z_len : PySem.W.nsIn K mainGlobals "len" = some none)
    (z_min : PySem.W.nsIn K mainGlobals "min" = some none)
    (z_int : PySem.W.nsIn K mainGlobals "int" = some none)
    (z_any : PySem.W.nsIn K mainGlobals "any" = some none)
    (z_all : PySem.W.nsIn K mainGlobals "all" = some none)
    (z_repr : PySem.W.nsIn K mainGlobals "repr" = some none)
    (z_abs : PySem.W.nsIn K mainGlobals "abs" = some none)
    : ∃ fd : FuncData, (∀ (s : Shared) (v : Value), BindsTo s fd ⟨[v], []⟩ [("script", v)]) ∧ ∀ base : Heap, K.In base → base.Ns mainGlobals mg → GFn P w K mg base 6 fa fd ["script"] (spLaw K) := by
  have e := hfa.symm.trans (PySem.W.mg_of X G a17)
  cases e
  have F0 := fun_mk (st := s_law_open_cells) l0 c0 k0
  have F1 := fun_mk (st := s_law_pick) l1 c1 k1
  have F2 := fun_mk (st := s_first_pairs) l2 c2 k2
  have F3 := fun_mk (st := s_most_pairs) l3 c3 k3
  have F4 := fun_mk (st := s_least_rim) l4 c4 k4
  have F5 := fun_mk (st := s_share_part) l5 c5 k5
  have F6 := fun_mk (st := s_share_pair) l6 c6 k6
  have F7 := fun_mk (st := s_matter_pairs) l7 c7 k7
  have F8 := fun_mk (st := s_whole_share) l8 c8 k8
  have F9 := fun_mk (st := s_share_bound) l9 c9 k9
  have F10 := fun_mk (st := s_law_bit) l10 c10 k10
  have F11 := fun_mk (st := s_law_draw_function) l11 c11 k11
  have F12 := fun_mk (st := s_law_cut) l12 c12 k12
  have F13 := fun_mk (st := s_law_pairs) l13 c13 k13
  have F14 := fun_mk (st := s_law_whole) l14 c14 k14
  have F15 := fun_mk (st := s_law_ones) l15 c15 k15
  have F16 := fun_mk (st := s_law_bound) l16 c16 k16
  have F17 := fun_mk (st := s_law) l17 c17 k17
  have mz : ∀ {x : Str}, PySem.W.nsIn K mainGlobals x = some none → mg x = none := fun z => PySem.W.mg_none_of X G z
  refine ⟨PySem.W.fnOf "law" "law" (defArgs s_law) (defBody s_law) (defScope s_law) .none kV17 dc17 pm17 an17 cd17 ct17, fun s v => .of_eq rfl, fun base _ _ => ?_⟩
  have co : COpen P w K mg base "_law_open_cells" := copen_mk F0 (PySem.W.mg_of X G a0) (F0.binds fun _ _ _ _ _ _ us hl => match us, hl with | [_], _ => rfl) (ok_open F0 (mz z_int) (mz z_abs))
  have c_law_pick : Cal P w K mg base 1 "_law_pick" ["source", "most"] dPick := cal_pick F1 (PySem.W.mg_of X G a1) (F1.binds fun _ _ _ _ _ _ us hl => match us, hl with | [_, _], _ => rfl) (ok_pick F1 (mz z_int) (mz z_len))
  have c_first_pairs := ok_first_pairs (P := P) (w := w) (base := base) F2 (PySem.W.mg_of X G a2) (mz z_range)
  have c_most_pairs := ok_most_pairs (P := P) (w := w) (base := base) F3 (PySem.W.mg_of X G a3) c_first_pairs
  have c_least_rim := ok_least_rim (P := P) (w := w) (base := base) F4 (PySem.W.mg_of X G a4) c_most_pairs
  have c_share_part := ok_share_part (P := P) (w := w) (base := base) F5 (PySem.W.mg_of X G a5) (mz z_max)
  have c_share_pair := ok_share_pair (P := P) (w := w) (base := base) F6 (PySem.W.mg_of X G a6) c_share_part
  have c_matter_pairs := ok_matter_pairs (P := P) (w := w) (base := base) F7 (PySem.W.mg_of X G a7) (mz z_range) (mz z_tuple)
  have c_whole_share := ok_whole_share (P := P) (w := w) (base := base) F8 (PySem.W.mg_of X G a8) c_matter_pairs c_share_pair (mz z_sum) (mz z_range) (mz z_len)
  have c_share_bound := ok_share_bound (P := P) (w := w) (base := base) F9 (PySem.W.mg_of X G a9) c_least_rim c_share_pair (mz z_sum) (mz z_min)
  have c_law_bit := ok_law_bit (P := P) (w := w) (base := base) F10 (PySem.W.mg_of X G a10)
  have c_law_draw_function := ok_law_draw_function (P := P) (w := w) (base := base) F11 (PySem.W.mg_of X G a11) c_law_pick c_law_bit (mz z_range) (mz z_int) (mz z_any) (mz z_all) (mz z_sum) (mz z_tuple)
  have c_law_cut := ok_law_cut (P := P) (w := w) (base := base) F12 (PySem.W.mg_of X G a12) (mz z_max)
  have c_law_pairs := ok_law_pairs (P := P) (w := w) (base := base) F13 (PySem.W.mg_of X G a13) c_law_bit (mz z_range)
  have c_law_whole := ok_law_whole (P := P) (w := w) (base := base) F14 (PySem.W.mg_of X G a14) c_law_pairs (mz z_sum) (mz z_range) (mz z_len)
  have c_law_ones := ok_law_ones (P := P) (w := w) (base := base) F15 (PySem.W.mg_of X G a15) (mz z_range) (mz z_max)
  have c_law_bound := ok_law_bound (P := P) (w := w) (base := base) F16 (PySem.W.mg_of X G a16) c_law_ones (mz z_sum) (mz z_min)
  exact ok_law F17 co c_law_pick c_law_bit c_law_whole c_law_bound c_law_draw_function c_share_bound c_law_cut c_whole_share (mz z_range) (mz z_tuple) (mz z_sum) (mz z_repr) (mz z_int)
end DL
open PySem PySem.W PyProof.Rows
set_option maxHeartbeats 0 in
theorem PySem.Challenge.cw_bitsasked_k47_whole_least_shares_holds : PySem.Challenge.rw_bitsasked_k47_whole_least_shares.Holds := by
  w_on; o_law; k_head; (case hw => w_witness2)
  k_fill
  refine DL.walk_ofG (l := PySem.Challenge.rw_bitsasked_k47_whole_least_shares) (n := 63) (k := 6) (x := "script") (sp := fun w => DL.spLaw _) rfl (by decide) rfl ⟨rfl, by decide, by decide⟩ (fun w h Y => PySem.W.kIn_of Y) ?F (fun w H a ns hl _ _ hS => ⟨a, ns, rfl, hS, hl, fun _ => rfl⟩)
  case F =>
    intro w mg fa h KX G hmg
    refine' DL.all_mk KX G hmg ?a0 ?l0 ?c0 ?k0 ?a1 ?l1 ?c1 ?k1 ?a2 ?l2 ?c2 ?k2 ?a3 ?l3 ?c3 ?k3 ?a4 ?l4 ?c4 ?k4 ?a5 ?l5 ?c5 ?k5 ?a6 ?l6 ?c6 ?k6 ?a7 ?l7 ?c7 ?k7 ?a8 ?l8 ?c8 ?k8 ?a9 ?l9 ?c9 ?k9 ?a10 ?l10 ?c10 ?k10 ?a11 ?l11 ?c11 ?k11 ?a12 ?l12 ?c12 ?k12 ?a13 ?l13 ?c13 ?k13 ?a14 ?l14 ?c14 ?k14 ?a15 ?l15 ?c15 ?k15 ?a16 ?l16 ?c16 ?k16 ?a17 ?l17 ?c17 ?k17 ?z_range ?z_max ?z_tuple ?z_sum ?z_len ?z_min ?z_int ?z_any ?z_all ?z_repr ?z_abs
    case a0 => k_is
    case l0 => k_is
    case c0 => k_is
    case k0 => k_is
    case a1 => k_is
    case l1 => k_is
    case c1 => k_is
    case k1 => k_is
    case a2 => k_is
    case l2 => k_is
    case c2 => k_is
    case k2 => k_is
    case a3 => k_is
    case l3 => k_is
    case c3 => k_is
    case k3 => k_is
    case a4 => k_is
    case l4 => k_is
    case c4 => k_is
    case k4 => k_is
    case a5 => k_is
    case l5 => k_is
    case c5 => k_is
    case k5 => k_is
    case a6 => k_is
    case l6 => k_is
    case c6 => k_is
    case k6 => k_is
    case a7 => k_is
    case l7 => k_is
    case c7 => k_is
    case k7 => k_is
    case a8 => k_is
    case l8 => k_is
    case c8 => k_is
    case k8 => k_is
    case a9 => k_is
    case l9 => k_is
    case c9 => k_is
    case k9 => k_is
    case a10 => k_is
    case l10 => k_is
    case c10 => k_is
    case k10 => k_is
    case a11 => k_is
    case l11 => k_is
    case c11 => k_is
    case k11 => k_is
    case a12 => k_is
    case l12 => k_is
    case c12 => k_is
    case k12 => k_is
    case a13 => k_is
    case l13 => k_is
    case c13 => k_is
    case k13 => k_is
    case a14 => k_is
    case l14 => k_is
    case c14 => k_is
    case k14 => k_is
    case a15 => k_is
    case l15 => k_is
    case c15 => k_is
    case k15 => k_is
    case a16 => k_is
    case l16 => k_is
    case c16 => k_is
    case k16 => k_is
    case a17 => k_is
    case l17 => k_is
    case c17 => k_is
    case k17 => k_is
    case z_range => k_is
    case z_max => k_is
    case z_tuple => k_is
    case z_sum => k_is
    case z_len => k_is
    case z_min => k_is
    case z_int => k_is
    case z_any => k_is
    case z_all => k_is
    case z_repr => k_is
    case z_abs => k_is
