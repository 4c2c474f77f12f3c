import PyProof.Rows.All
import HandS.ForMost
import HandS.Codes
import HandS.Defaults
import HandS.HeadEnd
import HandS.Deep
import HandS.IsInst
import HandS.TupAny
import HandS.Flow
import HandS.Style
import HandS.Wide
import HandS.Set
import HandS.Strs
import HandS.Head0
import HandS.Head1
import HandS.Head2
import HandS.HeadHook4
import PySem.Challenge.RW_askwords_k01_integers_and_names
set_option Elab.async false
set_option linter.all false
set_option maxRecDepth 100000
set_option maxHeartbeats 4000000
namespace AW
open PySem L2 PySem.Spec PyProof.Rows
/-- what a def promises where no repr is under way -/
structure FnG (P : Program) (w : World) (K : PySem.W.Frag) (mg : Str → Option Value) (base : Heap) (CX : CXT) (k : Nat) (f : Addr) (fd : FuncData) (ps : List Str) (sp : Sp) : Prop where
  len : ∀ vs H Q E, sp vs H Q E → vs.length = ps.length
  run : ∀ (A : Around) (outer : List Env) (s : Shared) (H : Hp) (args : Args) (us : List Value) (vs : List V) (Q : VK) (E : XK), A.guards = some [] → Room k A → Env0 P w K mg base A outer s H → BindsTo s fd args (ps.zip us) → Vals vs us → sp vs H Q E →
    codeAny (model P w) A (.call (.ref f) args) (CR CX outer P w H s Q E) s
theorem fnG_of {CX : CXT} {P : Program} {w : World} {K : PySem.W.Frag} {mg : Str → Option Value} {base : Heap} {k : Nat} {f : Addr} {x qual : Str} {params : Arguments} {body : List Stmt} {scope : Scope} {kws : List (Str × V)} {dvs : List V} {fd : FuncData} {N ps : List Str} {sp : Sp}
    (F : FunD K x qual params body scope dvs kws f fd) (S : FnScope N ps scope) (len : ∀ vs H Q E, sp vs H Q E → vs.length = ps.length)
    (hbody : ∀ (cdv : Value) (A : Around) (outer : List Env) (s : Shared) (H : Hp) (vs : List V) (Q : VK) (E : XK), A.guards = some [] → Room k (A.deeper (PyProof.Rows.envOfC qual scope s.heap.objs.size f cdv)) → sp vs H Q E →
      ∃ t, PSs (cxOf CX P w K mg base N qual scope f cdv A outer s H E) body t ∧ t { nx := fun _ H' => Q .non H', rt := Q } (L2.start N vs) H) : FnG P w K mg base CX (k + 1) f fd ps sp := by
  obtain ⟨oc, od, dV, kV, doc, pm, an, cdv, ct, osl, rfl, lk, hcd, _, _⟩ := F.ex
  refine ⟨len, fun A outer s H args us vs Q E hgd hr e0 hb r hsp => ?_⟩
  have hlen := len _ _ _ _ hsp
  have KX : K.In s.heap := e0.mod.kin.keeps fun b o e => (e0.bs b o e).1
  have noL : s.heap.NoLimit := e0.mod.nolimit.keeps fun b o e => (e0.bs b o e).1
  have kinds : ∀ y ∈ ps.zip us, scope.names.lookup y.1 = some .local ∨ (scope.names.lookup y.1 = some .cell ∧ ((cellsFrom (s.heap.objs.size + 1) scope.names []).lookup y.1).isSome = true) := by
    rintro ⟨n, v⟩ hy
    refine (S.par n (List.of_mem_zip hy).1).imp id fun q => ⟨q, ?_⟩
    exact PySem.W.cellsFrom_some _ _ _ (.inl q)
  refine PySem.codeAny_call_function hr.depth (KX _ _ lk) rfl S.co S.gen rfl (PySem.W.codeRec_of KX hcd) (hb _ _ _ _ ?_)
  refine PySem.wpAny_newFunctionEnv_cells S.kind kinds fun env he s1 x1 => ?_
  subst he
  refine ⟨noL.keeps x1.toInCall.keep, codeAny_func ?_⟩
  obtain ⟨t, ht, hq⟩ := hbody cdv A outer s H vs Q E hgd (hr.deeper _) hsp
  have J0 := inv_start (CX := CX) (E := E) (P := P) (w := w) (mg := mg) (base := base) S hr.hd e0 hlen r x1
  refine wpAny_mono (ht.run [] s1 (L2.start N vs) H _ J0 hq) (fun fl s' hs => ?_) fun e s' hs => hs
  cases fl with
  | ret u =>
    obtain ⟨v, σ', H', J, rv, q⟩ := hs
    exact ⟨v, H', J.os, J.bare, J.base, J.hok, rv, q⟩
  | next =>
    obtain ⟨σ', H', J, q⟩ := hs
    exact ⟨.non, H', J.os, J.bare, J.base, J.hok, rfl, q⟩
  | brk =>
    obtain ⟨σ', H', J, q⟩ := hs
    exact False.elim q
  | cont =>
    obtain ⟨σ', H', J, q⟩ := hs
    exact False.elim q
section
variable {X : Cx} {CX : CXT} {k : Nat} {f : Addr} {fd : FuncData} {ps : List Str} {sp : Sp} {E : XK} {x : Str} {p pos : Pos} {e : Expr} {es : List Expr} {t : TA}
theorem run_fnG {pins : List (Addr × Obj)} {σ : L2.St} {H : Hp} {s : Shared} {Q : VK} {us : List Value} {vs : List V} (F : FnG X.prog X.w X.K X.mg X.base CX k f fd ps sp) (hgd : X.A.guards = some []) (hr : Room k X.A) (hb : Binds X.K fd ps []) (hx : Passes CX X E)
    (I : L2.Inv X pins σ H s) (r : Vals vs us) (h : sp vs H Q E) : wpAny (model X.prog X.w) X.A (call (.ref f) us) (EP X pins σ Q) X.xe s := by
  have hl : us.length = ps.length := by rw [← r.length]; exact F.len _ _ _ _ h
  have hb' := hb s us I.kIn (by rw [List.append_nil]; exact hl)
  rw [List.append_nil] at hb'
  refine wpAny_call (codeAny_mono (F.run X.A X.stack s H ⟨us, []⟩ us vs Q E hgd hr I.env0 hb' r h) fun z s' hq => ?_)
  match z, hq with
  | .error e, hq => exact hx pins σ H s e s' I hq
  | .ok (.ret u), hq => exact I.after hq
  | .ok .next, hq => exact False.elim hq
  | .ok .brk, hq => exact False.elim hq
  | .ok .cont, hq => exact False.elim hq
theorem pe_callG (F : FnG X.prog X.w X.K X.mg X.base CX k f fd ps sp) (hgd : X.A.guards = some []) (hr : Room k X.A) (hg : Gl X x) (hm : X.mg x = some (.ref f)) (hk : PySem.W.keepIn X.K (.ref f) = true) (hb : Binds X.K fd ps []) (hx : Passes CX X E) (ha : PA X (e :: es) t) (hdb : (x == ("__debug__" : Str)) = false)
    (he : starEach (e :: es) X.env = (false, eval e X.env) :: starEach es X.env) (hpl : (backTo pos (starEach es X.env)).any (·.1) = false) : PE X (.Call (.Name x p) (e :: es) [] pos) (tCall sp [] E t) := ⟨fun pins s σ H Q I h => by
  refine wpAny_Call_Name_kw (ld_glob I hg hm ?_ hdb)
  refine PySem.W.callWith_K (h₀ := X.base) I.ok.mod.kin hk (thn (ha.run pos pins s σ H _ I h) fun us s1 hh => ?_) he hpl
  obtain ⟨vs, H1, I1, r, q⟩ := hh
  rw [List.append_nil] at q
  exact ⟨I1.kIn, run_fnG F hgd hr hb hx I1 r q⟩⟩
theorem pe_call0G (F : FnG X.prog X.w X.K X.mg X.base CX k f fd ps sp) (hgd : X.A.guards = some []) (hr : Room k X.A) (hg : Gl X x) (hm : X.mg x = some (.ref f)) (hk : PySem.W.keepIn X.K (.ref f) = true) (hb : Binds X.K fd ps []) (hx : Passes CX X E)
    (hdb : (x == ("__debug__" : Str)) = false) : PE X (.Call (.Name x p) [] [] pos) (tCall sp [] E tNil) := ⟨fun pins s σ H Q I h => by
  refine wpAny_Call_Name_kw (ld_glob I hg hm ?_ hdb)
  refine PySem.W.callWith_K0 (first := []) I.kIn hk ?_
  exact run_fnG (us := []) (vs := []) F hgd hr hb hx I .nil h⟩
end
/-- the law at its call: as L2's law_call, where the def's promise holds when no repr is under way -/
theorem law_callG {P : Program} {w : World} {K : PySem.W.Frag} {mg mb : Str → Option Value} {CX : CXT} {k : Nat} {fa a : Addr} {fd : FuncData} {x : Str} {sp : Sp} {s1 : Shared} {vs : List Value} {ns : List Int}
    (KX : K.In s1.heap) (hns : s1.heap.Ns mainGlobals mg) (hb : s1.heap.Ns builtinsNs mb) (hbb : ∀ y : Str, y ≠ "__name__" → mb y = bootBuiltins y) (hlim : s1.heap.NoLimit) (hg : s1.gens = #[])
    (ha : s1.heap.get? a = some { cls := .type "list", data := .seq vs.toArray }) (hi : PyProof.Rows.IntsAre vs ns) (hl : ns.length ≤ sizeLine) (hr : Room k callerA)
    (F : ∀ base : Heap, K.In base → base.Ns mainGlobals mg → FnG P w K mg base CX k fa fd [x] sp) (hbind : ∀ (s : Shared) (u : Value), BindsTo s fd ⟨[u], []⟩ [(x, u)])
    (hsp : ∀ H : Hp, Only H → SqL K H a (ns.map V.int) → sp [.ref a] H (fun v _ => v = .bl true) fun _ _ _ => False)
    (hCX : ∀ H e s', CX [] H s1 (fun _ _ _ => False) e s' → False) :
    codeAny (model P w) callerA (.call (.ref fa) ⟨[.ref a], []⟩) (fun r s' => r = .ok (.ret (.bool true)) ∧ OldK s1.heap s'.heap ∧ s'.os = s1.os ∧ AllBare s'.gens) s1 := by
  have rv := vals_ints hi
  have lenV := hi.length
  have main : ∀ H : Hp, Only H → SqL K H a (ns.map V.int) → HOk P w H s1.heap → (∀ b, H b ≠ none → b = a) → (H a ≠ none → K.lookup a = none) →
      codeAny (model P w) callerA (.call (.ref fa) ⟨[.ref a], []⟩) (fun r s' => r = .ok (.ret (.bool true)) ∧ OldK s1.heap s'.heap ∧ s'.os = s1.os ∧ AllBare s'.gens) s1 := by
    intro H hO hS hok hA hK
    have only : ∀ b, b ≠ a → H b = none := fun b hb => by
      cases q : H b with
      | none => rfl
      | some u => exact absurd (hA b (by rw [q]; exact fun z => nomatch z)) hb
    have noDict : ∀ {b : Addr} {o : Obj} {es : Array DictEntry} {ep : Nat}, s1.heap.get? b = some o → o.data = .dict es ep → H b = none := fun {b o es ep} e d => by
      refine only b fun q => ?_
      rw [q, ha] at e
      cases e
      cases d
    have ns' : ∀ {b : Addr} {mm : Str → Option Value}, s1.heap.Ns b mm → (hidT s1.heap H).Ns b mm := by
      rintro b mm ⟨o, es, ep, e, d, r⟩
      exact ⟨o, es, ep, hidT_get e (noDict e d), d, r⟩
    have hKb : K.In (hidT s1.heap H) := fun b o e => hidT_get (KX b o e) (by
      by_cases q : b = a
      · subst q
        cases z : H b with
        | none => rfl
        | some u => rw [hK (by rw [z]; exact fun y => nomatch y)] at e; cases e
      · exact only b q)
    obtain ⟨mc, c1, c2⟩ := hlim
    have hM : Mod K mg (hidT s1.heap H) := ⟨hKb, ns' hns, ⟨mb, ns' hb, hbb⟩, ⟨mc, ns' c1, c2⟩⟩
    have hE : Env0 P w K mg (hidT s1.heap H) callerA [] s1 H := ⟨rfl, hM, fun b o e => of_hidT e, Nat.le_of_eq (hidT_size _ _), trivial, (fun b hb => by cases hb), hok, .of_eq hg⟩
    have go := (F _ hKb (ns' hns)).run callerA [] s1 H ⟨[.ref a], []⟩ [.ref a] [.ref a] _ _ rfl hr hE (hbind s1 (.ref a)) (.cons rfl .nil) (hsp H hO hS)
    refine codeAny_mono go fun z s' h => ?_
    match z, h with
    | .error e, h => exact (hCX H e s' h).elim
    | .ok .next, h => exact False.elim h
    | .ok .brk, h => exact False.elim h
    | .ok .cont, h => exact False.elim h
    | .ok (.ret u), h =>
      obtain ⟨v, H', os, bare, un, hok', r', q⟩ := h
      cases (show v = .bl true from q)
      cases (show u = Value.bool true from r')
      refine ⟨rfl, OldK.of_keep fun b o e => ?_, os, bare⟩
      rcases hO b with z | ⟨ob, xs, z⟩
      · exact un.keep b o e z (by intro y; cases y) (by simp)
      · obtain ⟨e1, _⟩ := hok b _ z
        obtain ⟨e2, _⟩ := hok' b _ (un.frzs b ob _ z)
        rw [e] at e1; cases e1
        exact e2
  cases hk : K.lookup a with
  | some o =>
    have e := KX a o hk
    rw [ha] at e
    cases e
    exact main (fun _ => none) (fun _ => .inl rfl) (.inr ⟨_, vs.toArray, _, hk, rfl, rfl, rfl, by rw [List.size_toArray, lenV]; exact hl, by simpa using rv⟩) (fun b u z => nomatch z) (fun b z => absurd rfl z) fun z => absurd rfl z
  | none =>
    refine main (upd (fun _ => none) a (.frz { cls := .type "list", data := .seq vs.toArray } (.lst (ns.map V.int)))) (fun b => ?_) (.inl (.inr ⟨_, upd_same⟩)) (fun b u z => ?_) (fun b z => ?_) fun _ => hk
    · by_cases q : b = a
      · subst q; exact .inr ⟨_, _, upd_same⟩
      · exact .inl (upd_ne q)
    · by_cases q : b = a
      · subst q
        rw [upd_same] at z; cases z
        exact ⟨ha, by rw [List.length_map]; exact hl, vs, _, rv, ha⟩
      · rw [upd_ne q] at z; cases z
    · by_cases q : b = a
      · exact q
      · exact absurd (upd_ne q) z
theorem walk_G {l : PySem.W.OpenLaw} {n k : Nat} {q : Program} {loose : List Str} {XP : (Str → Option Value) → Heap → Prop} {YP : World → Heap → Prop} {d : DefRec} {CX : CXT} {x : Str}
    (hn : l.most = some n) (hn2 : n ≤ sizeLine) (hdf : d.params.defaults = []) (hr : Room k callerA)
    (F : ∀ (w : World) (mg : Str → Option Value) (fa : Addr) (h : Heap), YP w h → h.Ns mainGlobals mg → mg d.name = some (.ref fa) →
      ∃ (K : PySem.W.Frag) (fd : FuncData) (sp : Sp), K.In h ∧ (∀ (s : Shared) (u : Value), BindsTo s fd ⟨[u], []⟩ [(x, u)]) ∧
        (∀ (H : Hp) (a : Addr) (ns : List Int), ns.length ≤ n → SqL K H a (ns.map V.int) → sp [.ref a] H (fun v _ => v = .bl true) fun _ _ _ => False) ∧
        ∀ base : Heap, K.In base → base.Ns mainGlobals mg → FnG l.prog w K mg base CX k fa fd [x] sp)
    (hCX : ∀ (H : Hp) (s : Shared) (e : Value) (s' : Shared), CX [] H s (fun _ _ _ => False) e s' → False) : PySem.W.WalkO q loose XP YP l.row.toRowW d [] (fun f vs => PySem.call f vs) := by
  refine Att.attach_call hn hdf fun w s0 s1 mg mb fa o pm cd doc a vs ns G Y ho hd hcd hmg hobj hints hlen hg => ?_
  obtain ⟨K, fd, sp, KX, hb, hsp, hF⟩ := F w mg fa _ Y G.T.g hmg
  exact law_callG KX G.T.g G.T.b G.T.builtins G.T.nolimit hg hobj hints (Nat.le_trans hlen hn2) hr hF hb (fun H _ hS => hsp H a ns hlen hS) fun H e s' => hCX H s1 e s'
end AW
set_option maxRecDepth 100000
/-! A small language over plain data, with an evaluator; a checker against the row's syntax. -/
namespace AW
open PySem
/-- plain data -/
inductive D where
  | non | bl (b : Bool) | int (i : Int) | str (s : Str)
  | tup (ds : List D) | lst (ds : List D) | dct (ks vs : List D)
deriving Inhabited
mutual
def D.py : D → Option PyData
  | .non => some .none
  | .bl b => some (.bool b)
  | .int i => some (.int i)
  | .str s => some (.str s)
  | .tup ds => (D.pys ds).map .tuple
  | .lst ds => (D.pys ds).map .list
  | .dct _ _ => none
def D.pys : List D → Option (List PyData)
  | [] => some []
  | d :: ds => d.py.bind fun p => (D.pys ds).map fun ps => p :: ps
end
inductive Val where
  | d (x : D) | cell (n : Nat)
deriving Inhabited
inductive Cel where
  | lst (ds : List D) | dct (ks vs : List D) | dead
abbrev Store := List Cel
abbrev Ev := List (Option Val)
structure Exc where
  cls : Str
  flds : List (Str × D)
inductive Out (α : Type) where
  | ok (a : α) (m : Store) | exc (x : Exc) (m : Store) | bad
def Out.bind {α β : Type} : Out α → (α → Store → Out β) → Out β
  | .ok a m, f => f a m
  | .exc x m, _ => .exc x m
  | .bad, _ => .bad
@[simp] theorem Out.bind_ok {α β : Type} (a : α) (m : Store) (f : α → Store → Out β) : (Out.ok a m).bind f = f a m := rfl
@[simp] theorem Out.bind_exc {α β : Type} (x : Exc) (m : Store) (f : α → Store → Out β) : (Out.exc x m).bind f = .exc x m := rfl
@[simp] theorem Out.bind_bad {α β : Type} (f : α → Store → Out β) : (Out.bad).bind f = .bad := rfl
def lift {α : Type} (m : Store) : Option α → Out α
  | some a => .ok a m
  | none => .bad
@[simp] theorem lift_some {α : Type} (m : Store) (a : α) : lift m (some a) = .ok a m := rfl
@[simp] theorem lift_none {α : Type} (m : Store) : lift m (none : Option α) = .bad := rfl
/-- what a value is read as -/
def peek (m : Store) : Val → Option D
  | .d x => some x
  | .cell n => match m[n]? with
    | some (.lst ds) => some (.lst ds)
    | some (.dct ks vs) => some (.dct ks vs)
    | _ => none
def Val.data : Val → Option D
  | .d x => some x
  | .cell _ => none
def Val.datas : List Val → Option (List D)
  | [] => some []
  | v :: vs => v.data.bind fun d => (Val.datas vs).map fun ds => d :: ds
def peeks (m : Store) : List Val → Option (List D)
  | [] => some []
  | v :: vs => (peek m v).bind fun d => (peeks m vs).map fun ds => d :: ds
/-! ### operations on data -/
def eqD (a b : D) : Option Bool := match a.py, b.py with
  | some x, some y => if SeqAt.shaped x && SeqAt.shaped y then some (PyData.eqv x y) else none
  | _, _ => none
def scalD : D → Bool
  | .non => true
  | .bl _ => true
  | .int _ => true
  | .str _ => true
  | _ => false
def eqS : D → D → Bool
  | .non, .non => true
  | .bl a, .bl b => a == b
  | .bl a, .int j => (if a then 1 else 0) == j
  | .int i, .bl b => i == (if b then 1 else 0)
  | .int i, .int j => i == j
  | .str x, .str y => x == y
  | _, _ => false
def small (n : Nat) : Bool := decide (n ≤ sizeLine)
def cmul (i j : Int) : Bool := (decide (-(2 ^ 64) < i) && decide (i < 2 ^ 64)) || (decide (-(2 ^ 64) < j) && decide (j < 2 ^ 64)) || decide (i.natAbs.log2 + j.natAbs.log2 < 1000000)
def binD : Operator → D → D → Option D
  | .Add, .int i, .int j => some (.int (i + j))
  | .Add, .str a, .str b => if small (a.length + b.length) then some (.str (a ++ b)) else none
  | .Add, .tup a, .tup b => if small (a.length + b.length) then some (.tup (a ++ b)) else none
  | .Add, .lst a, .lst b => if small (a.length + b.length) then some (.lst (a ++ b)) else none
  | .Sub, .int i, .int j => some (.int (i - j))
  | .Mult, .int i, .int j => if cmul i j then some (.int (i * j)) else none
  | .FloorDiv, .int i, .int j => if decide (j ≠ 0) && decide (j.natAbs < 1073741824) then some (.int (i.fdiv j)) else none
  | .Mod, .int i, .int j => if j ≠ 0 then some (.int (i.fmod j)) else none
  | .Pow, .int i, .int j => if decide (0 ≤ j) && decide ((Builtin.Int.intBits i : Int) * j ≤ 2 ^ 27) then some (.int (i ^ j.toNat)) else none
  | _, _, _ => none
def cutD {α : Type} (xs : List α) (lo hi : Option Int) : List α := (xs.drop (HT.sIx xs.length 0 lo)).take (HT.sIx xs.length xs.length hi - HT.sIx xs.length 0 lo)
def D.isNon : D → Bool
  | .non => true
  | _ => false
def cmpD : CmpOp → D → D → Option Bool
  | .Eq, a, b => eqD a b
  | .NotEq, a, b => (eqD a b).map not
  | .Lt, .int i, .int j => some (decide (i < j))
  | .LtE, .int i, .int j => some (decide (i ≤ j))
  | .Gt, .int i, .int j => some (decide (j < i))
  | .GtE, .int i, .int j => some (decide (j ≤ i))
  | .Lt, .str a, .str b => some (decide (a.cps.toList < b.cps.toList))
  | .LtE, .str a, .str b => some (!decide (b.cps.toList < a.cps.toList))
  | .Gt, .str a, .str b => some (decide (b.cps.toList < a.cps.toList))
  | .GtE, .str a, .str b => some (!decide (a.cps.toList < b.cps.toList))
  | .Is, a, .non => some a.isNon
  | .IsNot, a, .non => some (!a.isNon)
  | .Is, .bl a, .bl b => some (a == b)
  | .IsNot, .bl a, .bl b => some (!(a == b))
  | .In, a, .tup ds => if scalD a && ds.all scalD then some (ds.any fun z => eqS z a) else none
  | .NotIn, a, .tup ds => if scalD a && ds.all scalD then some (!(ds.any fun z => eqS z a)) else none
  | .In, a, .lst ds => if scalD a && ds.all scalD then some (ds.any fun z => eqS z a) else none
  | .NotIn, a, .lst ds => if scalD a && ds.all scalD then some (!(ds.any fun z => eqS z a)) else none
  | _, _, _ => none
def truD : D → Option Bool
  | .non => some false
  | .bl b => some b
  | .int i => some (i != 0)
  | .str s => if small s.length then some (s.length != 0) else none
  | .tup ds => some (!ds.isEmpty)
  | .lst ds => some (!ds.isEmpty)
  | .dct ks _ => some (!ks.isEmpty)
def lenD : D → Option Nat
  | .str s => if small s.length then some s.length else none
  | .tup ds => some ds.length
  | .lst ds => some ds.length
  | _ => none
def tyD : D → String
  | .non => "NoneType"
  | .bl _ => "bool"
  | .int _ => "int"
  | .str _ => "str"
  | .tup _ => "tuple"
  | .lst _ => "list"
  | .dct _ _ => "dict"
inductive Ty where
  | bool | int | str | tuple | list | dict
def Ty.name : Ty → String
  | .bool => "bool" | .int => "int" | .str => "str" | .tuple => "tuple" | .list => "list" | .dict => "dict"
def isiD : D → Ty → Bool
  | .bl _, .bool => true
  | .bl _, .int => true
  | .int _, .int => true
  | .str _, .str => true
  | .tup _, .tuple => true
  | .lst _, .list => true
  | .dct _ _, .dict => true
  | _, _ => false
def idxD : D → D → Option D
  | .lst ds, .int i => L2.atI ds i
  | .tup ds, .int i => L2.atI ds i
  | .str s, .int i => if small s.length then (L2.atI s.cps.toList i).map fun c => .str ⟨#[c]⟩ else none
  | _, _ => none
def sliD : D → Option Int → Option Int → Option D
  | .lst ds, lo, hi => some (.lst (cutD ds lo hi))
  | .tup ds, lo, hi => some (.tup (cutD ds lo hi))
  | .str s, lo, hi => if small s.length then some (.str (L2.cutS s lo hi)) else none
  | _, _, _ => none
inductive B1 where
  | len | abs | all | any | int | str | repr | tuple | lenset | dict
inductive B2 where
  | max | min
inductive M1 where
  | join | split
def boolsD : List D → Option (List Bool)
  | [] => some []
  | .bl b :: ds => (boolsD ds).map fun bs => b :: bs
  | _ :: _ => none
def strsD : List D → Option (List Str)
  | [] => some []
  | .str b :: ds => (strsD ds).map fun bs => b :: bs
  | _ :: _ => none
def seqD : D → Option (List D)
  | .tup ds => some ds
  | .lst ds => some ds
  | .str s => if small s.length then some (s.cps.toList.map fun c => .str ⟨#[c]⟩) else none
  | _ => none
def reprD (d : D) : Option Str := d.py.bind fun p => if p.showable && !p.hasDict && decide (p.depth ≤ 64) && small p.shown.length then some p.shown else none
def dedupS : List Str → List Str
  | [] => []
  | x :: xs => if x ∈ xs then dedupS xs else x :: dedupS xs
def keyOfD : D → Option L2.Key
  | .int i => some (.inl i)
  | .str x => some (.inr x)
  | _ => none
def pairsD : List D → Option (List (L2.Key × D))
  | [] => some []
  | .tup [k, v] :: ds => (keyOfD k).bind fun k => (pairsD ds).map fun r => (k, v) :: r
  | _ :: _ => none
def keyD : L2.Key → D
  | .inl i => .int i
  | .inr x => .str x
def b1D : B1 → D → Option D
  | .len, d => (lenD d).map fun n => .int (n : Int)
  | .abs, .int i => some (.int (if i < 0 then -i else i))
  | .all, .lst ds => (boolsD ds).map fun bs => .bl (bs.all id)
  | .any, .lst ds => (boolsD ds).map fun bs => .bl (bs.any id)
  | .int, .int i => some (.int i)
  | .int, .bl b => some (.int (if b then 1 else 0))
  | .str, .int i => if i.natAbs.log2 < 1920 then some (.str (toString i)) else none
  | .repr, d => (reprD d).map .str
  | .tuple, .lst ds => some (.tup ds)
  | .tuple, .tup ds => some (.tup ds)
  | .dict, .lst ds => (pairsD ds).bind fun ps => if (ps.map (·.1)).Nodup ∧ ps.length ≤ sizeLine then some (.dct (ps.map fun p => keyD p.1) (ps.map (·.2))) else none
  | .lenset, .tup ds => (strsD ds).bind fun xs => if xs.length < 64 then some (.int ((dedupS xs).length : Int)) else none
  | .lenset, .lst ds => (strsD ds).bind fun xs => if xs.length < 64 then some (.int ((dedupS xs).length : Int)) else none
  | _, _ => none
def b2D : B2 → D → D → Option D
  | .max, .int i, .int j => some (.int (if j > i then j else i))
  | .min, .int i, .int j => some (.int (if j < i then j else i))
  | _, _, _ => none
def m1D : M1 → Str → D → Option D
  | .join, a, .lst ds => (strsD ds).bind fun ys => if (ys.map (·.length)).sum + ys.length * a.length ≤ 16777216 then some (.str (Txt.join a ys)) else none
  | .join, a, .tup ds => (strsD ds).bind fun ys => if (ys.map (·.length)).sum + ys.length * a.length ≤ 16777216 then some (.str (Txt.join a ys)) else none
  | .split, a, .str b => if (b.length == 0) = false ∧ a.length + 2 ≤ sizeLine then some (.lst ((Txt.split a b).map .str)) else none
  | _, _, _ => none
/-- what is walked, item by item -/
def ltS (a b : Str) : Bool := decide (a.cps.toList < b.cps.toList)
def leS (a b : Str) : Bool := !decide (b.cps.toList < a.cps.toList)
def insS (x : Str) : List Str → List Str
  | [] => [x]
  | y :: ys => if leS x y = true then x :: y :: ys else y :: insS x ys
def sortS : List Str → List Str
  | [] => []
  | x :: xs => insS x (sortS xs)
inductive LB where
  | list | sorted | sset
def ssetD (ds : List D) : Option (List D) := (strsD ds).bind fun xs => if xs.length < 64 then some ((sortS (dedupS xs)).map .str) else none
def lbD : LB → D → Option (List D)
  | .list, d => seqD d
  | .sset, d => match d with
    | .lst ds => ssetD ds
    | .tup ds => ssetD ds
    | _ => none
  | .sorted, d => match d with
    | .lst ds => (strsD ds).bind fun xs => if xs.length < 64 then some ((sortS xs).map .str) else none
    | _ => none
inductive Tg where
  | name (i : Nat) | tup (is : List Nat)
def setAll : List Nat → List D → Ev → Option Ev
  | [], [], ρ => some ρ
  | i :: is, d :: ds, ρ => setAll is ds (ρ.set i (some (.d d)))
  | _, _, _ => none
def bindT : Tg → D → Ev → Option Ev
  | .name i, d, ρ => some (ρ.set i (some (.d d)))
  | .tup is, .tup ds, ρ => setAll is ds ρ
  | _, _, _ => none
mutual
inductive E where
  | var (i : Nat)
  | con (d : D)
  | glob (x : Str) (i : Nat)
  | bin (op : Operator) (a b : E)
  | neg (a : E)
  | not (a : E)
  | cmp (op : CmpOp) (a b : E)
  | cmp2 (op op' : CmpOp) (a b c : E)
  | bop (isAnd : Bool) (es : Es)
  | ite (c a b : E)
  | tup (es : Es)
  | lm (mt : Bool) (l : L)
  | dict0
  | idx (a i : E)
  | sli (a : E) (lo hi : O)
  | isi (a : E) (t : Ty)
  | b1 (f : B1) (a : E)
  | b2 (f : B2) (a b : E)
  | m1 (f : M1) (a b : E)
  | app (a b : E)
  | pop1 (a b : E)
  | call (i : Nat) (es : Es)
inductive L where
  | disp (es : Es)
  | lc (it : It) (tg : Tg) (c : O) (elt : E)
  | blt (f : LB) (a : E)
inductive It where
  | seq (e : E)
  | rng1 (a : E)
  | enum (a : E)
  | zip (a b : E)
inductive Es where
  | nil | cons (e : E) (es : Es)
inductive O where
  | no | yes (e : E)
end
mutual
inductive S where
  | asg (i : Nat) (e : E)
  | par (is : List Nat) (es : Es)
  | unp (is : List Nat) (e : E)
  | setIx (a i e : E)
  | aug (i : Nat) (op : Operator) (e : E)
  | ife (c : E) (t f : Ss)
  | forr (it : It) (tg : Tg) (b : Ss)
  | whil (c : E) (b : Ss)
  | ret (e : E)
  | retN
  | expr (e : E)
  | pass | brk | cont | never
inductive Ss where
  | nil | cons (s : S) (ss : Ss) | frz (i : Nat) (ss : Ss)
end
abbrev Fns := Nat → List Val → Store → Out Val
def allocL (mt : Bool) (ds : List D) (m : Store) : Out Val := if mt then .ok (.cell m.length) (m ++ [.lst ds]) else .ok (.d (.lst ds)) m
/-- the items of a list comprehension, one by one -/
def goLc (f : D → Store → Out (Option D)) : List D → List D → Store → Out (List D)
  | [], acc, m => .ok acc m
  | d :: ds, acc, m => match f d m with
    | .ok (some y) m1 => if acc.length < sizeLine then goLc f ds (acc ++ [y]) m1 else .bad
    | .ok none m1 => goLc f ds acc m1
    | _ => .bad
def zipD : List D → List D → List D
  | a :: as, b :: bs => .tup [a, b] :: zipD as bs
  | _, _ => []
def enumD (n : Nat) : List D → List D
  | [] => []
  | a :: as => .tup [.int (n : Int), a] :: enumD (n + 1) as
def rngD (n : Nat) : List D := (List.range n).map fun i : Nat => .int (i : Int)
def truV (x : Val) (m : Store) : Out Bool := (lift m (peek m x)).bind fun d m => lift m (truD d)
/-! ### the evaluator's parts -/
abbrev Ex := Ev → Store → Out Val
def ixV (v : Val) : Option (Option Int) := match v with
  | .d (.int i) => some (some i)
  | _ => none
def evVar (i : Nat) : Ex := fun ρ m => match ρ[i]? with
  | some (some v) => .ok v m
  | _ => .bad
def evCon (d : D) : Ex := fun _ m => .ok (.d d) m
def ev1 (f : D → Option D) (oa : Ex) : Ex := fun ρ m => (oa ρ m).bind fun x m => (lift m (peek m x)).bind fun x m => (lift m (f x)).bind fun z m => .ok (.d z) m
def ev2 (f : D → D → Option D) (oa ob : Ex) : Ex := fun ρ m => (oa ρ m).bind fun x m => (ob ρ m).bind fun y m => (lift m (peek m x)).bind fun x m => (lift m (peek m y)).bind fun y m => (lift m (f x y)).bind fun z m => .ok (.d z) m
def negD : D → Option D
  | .int i => some (.int (-i))
  | _ => none
def cmpV (op : CmpOp) (a b : D) : Option D := (cmpD op a b).map .bl
def evT (oa : Ex) : Ev → Store → Out Bool := fun ρ m => (oa ρ m).bind truV
def evNot (oa : Ex) : Ex := fun ρ m => (oa ρ m).bind fun x m => (truV x m).bind fun b m => .ok (.d (.bl (!b))) m
def evChain (op op' : CmpOp) (oa ob oc : Ex) : Ex := fun ρ m => (oa ρ m).bind fun x m => (ob ρ m).bind fun y m => (lift m (peek m x)).bind fun x m => (lift m (peek m y)).bind fun y' m => (lift m (cmpD op x y')).bind fun z m =>
  if z = true then (oc ρ m).bind fun w m => (lift m (peek m y)).bind fun y m => (lift m (peek m w)).bind fun w m => (lift m (cmpV op' y w)).bind fun z m => .ok (.d z) m else .ok (.d (.bl false)) m
def evAnd (oa ob : Ex) : Ex := fun ρ m => (oa ρ m).bind fun x m => (truV x m).bind fun t m => if t = true then ob ρ m else .ok x m
def evOr (oa ob : Ex) : Ex := fun ρ m => (oa ρ m).bind fun x m => (truV x m).bind fun t m => if t = true then .ok x m else ob ρ m
def evIte (oc oa ob : Ex) : Ex := fun ρ m => (evT oc ρ m).bind fun t m => if t = true then oa ρ m else ob ρ m
def evTup (oe : Ev → Store → Out (List Val)) : Ex := fun ρ m => (oe ρ m).bind fun vs m => (lift m (Val.datas vs)).bind fun ds m => if small ds.length then .ok (.d (.tup ds)) m else .bad
def evDisp (oe : Ev → Store → Out (List Val)) : Ev → Store → Out (List D) := fun ρ m => (oe ρ m).bind fun vs m => (lift m (Val.datas vs)).bind fun ds m => if small ds.length then .ok ds m else .bad
def evLm (mt : Bool) (ol : Ev → Store → Out (List D)) : Ex := fun ρ m => (ol ρ m).bind fun ds m => allocL mt ds m
def evSli (oa : Ex) (ol oh : Ev → Store → Out (Option Int)) : Ex := fun ρ m => (oa ρ m).bind fun x m => (ol ρ m).bind fun l m => (oh ρ m).bind fun h m => (lift m (peek m x)).bind fun x m => (lift m (sliD x l h)).bind fun z m => .ok (.d z) m
def appC (n : Nat) (d : D) (m : Store) : Out Val := match m[n]? with
  | some (.lst ds) => if ds.length < sizeLine then .ok (.d .non) (m.set n (.lst (ds ++ [d]))) else .bad
  | _ => .bad
def cellL (m : Store) : Val → Option Nat
  | .cell n => (match m[n]? with
    | some (.lst _) => some n
    | _ => none)
  | _ => none
def strV : Val → Option Str
  | .d (.str s) => some s
  | _ => none
def intV : Val → Option Int
  | .d (.int i) => some i
  | _ => none
def evM (f : Str → D → Option D) (oa ob : Ex) : Ex := fun ρ m => (oa ρ m).bind fun x m => (lift m (strV x)).bind fun s m => (ob ρ m).bind fun y m => (lift m (peek m y)).bind fun y m => (lift m (f s y)).bind fun z m => .ok (.d z) m
def evApp (oa ob : Ex) : Ex := fun ρ m => (oa ρ m).bind fun x m => (lift m (cellL m x)).bind fun n m => (ob ρ m).bind fun y m => (lift m y.data).bind fun d m => appC n d m
def popC (n : Nat) (i : Int) (m : Store) : Out Val := match m[n]? with
  | some (.lst ds) => (match L2.ixN ds.length i with
    | some j => (match ds[j]? with
      | some d => .ok (.d d) (m.set n (.lst (ds.eraseIdx j)))
      | none => .bad)
    | none => .bad)
  | _ => .bad
def evPop1 (oa ob : Ex) : Ex := fun ρ m => (oa ρ m).bind fun x m => (lift m (cellL m x)).bind fun n m => (ob ρ m).bind fun y m => (lift m (intV y)).bind fun i m => popC n i m
def evCall (f : List Val → Store → Out Val) (oe : Ev → Store → Out (List Val)) : Ex := fun ρ m => (oe ρ m).bind fun vs m => f vs m
def evNil : Ev → Store → Out (List Val) := fun _ m => .ok [] m
def evCons (oa : Ex) (oe : Ev → Store → Out (List Val)) : Ev → Store → Out (List Val) := fun ρ m => (oa ρ m).bind fun v m => (oe ρ m).bind fun vs m => .ok (v :: vs) m
def evNoPart : Ev → Store → Out (Option Int) := fun _ m => .ok none m
def evPart (oa : Ex) : Ev → Store → Out (Option Int) := fun ρ m => (oa ρ m).bind fun v m => lift m (ixV v)
def evYes : Ev → Store → Out Bool := fun _ m => .ok true m
def lcTurn (tg : Tg) (oc : Ev → Store → Out Bool) (oe : Ex) (ρ : Ev) (d : D) (m : Store) : Out (Option D) := (lift m (bindT tg d ρ)).bind fun ρ' m => (oc ρ' m).bind fun t m => if t = true then (oe ρ' m).bind fun v m => (lift m v.data).bind fun d m => .ok (some d) m else .ok none m
def evLc (oi : Ev → Store → Out (List D)) (tg : Tg) (oc : Ev → Store → Out Bool) (oe : Ex) : Ev → Store → Out (List D) := fun ρ m => (oi ρ m).bind fun ds m => goLc (lcTurn tg oc oe ρ) ds [] m
def evLb (f : LB) (oa : Ex) : Ev → Store → Out (List D) := fun ρ m => (oa ρ m).bind fun x m => (lift m (peek m x)).bind fun d m => lift m (lbD f d)
def itSeq (oa : Ex) : Ev → Store → Out (List D) := fun ρ m => (oa ρ m).bind fun x m => (lift m x.data).bind fun d m => lift m (seqD d)
def itRng1 (oa : Ex) : Ev → Store → Out (List D) := fun ρ m => (oa ρ m).bind fun x m => match x with
  | .d (.int n) => if decide (-(2 ^ 62) ≤ n) && decide (n < 2 ^ 62) then .ok (rngD n.toNat) m else .bad
  | _ => .bad
def itEnum (oa : Ex) : Ev → Store → Out (List D) := fun ρ m => (oa ρ m).bind fun x m => match x with
  | .d (.lst ds) => .ok (enumD 0 ds) m
  | _ => .bad
def itZip (oa ob : Ex) : Ev → Store → Out (List D) := fun ρ m => (oa ρ m).bind fun x m => (ob ρ m).bind fun y m => match x, y with
  | .d (.lst xs), .d (.lst ys) => .ok (zipD xs ys) m
  | _, _ => .bad
variable (G : List D) (Φ : Fns)
mutual
def evalE : E → Ev → Store → Out Val
  | .var i => evVar i
  | .con d => evCon d
  | .glob _ i => evCon (G.getD i .non)
  | .bin op a b => ev2 (binD op) (evalE a) (evalE b)
  | .neg a => ev1 negD (evalE a)
  | .not a => evNot (evalE a)
  | .cmp op a b => ev2 (cmpV op) (evalE a) (evalE b)
  | .cmp2 op op' a b c => evChain op op' (evalE a) (evalE b) (evalE c)
  | .bop k es => evalB k es
  | .ite c a b => evIte (evalE c) (evalE a) (evalE b)
  | .tup es => evTup (evalEs es)
  | .lm mt l => evLm mt (evalL l)
  | .dict0 => evCon (.dct [] [])
  | .idx a i => ev2 idxD (evalE a) (evalE i)
  | .sli a lo hi => evSli (evalE a) (evalO lo) (evalO hi)
  | .isi a t => ev1 (fun d => some (.bl (isiD d t))) (evalE a)
  | .b1 f a => ev1 (b1D f) (evalE a)
  | .b2 f a b => ev2 (b2D f) (evalE a) (evalE b)
  | .m1 f a b => evM (m1D f) (evalE a) (evalE b)
  | .app a b => evApp (evalE a) (evalE b)
  | .pop1 a b => evPop1 (evalE a) (evalE b)
  | .call i es => evCall (Φ i) (evalEs es)
def evalB (k : Bool) : Es → Ev → Store → Out Val
  | .nil => fun _ _ => .bad
  | .cons e .nil => evalE e
  | .cons e (.cons f es) => if k then evAnd (evalE e) (evalB k (.cons f es)) else evOr (evalE e) (evalB k (.cons f es))
def evalEs : Es → Ev → Store → Out (List Val)
  | .nil => evNil
  | .cons e es => evCons (evalE e) (evalEs es)
def evalO : O → Ev → Store → Out (Option Int)
  | .no => evNoPart
  | .yes e => evPart (evalE e)
def evalC : O → Ev → Store → Out Bool
  | .no => evYes
  | .yes e => evT (evalE e)
def evalL : L → Ev → Store → Out (List D)
  | .disp es => evDisp (evalEs es)
  | .lc it tg c e => evLc (evalIt it) tg (evalC c) (evalE e)
  | .blt f a => evLb f (evalE a)
def evalIt : It → Ev → Store → Out (List D)
  | .seq e => itSeq (evalE e)
  | .rng1 a => itRng1 (evalE a)
  | .enum a => itEnum (evalE a)
  | .zip a b => itZip (evalE a) (evalE b)
end
/-- how a statement ends -/
inductive Fl where
  | nx (ρ : Ev) | ret (v : Val) | bk (ρ : Ev) | ct (ρ : Ev)
def goFor (f : D → Ev → Store → Out Fl) : List D → Ev → Store → Out Fl
  | [], ρ, m => .ok (.nx ρ) m
  | d :: ds, ρ, m => (f d ρ m).bind fun r m => match r with
    | .nx ρ => goFor f ds ρ m
    | .ct ρ => goFor f ds ρ m
    | .bk ρ => .ok (.nx ρ) m
    | .ret v => .ok (.ret v) m
def goWhile (c : Ev → Store → Out Bool) (b : Ev → Store → Out Fl) : Nat → Ev → Store → Out Fl
  | 0, _, _ => .bad
  | n + 1, ρ, m => (c ρ m).bind fun t m => if t then (b ρ m).bind fun r m => match r with
    | .nx ρ => goWhile c b n ρ m
    | .ct ρ => goWhile c b n ρ m
    | .bk ρ => .ok (.nx ρ) m
    | .ret v => .ok (.ret v) m
    else .ok (.nx ρ) m
abbrev Sx := Ev → Store → Out Fl
def exAsg (i : Nat) (oe : Ex) : Sx := fun ρ m => (oe ρ m).bind fun v m => .ok (.nx (ρ.set i (some v))) m
def setVs : List Nat → List Val → Ev → Option Ev
  | [], [], ρ => some ρ
  | i :: is, v :: vs, ρ => setVs is vs (ρ.set i (some v))
  | _, _, _ => none
def exPar (is : List Nat) (oe : Ev → Store → Out (List Val)) : Sx := fun ρ m => (oe ρ m).bind fun vs m => (lift m (setVs is vs ρ)).bind fun ρ m => .ok (.nx ρ) m
def exUnp (is : List Nat) (oe : Ex) : Sx := fun ρ m => (oe ρ m).bind fun v m => match v with
  | .d d => (lift m (bindT (.tup is) d ρ)).bind fun ρ m => .ok (.nx ρ) m
  | _ => .bad
def setC (n : Nat) (k : Int) (d : D) (m : Store) : Option Store := match m[n]? with
  | some (.lst ds) => (L2.ixN ds.length k).map fun j => m.set n (.lst (ds.set j d))
  | _ => none
def exSetIx (oa oi oe : Ex) : Sx := fun ρ m => (oe ρ m).bind fun v m => (oa ρ m).bind fun x m => (oi ρ m).bind fun y m => match x, y, v with
  | .cell n, .d (.int k), .d d => (match setC n k d m with
    | some m' => .ok (.nx ρ) m'
    | none => .bad)
  | _, _, _ => .bad
def augD (op : Operator) : D → D → Option D
  | .int a, .int b => (match op with
    | .Add => some (.int (a + b))
    | .Sub => some (.int (a - b))
    | _ => none)
  | _, _ => none
def exAug (i : Nat) (op : Operator) (oe : Ex) : Sx := fun ρ m => (evVar i ρ m).bind fun x m => (oe ρ m).bind fun y m => match x, y with
  | .d a, .d b => (lift m (augD op a b)).bind fun z m => .ok (.nx (ρ.set i (some (.d z)))) m
  | _, _ => .bad
def exIf (oc : Ev → Store → Out Bool) (ot of : Sx) : Sx := fun ρ m => (oc ρ m).bind fun b m => if b = true then ot ρ m else of ρ m
def exFor (oi : Ev → Store → Out (List D)) (tg : Tg) (ob : Sx) : Sx := fun ρ m => (oi ρ m).bind fun ds m => goFor (fun d ρ m => (lift m (bindT tg d ρ)).bind fun ρ m => ob ρ m) ds ρ m
def exRet (oe : Ex) : Sx := fun ρ m => (oe ρ m).bind fun v m => .ok (.ret v) m
def exDrop (oe : Ex) : Sx := fun ρ m => (oe ρ m).bind fun _ m => .ok (.nx ρ) m
def exSeq (os ot : Sx) : Sx := fun ρ m => (os ρ m).bind fun r m => match r with
  | .nx ρ => ot ρ m
  | r => .ok r m
def exNext : Sx := fun ρ m => .ok (.nx ρ) m
def exFrz (i : Nat) (ot : Sx) : Sx := fun ρ m => match ρ[i]? with
  | some (some (.cell n)) => (match m[n]? with
    | some (.lst ds) => ot (ρ.set i (some (.d (.lst ds)))) (m.set n .dead)
    | _ => .bad)
  | _ => .bad
variable (fuel : Nat)
mutual
def execS : S → Ev → Store → Out Fl
  | .asg i e => exAsg i (evalE G Φ e)
  | .par is es => exPar is (evalEs G Φ es)
  | .unp is e => exUnp is (evalE G Φ e)
  | .setIx a i e => exSetIx (evalE G Φ a) (evalE G Φ i) (evalE G Φ e)
  | .aug i op e => exAug i op (evalE G Φ e)
  | .ife c t f => exIf (evT (evalE G Φ c)) (execSs t) (execSs f)
  | .forr it tg b => exFor (evalIt G Φ it) tg (execSs b)
  | .whil c b => goWhile (evT (evalE G Φ c)) (execSs b) fuel
  | .ret e => exRet (evalE G Φ e)
  | .retN => exRet (evCon .non)
  | .expr e => exDrop (evalE G Φ e)
  | .pass => exNext
  | .brk => fun ρ m => .ok (.bk ρ) m
  | .cont => fun ρ m => .ok (.ct ρ) m
  | .never => fun _ _ => .bad
def execSs : Ss → Ev → Store → Out Fl
  | .nil => exNext
  | .cons s ss => exSeq (execS s) (execSs ss)
  | .frz i ss => exFrz i (execSs ss)
end
structure Def where
  name : Str
  np : Nat
  N : List Str
  keep : Bool
  body : Ss
def startE (f : Def) (vs : List Val) : Ev := vs.map some ++ List.replicate (f.N.length - vs.length) none
def retV (keep : Bool) (m0 m : Store) : Val → Out Val
  | .d d => .ok (.d d) (m.take m0.length)
  | .cell n => if m0.length ≤ n then (match m[n]? with
    | some (.lst ds) => if keep then .ok (.cell m0.length) (m.take m0.length ++ [.lst ds]) else .ok (.d (.lst ds)) (m.take m0.length)
    | _ => .bad) else .bad
def finish (keep : Bool) (m0 : Store) : Out Fl → Out Val
  | .ok (.ret v) m => retV keep m0 m v
  | .ok (.nx _) m => .ok (.d .non) (m.take m0.length)
  | .exc x m => .exc x (m.take m0.length)
  | _ => .bad
/-- a call of the def at i, at most k calls deep -/
def run (G : List D) (P : List Def) (fuel : Nat) : Nat → Fns
  | 0, _, _, _ => .bad
  | k + 1, i, vs, m => match P[i]? with
    | none => .bad
    | some f => if vs.length = f.np then finish f.keep m (execSs G (run G P fuel k) fuel f.body (startE f vs) m) else .bad
end AW
set_option maxRecDepth 100000
namespace AW
open PySem L2
abbrev Frag := PySem.W.Frag
mutual
/-- what stands for a datum -/
inductive Rep (K : Frag) (F : Hp) : V → D → Prop
  | non : Rep K F .non .non
  | bl (b : Bool) : Rep K F (.bl b) (.bl b)
  | int (i : Int) : Rep K F (.int i) (.int i)
  | str (x : Str) : Rep K F (.str x) (.str x)
  | lst {a : Addr} {vs : List V} {ds : List D} : SqL K F a vs → Reps K F vs ds → Rep K F (.ref a) (.lst ds)
  | tup {a : Addr} {vs : List V} {ds : List D} : SqT K F a vs → Reps K F vs ds → Rep K F (.ref a) (.tup ds)
  | dct {a : Addr} {kvs : List (Key × V)} {ks vs : List D} : F a = some (.dK kvs) → kvs.map (fun p => keyD p.1) = ks → Reps K F (kvs.map (·.2)) vs → Rep K F (.ref a) (.dct ks vs)
inductive Reps (K : Frag) (F : Hp) : List V → List D → Prop
  | nil : Reps K F [] []
  | cons {v : V} {vs : List V} {d : D} {ds : List D} : Rep K F v d → Reps K F vs ds → Reps K F (v :: vs) (d :: ds)
end
def Ext (F F' : Hp) : Prop := ∀ a o, F a = some o → F' a = some o
theorem Ext.refl (F : Hp) : Ext F F := fun _ _ h => h
theorem Ext.trans {F G H : Hp} (a : Ext F G) (b : Ext G H) : Ext F H := fun x o h => b x o (a x o h)
theorem Ext.new {F : Hp} {p : Addr} {o : HO} (h : F p = none) : Ext F (upd F p o) := fun a u e => by
  rw [upd_ne (ne_of_none e h)]; exact e
theorem Ext.rd {F F' : Hp} {a : Addr} {u : HO} (e : Ext F F') (h : Rd F a u) : Rd F' a u := by
  rcases h with h | ⟨o, h⟩
  · exact .inl (e a _ h)
  · exact .inr ⟨o, e a _ h⟩
theorem Ext.l {K : Frag} {F F' : Hp} {a : Addr} {xs : List V} (e : Ext F F') (h : SqL K F a xs) : SqL K F' a xs := by
  rcases h with h | h
  · exact .inl (e.rd h)
  · exact .inr h
theorem Ext.t {K : Frag} {F F' : Hp} {a : Addr} {xs : List V} (e : Ext F F') (h : SqT K F a xs) : SqT K F' a xs := by
  rcases h with h | h
  · exact .inl (e.rd h)
  · exact .inr h
theorem Ext.free {F F' : Hp} {p : Addr} (e : Ext F F') (h : F' p = none) : F p = none := by
  cases h1 : F p with
  | none => rfl
  | some o => rw [e p o h1] at h; cases h
mutual
theorem Rep.mono {K : Frag} {F F' : Hp} (e : Ext F F') : ∀ {v : V} {d : D}, Rep K F v d → Rep K F' v d
  | _, _, .non => .non
  | _, _, .bl b => .bl b
  | _, _, .int i => .int i
  | _, _, .str x => .str x
  | _, _, .lst h r => .lst (e.l h) (Reps.mono e r)
  | _, _, .tup h r => .tup (e.t h) (Reps.mono e r)
  | _, _, .dct h h1 r => .dct (e _ _ h) h1 (Reps.mono e r)
theorem Reps.mono {K : Frag} {F F' : Hp} (e : Ext F F') : ∀ {vs : List V} {ds : List D}, Reps K F vs ds → Reps K F' vs ds
  | _, _, .nil => .nil
  | _, _, .cons h r => .cons (Rep.mono e h) (Reps.mono e r)
end
section
variable {K : Frag} {F : Hp}
theorem Reps.length : ∀ {vs : List V} {ds : List D}, Reps K F vs ds → vs.length = ds.length
  | _, _, .nil => rfl
  | _, _, .cons _ r => by rw [List.length_cons, List.length_cons, Reps.length r]
theorem Reps.get : ∀ {vs : List V} {ds : List D} {i : Nat} {d : D}, Reps K F vs ds → ds[i]? = some d → ∃ v, vs[i]? = some v ∧ Rep K F v d
  | _, _, _, _, .nil, e => by simp at e
  | _, _, 0, _, .cons h _, e => by simp at e; subst e; exact ⟨_, rfl, h⟩
  | _, _, i + 1, _, .cons _ r, e => by
    obtain ⟨v, h1, h2⟩ := Reps.get (i := i) r (by simpa using e)
    exact ⟨v, by simpa using h1, h2⟩
theorem Reps.append : ∀ {vs ws : List V} {ds es : List D}, Reps K F vs ds → Reps K F ws es → Reps K F (vs ++ ws) (ds ++ es)
  | _, _, _, _, .nil, s => s
  | _, _, _, _, .cons h r, s => .cons h (Reps.append r s)
theorem Reps.take : ∀ {vs : List V} {ds : List D} (n : Nat), Reps K F vs ds → Reps K F (vs.take n) (ds.take n)
  | _, _, 0, _ => by simp; exact .nil
  | _, _, _ + 1, .nil => by simp; exact .nil
  | _, _, n + 1, .cons h r => .cons h (Reps.take n r)
theorem Reps.drop : ∀ {vs : List V} {ds : List D} (n : Nat), Reps K F vs ds → Reps K F (vs.drop n) (ds.drop n)
  | _, _, 0, r => r
  | _, _, _ + 1, .nil => by simp; exact .nil
  | _, _, n + 1, .cons _ r => Reps.drop n r
theorem Reps.set {v : V} {d : D} (h : Rep K F v d) : ∀ {vs : List V} {ds : List D} (n : Nat), Reps K F vs ds → Reps K F (vs.set n v) (ds.set n d)
  | _, _, _, .nil => .nil
  | _, _, 0, .cons _ r => .cons h r
  | _, _, n + 1, .cons q r => .cons q (Reps.set h n r)
theorem Reps.erase : ∀ {vs : List V} {ds : List D} (n : Nat), Reps K F vs ds → Reps K F (vs.eraseIdx n) (ds.eraseIdx n)
  | _, _, _, .nil => .nil
  | _, _, 0, .cons _ r => r
  | _, _, n + 1, .cons q r => .cons q (Reps.erase n r)
theorem Reps.strs : ∀ {vs : List V} {ds : List D} {xs : List Str}, Reps K F vs ds → strsD ds = some xs → vs = xs.map V.str
  | _, _, _, .nil, e => by simp [strsD] at e; subst e; rfl
  | _, _, xs, .cons (ds := ds) h r, e => by
    cases h <;> simp [strsD] at e
    obtain ⟨ys, e1, rfl⟩ := e
    rw [Reps.strs r e1]; rfl
theorem Reps.bools : ∀ {vs : List V} {ds : List D} {xs : List Bool}, Reps K F vs ds → boolsD ds = some xs → vs = xs.map V.bl
  | _, _, _, .nil, e => by simp [boolsD] at e; subst e; rfl
  | _, _, xs, .cons (ds := ds) h r, e => by
    cases h <;> simp [boolsD] at e
    obtain ⟨ys, e1, rfl⟩ := e
    rw [Reps.bools r e1]; rfl
theorem Reps.ofStrs : ∀ xs : List Str, Reps K F (xs.map V.str) (xs.map D.str)
  | [] => .nil
  | _ :: xs => .cons (.str _) (Reps.ofStrs xs)
theorem Reps.snoc {vs : List V} {ds : List D} {v : V} {d : D} (r : Reps K F vs ds) (h : Rep K F v d) : Reps K F (vs ++ [v]) (ds ++ [d]) := r.append (.cons h .nil)
mutual
theorem Rep.dp : ∀ {v : V} {d : D} {p : PyData}, Rep K F v d → d.py = some p → Dp K F v p
  | _, _, _, .non, e => by simp [D.py] at e; subst e; exact .non
  | _, _, _, .bl b, e => by simp [D.py] at e; subst e; exact .bl b
  | _, _, _, .int i, e => by simp [D.py] at e; subst e; exact .int i
  | _, _, _, .str x, e => by simp [D.py] at e; subst e; exact .str x
  | _, _, _, .lst h r, e => by
    simp [D.py] at e
    obtain ⟨ps, e1, rfl⟩ := e
    exact .lst h (Reps.dps r e1)
  | _, _, _, .tup h r, e => by
    simp [D.py] at e
    obtain ⟨ps, e1, rfl⟩ := e
    exact .tup h (Reps.dps r e1)
  | _, _, _, .dct h _ _, e => by simp [D.py] at e
theorem Reps.dps : ∀ {vs : List V} {ds : List D} {ps : List PyData}, Reps K F vs ds → D.pys ds = some ps → DpAll K F vs ps
  | _, _, _, .nil, e => by simp [D.pys] at e; subst e; exact .nil
  | _, _, _, .cons (d := d) (ds := ds) h r, e => by
    have e' : (d.py.bind fun p => (D.pys ds).map fun ps => p :: ps) = _ := e
    cases e1 : d.py with
    | none => rw [e1] at e'; cases e'
    | some p =>
      cases e2 : D.pys ds with
      | none => rw [e1, e2] at e'; cases e'
      | some ps =>
        rw [e1, e2] at e'; cases e'
        exact .cons (Rep.dp h e1) (Reps.dps r e2)
end
end
/-! ### the store -/
def RepO (K : Frag) (F : Hp) : HO → Cel → Prop
  | .lst vs, .lst ds => Reps K F vs ds
  | .dK kvs, .dct ks vs => kvs.map (fun p => keyD p.1) = ks ∧ Reps K F (kvs.map (·.2)) vs
  | _, _ => False
def Cel.live : Cel → Bool
  | .dead => false
  | _ => true
theorem RepO.mono {K : Frag} {F F' : Hp} (e : Ext F F') : ∀ {h : HO} {o : Cel}, RepO K F h o → RepO K F' h o := by
  intro h o r
  cases h <;> cases o <;> first | exact r.elim | skip
  · exact Reps.mono e r
  · exact ⟨r.1, Reps.mono e r.2⟩
structure RelS (K : Frag) (φ : Nat → Addr) (F : Hp) (m : Store) (H : Hp) : Prop where
  sub : Ext F H
  cell : ∀ n o, m[n]? = some o → ∃ ho, H (φ n) = some ho ∧ (o.live = true → F (φ n) = none ∧ RepO K F ho o)
  inj : ∀ n n', n < m.length → n' < m.length → φ n = φ n' → n = n'
def RepV (K : Frag) (φ : Nat → Addr) (F : Hp) (m : Store) : V → Val → Prop
  | v, .d x => Rep K F v x
  | v, .cell n => v = .ref (φ n) ∧ n < m.length
def RepVs (K : Frag) (φ : Nat → Addr) (F : Hp) (m : Store) : List V → List Val → Prop := Paired (RepV K φ F m)
def RepE (K : Frag) (φ : Nat → Addr) (F : Hp) (m : Store) (σ : L2.St) (ρ : Ev) : Prop := ∀ (i : Nat) (v : Val), ρ[i]? = some (some v) → ∃ u, σ[i]? = some (some u) ∧ RepV K φ F m u v
structure Stp (K : Frag) (φ : Nat → Addr) (F : Hp) (m : Store) (H : Hp) (φ' : Nat → Addr) (F' : Hp) (m' : Store) (H' : Hp) : Prop where
  len : m.length ≤ m'.length
  ext : ∀ n, n < m.length → φ' n = φ n
  exF : Ext F F'
  fr : ∀ a o, H a = some o → (∀ n o', m[n]? = some o' → o'.live = true → φ n ≠ a) → H' a = some o
  dead : ∀ n : Nat, m[n]? = some Cel.dead → m'[n]? = some Cel.dead
  new : ∀ n, m.length ≤ n → n < m'.length → H (φ' n) = none
  own : ∀ a o, F' a = some o → F a = none → H a = none ∨ ∃ n o', m[n]? = some o' ∧ o'.live = true ∧ φ n = a
  rel : RelS K φ' F' m' H'
section
variable {K : Frag} {φ φ1 φ2 : Nat → Addr} {F F1 F2 : Hp} {m m1 m2 : Store} {H H1 H2 : Hp}
theorem Cel.dead_of {o : Cel} (h : ¬ o.live = true) : o = .dead := by cases o <;> simp [Cel.live] at h; rfl
theorem Stp.refl (R : RelS K φ F m H) : Stp K φ F m H φ F m H := ⟨Nat.le_refl _, fun _ _ => rfl, Ext.refl _, fun _ _ h _ => h, fun _ h => h, fun n h1 h2 => absurd h2 (by omega), (fun a o h1 h2 => by rw [h1] at h2; cases h2), R⟩
theorem Stp.trans (a : Stp K φ F m H φ1 F1 m1 H1) (b : Stp K φ1 F1 m1 H1 φ2 F2 m2 H2) (R : RelS K φ F m H) : Stp K φ F m H φ2 F2 m2 H2 where
  len := Nat.le_trans a.len b.len
  ext := fun n h => by rw [b.ext n (Nat.lt_of_lt_of_le h a.len), a.ext n h]
  exF := a.exF.trans b.exF
  dead := fun n h => b.dead n (a.dead n h)
  rel := b.rel
  fr := fun x o h hn => b.fr x o (a.fr x o h hn) fun n o' e l q => by
    by_cases hlt : n < m.length
    · have e0 : m[n]? = some m[n] := List.getElem?_eq_getElem hlt
      by_cases hl : (m[n]).live = true
      · exact hn n _ e0 hl (by rw [← a.ext n hlt]; exact q)
      · have hd := a.dead n (by rw [e0, Cel.dead_of hl])
        rw [hd] at e; cases e; simp [Cel.live] at l
    · have hn2 := a.new n (by omega) (List.getElem?_eq_some_iff.mp e).1
      rw [q, h] at hn2; cases hn2
  own := fun x o h1 h2 => by
    cases e : F1 x with
    | some o1 => exact a.own x o1 e h2
    | none =>
      rcases b.own x o h1 e with h3 | ⟨n, o', e1, l, e2⟩
      · by_cases hl : ∃ n o', m[n]? = some o' ∧ o'.live = true ∧ φ n = x
        · exact .inr hl
        · refine .inl ?_
          cases eh : H x with
          | none => rfl
          | some o2 =>
            rw [a.fr x o2 eh fun n o' e1 l e2 => hl ⟨n, o', e1, l, e2⟩] at h3; cases h3
      · by_cases hlt : n < m.length
        · have e0 : m[n]? = some m[n] := List.getElem?_eq_getElem hlt
          by_cases hl : (m[n]).live = true
          · exact .inr ⟨n, _, e0, hl, by rw [← a.ext n hlt]; exact e2⟩
          · have hd := a.dead n (by rw [e0, Cel.dead_of hl])
            rw [hd] at e1; cases e1; simp [Cel.live] at l
        · have hn2 := a.new n (by omega) (List.getElem?_eq_some_iff.mp e1).1
          rw [e2] at hn2; exact .inl hn2
  new := fun n h1 h2 => by
    by_cases hlt : n < m1.length
    · rw [b.ext n hlt]; exact a.new n h1 hlt
    · have q := b.new n (by omega) h2
      cases e : H (φ2 n) with
      | none => rfl
      | some o =>
        exfalso
        -- φ2 n is not live in m, so it would be kept
        by_cases hl : ∀ k o', m[k]? = some o' → o'.live = true → φ k ≠ φ2 n
        · rw [a.fr _ _ e hl] at q; cases q
        · simp only [Classical.not_forall, Classical.not_not, exists_prop] at hl
          obtain ⟨k, o', e1, l, e2⟩ := hl
          have hk := (List.getElem?_eq_some_iff.mp e1).1
          have hk1 : k < m1.length := Nat.lt_of_lt_of_le hk a.len
          obtain ⟨ho, eh, _⟩ := a.rel.cell k _ (List.getElem?_eq_getElem hk1)
          rw [a.ext k hk, e2, q] at eh; cases eh
theorem RepV.step (s : Stp K φ F m H φ1 F1 m1 H1) : ∀ {v : V} {x : Val}, RepV K φ F m v x → RepV K φ1 F1 m1 v x
  | _, .d _, h => Rep.mono s.exF h
  | _, .cell n, h => ⟨by rw [s.ext n h.2]; exact h.1, Nat.lt_of_lt_of_le h.2 s.len⟩
theorem RepVs.step (s : Stp K φ F m H φ1 F1 m1 H1) : ∀ {vs : List V} {xs : List Val}, RepVs K φ F m vs xs → RepVs K φ1 F1 m1 vs xs
  | _, _, .nil => .nil
  | _, _, .cons h r => .cons (RepV.step s h) (RepVs.step s r)
theorem RepE.step {σ : L2.St} {ρ : Ev} (s : Stp K φ F m H φ1 F1 m1 H1) (h : RepE K φ F m σ ρ) : RepE K φ1 F1 m1 σ ρ := fun i v e => by
  obtain ⟨u, e1, r⟩ := h i v e
  exact ⟨u, e1, RepV.step s r⟩
theorem RepE.set {σ : L2.St} {ρ : Ev} {i : Nat} {u : V} {v : Val} (h : RepE K φ F m σ ρ) (hl : σ.length = ρ.length) (r : RepV K φ F m u v) : RepE K φ F m (σ.set i (some u)) (ρ.set i (some v)) := fun j w e => by
  by_cases hj : i = j
  · subst hj
    by_cases hi : i < ρ.length
    · rw [List.getElem?_set_self hi] at e; cases e
      exact ⟨u, List.getElem?_set_self (by omega), r⟩
    · rw [List.getElem?_eq_none (by simpa using Nat.le_of_not_lt hi)] at e; cases e
  · rw [List.getElem?_set_ne hj] at e
    obtain ⟨u', e1, r1⟩ := h j w e
    exact ⟨u', by rw [List.getElem?_set_ne hj]; exact e1, r1⟩
end
end AW
set_option maxRecDepth 100000
namespace AW
open PySem L2
abbrev Wsh := Exc → (Nat → Addr) → Hp → Store → Hp → Prop
def Post {α β : Type} (K : Frag) (W : Wsh) (R : (Nat → Addr) → Hp → Store → β → α → Prop) (φ : Nat → Addr) (F : Hp) (m : Store) (H : Hp) (o : Out α) (Q : β → Hp → Prop) : Prop :=
  match o with
  | .ok a m' => ∀ φ' F' H' b, Stp K φ F m H φ' F' m' H' → R φ' F' m' b a → Q b H'
  | .exc x m' => ∀ φ' F' H', Stp K φ F m H φ' F' m' H' → W x φ' F' m' H'
  | .bad => False
abbrev RVl (K : Frag) : (Nat → Addr) → Hp → Store → V → Val → Prop := fun φ F m u v => RepV K φ F m u v
abbrev RVs (K : Frag) : (Nat → Addr) → Hp → Store → List V → List Val → Prop := fun φ F m u v => RepVs K φ F m u v
abbrev REq {α : Type} : (Nat → Addr) → Hp → Store → α → α → Prop := fun _ _ _ u v => u = v
abbrev RDs (K : Frag) : (Nat → Addr) → Hp → Store → List V → List D → Prop := fun _ F _ u v => Reps K F u v
section
variable {K : Frag} {W : Wsh} {φ φ1 φ2 : Nat → Addr} {F F1 F2 : Hp} {m m1 m2 : Store} {H H1 H2 : Hp}
theorem Post.step {α β : Type} {R : (Nat → Addr) → Hp → Store → β → α → Prop} {o : Out α} {Q : β → Hp → Prop} (R0 : RelS K φ F m H) (h : Post K W R φ F m H o Q) (s : Stp K φ F m H φ1 F1 m1 H1) : Post K W R φ1 F1 m1 H1 o Q := by
  cases o with
  | ok a m' => exact fun φ' F' H' b s' r => h φ' F' H' b (s.trans s' R0) r
  | exc x m' => exact fun φ' F' H' s' => h φ' F' H' (s.trans s' R0)
  | bad => exact h
theorem Post.bind {α β γ δ : Type} {Ra : (Nat → Addr) → Hp → Store → β → α → Prop} {Rc : (Nat → Addr) → Hp → Store → δ → γ → Prop} {o : Out α} {k : α → Store → Out γ} {Q : δ → Hp → Prop} {Q1 : β → Hp → Prop}
    (R0 : RelS K φ F m H) (h : Post K W Rc φ F m H (o.bind k) Q)
    (hk : ∀ a m1 φ1 F1 H1 b, Stp K φ F m H φ1 F1 m1 H1 → Ra φ1 F1 m1 b a → Post K W Rc φ1 F1 m1 H1 (k a m1) Q → Q1 b H1) : Post K W Ra φ F m H o Q1 := by
  cases o with
  | ok a m' => exact fun φ' F' H' b s' r => hk a m' φ' F' H' b s' r (Post.step R0 h s')
  | exc x m' => exact h
  | bad => exact h
theorem Post.lift {α γ δ : Type} {Rc : (Nat → Addr) → Hp → Store → δ → γ → Prop} {o : Option α} {k : α → Store → Out γ} {Q : δ → Hp → Prop} (h : Post K W Rc φ F m H ((lift m o).bind k) Q) : ∃ a, o = some a ∧ Post K W Rc φ F m H (k a m) Q := by
  cases o with
  | none => exact h.elim
  | some a => exact ⟨a, rfl, h⟩
theorem Post.lift0 {α δ : Type} {Rc : (Nat → Addr) → Hp → Store → δ → α → Prop} {o : Option α} {Q : δ → Hp → Prop} (h : Post K W Rc φ F m H (AW.lift m o) Q) : ∃ a, o = some a ∧ Post K W Rc φ F m H (.ok a m) Q := by
  cases o with
  | none => exact h.elim
  | some a => exact ⟨a, rfl, h⟩
theorem Post.ok0 {α β : Type} {R : (Nat → Addr) → Hp → Store → β → α → Prop} {a : α} {b : β} {Q : β → Hp → Prop} (R0 : RelS K φ F m H) (h : Post K W R φ F m H (.ok a m) Q) (r : R φ F m b a) : Q b H := h φ F H b (Stp.refl R0) r
/-! ### how the state moves -/
theorem RelS.fresh (R : RelS K φ F m H) {p : Addr} (hp : H p = none) : F p = none := R.sub.free hp
theorem RelS.ne (R : RelS K φ F m H) {p : Addr} (hp : H p = none) {n : Nat} (hn : n < m.length) : φ n ≠ p := by
  obtain ⟨ho, e, _⟩ := R.cell n _ (List.getElem?_eq_getElem hn)
  exact ne_of_none e hp
/-- a new datum's object -/
theorem Stp.newF (R : RelS K φ F m H) {p : Addr} {o : HO} (hp : H p = none) : Stp K φ F m H φ (upd F p o) m (upd H p o) where
  len := Nat.le_refl _
  ext := fun _ _ => rfl
  exF := Ext.new (R.fresh hp)
  fr := fun a u e _ => by rw [upd_ne (ne_of_none e hp)]; exact e
  dead := fun _ h => h
  new := fun n h1 h2 => absurd h2 (by omega)
  own := fun a u e1 e2 => by
    by_cases ha : a = p
    · subst ha; exact .inl hp
    · rw [upd_ne ha, e2] at e1; cases e1
  rel := by
    refine ⟨fun a u e => ?_, fun n c e => ?_, R.inj⟩
    · by_cases ha : a = p
      · subst ha; rw [upd_same] at e ⊢; exact e
      · rw [upd_ne ha] at e ⊢; exact R.sub a u e
    · obtain ⟨ho, e1, e2⟩ := R.cell n c e
      have hne : φ n ≠ p := R.ne hp (List.getElem?_eq_some_iff.mp e).1
      refine ⟨ho, by rw [upd_ne hne]; exact e1, fun l => ?_⟩
      obtain ⟨e3, e4⟩ := e2 l
      exact ⟨by rw [upd_ne hne]; exact e3, RepO.mono (Ext.new (R.fresh hp)) e4⟩
/-- an object that nobody speaks of -/
theorem Stp.newN (R : RelS K φ F m H) {p : Addr} {o : HO} (hp : H p = none) : Stp K φ F m H φ F m (upd H p o) where
  len := Nat.le_refl _
  ext := fun _ _ => rfl
  exF := Ext.refl _
  fr := fun a u e _ => by rw [upd_ne (ne_of_none e hp)]; exact e
  dead := fun _ h => h
  new := fun n h1 h2 => absurd h2 (by omega)
  own := fun a u e1 e2 => by rw [e1] at e2; cases e2
  rel := by
    refine ⟨fun a u e => ?_, fun n c e => ?_, R.inj⟩
    · rw [upd_ne (ne_of_none (R.sub a u e) hp)]; exact R.sub a u e
    · obtain ⟨ho, e1, e2⟩ := R.cell n c e
      have hne : φ n ≠ p := R.ne hp (List.getElem?_eq_some_iff.mp e).1
      exact ⟨ho, by rw [upd_ne hne]; exact e1, e2⟩
/-- a new cell -/
theorem Stp.newC (R : RelS K φ F m H) {p : Addr} {o : HO} {c : Cel} (hp : H p = none) (ro : RepO K F o c) : Stp K φ F m H (fun n => if n = m.length then p else φ n) F (m ++ [c]) (upd H p o) := by
  have hN : ∀ n, n < m.length → (if n = m.length then p else φ n) = φ n := fun n h => if_neg (by omega)
  refine ⟨by simp, hN, Ext.refl _, fun a u e _ => by rw [upd_ne (ne_of_none e hp)]; exact e, fun n e => ?_, fun n h1 h2 => ?_, (fun a u e1 e2 => by rw [e1] at e2; cases e2), ⟨fun a u e => ?_, fun n c' e => ?_, fun n n' h1 h2 e => ?_⟩⟩
  · have hn := (List.getElem?_eq_some_iff.mp e).1
    rw [List.getElem?_append_left hn]; exact e
  · have : n = m.length := by simp at h2; omega
    subst this; simp [hp]
  · rw [upd_ne (ne_of_none (R.sub a u e) hp)]; exact R.sub a u e
  · by_cases hn : n < m.length
    · rw [List.getElem?_append_left hn] at e
      obtain ⟨ho, e1, e2⟩ := R.cell n c' e
      rw [hN n hn]
      exact ⟨ho, by rw [upd_ne (R.ne hp hn)]; exact e1, e2⟩
    · have hl := (List.getElem?_eq_some_iff.mp e).1
      have hn' : n = m.length := by simp at hl; omega
      subst hn'
      simp at e; subst e
      simp only [if_pos rfl, if_true]
      exact ⟨o, upd_same, fun _ => ⟨R.fresh hp, ro⟩⟩
  · simp at h1 h2
    by_cases hn : n < m.length
    · by_cases hn' : n' < m.length
      · rw [hN n hn, hN n' hn'] at e; exact R.inj n n' hn hn' e
      · have : n' = m.length := by omega
        subst this
        rw [hN n hn] at e; simp at e
        exact absurd e (R.ne hp hn)
    · have : n = m.length := by omega
      subst this
      by_cases hn' : n' < m.length
      · rw [hN n' hn'] at e; simp at e
        exact absurd e.symm (R.ne hp hn')
      · omega
/-- a cell is written -/
theorem Stp.write (R : RelS K φ F m H) {n : Nat} {c c' : Cel} {o : HO} (e : m[n]? = some c) (hl : c.live = true) (hl' : c'.live = true) (ro : RepO K F o c') : Stp K φ F m H φ F (m.set n c') (upd H (φ n) o) := by
  have hn := (List.getElem?_eq_some_iff.mp e).1
  obtain ⟨ho, e1, e2⟩ := R.cell n c e
  refine ⟨by simp, fun _ _ => rfl, Ext.refl _, fun a u ea hne => by rw [upd_ne (fun q => hne n c e hl q.symm)]; exact ea, fun k ek => ?_, fun k h1 h2 => absurd h2 (by simp; omega), (fun a u e1 e2 => by rw [e1] at e2; cases e2), ⟨fun a u ea => ?_, fun k c2 ek => ?_, fun k k' h1 h2 => R.inj k k' (by simpa using h1) (by simpa using h2)⟩⟩
  · by_cases hk : n = k
    · subst hk; rw [e] at ek; cases ek; simp [Cel.live] at hl
    · rw [List.getElem?_set_ne hk]; exact ek
  · have : a ≠ φ n := fun q => by subst q; rw [(e2 hl).1] at ea; cases ea
    rw [upd_ne this]; exact R.sub a u ea
  · by_cases hk : n = k
    · subst hk
      rw [List.getElem?_set_self hn] at ek; cases ek
      exact ⟨o, upd_same, fun _ => ⟨(e2 hl).1, ro⟩⟩
    · rw [List.getElem?_set_ne hk] at ek
      obtain ⟨ho', e3, e4⟩ := R.cell k c2 ek
      have hkl := (List.getElem?_eq_some_iff.mp ek).1
      exact ⟨ho', by rw [upd_ne (fun q => hk (R.inj n k hn hkl q.symm))]; exact e3, e4⟩
/-- a cell is frozen to a datum -/
theorem Stp.kill (R : RelS K φ F m H) {n : Nat} {c : Cel} {o : HO} (e : m[n]? = some c) (hl : c.live = true) (eo : H (φ n) = some o) : Stp K φ F m H φ (upd F (φ n) o) (m.set n .dead) H := by
  have hn := (List.getElem?_eq_some_iff.mp e).1
  obtain ⟨ho, e1, e2⟩ := R.cell n c e
  refine ⟨by simp, fun _ _ => rfl, Ext.new (e2 hl).1, fun a u ea hne => ea, fun k ek => ?_, fun k h1 h2 => absurd h2 (by simp; omega), (fun a u h1 h2 => by
    by_cases ha : a = φ n
    · exact .inr ⟨n, c, e, hl, ha.symm⟩
    · rw [upd_ne ha, h2] at h1; cases h1), ⟨fun a u ea => ?_, fun k c2 ek => ?_, fun k k' h1 h2 => R.inj k k' (by simpa using h1) (by simpa using h2)⟩⟩
  · by_cases hk : n = k
    · subst hk; rw [List.getElem?_set_self hn]
    · rw [List.getElem?_set_ne hk]; exact ek
  · by_cases ha : a = φ n
    · subst ha; rw [upd_same] at ea; rw [eo]; exact ea
    · rw [upd_ne ha] at ea; exact R.sub a u ea
  · by_cases hk : n = k
    · subst hk
      rw [List.getElem?_set_self hn] at ek; cases ek
      exact ⟨o, eo, fun l => by simp [Cel.live] at l⟩
    · rw [List.getElem?_set_ne hk] at ek
      obtain ⟨ho', e3, e4⟩ := R.cell k c2 ek
      have hkl := (List.getElem?_eq_some_iff.mp ek).1
      refine ⟨ho', e3, fun l => ?_⟩
      obtain ⟨e5, e6⟩ := e4 l
      exact ⟨by rw [upd_ne (fun q => hk (R.inj n k hn hkl q.symm))]; exact e5, RepO.mono (Ext.new (e2 hl).1) e6⟩
/-! ### what a value is read as -/
def PV (K : Frag) (F H : Hp) (u : V) (d : D) : Prop := Rep K F u d ∨ (∃ a vs ds, d = .lst ds ∧ u = .ref a ∧ H a = some (.lst vs) ∧ Reps K F vs ds) ∨
  ∃ a kvs ks vs, d = .dct ks vs ∧ u = .ref a ∧ H a = some (.dK kvs) ∧ kvs.map (fun p => keyD p.1) = ks ∧ Reps K F (kvs.map (·.2)) vs
theorem pv_of (R : RelS K φ F m H) {u : V} {v : Val} {d : D} (r : RepV K φ F m u v) (e : peek m v = some d) : PV K F H u d := by
  cases v with
  | d x => cases e; exact .inl r
  | cell n =>
    obtain ⟨rfl, hn⟩ := r
    obtain ⟨ho, e1, e2⟩ := R.cell n _ (List.getElem?_eq_getElem hn)
    simp only [peek, List.getElem?_eq_getElem hn] at e
    cases hc : m[n] with
    | lst ds =>
      rw [hc] at e e2; cases e
      obtain ⟨_, e4⟩ := e2 rfl
      cases ho <;> first | exact e4.elim | skip
      exact .inr (.inl ⟨_, _, _, rfl, rfl, e1, e4⟩)
    | dct ks vs =>
      rw [hc] at e e2; cases e
      obtain ⟨_, e4⟩ := e2 rfl
      cases ho <;> first | exact e4.elim | skip
      exact .inr (.inr ⟨_, _, _, _, rfl, rfl, e1, e4.1, e4.2⟩)
    | dead => rw [hc] at e; cases e
theorem PV.int {u : V} {i : Int} (h : PV K F H u (.int i)) : u = .int i := by
  rcases h with h | ⟨_, _, _, e, _⟩ | ⟨_, _, _, _, e, _⟩
  · cases h; rfl
  · cases e
  · cases e
theorem PV.bl {u : V} {i : Bool} (h : PV K F H u (.bl i)) : u = .bl i := by
  rcases h with h | ⟨_, _, _, e, _⟩ | ⟨_, _, _, _, e, _⟩
  · cases h; rfl
  · cases e
  · cases e
theorem PV.str {u : V} {i : Str} (h : PV K F H u (.str i)) : u = .str i := by
  rcases h with h | ⟨_, _, _, e, _⟩ | ⟨_, _, _, _, e, _⟩
  · cases h; rfl
  · cases e
  · cases e
theorem PV.non {u : V} (h : PV K F H u .non) : u = .non := by
  rcases h with h | ⟨_, _, _, e, _⟩ | ⟨_, _, _, _, e, _⟩
  · cases h; rfl
  · cases e
  · cases e
theorem PV.tup {u : V} {ds : List D} (h : PV K F H u (.tup ds)) : ∃ a vs, u = .ref a ∧ SqT K F a vs ∧ Reps K F vs ds := by
  rcases h with h | ⟨_, _, _, e, _⟩ | ⟨_, _, _, _, e, _⟩
  · cases h with | tup h r => exact ⟨_, _, rfl, h, r⟩
  · cases e
  · cases e
theorem PV.lst {u : V} {ds : List D} (S : Ext F H) (h : PV K F H u (.lst ds)) : ∃ a vs, u = .ref a ∧ SqL K H a vs ∧ Reps K F vs ds := by
  rcases h with h | ⟨a, vs, ds', e, e1, e2, e3⟩ | ⟨_, _, _, _, e, _⟩
  · cases h with | lst h r => exact ⟨_, _, rfl, S.l h, r⟩
  · cases e; exact ⟨a, vs, e1, SqL.of e2, e3⟩
  · cases e
theorem PV.dct {u : V} {ks vs : List D} (S : Ext F H) (h : PV K F H u (.dct ks vs)) : ∃ a kvs, u = .ref a ∧ H a = some (.dK kvs) ∧ kvs.map (fun p => keyD p.1) = ks ∧ Reps K F (kvs.map (·.2)) vs := by
  rcases h with h | ⟨_, _, _, e, _⟩ | ⟨a, kvs, ks', vs', e, e1, e2, e3, e4⟩
  · cases h with | dct h h1 r => exact ⟨_, _, rfl, S _ _ h, h1, r⟩
  · cases e
  · cases e; exact ⟨a, kvs, e1, e2, e3, e4⟩
theorem PV.dp {u : V} {d : D} {p : PyData} (S : Ext F H) (h : PV K F H u d) (e : d.py = some p) : Dp K H u p := by
  rcases h with h | ⟨a, vs, ds', rfl, e1, e2, e3⟩ | ⟨a, kvs, ks', vs', rfl, e1, e2, e3⟩
  · exact Rep.dp (Rep.mono S h) e
  · simp [D.py] at e
    obtain ⟨ps, e4, rfl⟩ := e
    subst e1
    exact .lst (SqL.of e2) (Reps.dps (Reps.mono S e3) e4)
  · simp [D.py] at e
end
end AW
set_option maxRecDepth 100000
namespace AW
open PySem L2
def rd {α β : Type} (K : Frag) (W : Wsh) (R : (Nat → Addr) → Hp → Store → β → α → Prop) (o : Ev → Store → Out α) : L2.St → Hp → (β → Hp → Prop) → Prop := fun σ H Q =>
  ∃ φ F ρ m, RelS K φ F m H ∧ RepE K φ F m σ ρ ∧ σ.length = ρ.length ∧ Post K W R φ F m H (o ρ m) Q
abbrev rdE (K : Frag) (W : Wsh) (o : Ev → Store → Out Val) : TE := rd K W (RVl K) o
abbrev rdT (K : Frag) (W : Wsh) (o : Ev → Store → Out Bool) : TT := rd K W REq o
abbrev rdA (K : Frag) (W : Wsh) (o : Ev → Store → Out (List Val)) : TA := rd K W (RVs K) o
abbrev rdO (K : Frag) (W : Wsh) (o : Ev → Store → Out (Option Int)) : TO := rd K W REq o
theorem rd_bind {α β γ δ : Type} {K : Frag} {W : Wsh} {Ra : (Nat → Addr) → Hp → Store → β → α → Prop} {Rc : (Nat → Addr) → Hp → Store → δ → γ → Prop} {oa : Ev → Store → Out α} {k : Ev → α → Store → Out γ} {σ : L2.St} {H : Hp} {Q : δ → Hp → Prop} {Q1 : β → Hp → Prop}
    (h : rd K W Rc (fun ρ m => (oa ρ m).bind (k ρ)) σ H Q)
    (hk : ∀ φ F ρ m H1 a b, RelS K φ F m H1 → RepE K φ F m σ ρ → σ.length = ρ.length → Ra φ F m b a → Post K W Rc φ F m H1 (k ρ a m) Q → Q1 b H1) : rd K W Ra oa σ H Q1 := by
  obtain ⟨φ, F, ρ, m, R, E, L, h⟩ := h
  exact ⟨φ, F, ρ, m, R, E, L, Post.bind R h fun a m1 φ1 F1 H1 b s r h => hk φ1 F1 ρ m1 H1 a b s.rel (E.step s) L r h⟩
theorem PEmono {X : Cx} {e : Expr} {t t' : TE} (h : PE X e t) (i : ∀ σ H Q, t' σ H Q → t σ H Q) : PE X e t' := ⟨fun pins s σ H Q I q => h.run pins s σ H Q I (i _ _ _ q)⟩
theorem PTmono {X : Cx} {e : Expr} {t t' : TT} (h : PT X e t) (i : ∀ σ H Q, t' σ H Q → t σ H Q) : PT X e t' := ⟨fun pins s σ H Q I q => h.run pins s σ H Q I (i _ _ _ q)⟩
theorem PWmono {X : Cx} {e : Expr} {t t' : TT} (h : PW X e t) (i : ∀ σ H Q, t' σ H Q → t σ H Q) : PW X e t' := ⟨fun w pins s σ H Q I q => h.run w pins s σ H Q I (i _ _ _ q)⟩
theorem PAmono {X : Cx} {e : List Expr} {t t' : TA} (h : PA X e t) (i : ∀ σ H Q, t' σ H Q → t σ H Q) : PA X e t' := ⟨fun p pins s σ H Q I q => h.run p pins s σ H Q I (i _ _ _ q)⟩
theorem POmono {X : Cx} {e : Option Expr} {t t' : TO} (h : PO X e t) (i : ∀ σ H Q, t' σ H Q → t σ H Q) : PO X e t' := ⟨fun pins s σ H Q I q => h.run pins s σ H Q I (i _ _ _ q)⟩
section
variable {X : Cx} {W : Wsh} {a b c : Expr} {oa ob oc : Ev → Store → Out Val} {pos : Pos}
/-! ### names, constants -/
theorem snd_var {i : Nat} {x : Str} (hN : X.N[i]? = some x) (hv : Vis X.env.scope x) (hd : (x == ("__debug__" : Str)) = false) (hcd : (x == ("__classdict__" : Str)) = false) : PE X (.Name x pos) (rdE X.K W (evVar i)) := PEmono (pe_var hN hv hd hcd) fun σ H Q h => by
  obtain ⟨φ, F, ρ, m, R, E, L, h⟩ := h
  cases e : ρ[i]? with
  | none => simp only [evVar, e] at h; exact h.elim
  | some o =>
    cases o with
    | none => simp only [evVar, e] at h; exact h.elim
    | some v =>
      simp only [evVar, e] at h
      obtain ⟨u, e1, r⟩ := E i v e
      exact ⟨u, e1, Post.ok0 R h r⟩
theorem snd_con {ex : Expr} {v : V} {d : D} (h : PE X ex (tC v)) (r : ∀ F, Rep X.K F v d) : PE X ex (rdE X.K W (evCon d)) := PEmono h fun σ H Q h => by
  obtain ⟨φ, F, ρ, m, R, E, L, h⟩ := h
  exact Post.ok0 R h (r F)
/-! ### operators -/
def OkD (K : Frag) (W : Wsh) (φ : Nat → Addr) (F : Hp) (m : Store) (H : Hp) (z : D) (Q : VK) : Prop := Post K W (RVl K) φ F m H (.ok (.d z) m) Q
theorem OkD.at {K : Frag} {W : Wsh} {φ : Nat → Addr} {F : Hp} {m : Store} {H : Hp} {z : D} {Q : VK} {u : V} (R : RelS K φ F m H) (h : OkD K W φ F m H z Q) (r : Rep K F u z) : Q u H := Post.ok0 (R := RVl K) R h r
theorem OkD.new {K : Frag} {W : Wsh} {φ : Nat → Addr} {F : Hp} {m : Store} {H : Hp} {z : D} {Q : VK} {o : HO} {p : Addr} (R : RelS K φ F m H) (h : OkD K W φ F m H z Q) (hp : H p = none) (r : Rep K (upd F p o) (.ref p) z) : Q (.ref p) (upd H p o) := h φ _ _ _ (Stp.newF R hp) r
theorem OkD.lst {K : Frag} {W : Wsh} {φ : Nat → Addr} {F : Hp} {m : Store} {H : Hp} {vs : List V} {ds : List D} {Q : VK} {p : Addr} (R : RelS K φ F m H) (h : OkD K W φ F m H (.lst ds) Q) (hp : H p = none) (r : Reps K F vs ds) : Q (.ref p) (upd H p (.lst vs)) :=
  h.new R hp (.lst (SqL.of upd_same) (r.mono (Ext.new (R.fresh hp))))
theorem OkD.tup {K : Frag} {W : Wsh} {φ : Nat → Addr} {F : Hp} {m : Store} {H : Hp} {vs : List V} {ds : List D} {Q : VK} {p : Addr} (R : RelS K φ F m H) (h : OkD K W φ F m H (.tup ds) Q) (hp : H p = none) (r : Reps K F vs ds) : Q (.ref p) (upd H p (.tup vs)) :=
  h.new R hp (.tup (SqT.of upd_same) (r.mono (Ext.new (R.fresh hp))))
/-- an operation on two data -/
def r2 (K : Frag) (W : Wsh) (f : D → D → Option D) : R2 := fun x y H Q => ∃ φ F m dx dy z, RelS K φ F m H ∧ PV K F H x dx ∧ PV K F H y dy ∧ f dx dy = some z ∧ OkD K W φ F m H z Q
theorem rd_ev2 {K : Frag} {f : D → D → Option D} {σ : L2.St} {H : Hp} {Q : VK} (h : rdE K W (ev2 f oa ob) σ H Q) : tOp (r2 K W f) (rdE K W oa) (rdE K W ob) σ H Q := by
  refine rd_bind h fun φ F ρ m H1 x u R E L rx h => ?_
  refine ⟨φ, F, ρ, m, R, E, L, Post.bind R h fun y m1 φ1 F1 H2 w s ry h => ?_⟩
  obtain ⟨dx, ex, h⟩ := h.lift
  obtain ⟨dy, ey, h⟩ := h.lift
  obtain ⟨z, ez, h⟩ := h.lift
  exact ⟨φ1, F1, m1, dx, dy, z, s.rel, pv_of s.rel (RepV.step s rx) ex, pv_of s.rel ry ey, ez, h⟩
theorem snd_op {op : Operator} (ho : OpR X (binaryOp op) (r2 X.K W (binD op))) (ha : PE X a (rdE X.K W oa)) (hb : PE X b (rdE X.K W ob)) : PE X (.BinOp a op b pos) (rdE X.K W (ev2 (binD op) oa ob)) := PEmono (pe_op ho ha hb) fun _ _ _ h => rd_ev2 h
theorem op_catR : OpR X (binaryOp .Add) (fun x y H Q => ∃ l b xs zs, x = .ref l ∧ y = .ref b ∧ SqL X.K H l xs ∧ SqL X.K H b zs ∧ xs.length + zs.length ≤ sizeLine ∧ ∀ p, H p = none → Q (.ref p) (upd H p (.lst (xs ++ zs)))) := by
  intro pins s σ H x y v u Q I rx ry h
  obtain ⟨l, b, xs, zs, rfl, rfl, hL, hB, hz, q⟩ := h
  cases rx
  cases ry
  obtain ⟨is, r1, ⟨⟨c1, d1, a1, sl1⟩, n1, e1, p1, p2, p3⟩, z1⟩ := I.list hL
  obtain ⟨js, r2, ⟨⟨c2, d2, a2, sl2⟩, n2, e2, q1, q2, q3⟩, z2⟩ := I.list hB
  simp only at p1 p2 p3 q1 q2 q3
  subst p1 p2 p3 q1 q2 q3
  have l1 := r1.length
  have l2 := r2.length
  refine PySem.concat_meets ⟨_, e1, rfl⟩ ⟨_, e2, rfl⟩ PySem.noFill_list_add PySem.seq_list_add PySem.F.slot_list_add PySem.F.entry_list_add (PySem.F.args_list_add_2 _ _)
    (PyProof.Rows.list_addW l b is.toArray js.toArray n1 n2 none none sl1 sl2 (by simp; omega)) ⟨e1, e2, ?_⟩
  have ea : is.toArray ++ js.toArray = (is ++ js).toArray := by simp
  rw [ea]
  exact ⟨.ref _, _, I.lnew (t' := s.toks) (r1.append r2) (by rw [List.length_append]; omega), rfl, q _ I.fresh⟩
theorem op_powW : OpR X (binaryOp .Pow) (rI (fun i j => 0 ≤ j ∧ (Builtin.Int.intBits i : Int) * j ≤ 2 ^ 27) fun i j => .int (i ^ j.toNat)) := opI fun _ _ _ _ _ _ _ hc q => PyProof.Rows.pow_int hc.1 hc.2 q
theorem op_bin (op : Operator) : OpR X (binaryOp op) (r2 X.K W (binD op)) := by
  intro pins s σ H x y v u Q I rx ry h
  obtain ⟨φ, F, m, dx, dy, z, R, px, py, e, h⟩ := h
  unfold binD at e
  split at e
  · cases e; exact op_add pins s σ H x y v u Q I rx ry ⟨_, _, px.int, py.int, h.at R (.int _)⟩
  · split at e
    · rename_i hs; cases e
      exact op_add_str pins s σ H x y v u Q I rx ry ⟨_, _, px.str, py.str, of_decide_eq_true hs, h.at R (.str _)⟩
    · cases e
  · split at e
    · rename_i hs; cases e
      obtain ⟨p, vs, rfl, h1, r1⟩ := px.tup
      obtain ⟨q, ws, rfl, h2, r3⟩ := py.tup
      refine op_catA pins s σ H _ _ v u Q I rx ry ⟨p, q, vs, ws, rfl, rfl, R.sub.t h1, R.sub.t h2, by rw [r1.length, r3.length]; exact of_decide_eq_true hs, fun e => ?_, fun _ e => ?_, fun _ _ l hl => ?_⟩
      · subst e; cases r1; exact h.at R (.tup h2 r3)
      · subst e; cases r3
        refine h.at R (.tup h1 ?_)
        rw [List.append_nil]; exact r1
      · exact h.tup R hl (r1.append r3)
    · cases e
  · split at e
    · rename_i hs; cases e
      obtain ⟨p, vs, rfl, h1, r1⟩ := px.lst R.sub
      obtain ⟨q, ws, rfl, h2, r3⟩ := py.lst R.sub
      refine op_catR pins s σ H _ _ v u Q I rx ry ⟨p, q, vs, ws, rfl, rfl, h1, h2, by rw [r1.length, r3.length]; exact of_decide_eq_true hs, fun l hl => ?_⟩
      exact h.lst R hl (r1.append r3)
    · cases e
  · cases e; exact op_sub pins s σ H x y v u Q I rx ry ⟨_, _, px.int, py.int, h.at R (.int _)⟩
  · split at e
    · rename_i hs; cases e
      unfold cmul at hs
      rcases Bool.or_eq_true_iff.mp hs with hs | hs
      · refine op_mul pins s σ H x y v u Q I rx ry ⟨_, _, px.int, py.int, ?_, h.at R (.int _)⟩
        simpa [CMul] using hs
      · exact op_mulW pins s σ H x y v u Q I rx ry ⟨_, _, px.int, py.int, by simpa [CMulW] using hs, h.at R (.int _)⟩
    · cases e
  · split at e
    · rename_i hs; cases e
      exact op_fdivN pins s σ H x y v u Q I rx ry ⟨_, _, px.int, py.int, by simpa [CDivN] using hs, h.at R (.int _)⟩
    · cases e
  · split at e
    · rename_i hs; cases e
      exact op_modN pins s σ H x y v u Q I rx ry ⟨_, _, px.int, py.int, hs, h.at R (.int _)⟩
    · cases e
  · split at e
    · rename_i hs; cases e
      simp only [Bool.and_eq_true, decide_eq_true_eq] at hs
      exact op_powW pins s σ H x y v u Q I rx ry ⟨_, _, px.int, py.int, hs, h.at R (.int _)⟩
    · cases e
  · cases e
end
end AW
set_option maxRecDepth 100000
namespace AW
open PySem L2
section
variable {K : Frag} {F H : Hp}
theorem PV.any_lst {u : V} {d : D} (h : PV K F H u d) (S : Ext F H) {ds : List D} (e : d = .lst ds) : ∃ a vs, u = .ref a ∧ SqL K H a vs ∧ Reps K F vs ds := by subst e; exact h.lst S
theorem Rep.isN {u : V} {d : D} (h : PV K F H u d) : decide (u = .non) = d.isNon := by
  rcases h with h | ⟨a, vs, ds, rfl, rfl, _⟩ | ⟨a, kvs, ks, vs, rfl, rfl, _⟩
  · cases h <;> rfl
  · rfl
  · rfl
theorem PV.flat {u : V} {d : D} (h : PV K F H u d) (e : scalD d = true) : flatV u = true := by
  cases d <;> simp [scalD] at e
  · rw [h.non]; rfl
  · rw [h.bl]; rfl
  · rw [h.int]; rfl
  · rw [h.str]; rfl
theorem Rep.pv {u : V} {d : D} (h : Rep K F u d) : PV K F H u d := .inl h
theorem Reps.flat : ∀ {vs : List V} {ds : List D}, Reps K F vs ds → ds.all scalD = true → vs.all flatV = true
  | _, _, .nil, _ => rfl
  | _, _, .cons h r, e => by
    rw [List.all_cons, Bool.and_eq_true] at e ⊢
    exact ⟨PV.flat (H := F) (.inl h) e.1, Reps.flat r e.2⟩
theorem eqV_eqS {u w : V} {d e : D} (h1 : PV K F H u d) (h2 : PV K F H w e) (s1 : scalD d = true) (s2 : scalD e = true) : eqV u w = eqS d e := by
  cases d <;> simp [scalD] at s1 <;> cases e <;> simp [scalD] at s2 <;> (first | rw [h1.non] | rw [h1.bl] | rw [h1.int] | rw [h1.str]) <;> (first | rw [h2.non] | rw [h2.bl] | rw [h2.int] | rw [h2.str]) <;> rfl
theorem inV_eq {w : V} {e : D} (h2 : PV K F H w e) (s2 : scalD e = true) : ∀ {vs : List V} {ds : List D}, Reps K F vs ds → ds.all scalD = true → inV w vs = ds.any fun z => eqS z e
  | _, _, .nil, _ => rfl
  | _, _, .cons h r, q => by
    rw [List.all_cons, Bool.and_eq_true] at q
    show (eqV _ w || inV w _) = (eqS _ e || _)
    rw [eqV_eqS (H := H) (.inl h) h2 q.1 s2, inV_eq h2 s2 r q.2]
theorem atI_reps {vs : List V} {ds : List D} {i : Int} {d : D} (r : Reps K F vs ds) (e : atI ds i = some d) : ∃ v, atI vs i = some v ∧ Rep K F v d := by
  unfold atI at e ⊢
  rw [r.length]
  cases q : ixN ds.length i with
  | none => rw [q] at e; cases e
  | some j => rw [q] at e; exact r.get e
theorem Reps.cut {vs : List V} {ds : List D} (r : Reps K F vs ds) (lo hi : Option Int) : Reps K F (cutV vs lo hi) (cutD ds lo hi) := by
  unfold cutV cutD
  rw [r.length]
  exact (r.drop _).take _
end
section
variable {X : Cx} {W : Wsh} {a b c : Expr} {oa ob oc : Ex} {pos : Pos}
/-! ### comparisons -/
theorem op_cmp (hu : X.A.units + 64 < cLine) (op : CmpOp) : OpR X (compareOp op) (r2 X.K W (cmpV op)) := by
  intro pins s σ H x y v u Q I rx ry h
  obtain ⟨φ, F, m, dx, dy, z, R, px, py, e, h⟩ := h
  unfold cmpV at e
  cases ec : cmpD op dx dy with
  | none => rw [ec] at e; cases e
  | some k =>
    rw [ec] at e; cases e
    have hq : Q (.bl k) H := h.at R (.bl k)
    unfold cmpD at ec
    split at ec
    · unfold eqD at ec
      split at ec
      · rename_i p q e1 e2
        split at ec
        · rename_i hs; cases ec
          rw [Bool.and_eq_true] at hs
          exact op_eqD hu pins s σ H x y v u Q I rx ry ⟨p, q, px.dp R.sub e1, py.dp R.sub e2, hs.1, hs.2, hq⟩
        · cases ec
      · cases ec
    · unfold eqD at ec
      split at ec
      · rename_i p q e1 e2
        split at ec
        · rename_i hs; cases ec
          rw [Bool.and_eq_true] at hs
          exact op_neD hu pins s σ H x y v u Q I rx ry ⟨p, q, px.dp R.sub e1, py.dp R.sub e2, hs.1, hs.2, hq⟩
        · cases ec
      · cases ec
    · cases ec; exact op_lt pins s σ H x y v u Q I rx ry ⟨_, _, px.int, py.int, hq⟩
    · cases ec; exact op_le pins s σ H x y v u Q I rx ry ⟨_, _, px.int, py.int, hq⟩
    · cases ec; exact op_gt pins s σ H x y v u Q I rx ry ⟨_, _, px.int, py.int, hq⟩
    · cases ec; exact op_ge pins s σ H x y v u Q I rx ry ⟨_, _, px.int, py.int, hq⟩
    · cases ec; exact op_lt_str pins s σ H x y v u Q I rx ry ⟨_, _, px.str, py.str, hq⟩
    · cases ec; exact op_le_str pins s σ H x y v u Q I rx ry ⟨_, _, px.str, py.str, hq⟩
    · cases ec; exact op_gt_str pins s σ H x y v u Q I rx ry ⟨_, _, px.str, py.str, hq⟩
    · cases ec; exact op_ge_str pins s σ H x y v u Q I rx ry ⟨_, _, px.str, py.str, hq⟩
    · cases ec
      refine op_isN pins s σ H x y v u Q I rx ry ⟨py.non, ?_⟩
      rw [Rep.isN px]; exact hq
    · cases ec
      refine op_notN pins s σ H x y v u Q I rx ry ⟨py.non, ?_⟩
      rw [Rep.isN px]; exact hq
    · cases ec
      refine op_isBl pins s σ H x y v u Q I rx ry ⟨_, _, px.bl, py.bl, ?_⟩
      exact hq
    · cases ec
      refine op_notBl pins s σ H x y v u Q I rx ry ⟨_, _, px.bl, py.bl, ?_⟩
      exact hq
    all_goals first | (cases ec; done) | skip
    all_goals
      split at ec
      · rename_i hs; cases ec
        rw [Bool.and_eq_true] at hs
        first
        | obtain ⟨p, vs, rfl, h1, r1⟩ := py.tup
          first
          | refine op_in_seq pins s σ H x _ v u Q I rx ry ⟨p, vs, rfl, .inr (R.sub.t h1), px.flat hs.1, r1.flat hs.2, ?_⟩
            rw [inV_eq px hs.1 r1 hs.2]; exact hq
          | refine op_notIn_seq pins s σ H x _ v u Q I rx ry ⟨p, vs, rfl, .inr (R.sub.t h1), px.flat hs.1, r1.flat hs.2, ?_⟩
            rw [inV_eq px hs.1 r1 hs.2]; exact hq
        | obtain ⟨p, vs, rfl, h1, r1⟩ := py.lst R.sub
          first
          | refine op_in_seq pins s σ H x _ v u Q I rx ry ⟨p, vs, rfl, .inl h1, px.flat hs.1, r1.flat hs.2, ?_⟩
            rw [inV_eq px hs.1 r1 hs.2]; exact hq
          | refine op_notIn_seq pins s σ H x _ v u Q I rx ry ⟨p, vs, rfl, .inl h1, px.flat hs.1, r1.flat hs.2, ?_⟩
            rw [inV_eq px hs.1 r1 hs.2]; exact hq
      · cases ec
theorem snd_cmp (hu : X.A.units + 64 < cLine) {op : CmpOp} (ha : PE X a (rdE X.K W oa)) (hb : PE X b (rdE X.K W ob)) (hm : behindInMarks op b = false) : PE X (.Compare a [op] [b] pos) (rdE X.K W (ev2 (cmpV op) oa ob)) :=
  PEmono (pe_cmpR (op_cmp hu op) ha hb hm) fun _ _ _ h => rd_ev2 h
theorem truV_ok {K : Frag} {φ : Nat → Addr} {F : Hp} {m : Store} {H : Hp} {u : V} {v : Val} {d : D} {k : Bool} (R : RelS K φ F m H) (r : RepV K φ F m u v) (e : peek m v = some d) (t : truD d = some k) : TruV K u H k := by
  have p := pv_of R r e
  cases d with
  | non => rw [p.non]; exact (Option.some.inj t).symm
  | bl b => rw [p.bl]; exact (Option.some.inj t).symm
  | int i => rw [p.int]; exact (Option.some.inj t).symm
  | str s =>
    rw [p.str]
    simp only [truD] at t
    split at t
    · rename_i hs
      refine ⟨of_decide_eq_true hs, ?_⟩
      cases t
      show (s.length != 0) = ((s.length : Int) != 0)
      by_cases h0 : s.length = 0
      · rw [h0]; rfl
      · have h1 : ¬ ((s.length : Int) = 0) := by omega
        rw [bne_iff_ne.mpr h0, bne_iff_ne.mpr h1]
    · cases t
  | tup ds =>
    obtain ⟨a, vs, rfl, h1, r1⟩ := p.tup
    simp only [truD, Option.some.injEq] at t
    refine .inr (.inl ⟨vs, R.sub.t h1, ?_⟩)
    rw [← t]; cases r1 <;> rfl
  | lst ds =>
    obtain ⟨a, vs, rfl, h1, r1⟩ := p.lst R.sub
    simp only [truD, Option.some.injEq] at t
    refine .inl ⟨vs, h1, ?_⟩
    rw [← t]; cases r1 <;> rfl
  | dct ks vs =>
    obtain ⟨a, kvs, rfl, h1, e1, r1⟩ := p.dct R.sub
    simp only [truD, Option.some.injEq] at t
    refine .inr (.inr ⟨kvs, h1, ?_⟩)
    rw [← t, ← e1]; cases kvs <;> rfl
theorem Post.tru {γ δ : Type} {K : Frag} {φ : Nat → Addr} {F : Hp} {m : Store} {H : Hp} {u : V} {v : Val} {Rc : (Nat → Addr) → Hp → Store → δ → γ → Prop} {k : Bool → Store → Out γ} {Q : δ → Hp → Prop} (R : RelS K φ F m H) (r : RepV K φ F m u v) (h : Post K W Rc φ F m H ((truV v m).bind k) Q) : ∃ b, truV v m = .ok b m ∧ TruV K u H b ∧ Post K W Rc φ F m H (k b m) Q := by
  unfold truV at h ⊢
  cases e : peek m v with
  | none => rw [e] at h; exact h.elim
  | some d =>
    rw [e] at h
    cases t : truD d with
    | none =>
      have h2 : Post K W Rc φ F m H ((AW.lift m (truD d)).bind k) Q := h
      rw [t] at h2; exact h2.elim
    | some b =>
      have h2 : Post K W Rc φ F m H ((AW.lift m (truD d)).bind k) Q := h
      rw [t] at h2
      refine ⟨b, ?_, truV_ok R r e t, h2⟩
      show AW.lift m (truD d) = _
      rw [t]; rfl
theorem snd_not (ha : PE X a (rdE X.K W oa)) : PE X (.UnaryOp .Not a pos) (rdE X.K W (evNot oa)) := PEmono (pe_notT ha) fun σ H Q h => by
  refine rd_bind h fun φ F ρ m H1 x u R E L rx h => ?_
  obtain ⟨b, _, t, h⟩ := h.tru R rx
  exact ⟨b, t, Post.ok0 (R := RVl X.K) R h (Rep.bl _)⟩
theorem snd_neg (ha : PE X a (rdE X.K W oa)) : PE X (.UnaryOp .USub a pos) (rdE X.K W (ev1 negD oa)) := PEmono (pe_un un_neg ha) fun σ H Q h => by
  refine rd_bind h fun φ F ρ m H1 x u R E L rx h => ?_
  obtain ⟨d, e, h⟩ := h.lift
  obtain ⟨z, ez, h⟩ := h.lift
  have p := pv_of R rx e
  cases d <;> simp [negD] at ez
  subst ez
  exact ⟨_, p.int, Post.ok0 (R := RVl X.K) R h (Rep.int _)⟩
theorem rd_evT {K : Frag} {σ : L2.St} {H : Hp} {Q : Bool → Hp → Prop} (h : rdT K W (evT oa) σ H Q) : rdE K W oa σ H fun x H' => ∃ k, TruV K x H' k ∧ Q k H' := by
  refine rd_bind (k := fun _ => truV) h fun φ F ρ m H1 x u R E L rx h => ?_
  have h' : Post K W REq φ F m H1 ((truV x m).bind fun b m => .ok b m) Q := by
    have e : (truV x m).bind (fun b m => Out.ok b m) = truV x m := by
      cases truV x m <;> rfl
    rw [e]; exact h
  obtain ⟨b, _, t, h⟩ := h'.tru R rx
  exact ⟨b, t, Post.ok0 (R := REq) R h rfl⟩
theorem snt_any (ha : PE X a (rdE X.K W oa)) (he : ∀ whole, isTrue a X.env whole = (do let v ← whole; standAt a.pos; holding [v] (truthy v))) : PT X a (rdT X.K W (evT oa)) := PTmono (pt_truth ha he) fun _ _ _ h => rd_evT h
theorem snt_cmp (hu : X.A.units + 64 < cLine) {op : CmpOp} (ha : PE X a (rdE X.K W oa)) (hb : PE X b (rdE X.K W ob)) (hm : behindInMarks op b = false) : PT X (.Compare a [op] [b] pos) (rdT X.K W (evT (ev2 (cmpV op) oa ob))) :=
  PTmono (pt_cmpR (op_cmp (W := W) hu op) ha hb hm) fun σ H Q h => by
    obtain ⟨φ, F, ρ, m, R, E, L, h⟩ := h
    have h : Post X.K W REq φ F m H ((ev2 (cmpV op) oa ob ρ m).bind truV) Q := h
    -- the value is a truth value
    refine rd_ev2 (oa := oa) (ob := ob) ⟨φ, F, ρ, m, R, E, L, ?_⟩
    have hb : ∀ v m', ev2 (cmpV op) oa ob ρ m = .ok v m' → ∃ b, v = .d (.bl b) := by
      intro v m' e
      simp only [ev2] at e
      cases h1 : oa ρ m with
      | ok x m1 =>
        rw [h1] at e
        simp only [Out.bind_ok] at e
        cases h2 : ob ρ m1 with
        | ok y m2 =>
          rw [h2] at e
          simp only [Out.bind_ok] at e
          cases h3 : peek m2 x with
          | none => rw [h3] at e; cases e
          | some dx =>
            simp only [h3, lift_some, Out.bind_ok] at e
            cases h4 : peek m2 y with
            | none => rw [h4] at e; cases e
            | some dy =>
              simp only [h4, lift_some, Out.bind_ok] at e
              unfold cmpV at e
              cases h5 : cmpD op dx dy with
              | none => rw [h5] at e; cases e
              | some k => rw [h5] at e; cases e; exact ⟨k, rfl⟩
        | exc _ _ => rw [h2] at e; cases e
        | bad => rw [h2] at e; cases e
      | exc _ _ => rw [h1] at e; cases e
      | bad => rw [h1] at e; cases e
    cases ho : ev2 (cmpV op) oa ob ρ m with
    | bad => rw [ho] at h; exact h.elim
    | exc x m' => rw [ho] at h; exact h
    | ok v m' =>
      obtain ⟨b, rfl⟩ := hb v m' ho
      rw [ho] at h
      have h : Post X.K W REq φ F m H (.ok b m') Q := h
      intro φ' F' H' u s r
      cases (show Rep X.K F' u (.bl b) from r)
      exact ⟨b, rfl, h φ' F' H' b s rfl⟩
end
end AW
set_option maxRecDepth 100000
namespace AW
open PySem L2
theorem Out.bind_assoc {α β γ : Type} (o : Out α) (f : α → Store → Out β) (g : β → Store → Out γ) : (o.bind f).bind g = o.bind fun a m => (f a m).bind g := by cases o <;> rfl
theorem Out.bind_eta {α : Type} (o : Out α) : (o.bind fun a m => .ok a m) = o := by cases o <;> rfl
theorem truV_m {x : Val} {m m' : Store} {b : Bool} (h : truV x m = .ok b m') : m' = m := by
  unfold truV at h
  cases e : peek m x with
  | none => rw [e] at h; cases h
  | some d =>
    rw [e] at h
    simp only [lift_some, Out.bind_ok] at h
    cases t : truD d with
    | none => rw [t] at h; cases h
    | some k => rw [t] at h; cases h; rfl
theorem truV_exc {x : Val} {m m' : Store} {e : Exc} : truV x m ≠ .exc e m' := by
  intro h
  unfold truV at h
  cases e : peek m x with
  | none => rw [e] at h; cases h
  | some d =>
    rw [e] at h
    simp only [lift_some, Out.bind_ok] at h
    cases t : truD d with
    | none => rw [t] at h; cases h
    | some k => rw [t] at h; cases h
theorem evT_and (oa ob : Ex) : evT (evAnd oa ob) = fun ρ m => (evT oa ρ m).bind fun t m => if t = true then evT ob ρ m else .ok false m := by
  funext ρ m
  show (Out.bind _ _).bind truV = (Out.bind _ _).bind _
  rw [Out.bind_assoc, Out.bind_assoc]
  congr 1; funext x m1
  rw [Out.bind_assoc]
  cases h : truV x m1 with
  | bad => rfl
  | exc e m' => exact absurd h truV_exc
  | ok b m' =>
    have := truV_m h; subst this
    cases b with
    | true => rfl
    | false => exact h
theorem evT_or (oa ob : Ex) : evT (evOr oa ob) = fun ρ m => (evT oa ρ m).bind fun t m => if t = true then .ok true m else evT ob ρ m := by
  funext ρ m
  show (Out.bind _ _).bind truV = (Out.bind _ _).bind _
  rw [Out.bind_assoc, Out.bind_assoc]
  congr 1; funext x m1
  rw [Out.bind_assoc]
  cases h : truV x m1 with
  | bad => rfl
  | exc e m' => exact absurd h truV_exc
  | ok b m' =>
    have := truV_m h; subst this
    cases b with
    | false => rfl
    | true => exact h
theorem evT_not (oa : Ex) : evT (evNot oa) = fun ρ m => (evT oa ρ m).bind fun t m => .ok (!t) m := by
  funext ρ m
  show (Out.bind _ _).bind truV = (Out.bind _ _).bind _
  rw [Out.bind_assoc, Out.bind_assoc]
  congr 1; funext x m1
  rw [Out.bind_assoc]
  rfl
section
variable {X : Cx} {W : Wsh} {a b c : Expr} {rest : List Expr} {oa ob oc : Ex} {pos : Pos}
theorem snt_and (ha : PT X a (rdT X.K W (evT oa))) (hb : PW X (.BoolOp .And (b :: rest) pos) (rdT X.K W (evT ob))) : PW X (.BoolOp .And (a :: b :: rest) pos) (rdT X.K W (evT (evAnd oa ob))) := PWmono (pw_and ha hb) fun σ H Q h => by
  rw [evT_and] at h
  refine rd_bind h fun φ F ρ m H1 t u R E L rx h => ?_
  cases rx
  cases t with
  | true => exact ⟨φ, F, ρ, m, R, E, L, h⟩
  | false => exact Post.ok0 (R := REq) R h rfl
theorem snt_or (ha : PT X a (rdT X.K W (evT oa))) (hb : PW X (.BoolOp .Or (b :: rest) pos) (rdT X.K W (evT ob))) : PW X (.BoolOp .Or (a :: b :: rest) pos) (rdT X.K W (evT (evOr oa ob))) := PWmono (pw_or ha hb) fun σ H Q h => by
  rw [evT_or] at h
  refine rd_bind h fun φ F ρ m H1 t u R E L rx h => ?_
  cases rx
  cases t with
  | true => exact Post.ok0 (R := REq) R h rfl
  | false => exact ⟨φ, F, ρ, m, R, E, L, h⟩
theorem snt_not (ha : PT X a (rdT X.K W (evT oa))) : PT X (.UnaryOp .Not a pos) (rdT X.K W (evT (evNot oa))) := PTmono (pt_not ha) fun σ H Q h => by
  rw [evT_not] at h
  refine rd_bind h fun φ F ρ m H1 t u R E L rx h => ?_
  cases rx
  exact Post.ok0 (R := REq) R h rfl
theorem snd_and (ha : PE X a (rdE X.K W oa)) (hb : PE X (.BoolOp .And (b :: rest) pos) (rdE X.K W ob)) : PE X (.BoolOp .And (a :: b :: rest) pos) (rdE X.K W (evAnd oa ob)) := PEmono (pe_andT ha hb) fun σ H Q h => by
  refine rd_bind h fun φ F ρ m H1 x u R E L rx h => ?_
  obtain ⟨t, _, tr, h⟩ := h.tru R rx
  refine ⟨t, tr, ?_⟩
  cases t with
  | true => exact ⟨φ, F, ρ, m, R, E, L, h⟩
  | false => exact Post.ok0 (R := RVl X.K) R h rx
theorem snd_or (ha : PE X a (rdE X.K W oa)) (hb : PE X (.BoolOp .Or (b :: rest) pos) (rdE X.K W ob)) : PE X (.BoolOp .Or (a :: b :: rest) pos) (rdE X.K W (evOr oa ob)) := PEmono (pe_orT ha hb) fun σ H Q h => by
  refine rd_bind h fun φ F ρ m H1 x u R E L rx h => ?_
  obtain ⟨t, _, tr, h⟩ := h.tru R rx
  refine ⟨t, tr, ?_⟩
  cases t with
  | false => exact ⟨φ, F, ρ, m, R, E, L, h⟩
  | true => exact Post.ok0 (R := RVl X.K) R h rx
theorem snd_ite (hc : PT X c (rdT X.K W (evT oc))) (ha : PE X a (rdE X.K W oa)) (hb : PE X b (rdE X.K W ob)) : PE X (.IfExp c a b pos) (rdE X.K W (evIte oc oa ob)) := PEmono (pe_ifExp hc ha hb) fun σ H Q h => by
  refine rd_bind h fun φ F ρ m H1 t u R E L rx h => ?_
  cases rx
  cases t with
  | true => exact ⟨φ, F, ρ, m, R, E, L, h⟩
  | false => exact ⟨φ, F, ρ, m, R, E, L, h⟩
/-! ### chains -/
theorem rd_chain {K : Frag} {op op' : CmpOp} {σ : L2.St} {H : Hp} {Q : VK} (h : rdE K W (evChain op op' oa ob oc) σ H Q) : tChain (r2 K W (cmpV op)) (r2 K W (cmpV op')) (rdE K W oa) (rdE K W ob) (rdE K W oc) σ H Q := by
  refine rd_bind h fun φ F ρ m H1 x u R E L rx h => ?_
  refine ⟨φ, F, ρ, m, R, E, L, Post.bind R h fun y m1 φ1 F1 H2 w s ry h => ?_⟩
  obtain ⟨dx, ex, h⟩ := h.lift
  obtain ⟨dy, ey, h⟩ := h.lift
  obtain ⟨z, ez, h⟩ := h.lift
  refine ⟨φ1, F1, m1, dx, dy, .bl z, s.rel, pv_of s.rel (RepV.step s rx) ex, pv_of s.rel ry ey, by rw [cmpV, ez]; rfl, fun φ2 F2 H3 u2 s2 r2 => ?_⟩
  cases (show Rep K F2 u2 (.bl z) from r2)
  refine ⟨z, rfl, ?_⟩
  have h' := h.step s.rel s2
  have E2 : RepE K φ2 F2 m1 σ ρ := (E.step s).step s2
  cases z with
  | false => exact Post.ok0 (R := RVl K) s2.rel h' (Rep.bl false)
  | true =>
    refine ⟨φ2, F2, ρ, m1, s2.rel, E2, L, Post.bind s2.rel h' fun w' m3 φ3 F3 H4 u3 s3 r3 h => ?_⟩
    obtain ⟨dy', ey', h⟩ := h.lift
    obtain ⟨dw, ew, h⟩ := h.lift
    obtain ⟨z', ez', h⟩ := h.lift
    exact ⟨φ3, F3, m3, dy', dw, z', s3.rel, pv_of s3.rel (RepV.step s3 (RepV.step s2 ry)) ey', pv_of s3.rel r3 ew, ez', h⟩
theorem snd_chain (hu : X.A.units + 64 < cLine) {op op' : CmpOp} (ha : PE X a (rdE X.K W oa)) (hb : PE X b (rdE X.K W ob)) (hc : PE X c (rdE X.K W oc)) (hl : lastMarks [op, op'] [b, c] = false) : PE X (.Compare a [op, op'] [b, c] pos) (rdE X.K W (evChain op op' oa ob oc)) :=
  PEmono (pe_chain (op_cmp hu op) (op_cmp hu op') ha hb hc hl) fun σ H Q h => rd_chain h
def IsB (o : Ex) : Prop := ∀ ρ m v m', o ρ m = .ok v m' → ∃ b, v = .d (.bl b)
theorem bindOk {α β : Type} {o : Out α} {f : α → Store → Out β} {v : β} {m' : Store} (h : o.bind f = .ok v m') : ∃ a m1, o = .ok a m1 ∧ f a m1 = .ok v m' := by
  cases o with
  | ok a m1 => exact ⟨a, m1, rfl, h⟩
  | exc _ _ => cases h
  | bad => cases h
theorem liftOk {α : Type} {o : Option α} {m : Store} {v : α} {m' : Store} (h : lift m o = .ok v m') : o = some v ∧ m' = m := by
  cases o with
  | none => cases h
  | some a => cases h; exact ⟨rfl, rfl⟩
theorem isB_chain {op op' : CmpOp} : IsB (evChain op op' oa ob oc) := by
  intro ρ m v m' e
  obtain ⟨x, m1, _, e⟩ := bindOk e
  obtain ⟨y, m2, _, e⟩ := bindOk e
  obtain ⟨dx, m3, _, e⟩ := bindOk e
  obtain ⟨dy, m4, _, e⟩ := bindOk e
  obtain ⟨z, m5, _, e⟩ := bindOk e
  split at e
  · obtain ⟨w, m6, _, e⟩ := bindOk e
    obtain ⟨dy', m7, _, e⟩ := bindOk e
    obtain ⟨dw, m8, _, e⟩ := bindOk e
    obtain ⟨z', m9, ez, e⟩ := bindOk e
    obtain ⟨ez, _⟩ := liftOk ez
    cases e
    unfold cmpV at ez
    cases h5 : cmpD op' dy' dw with
    | none => rw [h5] at ez; cases ez
    | some k => rw [h5] at ez; cases ez; exact ⟨k, rfl⟩
  · cases e; exact ⟨false, rfl⟩
theorem rd_evTB {K : Frag} {o : Ex} (hb : IsB o) {σ : L2.St} {H : Hp} {Q : Bool → Hp → Prop} (h : rdT K W (evT o) σ H Q) : rdE K W o σ H fun x H' => ∃ k, x = .bl k ∧ Q k H' := by
  obtain ⟨φ, F, ρ, m, R, E, L, h⟩ := h
  have h : Post K W REq φ F m H ((o ρ m).bind truV) Q := h
  refine ⟨φ, F, ρ, m, R, E, L, ?_⟩
  cases ho : o ρ m with
  | bad => rw [ho] at h; exact h.elim
  | exc x m' => rw [ho] at h; exact h
  | ok v m' =>
    obtain ⟨b, rfl⟩ := hb _ _ _ _ ho
    rw [ho] at h
    have h : Post K W REq φ F m H (.ok b m') Q := h
    intro φ' F' H' u s r
    cases (show Rep K F' u (.bl b) from r)
    exact ⟨b, rfl, h φ' F' H' b s rfl⟩
theorem snt_chain (hu : X.A.units + 64 < cLine) {op op' : CmpOp} (ha : PE X a (rdE X.K W oa)) (hb : PE X b (rdE X.K W ob)) (hc : PE X c (rdE X.K W oc)) (hl : lastMarks [op, op'] [b, c] = false) : PT X (.Compare a [op, op'] [b, c] pos) (rdT X.K W (evT (evChain op op' oa ob oc))) :=
  PTmono (pt_chain (op_cmp (W := W) hu op) (op_cmp (W := W) hu op') ha hb hc hl) fun σ H Q h => rd_chain (rd_evTB isB_chain h)
/-! ### arguments, displays -/
variable {es : List Expr} {oe : Ev → Store → Out (List Val)} {ol oh : Ev → Store → Out (Option Int)}
def nos : Expr → Bool
  | .Starred _ _ => false
  | _ => true
theorem star_nos {e : Expr} {es : List Expr} {env : PySem.Env} (h : nos e = true) : starEach (e :: es) env = (false, eval e env) :: starEach es env := by
  cases e <;> first | rfl | cases h
theorem star_any {env : PySem.Env} : ∀ {es : List Expr}, es.all nos = true → (backTo pos (starEach es env)).any (·.1) = false
  | [], _ => rfl
  | e :: es, h => by
    rw [List.all_cons, Bool.and_eq_true] at h
    rw [star_nos h.1]
    show (false || (backTo pos (starEach es env)).any (·.1)) = false
    rw [star_any h.2]; rfl
theorem sna_nil : PA X [] (rdA X.K W evNil) := PAmono pa_nil fun σ H Q h => by
  obtain ⟨φ, F, ρ, m, R, E, L, h⟩ := h
  exact Post.ok0 (R := RVs X.K) R h .nil
theorem sna_cons (hn : nos a = true) (ha : PE X a (rdE X.K W oa)) (he : PA X es (rdA X.K W oe)) : PA X (a :: es) (rdA X.K W (evCons oa oe)) := PAmono (pa_cons ha he (star_nos hn)) fun σ H Q h => by
  refine rd_bind h fun φ F ρ m H1 x u R E L rx h => ?_
  refine ⟨φ, F, ρ, m, R, E, L, Post.bind R h fun y m1 φ1 F1 H2 w s ry h => ?_⟩
  exact Post.ok0 (R := RVs X.K) s.rel h (.cons (RepV.step s rx) ry)
theorem datas_reps {K : Frag} {φ : Nat → Addr} {F : Hp} {m : Store} : ∀ {us : List V} {vs : List Val} {ds : List D}, RepVs K φ F m us vs → Val.datas vs = some ds → Reps K F us ds
  | _, _, _, .nil, e => by cases e; exact .nil
  | _, v :: vs, _, .cons h r, e => by
    cases v with
    | cell n => cases e
    | d x =>
      have e' : ((Val.datas vs).map fun ds => x :: ds) = some _ := e
      cases q : Val.datas vs with
      | none => rw [q] at e'; cases e'
      | some ds => rw [q] at e'; cases e'; exact .cons h (datas_reps r q)
theorem snd_tup {k : Nat} (he : PA X es (rdA X.K W oe)) : PE X (.Tuple es k pos) (rdE X.K W (evTup oe)) := PEmono (pe_tup he) fun σ H Q h => by
  refine rd_bind h fun φ F ρ m H1 x u R E L rx h => ?_
  obtain ⟨ds, e, h⟩ := h.lift
  have r := datas_reps rx e
  split at h
  · rename_i hs
    exact ⟨by rw [r.length]; exact of_decide_eq_true hs, fun p hp => OkD.tup (W := W) R h hp r⟩
  · exact h.elim
/-- a list to be made: its items, then the new list -/
def rdL (K : Frag) (W : Wsh) (o : Ev → Store → Out (List D)) : TE := fun σ H Q => ∃ φ F ρ m, RelS K φ F m H ∧ RepE K φ F m σ ρ ∧ σ.length = ρ.length ∧ (match o ρ m with
  | .ok ds m' => ∀ φ' F' H' vs p, Stp K φ F m H φ' F' m' H' → Reps K F' vs ds → H' p = none → Q (.ref p) (upd H' p (.lst vs))
  | .exc x m' => ∀ φ' F' H', Stp K φ F m H φ' F' m' H' → W x φ' F' m' H'
  | .bad => False)
theorem rd_lm {K : Frag} {mt : Bool} {o : Ev → Store → Out (List D)} {σ : L2.St} {H : Hp} {Q : VK} (h : rdE K W (evLm mt o) σ H Q) : rdL K W o σ H Q := by
  obtain ⟨φ, F, ρ, m, R, E, L, h⟩ := h
  have h : Post K W (RVl K) φ F m H ((o ρ m).bind fun ds m => allocL mt ds m) Q := h
  refine ⟨φ, F, ρ, m, R, E, L, ?_⟩
  cases ho : o ρ m with
  | bad => rw [ho] at h; exact h.elim
  | exc x m' => rw [ho] at h; exact h
  | ok ds m' =>
    rw [ho] at h
    intro φ' F' H' vs p s r hp
    have h := Post.step R h s
    cases mt with
    | false => exact OkD.lst (W := W) s.rel h hp r
    | true =>
      have h : Post K W (RVl K) φ' F' m' H' (.ok (.cell m'.length) (m' ++ [.lst ds])) Q := h
      exact h _ F' _ _ (Stp.newC s.rel hp (o := .lst vs) (c := .lst ds) r) ⟨by simp, by simp⟩
theorem snd_lm {mt : Bool} {o : Ev → Store → Out (List D)} {ex : Expr} (h : PE X ex (rdL X.K W o)) : PE X ex (rdE X.K W (evLm mt o)) := PEmono h fun _ _ _ h => rd_lm h
theorem snl_disp (he : PA X es (rdA X.K W oe)) : PE X (.List es pos) (rdL X.K W (evDisp oe)) := PEmono (pe_lst he) fun σ H Q h => by
  obtain ⟨φ, F, ρ, m, R, E, L, h⟩ := h
  refine ⟨φ, F, ρ, m, R, E, L, ?_⟩
  unfold evDisp at h
  cases ho : oe ρ m with
  | bad => rw [ho] at h; exact h.elim
  | exc x m' => rw [ho] at h; exact h
  | ok vs m' =>
    rw [ho] at h
    simp only [Out.bind_ok] at h
    intro φ' F' H' us s r
    cases e : Val.datas vs with
    | none => rw [e] at h; exact h.elim
    | some ds =>
      rw [e] at h
      simp only [lift_some, Out.bind_ok] at h
      have r' := datas_reps r e
      by_cases hs : small ds.length = true
      · rw [if_pos hs] at h
        exact ⟨by rw [r'.length]; exact of_decide_eq_true hs, fun p hp => h φ' F' H' us p s r' hp⟩
      · rw [if_neg hs] at h; exact h.elim
end
end AW
set_option maxRecDepth 100000
namespace AW
open PySem L2
section
variable {X : Cx} {W : Wsh} {a b c : Expr} {rest : List Expr} {oa ob oc : Ex} {pos p p2 : Pos} {es : List Expr} {oe : Ev → Store → Out (List Val)} {ol oh : Ev → Store → Out (Option Int)}
/-! ### subscripts, slices -/
theorem ix_any : IxR X (r2 X.K W idxD) := by
  intro value slice pins s σ H x y v u Q I rx ry h hs
  obtain ⟨φ, F, m, dx, dy, z, R, px, py, e, h⟩ := h
  unfold idxD at e
  split at e
  · obtain ⟨q, vs, rfl, h1, r1⟩ := px.lst R.sub
    obtain ⟨w, e1, rw1⟩ := atI_reps r1 e
    exact ix_list value slice pins s σ H _ _ v u Q I rx ry ⟨q, vs, _, w, rfl, py.int, h1, e1, h.at R rw1⟩ hs
  · obtain ⟨q, vs, rfl, h1, r1⟩ := px.tup
    obtain ⟨w, e1, rw1⟩ := atI_reps r1 e
    exact ix_tup value slice pins s σ H _ _ v u Q I rx ry ⟨q, vs, _, w, rfl, py.int, R.sub.t h1, e1, h.at R rw1⟩ hs
  · split at e
    · rename_i t i hs'
      cases e1 : atI t.cps.toList i with
      | none => rw [e1] at e; cases e
      | some k =>
        rw [e1] at e; cases e
        exact ix_str value slice pins s σ H _ _ v u Q I rx ry ⟨t, i, k, px.str, py.int, of_decide_eq_true hs', e1, h.at R (.str _)⟩ hs
    · cases e
  · cases e
theorem snd_idx (ha : PE X a (rdE X.K W oa)) (hb : PE X b (rdE X.K W ob)) (hp : PlainIx b) : PE X (.Subscript a b pos) (rdE X.K W (ev2 idxD oa ob)) := PEmono (pe_ix ix_any ha hb hp) fun _ _ _ h => rd_ev2 h
theorem sno_no : PO X none (rdO X.K W evNoPart) := POmono po_none fun σ H Q h => by
  obtain ⟨φ, F, ρ, m, R, E, L, h⟩ := h
  exact Post.ok0 (R := REq) R h rfl
theorem sno_yes (ha : PE X a (rdE X.K W oa)) : PO X (some a) (rdO X.K W (evPart oa)) := POmono (po_some ha) fun σ H Q h => by
  refine rd_bind h fun φ F ρ m H1 x u R E L rx h => ?_
  obtain ⟨k, e, h⟩ := h.lift0
  unfold ixV at e
  split at e
  · cases e
    cases (show Rep X.K F u (.int _) from rx)
    exact ⟨_, rfl, Post.ok0 (R := REq) R h rfl⟩
  · cases e
def rSl (K : Frag) (W : Wsh) : V → Option Int → Option Int → Hp → VK → Prop := fun x lo hi H Q => ∃ φ F m dx z, RelS K φ F m H ∧ PV K F H x dx ∧ sliD dx lo hi = some z ∧ OkD K W φ F m H z Q
theorem sl_any : SlR X (rSl X.K W) := by
  intro pins s σ H x v vl vu lo hi sl Q I rx hs pl pu h
  obtain ⟨φ, F, m, dx, z, R, px, e, h⟩ := h
  unfold sliD at e
  split at e
  · cases e
    obtain ⟨q, vs, rfl, h1, r1⟩ := px.lst R.sub
    exact sl_list pins s σ H _ v vl vu _ _ sl Q I rx hs pl pu ⟨q, vs, rfl, h1, fun l hl => h.lst R hl (r1.cut _ _)⟩
  · cases e
    obtain ⟨q, vs, rfl, h1, r1⟩ := px.tup
    refine sl_tupA pins s σ H _ v vl vu _ _ sl Q I rx hs pl pu ⟨q, vs, rfl, R.sub.t h1, fun hw => ?_, fun _ l hl => h.tup R hl (r1.cut _ _)⟩
    refine h.at R (.tup h1 ?_)
    rw [r1.length] at hw
    unfold cutD
    rw [hw.1, hw.2, Nat.sub_zero, List.drop_zero, List.take_length]
    exact r1
  · split at e
    · rename_i hz; cases e
      exact sl_str pins s σ H _ v vl vu _ _ sl Q I rx hs pl pu ⟨_, px.str, of_decide_eq_true hz, h.at R (.str _)⟩
    · cases e
  · cases e
theorem snd_sli {lo hi : Option Expr} (ha : PE X a (rdE X.K W oa)) (hl : PO X lo (rdO X.K W ol)) (hh : PO X hi (rdO X.K W oh)) : PE X (.Subscript a (.Slice lo hi none p2) pos) (rdE X.K W (evSli oa ol oh)) := PEmono (pe_slice (sl_any (W := W)) ha hl hh) fun σ H Q h => by
  refine rd_bind h fun φ F ρ m H1 x u R E L rx h => ?_
  refine ⟨φ, F, ρ, m, R, E, L, Post.bind R h fun l m1 φ1 F1 H2 w s rl h => ?_⟩
  refine ⟨φ1, F1, ρ, m1, s.rel, E.step s, L, Post.bind s.rel h fun l2 m2 φ2 F2 H3 w2 s2 rl2 h => ?_⟩
  cases rl; cases rl2
  obtain ⟨dx, ex, h⟩ := h.lift
  obtain ⟨z, ez, h⟩ := h.lift
  exact ⟨φ2, F2, m2, dx, z, s2.rel, pv_of s2.rel (RepV.step s2 (RepV.step s rx)) ex, ez, h⟩
theorem snd_dict0 : PE X (.Dict [] [] pos) (rdE X.K W (evCon (.dct [] []))) := PEmono pe_dnewK fun σ H Q h => by
  obtain ⟨φ, F, ρ, m, R, E, L, h⟩ := h
  intro q hq
  exact OkD.new (W := W) R h hq (.dct upd_same rfl .nil)
/-! ### calls of built-ins -/
def r1c (K : Frag) (W : Wsh) (f : D → Option D) : List V → Hp → VK → Prop := fun xs H Q => ∃ x φ F m dx z, xs = [x] ∧ RelS K φ F m H ∧ PV K F H x dx ∧ f dx = some z ∧ OkD K W φ F m H z Q
def r2c (K : Frag) (W : Wsh) (f : D → D → Option D) : List V → Hp → VK → Prop := fun xs H Q => ∃ x y φ F m dx dy z, xs = [x, y] ∧ RelS K φ F m H ∧ PV K F H x dx ∧ PV K F H y dy ∧ f dx dy = some z ∧ OkD K W φ F m H z Q
theorem rd_c1 {K : Frag} {f : D → Option D} {σ : L2.St} {H : Hp} {Q : VK} (h : rdE K W (ev1 f oa) σ H Q) : tCB (r1c K W f) (tCons (rdE K W oa) tNil) σ H Q := by
  refine rd_bind h fun φ F ρ m H1 x u R E L rx h => ?_
  obtain ⟨dx, ex, h⟩ := h.lift
  obtain ⟨z, ez, h⟩ := h.lift
  exact ⟨u, φ, F, m, dx, z, rfl, R, pv_of R rx ex, ez, h⟩
theorem rd_c2 {K : Frag} {f : D → D → Option D} {σ : L2.St} {H : Hp} {Q : VK} (h : rdE K W (ev2 f oa ob) σ H Q) : tCB (r2c K W f) (tCons (rdE K W oa) (tCons (rdE K W ob) tNil)) σ H Q := by
  refine rd_bind h fun φ F ρ m H1 x u R E L rx h => ?_
  refine ⟨φ, F, ρ, m, R, E, L, Post.bind R h fun y m1 φ1 F1 H2 w s ry h => ?_⟩
  obtain ⟨dx, ex, h⟩ := h.lift
  obtain ⟨dy, ey, h⟩ := h.lift
  obtain ⟨z, ez, h⟩ := h.lift
  exact ⟨u, w, φ1, F1, m1, dx, dy, z, rfl, s.rel, pv_of s.rel (RepV.step s rx) ex, pv_of s.rel ry ey, ez, h⟩
theorem snd_b1B {f : D → Option D} {id : String} {x : Str} (hc : CallR X (.builtin id) (r1c X.K W f)) (hg : Gl X x) (hm : X.mg x = none) (hv : bootBuiltins x = some (.builtin id)) (hn : x ≠ "__name__") (hdb : (x == ("__debug__" : Str)) = false)
    (na : nos a = true) (ha : PE X a (rdE X.K W oa)) : PE X (.Call (.Name x p) [a] [] pos) (rdE X.K W (ev1 f oa)) :=
  PEmono (pe_callB hc hg hm hv (pa_cons ha pa_nil (star_nos na)) hn hdb (star_nos na) rfl) fun _ _ _ h => rd_c1 h
theorem snd_b1T {f : D → Option D} {T : String} {x : Str} (hc : CallR X (.type T) (r1c X.K W f)) (hg : Gl X x) (hm : X.mg x = none) (hv : bootBuiltins x = some (.type T)) (hn : x ≠ "__name__") (hdb : (x == ("__debug__" : Str)) = false)
    (na : nos a = true) (ha : PE X a (rdE X.K W oa)) : PE X (.Call (.Name x p) [a] [] pos) (rdE X.K W (ev1 f oa)) :=
  PEmono (pe_callTy hc hg hm hv (pa_cons ha pa_nil (star_nos na)) hn hdb (star_nos na) rfl) fun _ _ _ h => rd_c1 h
theorem snd_b2B {f : D → D → Option D} {id : String} {x : Str} (hc : CallR X (.builtin id) (r2c X.K W f)) (hg : Gl X x) (hm : X.mg x = none) (hv : bootBuiltins x = some (.builtin id)) (hn : x ≠ "__name__") (hdb : (x == ("__debug__" : Str)) = false)
    (na : nos a = true) (nb : nos b = true) (ha : PE X a (rdE X.K W oa)) (hb : PE X b (rdE X.K W ob)) : PE X (.Call (.Name x p) [a, b] [] pos) (rdE X.K W (ev2 f oa ob)) :=
  PEmono (pe_callB hc hg hm hv (pa_cons ha (pa_cons hb pa_nil (star_nos nb)) (star_nos na)) hn hdb (star_nos na) (star_any (by rw [List.all_cons, nb]; rfl))) fun _ _ _ h => rd_c2 h
theorem c_len : CallR X (.builtin "len") (r1c X.K W (b1D .len)) := by
  intro pins s σ H xs us Q I r h
  obtain ⟨x, φ, F, m, dx, z, rfl, R, px, e, h⟩ := h
  have e : (lenD dx).map (fun n => D.int (n : Int)) = some z := e
  cases el : lenD dx with
  | none => rw [el] at e; cases e
  | some n =>
    rw [el] at e; cases e
    refine call_len pins s σ H _ us Q I r ⟨x, n, rfl, ?_, h.at R (.int _)⟩
    cases dx <;> simp only [lenD] at el <;> try (cases el; done)
    · split at el
      · rename_i hs; cases el
        rw [px.str]; exact ⟨of_decide_eq_true hs, rfl⟩
      · cases el
    · obtain ⟨q, vs, rfl, h1, r1⟩ := px.tup
      cases el
      exact .inr ⟨vs, R.sub.t h1, r1.length.symm⟩
    · obtain ⟨q, vs, rfl, h1, r1⟩ := px.lst R.sub
      cases el
      exact .inl ⟨vs, h1, r1.length.symm⟩
theorem c_abs : CallR X (.builtin "abs") (r1c X.K W (b1D .abs)) := by
  intro pins s σ H xs us Q I r h
  obtain ⟨x, φ, F, m, dx, z, rfl, R, px, e, h⟩ := h
  cases dx <;> simp only [b1D] at e <;> try (cases e; done)
  cases e
  exact call_abs pins s σ H _ us Q I r ⟨_, by rw [px.int], h.at R (.int _)⟩
theorem c_all (hc : X.calm = true) : CallR X (.builtin "all") (r1c X.K W (b1D .all)) := by
  intro pins s σ H xs us Q I r h
  obtain ⟨x, φ, F, m, dx, z, rfl, R, px, e, h⟩ := h
  cases dx <;> simp only [b1D] at e <;> try (cases e; done)
  rename_i ds
  cases eb : boolsD ds with
  | none => rw [eb] at e; cases e
  | some bs =>
    rw [eb] at e; cases e
    obtain ⟨q, vs, rfl, h1, r1⟩ := px.lst R.sub
    rw [r1.bools eb] at h1
    exact cr_all hc pins s σ H _ us Q I r ⟨q, bs, rfl, h1, h.at R (.bl _)⟩
theorem c_any (hc : X.calm = true) : CallR X (.builtin "any") (r1c X.K W (b1D .any)) := by
  intro pins s σ H xs us Q I r h
  obtain ⟨x, φ, F, m, dx, z, rfl, R, px, e, h⟩ := h
  cases dx <;> simp only [b1D] at e <;> try (cases e; done)
  rename_i ds
  cases eb : boolsD ds with
  | none => rw [eb] at e; cases e
  | some bs =>
    rw [eb] at e; cases e
    obtain ⟨q, vs, rfl, h1, r1⟩ := px.lst R.sub
    rw [r1.bools eb] at h1
    exact cr_any hc pins s σ H _ us Q I r ⟨q, bs, rfl, h1, h.at R (.bl _)⟩
theorem c_int : CallR X (.type "int") (r1c X.K W (b1D .int)) := by
  intro pins s σ H xs us Q I r h
  obtain ⟨x, φ, F, m, dx, z, rfl, R, px, e, h⟩ := h
  cases dx <;> simp only [b1D] at e <;> try (cases e; done)
  · cases e
    exact call_int1 pins s σ H _ us Q I r (.inr ⟨_, by rw [px.bl], h.at R (.int _)⟩)
  · cases e
    exact call_int1 pins s σ H _ us Q I r (.inl ⟨_, by rw [px.int], h.at R (.int _)⟩)
theorem c_str : CallR X (.type "str") (r1c X.K W (b1D .str)) := by
  intro pins s σ H xs us Q I r h
  obtain ⟨x, φ, F, m, dx, z, rfl, R, px, e, h⟩ := h
  cases dx <;> simp only [b1D] at e <;> try (cases e; done)
  split at e
  · rename_i hs; cases e
    exact call_str_int pins s σ H _ us Q I r ⟨_, by rw [px.int], hs, h.at R (.str _)⟩
  · cases e
theorem c_tuple : CallR X (.type "tuple") (r1c X.K W (b1D .tuple)) := by
  intro pins s σ H xs us Q I r h
  obtain ⟨x, φ, F, m, dx, z, rfl, R, px, e, h⟩ := h
  cases dx <;> simp only [b1D] at e <;> try (cases e; done)
  · cases e
    obtain ⟨q, vs, rfl, h1, r1⟩ := px.tup
    exact call_tuple_of pins s σ H _ us Q I r ⟨q, vs, rfl, .inr ⟨R.sub.t h1, h.at R (.tup h1 r1)⟩⟩
  · cases e
    obtain ⟨q, vs, rfl, h1, r1⟩ := px.lst R.sub
    exact call_tuple_of pins s σ H _ us Q I r ⟨q, vs, rfl, .inl ⟨h1, fun l hl => h.tup R hl r1⟩⟩
theorem c_max (hc : X.calm = true) : CallR X (.builtin "max") (r2c X.K W (b2D .max)) := by
  intro pins s σ H xs us Q I r h
  obtain ⟨x, y, φ, F, m, dx, dy, z, rfl, R, px, py, e, h⟩ := h
  cases dx <;> cases dy <;> simp only [b2D] at e <;> try (cases e; done)
  cases e
  exact call_max2 hc pins s σ H _ us Q I r ⟨_, _, by rw [px.int, py.int], h.at R (.int _)⟩
theorem c_min (hc : X.calm = true) : CallR X (.builtin "min") (r2c X.K W (b2D .min)) := by
  intro pins s σ H xs us Q I r h
  obtain ⟨x, y, φ, F, m, dx, dy, z, rfl, R, px, py, e, h⟩ := h
  cases dx <;> cases dy <;> simp only [b2D] at e <;> try (cases e; done)
  cases e
  exact call_min2 hc pins s σ H _ us Q I r ⟨_, _, by rw [px.int, py.int], h.at R (.int _)⟩
end
end AW
set_option maxRecDepth 100000
namespace AW
open PySem L2
/-- what an iterator yields: the data ds, one by one, in every later state -/
def JOk (K : Frag) (J : L2.It) (F0 : Hp) (ds : List D) : Prop := ∀ (φ : Nat → Addr) (F : Hp) (m : Store) (H : Hp), RelS K φ F m H → Ext F0 F → ∀ i : Nat, (i < ds.length → J.go i H) ∧ (ds.length ≤ i → J.stop i H) ∧
  ∀ x H', i < ds.length → J.yld i H x H' → ∃ d F', ds[i]? = some d ∧ Stp K φ F m H φ F' m H' ∧ Rep K F' x d
def rdI (K : Frag) (W : Wsh) (o : Ev → Store → Out (List D)) : TI := fun σ H R => ∃ φ F ρ m, RelS K φ F m H ∧ RepE K φ F m σ ρ ∧ σ.length = ρ.length ∧ (match o ρ m with
  | .ok ds m' => ∀ φ' F' H' J, Stp K φ F m H φ' F' m' H' → JOk K J F' ds → R J H'
  | .exc x m' => ∀ φ' F' H', Stp K φ F m H φ' F' m' H' → W x φ' F' m' H'
  | .bad => False)
theorem PImono {X : Cx} {tg e : Expr} {t t' : TI} (h : PI X tg e t) (i : ∀ σ H Q, t' σ H Q → t σ H Q) : PI X tg e t' := ⟨fun pins s σ H Q I q => h.run pins s σ H Q I (i _ _ _ q)⟩
theorem PIor {X : Cx} {tg e : Expr} {t t' : TI} (h : PI X tg e t) (h' : PI X tg e t') : PI X tg e (fun σ H Q => t σ H Q ∨ t' σ H Q) := ⟨fun pins s σ H Q I q => q.elim (h.run pins s σ H Q I) (h'.run pins s σ H Q I)⟩
section
variable {K : Frag} {F0 : Hp}
theorem jok_list {a : Addr} {vs : List V} {ds : List D} (h : SqL K F0 a vs) (r : Reps K F0 vs ds) : JOk K (Itl K a) F0 ds := by
  intro φ F m H R E i
  have hq : SqL K H a vs := R.sub.l (E.l h)
  refine ⟨fun hi => ⟨vs, vs[i]'(by rw [r.length]; exact hi), hq, by simp [r.length, hi]⟩, fun hi => ⟨vs, hq, by rw [r.length]; exact hi⟩, fun x H' hi hy => ?_⟩
  obtain ⟨rfl, hy⟩ := hy
  obtain ⟨v, e1, r1⟩ := r.get (List.getElem?_eq_getElem hi)
  have : x = v := Option.some.inj ((hy vs hq).symm.trans e1)
  subst this
  exact ⟨_, F, List.getElem?_eq_getElem hi, Stp.refl R, r1.mono E⟩
theorem jok_tup {a : Addr} {vs : List V} {ds : List D} (h : SqT K F0 a vs) (r : Reps K F0 vs ds) : JOk K (Itt K a) F0 ds := by
  intro φ F m H R E i
  have hq : SqT K H a vs := R.sub.t (E.t h)
  refine ⟨fun hi => ⟨vs, vs[i]'(by rw [r.length]; exact hi), hq, by simp [r.length, hi]⟩, fun hi => ⟨vs, hq, by rw [r.length]; exact hi⟩, fun x H' hi hy => ?_⟩
  obtain ⟨rfl, hy⟩ := hy
  obtain ⟨v, e1, r1⟩ := r.get (List.getElem?_eq_getElem hi)
  have : x = v := Option.some.inj ((hy vs hq).symm.trans e1)
  subst this
  exact ⟨_, F, List.getElem?_eq_getElem hi, Stp.refl R, r1.mono E⟩
theorem jok_str (s : Str) : JOk K (Its s) F0 (s.cps.toList.map fun c => D.str ⟨#[c]⟩) := by
  intro φ F m H R E i
  have hl : (s.cps.toList.map fun c => D.str ⟨#[c]⟩).length = s.cps.size := by simp
  rw [hl]
  refine ⟨fun h => h, fun h => h, fun x H' hi hy => ?_⟩
  obtain ⟨rfl, c, e, rfl⟩ := hy
  refine ⟨_, F, ?_, Stp.refl R, .str _⟩
  rw [List.getElem?_map]
  have : s.cps.toList[i]? = some c := by simpa using e
  rw [this]; rfl
theorem jok_rng (n : Nat) : JOk K (Itr 0 n) F0 (rngD n) := by
  intro φ F m H R E i
  have hl : (rngD n).length = n := by simp [rngD]
  rw [hl]
  refine ⟨fun h => h, fun h => h, fun x H' hi hy => ?_⟩
  obtain ⟨rfl, rfl⟩ := hy
  refine ⟨.int (0 + (i : Int)), F, ?_, Stp.refl R, .int _⟩
  simp [rngD, hi]
theorem enumD_get : ∀ (ds : List D) (n i : Nat), (enumD n ds)[i]? = ds[i]?.map fun d => .tup [.int ((n + i : Nat) : Int), d]
  | [], _, _ => by simp [enumD]
  | d :: ds, n, 0 => by simp [enumD]
  | d :: ds, n, i + 1 => by
    show (enumD (n + 1) ds)[i]? = _
    rw [enumD_get ds (n + 1) i]
    simp only [List.getElem?_cons_succ]
    congr 1; funext d
    rw [show n + 1 + i = n + (i + 1) by omega]
theorem enumD_len : ∀ (ds : List D) (n : Nat), (enumD n ds).length = ds.length
  | [], _ => rfl
  | _ :: ds, n => by simp [enumD, enumD_len ds (n + 1)]
theorem jok_enum {a : Addr} {vs : List V} {ds : List D} (h : SqL K F0 a vs) (r : Reps K F0 vs ds) : JOk K (Ite K a) F0 (enumD 0 ds) := by
  intro φ F m H R E i
  have hq : SqL K H a vs := R.sub.l (E.l h)
  rw [enumD_len]
  refine ⟨fun hi => ⟨vs, vs[i]'(by rw [r.length]; exact hi), hq, by simp [r.length, hi]⟩, fun hi => ⟨vs, hq, by rw [r.length]; exact hi⟩, fun x H' hi hy => ?_⟩
  obtain ⟨T, y, rfl, nT, rfl, hy⟩ := hy
  obtain ⟨v, e1, r1⟩ := r.get (List.getElem?_eq_getElem hi)
  have : y = v := Option.some.inj ((hy vs hq).symm.trans e1)
  subst this
  refine ⟨_, upd F T (.tup [.int (i : Nat), y]), by rw [enumD_get, List.getElem?_eq_getElem hi]; rfl, Stp.newF R nT, .tup (SqT.of upd_same) (.cons ?_ (.cons ((r1.mono E).mono (Ext.new (R.fresh nT))) .nil))⟩
  rw [Nat.zero_add]; exact .int _
theorem zipD_get : ∀ (as bs : List D) (i : Nat) (a b : D), as[i]? = some a → bs[i]? = some b → (zipD as bs)[i]? = some (.tup [a, b])
  | [], _, _, _, _, h, _ => by simp at h
  | _ :: _, [], _, _, _, _, h => by simp at h
  | _ :: _, _ :: _, 0, _, _, h1, h2 => by simp at h1 h2; subst h1; subst h2; rfl
  | _ :: as, _ :: bs, i + 1, a, b, h1, h2 => zipD_get as bs i a b (by simpa using h1) (by simpa using h2)
theorem zipD_len : ∀ (as bs : List D), (zipD as bs).length = min as.length bs.length
  | [], _ => by simp [zipD]
  | _ :: _, [] => by simp [zipD]
  | _ :: as, _ :: bs => by simp only [zipD, List.length_cons, zipD_len as bs]; omega
theorem jok_zip {a b : Addr} {vs ws : List V} {ds es : List D} (h : SqL K F0 a vs) (r : Reps K F0 vs ds) (h' : SqL K F0 b ws) (r' : Reps K F0 ws es) : JOk K (Itz K a b) F0 (zipD ds es) := by
  intro φ F m H R E i
  have hq : SqL K H a vs := R.sub.l (E.l h)
  have hq' : SqL K H b ws := R.sub.l (E.l h')
  rw [zipD_len]
  refine ⟨fun hi => ?_, fun hi => ⟨vs, ws, hq, hq', by rw [r.length, r'.length]; omega⟩, fun x H' hi hy => ?_⟩
  · obtain ⟨v, e1, _⟩ := r.get (List.getElem?_eq_getElem (show i < ds.length by omega))
    obtain ⟨w, e2, _⟩ := r'.get (List.getElem?_eq_getElem (show i < es.length by omega))
    exact ⟨vs, ws, v, w, hq, hq', e1, e2⟩
  · obtain ⟨T, y, z, rfl, nT, rfl, hy, hz⟩ := hy
    have h1 : i < ds.length := by omega
    have h2 : i < es.length := by omega
    obtain ⟨v, e1, r1⟩ := r.get (List.getElem?_eq_getElem h1)
    obtain ⟨w, e2, r2⟩ := r'.get (List.getElem?_eq_getElem h2)
    have : y = v := Option.some.inj ((hy vs hq).symm.trans e1)
    subst this
    have : z = w := Option.some.inj ((hz ws hq').symm.trans e2)
    subst this
    exact ⟨_, upd F T (.tup [y, z]), zipD_get _ _ _ _ _ (List.getElem?_eq_getElem h1) (List.getElem?_eq_getElem h2), Stp.newF R nT, .tup (SqT.of upd_same) (.cons ((r1.mono E).mono (Ext.new (R.fresh nT))) (.cons ((r2.mono E).mono (Ext.new (R.fresh nT))) .nil))⟩
end
section
variable {X : Cx} {W : Wsh} {tg a b : Expr} {oa ob : Ex} {pos p p2 : Pos}
/-- from a value to its items -/
theorem rdI_of {K : Frag} {o : Val → Store → Out (List D)} {σ : L2.St} {H : Hp} {R : L2.It → Hp → Prop} {Q : VK} (h : rdI K W (fun ρ m => (oa ρ m).bind o) σ H R)
    (hk : ∀ φ F ρ m H1 v u, RelS K φ F m H1 → RepE K φ F m σ ρ → σ.length = ρ.length → RepV K φ F m u v → (match o v m with
      | .ok ds m' => ∀ φ' F' H' J, Stp K φ F m H1 φ' F' m' H' → JOk K J F' ds → R J H'
      | .exc x m' => ∀ φ' F' H', Stp K φ F m H1 φ' F' m' H' → W x φ' F' m' H'
      | .bad => False) → Q u H1) : rdE K W oa σ H Q := by
  obtain ⟨φ, F, ρ, m, R0, E, L, h⟩ := h
  refine ⟨φ, F, ρ, m, R0, E, L, ?_⟩
  cases ho : oa ρ m with
  | bad => simp only [ho, Out.bind_bad] at h
  | exc x m' => simp only [ho, Out.bind_exc] at h; exact h
  | ok v m1 =>
    simp only [ho, Out.bind_ok] at h
    intro φ1 F1 H1 u s r
    refine hk φ1 F1 ρ m1 H1 v u s.rel (E.step s) L r ?_
    cases h2 : o v m1 with
    | bad => rw [h2] at h; exact h
    | exc x m' => rw [h2] at h; exact fun φ' F' H' s' => h φ' F' H' (s.trans s' R0)
    | ok ds m' => rw [h2] at h; exact fun φ' F' H' J s' => h φ' F' H' J (s.trans s' R0)
theorem sni_seq (ha : PE X a (rdE X.K W oa)) : PI X tg a (rdI X.K W (itSeq oa)) := by
  refine PImono (PIor (pi_list ha) (PIor (pi_tup ha) (pi_str ha))) fun σ H R h => ?_
  -- by what comes
  have key : (∃ Q : VK, rdE X.K W oa σ H Q ∧ (∀ u H1, Q u H1 → ∃ a, u = .ref a ∧ (∃ xs, SqL X.K H1 a xs) ∧ R (Itl X.K a) H1)) ∨ (∃ Q : VK, rdE X.K W oa σ H Q ∧ (∀ u H1, Q u H1 → ∃ a, u = .ref a ∧ (∃ xs, SqT X.K H1 a xs) ∧ R (Itt X.K a) H1)) ∨
      (∃ Q : VK, rdE X.K W oa σ H Q ∧ (∀ u H1, Q u H1 → ∃ x, u = .str x ∧ R (Its x) H1)) := by
    obtain ⟨φ, F, ρ, m, R0, E, L, h⟩ := h
    unfold itSeq at h
    cases ho : oa ρ m with
    | bad => simp only [ho, Out.bind_bad] at h
    | exc x m' =>
      simp only [ho, Out.bind_exc] at h
      exact .inl ⟨fun _ _ => False, ⟨φ, F, ρ, m, R0, E, L, by rw [ho]; exact h⟩, fun _ _ z => z.elim⟩
    | ok v m1 =>
      simp only [ho, Out.bind_ok] at h
      cases v with
      | cell n => exact h.elim
      | d d =>
        have h : (match lift m1 (seqD d) with
          | .ok ds m' => ∀ φ' F' H' J, Stp X.K φ F m H φ' F' m' H' → JOk X.K J F' ds → R J H'
          | .exc x m' => ∀ φ' F' H', Stp X.K φ F m H φ' F' m' H' → W x φ' F' m' H'
          | .bad => False) := h
        cases d with
        | lst ds =>
          refine .inl ⟨_, ⟨φ, F, ρ, m, R0, E, L, ?_⟩, fun u H1 z => z⟩
          rw [ho]; intro φ' F' H' u s r
          cases (show Rep X.K F' u (.lst ds) from r) with
          | lst h1 r1 => exact ⟨_, rfl, ⟨_, s.rel.sub.l h1⟩, h φ' F' H' _ s (jok_list h1 r1)⟩
        | tup ds =>
          refine .inr (.inl ⟨_, ⟨φ, F, ρ, m, R0, E, L, ?_⟩, fun u H1 z => z⟩)
          rw [ho]; intro φ' F' H' u s r
          cases (show Rep X.K F' u (.tup ds) from r) with
          | tup h1 r1 => exact ⟨_, rfl, ⟨_, s.rel.sub.t h1⟩, h φ' F' H' _ s (jok_tup h1 r1)⟩
        | str t =>
          refine .inr (.inr ⟨_, ⟨φ, F, ρ, m, R0, E, L, ?_⟩, fun u H1 z => z⟩)
          rw [ho]; intro φ' F' H' u s r
          cases (show Rep X.K F' u (.str t) from r)
          simp only [seqD] at h
          by_cases hs : small t.length = true
          · rw [if_pos hs] at h
            exact ⟨t, rfl, h φ' F' H' _ s (jok_str t)⟩
          · rw [if_neg hs] at h; exact h.elim
        | non => exact h.elim
        | bl _ => exact h.elim
        | int _ => exact h.elim
        | dct _ _ => exact h.elim
  have mono : ∀ {Q Q' : VK}, rdE X.K W oa σ H Q → (∀ u H1, Q u H1 → Q' u H1) → rdE X.K W oa σ H Q' := by
    rintro Q Q' ⟨φ, F, ρ, m, R0, E, L, h⟩ i
    refine ⟨φ, F, ρ, m, R0, E, L, ?_⟩
    cases ho : oa ρ m with
    | bad => rw [ho] at h; exact h
    | exc _ _ => rw [ho] at h; exact h
    | ok _ _ => rw [ho] at h; exact fun φ' F' H' u s r => i _ _ (h φ' F' H' u s r)
  rcases key with ⟨Q, h1, h2⟩ | ⟨Q, h1, h2⟩ | ⟨Q, h1, h2⟩
  · exact .inl (mono h1 h2)
  · exact .inr (.inl (mono h1 h2))
  · exact .inr (.inr (mono h1 h2))
theorem sni_rng (hg : Gl X "range") (hm : X.mg "range" = none) (na : nos a = true) (ha : PE X a (rdE X.K W oa)) : PI X tg (.Call (.Name "range" p) [a] [] pos) (rdI X.K W (itRng1 oa)) := by
  refine PImono (pi_range1 hg hm (pa_cons ha pa_nil (star_nos na)) (star_nos na)) fun σ H R h => ?_
  refine rdI_of h fun φ F ρ m H1 v u R0 E L r h => ?_
  cases v with
  | cell n => exact h.elim
  | d d =>
    cases d <;> try exact h.elim
    rename_i n
    by_cases hb : (decide (-(2 ^ 62) ≤ n) && decide (n < 2 ^ 62)) = true
    · simp only [hb, if_true] at h
      cases (show Rep X.K F u (.int n) from r)
      rw [Bool.and_eq_true, decide_eq_true_eq, decide_eq_true_eq] at hb
      exact ⟨n, rfl, hb.1, hb.2, h φ F H1 _ (Stp.refl R0) (jok_rng _)⟩
    · simp only [hb] at h; exact h.elim
theorem sni_enum {elts : List Expr} {kk : Nat} {tpos : Pos} (hg : Gl X "enumerate") (hm : X.mg "enumerate" = none) (na : nos a = true) (ha : PE X a (rdE X.K W oa)) : PI X (.Tuple elts kk tpos) (.Call (.Name "enumerate" p) [a] [] pos) (rdI X.K W (itEnum oa)) := by
  refine PImono (pi_enum hg hm (pa_cons ha pa_nil (star_nos na)) (star_nos na)) fun σ H R h => ?_
  refine rdI_of h fun φ F ρ m H1 v u R0 E L r h => ?_
  cases v with
  | cell n => exact h.elim
  | d d =>
    cases d <;> try exact h.elim
    cases (show Rep X.K F u (.lst _) from r) with
    | lst h1 r1 => exact ⟨_, _, rfl, R0.sub.l h1, h φ F H1 _ (Stp.refl R0) (jok_enum h1 r1)⟩
theorem sni_zip {elts : List Expr} {kk : Nat} {tpos : Pos} (hg : Gl X "zip") (hm : X.mg "zip" = none) (na : nos a = true) (nb : nos b = true) (ha : PE X a (rdE X.K W oa)) (hb : PE X b (rdE X.K W ob)) : PI X (.Tuple elts kk tpos) (.Call (.Name "zip" p) [a, b] [] pos) (rdI X.K W (itZip oa ob)) := by
  refine PImono (pi_zip hg hm (pa_cons ha (pa_cons hb pa_nil (star_nos nb)) (star_nos na)) (star_nos na) (star_any (by rw [List.all_cons, nb]; rfl))) fun σ H R h => ?_
  obtain ⟨φ, F, ρ, m, R0, E, L, h⟩ := h
  refine ⟨φ, F, ρ, m, R0, E, L, ?_⟩
  unfold itZip at h
  cases ho : oa ρ m with
  | bad => simp only [ho, Out.bind_bad] at h
  | exc x m' => simp only [ho, Out.bind_exc] at h; exact h
  | ok v m1 =>
    simp only [ho, Out.bind_ok] at h
    intro φ1 F1 H1 u s r
    refine ⟨φ1, F1, ρ, m1, s.rel, E.step s, L, ?_⟩
    cases ho2 : ob ρ m1 with
    | bad => simp only [ho2, Out.bind_bad] at h
    | exc x m' => simp only [ho2, Out.bind_exc] at h; exact fun φ' F' H' s' => h φ' F' H' (s.trans s' R0)
    | ok v2 m2 =>
      simp only [ho2, Out.bind_ok] at h
      intro φ2 F2 H2 u2 s2 r2
      have r1' := RepV.step s2 r
      cases v with
      | cell n => exact h.elim
      | d d =>
        cases v2 with
        | cell n => cases d <;> exact h.elim
        | d d2 =>
          cases d <;> try exact h.elim
          cases d2 <;> try exact h.elim
          cases (show Rep X.K F2 u (.lst _) from r1') with
          | lst h1 q1 =>
            cases (show Rep X.K F2 u2 (.lst _) from r2) with
            | lst h2 q2 => exact ⟨_, _, _, _, rfl, s2.rel.sub.l h1, s2.rel.sub.l h2, h φ2 F2 H2 _ (s.trans s2 R0) (jok_zip h1 q1 h2 q2)⟩
end
/-! ### targets -/
def Tg.slots : Tg → List Nat
  | .name i => [i]
  | .tup is => is
def gT (K : Frag) : Tg → TG
  | .name i => gName i
  | .tup is => gTup K is.length (is.foldr (fun i t => gCons (gName i) t) gNil)
section
variable {K : Frag} {φ : Nat → Addr} {F : Hp} {m : Store} {H : Hp}
theorem setAll_len : ∀ {is : List Nat} {ds : List D} {ρ ρ' : Ev}, setAll is ds ρ = some ρ' → ds.length = is.length ∧ ρ'.length = ρ.length
  | [], [], _, _, h => by simp [setAll] at h; subst h; exact ⟨rfl, rfl⟩
  | _ :: is, _ :: ds, ρ, _, h => by
    have h : setAll is ds _ = some _ := h
    obtain ⟨h1, h2⟩ := setAll_len h
    exact ⟨by simp [h1], by rw [h2, List.length_set]⟩
  | [], _ :: _, _, _, h => by simp [setAll] at h
  | _ :: _, [], _, _, h => by simp [setAll] at h
theorem bindT_len {tg : Tg} {d : D} {ρ ρ' : Ev} (h : bindT tg d ρ = some ρ') : ρ'.length = ρ.length := by
  cases tg with
  | name i => cases h; simp
  | tup is =>
    cases d <;> simp [bindT] at h
    exact (setAll_len h).2
/-- where slots agree but for some that are about to be set -/
def RepX (K : Frag) (φ : Nat → Addr) (F : Hp) (m : Store) (xs : List Nat) (σ : L2.St) (ρ : Ev) : Prop := ∀ (i : Nat) (v : Val), i ∉ xs → ρ[i]? = some (some v) → ∃ u, σ[i]? = some (some u) ∧ RepV K φ F m u v
theorem RepX.set {xs : List Nat} {σ : L2.St} {ρ : Ev} {i : Nat} {u : V} {v : Val} (h : RepX K φ F m (i :: xs) σ ρ) (hl : σ.length = ρ.length) (r : RepV K φ F m u v) : RepX K φ F m xs (σ.set i (some u)) (ρ.set i (some v)) := fun j w hj e => by
  by_cases hi : i = j
  · subst hi
    by_cases hlt : i < ρ.length
    · rw [List.getElem?_set_self hlt] at e; cases e
      exact ⟨u, List.getElem?_set_self (by omega), r⟩
    · rw [List.getElem?_eq_none (by simpa using Nat.le_of_not_lt hlt)] at e; cases e
  · rw [List.getElem?_set_ne hi] at e
    obtain ⟨u', e1, r1⟩ := h j w (by simp only [List.mem_cons, not_or]; exact ⟨fun z => hi z.symm, hj⟩) e
    exact ⟨u', by rw [List.getElem?_set_ne hi]; exact e1, r1⟩
theorem gs_ok : ∀ {is : List Nat} {ds : List D} {vs : List V} {σ : L2.St} {ρ ρ' : Ev} {Q : L2.St → Hp → Prop}, setAll is ds ρ = some ρ' → Reps K F vs ds → RepX K φ F m is σ ρ → σ.length = ρ.length →
    (∀ σ', RepE K φ F m σ' ρ' → σ'.length = σ.length → (∀ j, j ∉ is → σ'[j]? = σ[j]?) → Q σ' H) → is.foldr (fun i t => gCons (gName i) t) gNil vs σ H Q
  | [], [], _, σ, ρ, ρ', Q, h, .nil, E, L, k => by
    simp [setAll] at h; subst h
    exact ⟨rfl, k σ (fun i v e => E i v (by simp) e) rfl fun _ _ => rfl⟩
  | i :: is, d :: ds, _, σ, ρ, ρ', Q, h, .cons hv r, E, L, k => by
    have h : setAll is ds (ρ.set i (some (.d d))) = some ρ' := h
    refine ⟨_, _, rfl, gs_ok h r (E.set L hv) (by simp [L]) fun σ' e1 e2 e3 => k σ' e1 (by rw [e2, List.length_set]) fun j hj => ?_⟩
    have hne : i ≠ j := fun z => hj (by rw [← z]; exact List.mem_cons_self)
    rw [e3 j (fun z => hj (List.mem_cons_of_mem _ z)), List.getElem?_set_ne hne]
  | [], _ :: _, _, _, _, _, _, h, _, _, _, _ => by simp [setAll] at h
  | _ :: _, [], _, _, _, _, _, h, _, _, _, _ => by simp [setAll] at h
theorem gT_ok {tg : Tg} {d : D} {u : V} {σ : L2.St} {ρ ρ' : Ev} {Q : L2.St → Hp → Prop} (R : RelS K φ F m H) (h : bindT tg d ρ = some ρ') (r : Rep K F u d) (E : RepX K φ F m tg.slots σ ρ) (L : σ.length = ρ.length)
    (k : ∀ σ', RepE K φ F m σ' ρ' → σ'.length = σ.length → (∀ j, j ∉ tg.slots → σ'[j]? = σ[j]?) → Q σ' H) : gT K tg u σ H Q := by
  cases tg with
  | name i =>
    cases h
    have E2 := RepX.set (v := .d d) (u := u) E L r
    refine k _ (fun j v e => E2 j v (by simp) e) (by simp) fun j hj => ?_
    rw [List.getElem?_set_ne (fun z => hj (by rw [← z]; exact List.mem_cons_self))]
  | tup is =>
    cases d <;> simp [bindT] at h
    cases r with
    | tup h1 r1 =>
      exact ⟨_, _, rfl, R.sub.t h1, by rw [r1.length, (setAll_len h).1], gs_ok h r1 E L k⟩
end
end AW
set_option maxRecDepth 100000
namespace AW
open PySem L2
def Wn : Wsh := fun _ _ _ _ _ => False
section
variable {K : Frag} {W : Wsh} {φ φ' : Nat → Addr} {F F' : Hp} {m m' : Store} {G H4 : Hp} {p : Addr} {o : HO}
/-- an object that nobody speaks of stays apart -/
def hide (H : Hp) (p : Addr) : Hp := fun a => if a = p then none else H a
theorem unhide (R : RelS K φ F m G) (hp : G p = none) (s : Stp K φ F m (upd G p o) φ' F' m' H4) : H4 = upd (hide H4 p) p o ∧ Stp K φ F m G φ' F' m' (hide H4 p) ∧ hide H4 p p = none := by
  have nl : ∀ n o', m[n]? = some o' → o'.live = true → φ n ≠ p := fun n o' e _ => R.ne hp (List.getElem?_eq_some_iff.mp e).1
  have h4 : H4 p = some o := s.fr p o upd_same nl
  have fp : F' p = none := by
    cases e : F' p with
    | none => rfl
    | some o' =>
      rcases s.own p o' e (R.fresh hp) with h | ⟨n, o2, e1, l, e2⟩
      · rw [upd_same] at h; cases h
      · exact absurd e2 (nl n o2 e1 l)
  have hne : ∀ {a : Addr}, a ≠ p → hide H4 p a = H4 a := fun h => if_neg h
  have hp0 : hide H4 p p = none := if_pos rfl
  have hneu : ∀ {a : Addr}, a ≠ p → upd G p o a = G a := fun h => upd_ne h
  have cne : ∀ n, n < m'.length → φ' n ≠ p := fun n hn => by
    by_cases hlt : n < m.length
    · rw [s.ext n hlt]; exact R.ne hp hlt
    · have := s.new n (by omega) hn
      intro q; rw [q, upd_same] at this; cases this
  refine ⟨?_, ⟨s.len, s.ext, s.exF, fun a u e hn => ?_, s.dead, fun n h1 h2 => ?_, fun a u e1 e2 => ?_, ⟨fun a u e => ?_, fun n c e => ?_, s.rel.inj⟩⟩, hp0⟩
  · funext a
    by_cases ha : a = p
    · subst ha; rw [upd_same, h4]
    · rw [upd_ne ha, hne ha]
  · have ha : a ≠ p := ne_of_none e hp
    rw [hne ha]; exact s.fr a u (by rw [hneu ha]; exact e) hn
  · have q := s.new n h1 h2
    rw [hneu (cne n h2)] at q; exact q
  · rcases s.own a u e1 e2 with h | h
    · by_cases ha : a = p
      · subst ha; rw [upd_same] at h; cases h
      · rw [hneu ha] at h; exact .inl h
    · exact .inr h
  · have ha : a ≠ p := fun q => by rw [q, fp] at e; cases e
    rw [hne ha]; exact s.rel.sub a u e
  · obtain ⟨ho, e1, e2⟩ := s.rel.cell n c e
    exact ⟨ho, by rw [hne (cne n (List.getElem?_eq_some_iff.mp e).1)]; exact e1, e2⟩
theorem upd_hide {H : Hp} {o' : HO} : upd (upd H p o) p o' = upd H p o' := upd_upd
end
theorem wipe_get : ∀ {vs : List Nat} {σ : L2.St} {i : Nat}, i ∉ vs → (wipe σ vs)[i]? = σ[i]?
  | [], _, _, _ => rfl
  | v :: vs, σ, i, h => by
    simp only [List.mem_cons, not_or] at h
    show ((wipe σ vs).set v none)[i]? = _
    rw [List.getElem?_set_ne (fun q => h.1 q.symm), wipe_get h.2]
theorem wipe_in : ∀ {vs : List Nat} {σ : L2.St} {i : Nat}, i ∈ vs → i < σ.length → (wipe σ vs)[i]? = some none
  | v :: vs, σ, i, h, hl => by
    show ((wipe σ vs).set v none)[i]? = _
    by_cases e : v = i
    · subst e
      exact List.getElem?_set_self (by rw [wipe_length]; exact hl)
    · rw [List.getElem?_set_ne e]
      rcases List.mem_cons.mp h with q | q
      · exact absurd q.symm e
      · exact wipe_in q hl
theorem wipe_same {vs : List Nat} {σ σ' : L2.St} (hl : σ'.length = σ.length) (h : ∀ j, j ∉ vs → σ'[j]? = σ[j]?) : wipe σ' vs = wipe σ vs := by
  apply List.ext_getElem?
  intro i
  by_cases hi : i ∈ vs
  · by_cases hlt : i < σ.length
    · rw [wipe_in hi hlt, wipe_in hi (by omega)]
    · rw [List.getElem?_eq_none (by rw [wipe_length]; omega), List.getElem?_eq_none (by rw [wipe_length]; omega)]
  · rw [wipe_get hi, wipe_get hi, h i hi]
section
variable {X : Cx} {W : Wsh} {elt tge iter : Expr} {ifs : List Expr} {scope : Scope} {own : List (Str × Nat)} {pos : Pos} {tg : Tg} {oi : Ev → Store → Out (List D)} {oc : Ev → Store → Out Bool} {oe : Ex}
theorem rd_lc {K : Frag} {σ : L2.St} {H : Hp} {Q : VK} (h : rdL K W (evLc oi tg oc oe) σ H Q) : tLc (rdI K W oi) (gT K tg) (rdT K Wn oc) (rdE K Wn oe) tg.slots σ H Q := by
  obtain ⟨φ, F, ρ, m, R, E, L, h⟩ := h
  refine ⟨φ, F, ρ, m, R, E, L, ?_⟩
  unfold evLc at h
  cases ho : oi ρ m with
  | bad => simp only [ho, Out.bind_bad] at h
  | exc x m' => simp only [ho, Out.bind_exc] at h; exact h
  | ok ds m1 =>
    simp only [ho, Out.bind_ok] at h
    intro φ1 F1 H1 J s1 jok p hp
    let f := lcTurn tg oc oe ρ
    have hb : goLc f ds [] m1 ≠ .bad := by
      intro q
      have h' : (match goLc f ds [] m1 with
        | .ok ds m' => ∀ φ' F' H' vs p, Stp K φ F m H φ' F' m' H' → Reps K F' vs ds → H' p = none → Q (.ref p) (upd H' p (.lst vs))
        | .exc x m' => ∀ φ' F' H', Stp K φ F m H φ' F' m' H' → W x φ' F' m' H'
        | .bad => False) := h
      rw [q] at h'; exact h'
    refine ⟨fun i n H' => n = ds.length - i ∧ i ≤ ds.length ∧ ∃ φi Fi mi G vs as, H' = upd G p (.lst vs) ∧ G p = none ∧ Stp K φ1 F1 m1 H1 φi Fi mi G ∧ Reps K Fi vs as ∧ goLc f (ds.drop i) as mi = goLc f ds [] m1,
      ⟨ds.length, by simp, Nat.zero_le _, φ1, F1, m1, H1, [], [], rfl, hp, Stp.refl s1.rel, .nil, rfl⟩, ?_⟩
    rintro i n H' ⟨rfl, hi, φi, Fi, mi, G, vs, as, rfl, hG, si, ra, eg⟩
    have sN : Stp K φi Fi mi G φi Fi mi (upd G p (.lst vs)) := Stp.newN si.rel hG
    by_cases hlt : i < ds.length
    · refine .inr ⟨(jok φi Fi mi _ sN.rel si.exF i).1 hlt, fun H'' => ∃ φi Fi mi G vs as, H'' = upd G p (.lst vs) ∧ G p = none ∧ Stp K φ1 F1 m1 H1 φi Fi mi G ∧ Reps K Fi vs as ∧ goLc f (ds.drop (i + 1)) as mi = goLc f ds [] m1, fun H'' hN => ⟨ds.length - (i + 1), by omega, rfl, hlt, hN⟩, fun x H2 hy => ?_⟩
      obtain ⟨d, F2, ed, s2, rx⟩ := (jok φi Fi mi _ sN.rel si.exF i).2.2 x H2 hlt hy
      -- the turn
      have hd : ds.drop i = d :: ds.drop (i + 1) := by
        rw [List.drop_eq_getElem_cons hlt]
        have := List.getElem?_eq_getElem hlt
        rw [this] at ed; cases ed; rfl
      rw [hd] at eg
      have eg' : (match f d mi with
        | .ok (some y) m1 => if as.length < sizeLine then goLc f (ds.drop (i + 1)) (as ++ [y]) m1 else .bad
        | .ok none m1 => goLc f (ds.drop (i + 1)) as m1
        | _ => .bad) = goLc f ds [] m1 := eg
      have hfb : ∀ r, f d mi = r → (r = .bad ∨ ∃ x m', r = .exc x m') → False := by
        intro r er hr
        rcases hr with rfl | ⟨x, m', rfl⟩ <;> (rw [er] at eg'; exact hb eg'.symm)
      cases eb : bindT tg d ρ with
      | none => exact (hfb _ rfl (.inl (by show (lift mi (bindT tg d ρ)).bind _ = _; rw [eb]; rfl))).elim
      | some ρ' =>
        have ef : f d mi = (oc ρ' mi).bind fun t m => if t = true then (oe ρ' m).bind fun v m => (lift m v.data).bind fun d m => .ok (some d) m else .ok none m := by
          show (lift mi (bindT tg d ρ)).bind _ = _
          rw [eb]; rfl
        have Ei : RepE K φi F2 mi σ ρ := ((E.step s1).step si).step (sN.trans s2 si.rel)
        have EX : RepX K φi F2 mi tg.slots (wipe σ tg.slots) ρ := fun j v hj e => by
          obtain ⟨u, e1, r1⟩ := Ei j v e
          exact ⟨u, by rw [wipe_get hj]; exact e1, r1⟩
        refine gT_ok s2.rel eb rx EX (by rw [wipe_length]; exact L) fun σ2 E2 l2 k2 => ⟨?_, ?_⟩
        · rw [wipe_same (vs := tg.slots) (σ := wipe σ tg.slots) l2 k2]
          exact wipe_same (wipe_length _ _) fun j hj => wipe_get hj
        have L2 : σ2.length = ρ'.length := by rw [l2, wipe_length, bindT_len eb]; exact L
        refine ⟨φi, F2, ρ', mi, s2.rel, E2, L2, ?_⟩
        cases hc : oc ρ' mi with
        | bad => exact (hfb _ rfl (.inl (by rw [ef, hc]; rfl))).elim
        | exc x m' => exact (hfb _ rfl (.inr ⟨x, m', by rw [ef, hc]; rfl⟩)).elim
        | ok t m3 =>
          rw [hc] at ef
          simp only [Out.bind_ok] at ef
          intro φ3 F3 H3 b s3 rb
          cases rb
          have S3 : Stp K φi Fi mi (upd G p (.lst vs)) φ3 F3 m3 H3 := s2.trans s3 sN.rel
          cases t with
          | false =>
            rw [if_neg (by simp)] at ef
            rw [ef] at eg'
            obtain ⟨e4, s4, g4⟩ := unhide si.rel hG S3
            exact ⟨φ3, F3, m3, _, vs, as, e4, g4, si.trans s4 s1.rel, ra.mono S3.exF, eg'⟩
          | true =>
            rw [if_pos rfl] at ef
            refine ⟨φ3, F3, ρ', m3, s3.rel, E2.step s3, L2, ?_⟩
            cases he : oe ρ' m3 with
            | bad => exact (hfb _ rfl (.inl (by rw [ef, he]; rfl))).elim
            | exc x m' => exact (hfb _ rfl (.inr ⟨x, m', by rw [ef, he]; rfl⟩)).elim
            | ok v m4 =>
              rw [he] at ef
              simp only [Out.bind_ok] at ef
              intro φ4 F4 H4 u s4 ru
              cases v with
              | cell k => exact (hfb _ rfl (.inl (by rw [ef]; rfl))).elim
              | d y =>
                have ef : f d mi = .ok (some y) m4 := ef
                rw [ef] at eg'
                have S4 : Stp K φi Fi mi (upd G p (.lst vs)) φ4 F4 m4 H4 := S3.trans s4 sN.rel
                obtain ⟨e5, s5, g5⟩ := unhide si.rel hG S4
                have hl : as.length < sizeLine := by
                  by_cases hl : as.length < sizeLine
                  · exact hl
                  · have eg2 : (if as.length < sizeLine then goLc f (ds.drop (i + 1)) (as ++ [y]) m4 else .bad) = goLc f ds [] m1 := eg'
                    rw [if_neg hl] at eg2; exact absurd eg2.symm hb
                have eg2 : (if as.length < sizeLine then goLc f (ds.drop (i + 1)) (as ++ [y]) m4 else .bad) = goLc f ds [] m1 := eg'
                rw [if_pos hl] at eg2
                refine ⟨vs, by rw [e5, upd_same], by rw [ra.length]; exact hl, ?_⟩
                exact ⟨φ4, F4, m4, hide H4 p, vs ++ [u], as ++ [y], (congrArg (fun Z => upd Z p (.lst (vs ++ [u]))) e5).trans upd_upd, g5, si.trans s5 s1.rel, (ra.mono S4.exF).snoc ru, eg2⟩
    · have hie : i = ds.length := by omega
      subst hie
      refine .inl ⟨(jok φi Fi mi _ sN.rel si.exF _).2.1 (Nat.le_refl _), ?_⟩
      rw [List.drop_length] at eg
      have h' : (match goLc f ds [] m1 with
        | .ok ds m' => ∀ φ' F' H' vs p, Stp K φ F m H φ' F' m' H' → Reps K F' vs ds → H' p = none → Q (.ref p) (upd H' p (.lst vs))
        | .exc x m' => ∀ φ' F' H', Stp K φ F m H φ' F' m' H' → W x φ' F' m' H'
        | .bad => False) := h
      rw [← eg] at h'
      exact h' φi Fi G vs p (s1.trans si R) ra hG
end
end AW
set_option maxRecDepth 100000
namespace AW
open PySem L2
def PostS (K : Frag) (W : Wsh) (φ : Nat → Addr) (F : Hp) (m : Store) (H : Hp) (o : Out Fl) (Dn : L2.Ends) : Prop := match o with
  | .ok (.nx ρ) m' => ∀ φ' F' H' σ', Stp K φ F m H φ' F' m' H' → RepE K φ' F' m' σ' ρ → σ'.length = ρ.length → Dn.nx σ' H'
  | .ok (.ret v) m' => ∀ φ' F' H' u, Stp K φ F m H φ' F' m' H' → RepV K φ' F' m' u v → Dn.rt u H'
  | .ok (.bk ρ) m' => ∀ φ' F' H' σ', Stp K φ F m H φ' F' m' H' → RepE K φ' F' m' σ' ρ → σ'.length = ρ.length → Dn.bk σ' H'
  | .ok (.ct ρ) m' => ∀ φ' F' H' σ', Stp K φ F m H φ' F' m' H' → RepE K φ' F' m' σ' ρ → σ'.length = ρ.length → Dn.ct σ' H'
  | .exc x m' => ∀ φ' F' H', Stp K φ F m H φ' F' m' H' → W x φ' F' m' H'
  | .bad => False
def rdS (K : Frag) (W : Wsh) (o : Sx) : TS := fun Dn σ H => ∃ φ F ρ m, RelS K φ F m H ∧ RepE K φ F m σ ρ ∧ σ.length = ρ.length ∧ PostS K W φ F m H (o ρ m) Dn
section
variable {K : Frag} {W : Wsh} {φ φ1 : Nat → Addr} {F F1 : Hp} {m m1 : Store} {H H1 : Hp}
theorem PostS.step {o : Out Fl} {Dn : L2.Ends} (R0 : RelS K φ F m H) (h : PostS K W φ F m H o Dn) (s : Stp K φ F m H φ1 F1 m1 H1) : PostS K W φ1 F1 m1 H1 o Dn := by
  cases o with
  | ok r m' =>
    cases r with
    | nx ρ => exact fun φ' F' H' σ' s' => h φ' F' H' σ' (s.trans s' R0)
    | ret v => exact fun φ' F' H' u s' => h φ' F' H' u (s.trans s' R0)
    | bk ρ => exact fun φ' F' H' σ' s' => h φ' F' H' σ' (s.trans s' R0)
    | ct ρ => exact fun φ' F' H' σ' s' => h φ' F' H' σ' (s.trans s' R0)
  | exc x m' => exact fun φ' F' H' s' => h φ' F' H' (s.trans s' R0)
  | bad => exact h
/-- an expression, then a statement's rest -/
theorem PostS.bind {α β : Type} {Ra : (Nat → Addr) → Hp → Store → β → α → Prop} {o : Out α} {k : α → Store → Out Fl} {Dn : L2.Ends} {Q1 : β → Hp → Prop} (R0 : RelS K φ F m H) (h : PostS K W φ F m H (o.bind k) Dn)
    (hk : ∀ a m1 φ1 F1 H1 b, Stp K φ F m H φ1 F1 m1 H1 → Ra φ1 F1 m1 b a → PostS K W φ1 F1 m1 H1 (k a m1) Dn → Q1 b H1) : Post K W Ra φ F m H o Q1 := by
  cases o with
  | ok a m' => exact fun φ' F' H' b s' r => hk a m' φ' F' H' b s' r (PostS.step R0 h s')
  | exc x m' => exact h
  | bad => exact h
theorem PostS.lift {α : Type} {o : Option α} {k : α → Store → Out Fl} {Dn : L2.Ends} (h : PostS K W φ F m H ((AW.lift m o).bind k) Dn) : ∃ a, o = some a ∧ PostS K W φ F m H (k a m) Dn := by
  cases o with
  | none => exact h.elim
  | some a => exact ⟨a, rfl, h⟩
theorem rdS_bind {α β : Type} {Ra : (Nat → Addr) → Hp → Store → β → α → Prop} {oa : Ev → Store → Out α} {k : Ev → α → Store → Out Fl} {σ : L2.St} {H : Hp} {Dn : L2.Ends} {Q1 : β → Hp → Prop}
    (h : rdS K W (fun ρ m => (oa ρ m).bind (k ρ)) Dn σ H)
    (hk : ∀ φ F ρ m H1 a b, RelS K φ F m H1 → RepE K φ F m σ ρ → σ.length = ρ.length → Ra φ F m b a → PostS K W φ F m H1 (k ρ a m) Dn → Q1 b H1) : rd K W Ra oa σ H Q1 := by
  obtain ⟨φ, F, ρ, m, R, E, L, h⟩ := h
  exact ⟨φ, F, ρ, m, R, E, L, PostS.bind R h fun a m1 φ1 F1 H1 b s r h => hk φ1 F1 ρ m1 H1 a b s.rel (E.step s) L r h⟩
end
theorem PSmono {X : Cx} {st : Stmt} {t t' : TS} (h : PS X st t) (i : ∀ Dn σ H, t' Dn σ H → t Dn σ H) : PS X st t' := ⟨fun pins s σ H Dn I q => h.run pins s σ H Dn I (i _ _ _ q)⟩
theorem PSsmono {X : Cx} {st : List Stmt} {t t' : TS} (h : PSs X st t) (i : ∀ Dn σ H, t' Dn σ H → t Dn σ H) : PSs X st t' := ⟨fun pins s σ H Dn I q => h.run pins s σ H Dn I (i _ _ _ q)⟩
section
variable {X : Cx} {W : Wsh} {a b c e : Expr} {oa ob oc oe : Ex} {ou : Ev → Store → Out (List Val)} {pos px py pt : Pos} {x y : Str} {os ot : Sx}
/-! ### names set -/
def notLc : Expr → Bool
  | .ListComp _ _ _ _ => false
  | .SetComp _ _ _ _ => false
  | .DictComp _ _ _ _ _ => false
  | _ => true
theorem sw_not {tgt : Option Expr} {l : Nat} {env : PySem.Env} (h : notLc e = true) : swapsWith e tgt l env = pure false := by cases e <;> first | rfl | cases h
theorem sole_name {l : Nat} {env : PySem.Env} : swapsWithSole [.Name x px] e l env = swapsWith e (some (.Name x px)) l env := rfl
theorem rdS_asg {K : Frag} {i : Nat} {σ : L2.St} {H : Hp} {Dn : L2.Ends} (h : rdS K W (exAsg i oe) Dn σ H) : tAsg (rdE K W oe) (gName i) Dn σ H := by
  refine rdS_bind h fun φ F ρ m H1 v u R E L r h => ?_
  exact h φ F H1 _ (Stp.refl R) (E.set L r) (by simp [L])
theorem sns_asg {i : Nat} (hN : X.N.Nodup) (hi : X.N[i]? = some x) (hx : Loc X.env.scope x) (hf : X.fn x = true ∨ X.env.scope.names.lookup x = some .local) (hs : swapsWith e (some (.Name x px)) pos.line X.env = pure false) (he : PE X e (rdE X.K W oe)) :
    PS X (.Assign [.Name x px] e pos) (rdS X.K W (exAsg i oe)) := PSmono (ps_asg he (pg_name hN hi hx hf) hs rfl rfl) fun _ _ _ h => rdS_asg h
/-- x = [..], the comprehension's frame swapped -/
theorem sns_asgLc {i : Nat} {mt : Bool} {elt tge iter : Expr} {scope : Scope} {own : List (Str × Nat)} {ifs : List Expr} {tg : Tg} {oi : Ev → Store → Out (List D)} {oq : Ev → Store → Out Bool} {p2 : Pos} (hc : X.calm = true) (hN : X.N.Nodup) (hi : X.N[i]? = some x) (hyl : X.env.scope.names.lookup x = some .local)
    (hsw : swapsWith (.ListComp elt [⟨tge, iter, ifs, 0⟩] scope p2) (some (.Name x px)) pos.line X.env = pure true) (hit : PI X tge iter (rdI X.K W oi)) (ok : BlkOk X.N X.env.scope scope own) (ho : own.map (·.2) = tg.slots)
    (hg : ∀ (s : Shared) (H : Hp) (C : Addr) (cl : List (Str × Addr)) (fp : List Addr), PG (X.blk s H scope (compEnvC scope cl C X.env) fp) tge (gT X.K tg)) (ht : ∀ (s : Shared) (H : Hp) (C : Addr) (cl : List (Str × Addr)) (fp : List Addr), PTs (X.blk s H scope (compEnvC scope cl C X.env) fp) ifs (rdT X.K Wn oq))
    (he : ∀ (s : Shared) (H : Hp) (C : Addr) (cl : List (Str × Addr)) (fp : List Addr), PE (X.blk s H scope (compEnvC scope cl C X.env) fp) elt (rdE X.K Wn oe)) (hs : ∀ v, foldedSetIterable iter X.env v = pure v) :
    PS X (.Assign [.Name x px] (.ListComp elt [⟨tge, iter, ifs, 0⟩] scope p2) pos) (rdS X.K W (exAsg i (evLm mt (evLc oi tg oq oe)))) := by
  refine PSmono (ps_setLc hc hN hi hyl hsw hit ok hg ht he hs) fun Dn σ H h => ?_
  have h2 : tAsg (rdE X.K W (evLm mt (evLc oi tg oq oe))) (gName i) Dn σ H := rdS_asg h
  rw [ho]
  exact rd_lc (rd_lm h2)
theorem snl_lc {elt tge iter : Expr} {scope : Scope} {own : List (Str × Nat)} {ifs : List Expr} {tg : Tg} {oi : Ev → Store → Out (List D)} {oq : Ev → Store → Out Bool} {p2 : Pos} (hc : X.calm = true) (hN : X.N.Nodup)
    (hit : PI X tge iter (rdI X.K W oi)) (ok : BlkOk X.N X.env.scope scope own) (ho : own.map (·.2) = tg.slots)
    (hg : ∀ (s : Shared) (H : Hp) (C : Addr) (cl : List (Str × Addr)) (fp : List Addr), PG (X.blk s H scope (compEnvC scope cl C X.env) fp) tge (gT X.K tg)) (ht : ∀ (s : Shared) (H : Hp) (C : Addr) (cl : List (Str × Addr)) (fp : List Addr), PTs (X.blk s H scope (compEnvC scope cl C X.env) fp) ifs (rdT X.K Wn oq))
    (he : ∀ (s : Shared) (H : Hp) (C : Addr) (cl : List (Str × Addr)) (fp : List Addr), PE (X.blk s H scope (compEnvC scope cl C X.env) fp) elt (rdE X.K Wn oe)) (hs : ∀ v, foldedSetIterable iter X.env v = pure v) :
    PE X (.ListComp elt [⟨tge, iter, ifs, 0⟩] scope p2) (rdL X.K W (evLc oi tg oq oe)) := by
  refine PEmono (pe_lc hc hN hit ok hg ht he hs) fun σ H Q h => ?_
  rw [ho]
  exact rd_lc h
/-! ### other statements -/
theorem sns_expr (hs : notLc e = true) (he : PE X e (rdE X.K W oe)) : PS X (.Expr e pos) (rdS X.K W (exDrop oe)) := PSmono (ps_expr he (sw_not hs)) fun Dn σ H h => by
  refine rdS_bind h fun φ F ρ m H1 v u R E L r h => ?_
  exact h φ F H1 σ (Stp.refl R) E L
theorem sns_ret (he : PE X e (rdE X.K W oe)) : PS X (.Return (some e) pos) (rdS X.K W (exRet oe)) := PSmono (ps_ret he) fun Dn σ H h => by
  refine rdS_bind h fun φ F ρ m H1 v u R E L r h => ?_
  exact h φ F H1 u (Stp.refl R) r
theorem sns_pass : PS X (.Pass pos) (rdS X.K W exNext) := PSmono ps_pass fun Dn σ H h => by
  obtain ⟨φ, F, ρ, m, R, E, L, h⟩ := h
  exact h φ F H σ (Stp.refl R) E L
theorem sns_brk : PS X (.Break pos) (rdS X.K W fun ρ m => .ok (.bk ρ) m) := PSmono ps_break fun Dn σ H h => by
  obtain ⟨φ, F, ρ, m, R, E, L, h⟩ := h
  exact h φ F H σ (Stp.refl R) E L
theorem sns_cont : PS X (.Continue pos) (rdS X.K W fun ρ m => .ok (.ct ρ) m) := PSmono ps_continue fun Dn σ H h => by
  obtain ⟨φ, F, ρ, m, R, E, L, h⟩ := h
  exact h φ F H σ (Stp.refl R) E L
theorem sns_never {st : Stmt} : PS X st (rdS X.K W fun _ _ => .bad) := PSmono ps_never fun Dn σ H h => by
  obtain ⟨φ, F, ρ, m, R, E, L, h⟩ := h
  exact h
theorem sns_if {oq : Ev → Store → Out Bool} {st sf : List Stmt} (hc : PT X c (rdT X.K W oq)) (ht : PSs X st (rdS X.K W os)) (hf : PSs X sf (rdS X.K W ot)) : PS X (.If c st sf pos) (rdS X.K W (exIf oq os ot)) := PSmono (ps_if hc ht hf) fun Dn σ H h => by
  refine rdS_bind (Ra := REq) h fun φ F ρ m H1 v u R E L r h => ?_
  cases r
  cases v with
  | true => exact ⟨φ, F, ρ, m, R, E, L, h⟩
  | false => exact ⟨φ, F, ρ, m, R, E, L, h⟩
theorem snss_nil : PSs X [] (rdS X.K W exNext) := PSsmono pss_nil fun Dn σ H h => by
  obtain ⟨φ, F, ρ, m, R, E, L, h⟩ := h
  exact h φ F H σ (Stp.refl R) E L
theorem snss_cons {st : Stmt} {sts : List Stmt} (h1 : PS X st (rdS X.K W os)) (h2 : PSs X sts (rdS X.K W ot)) : PSs X (st :: sts) (rdS X.K W (exSeq os ot)) := PSsmono (pss_cons h1 h2) fun Dn σ H h => by
  obtain ⟨φ, F, ρ, m, R, E, L, h⟩ := h
  refine ⟨φ, F, ρ, m, R, E, L, ?_⟩
  unfold exSeq at h
  cases ho : os ρ m with
  | bad => rw [ho] at h; exact h
  | exc x m' => rw [ho] at h; exact h
  | ok r m1 =>
    rw [ho] at h
    simp only [Out.bind_ok] at h
    cases r with
    | nx ρ1 => exact fun φ' F' H' σ' s E' L' => ⟨φ', F', ρ1, m1, s.rel, E', L', PostS.step R h s⟩
    | ret v => exact h
    | bk ρ1 => exact h
    | ct ρ1 => exact h
theorem snss_frz {sts : List Stmt} {i : Nat} (h2 : PSs X sts (rdS X.K W ot)) : PSs X sts (rdS X.K W (exFrz i ot)) := PSsmono h2 fun Dn σ H h => by
  obtain ⟨φ, F, ρ, m, R, E, L, h⟩ := h
  unfold exFrz at h
  split at h
  · rename_i n e1
    split at h
    · rename_i ds e2
      obtain ⟨u, e3, rfl, hn⟩ := E i _ e1
      obtain ⟨ho, e4, e5⟩ := R.cell n _ e2
      have hro := (e5 rfl).2
      cases ho <;> try exact hro.elim
      rename_i vs
      have s := Stp.kill R e2 rfl e4
      refine ⟨φ, _, _, _, s.rel, ?_, by simp [L], PostS.step R h s⟩
      intro j v ej
      by_cases hj : i = j
      · subst hj
        by_cases hlt : i < ρ.length
        · rw [List.getElem?_set_self hlt] at ej; cases ej
          refine ⟨_, e3, ?_⟩
          exact Rep.lst (SqL.of upd_same) (Reps.mono s.exF hro)
        · rw [List.getElem?_eq_none (by simpa using Nat.le_of_not_lt hlt)] at ej; cases ej
      · rw [List.getElem?_set_ne hj] at ej
        obtain ⟨u', e6, r6⟩ := E j v ej
        exact ⟨u', e6, RepV.step s r6⟩
    · exact h.elim
  · exact h.elim
end
end AW
set_option maxRecDepth 100000
namespace AW
open PySem L2
section
variable {X : Cx} {W : Wsh} {a b c e : Expr} {oa ob oc oe : Ex} {ou : Ev → Store → Out (List Val)} {pos px py pt : Pos} {x y : Str} {os ot : Sx}
theorem sns_for {tge iter : Expr} {body : List Stmt} {oi : Ev → Store → Out (List D)} {tg : Tg} (hp : PassesOwn (model X.prog X.w) X.A X.env X.xe) (hc : X.calm = true) (hi : PI X tge iter (rdI X.K W oi)) (hg : PG X tge (gT X.K tg)) (hb : PSs X body (rdS X.K W os))
    (hs : ∀ v, foldedSetIterable iter X.env v = pure v) : PS X (.For tge iter body [] pos) (rdS X.K W (exFor oi tg os)) := PSmono (ps_for hp hc hi hg hb hs) fun Dn σ H h => by
  obtain ⟨φ, F, ρ, m, R, E, L, h⟩ := h
  refine ⟨φ, F, ρ, m, R, E, L, ?_⟩
  unfold exFor at h
  cases ho : oi ρ m with
  | bad => simp only [ho, Out.bind_bad] at h; exact h
  | exc x m' => simp only [ho, Out.bind_exc] at h; exact h
  | ok ds m1 =>
    simp only [ho, Out.bind_ok] at h
    intro φ1 F1 H1 J s1 jok
    generalize hf : (fun d ρ m => (lift m (bindT tg d ρ)).bind fun ρ m => os ρ m) = f at h
    refine ⟨fun i n σ' H' => n = ds.length - i ∧ i ≤ ds.length ∧ ∃ φi Fi ρi mi, Stp X.K φ1 F1 m1 H1 φi Fi mi H' ∧ RepE X.K φi Fi mi σ' ρi ∧ σ'.length = ρi.length ∧ goFor f (ds.drop i) ρi mi = goFor f ds ρ m1,
      ⟨ds.length, by simp, Nat.zero_le _, φ1, F1, ρ, m1, Stp.refl s1.rel, E.step s1, L, rfl⟩, ?_⟩
    rintro i n σ' H' ⟨rfl, hi, φi, Fi, ρi, mi, si, Ei, Li, eg⟩
    by_cases hlt : i < ds.length
    · refine .inr ⟨(jok φi Fi mi _ si.rel si.exF i).1 hlt, fun σ'' H'' => ∃ φi Fi ρi mi, Stp X.K φ1 F1 m1 H1 φi Fi mi H'' ∧ RepE X.K φi Fi mi σ'' ρi ∧ σ''.length = ρi.length ∧ goFor f (ds.drop (i + 1)) ρi mi = goFor f ds ρ m1, fun σ'' H'' hN => ⟨ds.length - (i + 1), by omega, rfl, hlt, hN⟩, fun x H2 hy => ?_⟩
      obtain ⟨d, F2, ed, s2, rx⟩ := (jok φi Fi mi _ si.rel si.exF i).2.2 x H2 hlt hy
      have hd : ds.drop i = d :: ds.drop (i + 1) := by
        rw [List.drop_eq_getElem_cons hlt]
        have := List.getElem?_eq_getElem hlt
        rw [this] at ed; cases ed; rfl
      rw [hd] at eg
      have eg' : (f d ρi mi).bind (fun r m => match r with
        | .nx ρ => goFor f (ds.drop (i + 1)) ρ m
        | .ct ρ => goFor f (ds.drop (i + 1)) ρ m
        | .bk ρ => .ok (.nx ρ) m
        | .ret v => .ok (.ret v) m) = goFor f ds ρ m1 := eg
      have h' : PostS X.K W φ1 F1 m1 H1 (goFor f ds ρ m1) Dn := PostS.step R h s1
      rw [← eg'] at h'
      have ef : f d ρi mi = (lift mi (bindT tg d ρi)).bind fun ρ m => os ρ m := by rw [← hf]
      cases eb : bindT tg d ρi with
      | none => rw [ef, eb] at h'; exact h'.elim
      | some ρ' =>
        rw [eb] at ef
        have ef : f d ρi mi = os ρ' mi := ef
        refine gT_ok s2.rel eb rx (fun j v _ e => (Ei.step s2) j v e) Li fun σ2 E2 l2 _ => ?_
        have L2 : σ2.length = ρ'.length := by rw [l2, bindT_len eb]; exact Li
        refine ⟨φi, F2, ρ', mi, s2.rel, E2, L2, ?_⟩
        have S2 : Stp X.K φ1 F1 m1 H1 φi F2 mi H2 := si.trans s2 s1.rel
        cases hq : os ρ' mi with
        | bad => rw [ef, hq] at h'; exact h'
        | exc x m' => rw [ef, hq] at h'; exact PostS.step s1.rel h' S2
        | ok r m3 =>
          rw [ef, hq] at h' eg'
          simp only [Out.bind_ok] at h' eg'
          cases r with
          | nx ρ3 => exact fun φ3 F3 H3 σ3 s3 E3 L3 => ⟨φ3, F3, ρ3, m3, S2.trans s3 s1.rel, E3, L3, eg'⟩
          | ct ρ3 => exact fun φ3 F3 H3 σ3 s3 E3 L3 => ⟨φ3, F3, ρ3, m3, S2.trans s3 s1.rel, E3, L3, eg'⟩
          | bk ρ3 => exact fun φ3 F3 H3 σ3 s3 E3 L3 => h' φ3 F3 H3 σ3 (S2.trans s3 s1.rel) E3 L3
          | ret v => exact fun φ3 F3 H3 u s3 r3 => h' φ3 F3 H3 u (S2.trans s3 s1.rel) r3
    · have hie : i = ds.length := by omega
      subst hie
      refine .inl ⟨(jok φi Fi mi _ si.rel si.exF _).2.1 (Nat.le_refl _), ?_⟩
      rw [List.drop_length] at eg
      have h' : PostS X.K W φ1 F1 m1 H1 (goFor f ds ρ m1) Dn := PostS.step R h s1
      rw [← eg] at h'
      exact h' φi Fi H' σ' si Ei Li
theorem sns_while {body : List Stmt} {oq : Ev → Store → Out Bool} {fuel : Nat} (hp : PassesOwn (model X.prog X.w) X.A X.env X.xe) (hc : PT X c (rdT X.K W oq)) (hb : PSs X body (rdS X.K W os)) : PS X (.While c body [] pos) (rdS X.K W (goWhile oq os fuel)) := PSmono (ps_while hp hc hb) fun Dn σ H h => by
  obtain ⟨φ, F, ρ, m, R, E, L, h⟩ := h
  refine ⟨fun n σ' H' => ∃ φi Fi ρi mi, Stp X.K φ F m H φi Fi mi H' ∧ RepE X.K φi Fi mi σ' ρi ∧ σ'.length = ρi.length ∧ goWhile oq os n ρi mi = goWhile oq os fuel ρ m, ⟨fuel, φ, F, ρ, m, Stp.refl R, E, L, rfl⟩, ?_⟩
  rintro n σ' H' ⟨φi, Fi, ρi, mi, si, Ei, Li, eg⟩
  refine ⟨φi, Fi, ρi, mi, si.rel, Ei, Li, ?_⟩
  have h' := PostS.step R h si
  rw [← eg] at h'
  cases n with
  | zero => exact h'.elim
  | succ n =>
    have eg' : ((oq ρi mi).bind fun t m => if t = true then (os ρi m).bind fun r m => match r with
      | .nx ρ => goWhile oq os n ρ m
      | .ct ρ => goWhile oq os n ρ m
      | .bk ρ => .ok (.nx ρ) m
      | .ret v => .ok (.ret v) m
      else .ok (.nx ρi) m) = goWhile oq os fuel ρ m := eg
    have h2 : PostS X.K W φi Fi mi H' ((oq ρi mi).bind fun t m => if t = true then (os ρi m).bind fun r m => match r with
      | .nx ρ => goWhile oq os n ρ m
      | .ct ρ => goWhile oq os n ρ m
      | .bk ρ => .ok (.nx ρ) m
      | .ret v => .ok (.ret v) m
      else .ok (.nx ρi) m) Dn := h'
    cases hq : oq ρi mi with
    | bad => rw [hq] at h2; exact h2
    | exc x m' => rw [hq] at h2; exact h2
    | ok t m2 =>
      rw [hq] at h2 eg'
      simp only [Out.bind_ok] at h2 eg'
      intro φ2 F2 H2 t' s2 et
      cases et
      have S2 : Stp X.K φ F m H φ2 F2 m2 H2 := si.trans s2 R
      cases t with
      | false => exact h2 φ2 F2 H2 σ' s2 (Ei.step s2) Li
      | true =>
        simp only [if_true] at h2 eg'
        refine ⟨fun σ'' H'' => ∃ φi Fi ρi mi, Stp X.K φ F m H φi Fi mi H'' ∧ RepE X.K φi Fi mi σ'' ρi ∧ σ''.length = ρi.length ∧ goWhile oq os n ρi mi = goWhile oq os fuel ρ m, fun σ'' H'' hN => ⟨n, Nat.lt_succ_self n, hN⟩, ?_⟩
        refine ⟨φ2, F2, ρi, m2, s2.rel, Ei.step s2, Li, ?_⟩
        have h3 := PostS.step si.rel h2 s2
        cases ho : os ρi m2 with
        | bad => rw [ho] at h3; exact h3
        | exc x m' => rw [ho] at h3; exact h3
        | ok r m3 =>
          rw [ho] at h3 eg'
          simp only [Out.bind_ok] at h3 eg'
          cases r with
          | nx ρ3 => exact fun φ3 F3 H3 σ3 s3 E3 L3 => ⟨φ3, F3, ρ3, m3, S2.trans s3 R, E3, L3, eg'⟩
          | ct ρ3 => exact fun φ3 F3 H3 σ3 s3 E3 L3 => ⟨φ3, F3, ρ3, m3, S2.trans s3 R, E3, L3, eg'⟩
          | bk ρ3 => exact fun φ3 F3 H3 σ3 s3 E3 L3 => h3 φ3 F3 H3 σ3 s3 E3 L3
          | ret v => exact fun φ3 F3 H3 u s3 r3 => h3 φ3 F3 H3 u s3 r3
/-! ### several targets -/
theorem gV_ok {K : Frag} {φ : Nat → Addr} {F : Hp} {m : Store} {H : Hp} : ∀ {is : List Nat} {xs : List Val} {vs : List V} {σ : L2.St} {ρ ρ' : Ev} {Q : L2.St → Hp → Prop}, setVs is xs ρ = some ρ' → RepVs K φ F m vs xs → RepE K φ F m σ ρ → σ.length = ρ.length →
    (∀ σ', RepE K φ F m σ' ρ' → σ'.length = ρ'.length → Q σ' H) → is.foldr (fun i t => gCons (gName i) t) gNil vs σ H Q
  | [], [], _, σ, ρ, ρ', Q, h, .nil, E, L, k => by
    simp [setVs] at h; subst h
    exact ⟨rfl, k σ E L⟩
  | i :: is, d :: ds, _, σ, ρ, ρ', Q, h, .cons hv r, E, L, k => by
    have h : setVs is ds (ρ.set i (some d)) = some ρ' := h
    exact ⟨_, _, rfl, gV_ok h r (E.set L hv) (by simp [L]) k⟩
  | [], _ :: _, _, _, _, _, _, h, _, _, _, _ => by simp [setVs] at h
  | _ :: _, [], _, _, _, _, _, h, _, _, _, _ => by simp [setVs] at h
theorem setVs_len : ∀ {is : List Nat} {ds : List Val} {ρ ρ' : Ev}, setVs is ds ρ = some ρ' → ds.length = is.length
  | [], [], _, _, h => rfl
  | _ :: is, _ :: ds, ρ, _, h => by
    have h : setVs is ds _ = some _ := h
    simp [setVs_len h]
  | [], _ :: _, _, _, h => by simp [setVs] at h
  | _ :: _, [], _, _, h => by simp [setVs] at h
theorem repVs_len {K : Frag} {φ : Nat → Addr} {F : Hp} {m : Store} : ∀ {vs : List V} {xs : List Val}, RepVs K φ F m vs xs → vs.length = xs.length
  | _, _, .nil => rfl
  | _, _, .cons _ r => by simp [repVs_len r]
theorem sns_par {is : List Nat} {ts es : List Expr} {k1 k2 : Nat} (hl : is.length ≤ 3) (hg : PG X (.Tuple ts k1 px) (gT X.K (.tup is))) (he : PA X es (rdA X.K W ou)) (hw : swappedStores [.Tuple ts k1 px] (.Tuple es k2 py) X.env = pure none) :
    PS X (.Assign [.Tuple ts k1 px] (.Tuple es k2 py) pos) (rdS X.K W (exPar is ou)) := PSmono (ps_asg (pe_tup he) hg rfl hw rfl) fun Dn σ H h => by
  refine rdS_bind h fun φ F ρ m H1 vs us R E L r h => ?_
  obtain ⟨ρ', e, h⟩ := h.lift
  have h1 := repVs_len r
  have h2 := setVs_len e
  refine ⟨by rw [h1, h2]; exact Nat.le_trans hl (by decide), fun p hp => ?_⟩
  have s := Stp.newN (o := .tup us) R hp
  refine ⟨p, us, rfl, SqT.of upd_same, by rw [h1, h2], gV_ok e (r.step s) (E.step s) L fun σ' E' L' => ?_⟩
  exact h φ F _ σ' s E' L'
theorem sns_par2 {i j : Nat} {kt k2 : Nat} {pt2 : Pos} (hc : X.calm = true) (hN : X.N.Nodup) (hi : X.N[i]? = some x) (hj : X.N[j]? = some y) (hij : i ≠ j)
    (hx : X.env.scope.names.lookup x = some .local) (hy : X.env.scope.names.lookup y = some .local) (ha : PA X [a, b] (rdA X.K W ou))
    (hw : swappedStores [.Tuple [.Name x px, .Name y py] kt pt] (.Tuple [a, b] k2 pt2) X.env = pure (some [x, y])) :
    PS X (.Assign [.Tuple [.Name x px, .Name y py] kt pt] (.Tuple [a, b] k2 pt2) pos) (rdS X.K W (exPar [i, j] ou)) := PSmono (ps_par hc hN hi hj hij hx hy ha hw rfl) fun Dn σ H h => by
  refine rdS_bind h fun φ F ρ m H1 vs us R E L r h => ?_
  obtain ⟨ρ', e, h⟩ := h.lift
  have h2 := setVs_len e
  match vs, h2 with
  | [v1, v2], _ =>
    cases r with
    | cons r1 r2 =>
      cases r2 with
      | cons r2 r3 =>
        cases r3
        cases e
        exact ⟨_, _, rfl, h φ F H1 _ (Stp.refl R) ((E.set L r1).set (by simp [L]) r2) (by simp [L])⟩
theorem sole_not {t : Expr} {l : Nat} {env : PySem.Env} (h : notLc e = true) : swapsWithSole [t] e l env = pure false := sw_not (tgt := some t) h
def notTup : Expr → Bool
  | .Tuple _ _ _ => false
  | _ => true
theorem swap_none {ts : List Expr} {k : Nat} {env : PySem.Env} (h : notTup e = true) : swappedStores [.Tuple ts k px] e env = pure none := by cases e <;> first | rfl | cases h
theorem sns_unp {is : List Nat} {ts : List Expr} {k1 : Nat} (hg : PG X (.Tuple ts k1 px) (gT X.K (.tup is))) (he : PE X e (rdE X.K W oe)) (hn : notTup e = true) (hs : notLc e = true) : PS X (.Assign [.Tuple ts k1 px] e pos) (rdS X.K W (exUnp is oe)) :=
  PSmono (ps_asg he hg (sole_not hs) (swap_none hn) rfl) fun Dn σ H h => by
    refine rdS_bind h fun φ F ρ m H1 v u R E L r h => ?_
    cases v with
    | cell n => exact h.elim
    | d d =>
      obtain ⟨ρ', e, h⟩ := h.lift
      exact gT_ok (tg := .tup is) R e r (fun j v _ q => E j v q) L fun σ' E' l' _ => h φ F H1 σ' (Stp.refl R) E' (by rw [l', bindT_len e]; exact L)
theorem sns_setIx {o i : Expr} {oo oi : Ex} {p2 : Pos} (ho : PE X o (rdE X.K W oo)) (hi : PE X i (rdE X.K W oi)) (he : PE X e (rdE X.K W oe)) (hs : notLc e = true) (ha : ∀ v, assign (.Subscript o i p2) X.env v = (do
      let ov ← holding [v] (eval o X.env)
      let iv ← holding [v, ov] (eval i X.env)
      standAt p2
      holding [v, ov, iv] (setItem ov iv v)
      release [v, ov, iv] [])) (hw : swappedStores [.Subscript o i p2] e X.env = pure none) (h1 : (assignEach [.Subscript o i p2] X.env).map (·.2) = [assign (.Subscript o i p2) X.env]) : PS X (.Assign [.Subscript o i p2] e pos) (rdS X.K W (exSetIx oo oi oe)) :=
  PSmono (ps_asg he (pg_sub ho hi set_list ha) (sole_not hs) hw h1) fun Dn σ H h => by
    refine rdS_bind h fun φ F ρ m H1 v u R E L r h => ?_
    refine ⟨φ, F, ρ, m, R, E, L, PostS.bind R h fun x m1 φ1 F1 H2 ux s1 r1 h => ?_⟩
    refine ⟨φ1, F1, ρ, m1, s1.rel, E.step s1, L, PostS.bind s1.rel h fun y m2 φ2 F2 H3 uy s2 r2 h => ?_⟩
    cases x with
    | d _ => exact h.elim
    | cell n =>
      cases y with
      | cell _ => exact h.elim
      | d dy =>
        cases dy <;> try exact h.elim
        rename_i k
        cases v with
        | cell _ => exact h.elim
        | d d =>
          obtain ⟨rfl, hn⟩ := RepV.step s2 r1
          cases (show Rep X.K F2 uy (.int k) from r2)
          have h : PostS X.K W φ2 F2 m2 H3 (match setC n k d m2 with
            | some m' => .ok (.nx ρ) m'
            | none => .bad) Dn := h
          unfold setC at h
          cases ec : m2[n]? with
          | none => rw [ec] at h; exact h.elim
          | some cc =>
            cases cc with
            | dead => rw [ec] at h; exact h.elim
            | dct _ _ => rw [ec] at h; exact h.elim
            | lst ds =>
              rw [ec] at h
              obtain ⟨ho2, e4, e5⟩ := s2.rel.cell n _ ec
              have hro := (e5 rfl).2
              cases ho2 <;> try exact hro.elim
              rename_i vs
              have hro : Reps X.K F2 vs ds := hro
              cases ej : ixN ds.length k with
              | none => simp only [ej, Option.map_none] at h; exact h.elim
              | some j =>
                simp only [ej, Option.map_some] at h
                refine ⟨_, vs, k, j, rfl, rfl, e4, by rw [hro.length]; exact ej, ?_⟩
                have r' : Rep X.K F2 u d := RepV.step s2 (RepV.step s1 r)
                have s3 := Stp.write s2.rel (o := .lst (vs.set j u)) (c' := .lst (ds.set j d)) ec rfl rfl (Reps.set r' j hro)
                exact h φ2 F2 _ σ s3 ((E.step s1).step s2 |>.step s3) L
end
end AW
set_option maxRecDepth 100000
namespace AW
open PySem L2
section
variable {X : Cx} {W : Wsh} {a b c e : Expr} {es : List Expr} {oa ob oc oe : Ex} {ou : Ev → Store → Out (List Val)} {pos p px py pt apos : Pos} {x y : Str} {os ot : Sx}
/-! ### x op= e -/
def rAug (K : Frag) (W : Wsh) (op : Operator) : TIp := fun x y H Q => ∃ φ F m dx dy z, RelS K φ F m H ∧ Rep K F x dx ∧ Rep K F y dy ∧ augD op dx dy = some z ∧ OkD K W φ F m H z Q
theorem ip_any (op : Operator) : PIp X op (rAug X.K W op) := by
  intro pins s σ H x y v u Q I rx ry h
  obtain ⟨φ, F, m, dx, dy, z, R, px, py, e, h⟩ := h
  unfold augD at e
  split at e
  · cases px; cases py
    split at e
    · cases e; exact ip_add pins s σ H _ _ v u Q I rx ry ⟨_, _, rfl, rfl, h.at R (.int _)⟩
    · cases e; exact ip_sub pins s σ H _ _ v u Q I rx ry ⟨_, _, rfl, rfl, h.at R (.int _)⟩
    · cases e
  · cases e
theorem sns_aug {i : Nat} {op : Operator} (hN : X.N.Nodup) (hi : X.N[i]? = some x) (hx : Loc X.env.scope x) (hf : X.fn x = true ∨ X.env.scope.names.lookup x = some .local) (he : PE X e (rdE X.K W oe)) : PS X (.AugAssign (.Name x px) op e pos) (rdS X.K W (exAug i op oe)) :=
  PSmono (ps_aug hN hi hx he (ip_any (W := W) op) hf) fun Dn σ H h => by
    obtain ⟨φ, F, ρ, m, R, E, L, h⟩ := h
    unfold exAug evVar at h
    split at h
    · rename_i v e1
      simp only [Out.bind_ok] at h
      obtain ⟨u, e2, r⟩ := E i v e1
      refine ⟨u, e2, φ, F, ρ, m, R, E, L, PostS.bind R h fun y m1 φ1 F1 H1 uy s1 r1 h => ?_⟩
      cases v with
      | cell _ => exact h.elim
      | d dx =>
        cases y with
        | cell _ => exact h.elim
        | d dy =>
          obtain ⟨z, ez, h⟩ := h.lift
          have r' : Rep X.K F1 u dx := RepV.step s1 r
          refine ⟨φ1, F1, m1, dx, dy, z, s1.rel, r', r1, ez, fun φ2 F2 H2 uz s2 rz => ?_⟩
          exact h φ2 F2 H2 _ s2 (((E.step s1).step s2).set L rz) (by simp [L])
    · exact h.elim
/-! ### isinstance -/
theorem kit_isi (d : D) (t : Ty) : kitB (tyD d) t.name = some (isiD d t) := by
  cases d <;> cases t <;> (simp only [tyD, Ty.name, isiD]; decide +kernel)
theorem pv_ty {K : Frag} {F H : Hp} {u : V} {d : D} (S : Ext F H) (h : PV K F H u d) : TyX K H u (.type (tyD d)) := by
  cases d with
  | non => rw [h.non]; exact .base .non
  | bl b => rw [h.bl]; exact .base (.bl b)
  | int i => rw [h.int]; exact .base (.int i)
  | str s => rw [h.str]; exact .base (.str s)
  | tup ds =>
    obtain ⟨q, vs, rfl, h1, r1⟩ := h.tup
    rcases S.t h1 with (h2 | ⟨o, h2⟩) | ⟨o, its, n, hk, hc, _⟩
    · exact .base (.tup h2)
    · exact .fTuple h2
    · exact .kTuple hk hc
  | lst ds =>
    obtain ⟨q, vs, rfl, h1, r1⟩ := h.lst S
    rcases h1 with (h2 | ⟨o, h2⟩) | ⟨o, its, n, hk, hc, _⟩
    · exact .base (.lst h2)
    · exact .base (.frz h2)
    · exact .kList hk hc
  | dct ks vs =>
    obtain ⟨q, kvs, rfl, h1, e1, r1⟩ := h.dct S
    exact .base (.dK h1)
theorem snd_isi {t : Ty} (hg : Gl X "isinstance") (hm : X.mg "isinstance" = none) (hgt : Gl X (Str.ofString t.name)) (hmt : X.mg (Str.ofString t.name) = none) (na : nos a = true) (ha : PE X a (rdE X.K W oa)) :
    PE X (.Call (.Name "isinstance" p) [a, .Name (Str.ofString t.name) px] [] pos) (rdE X.K W (ev1 (fun d => some (.bl (isiD d t))) oa)) := by
  have hT : PE X (.Name (Str.ofString t.name) px) (tC (.ty t.name)) := by
    cases t <;> exact pe_bltn hgt hmt (by decide +kernel) rfl
  refine PEmono (pe_callB call_isi hg hm (by decide +kernel) (pa_cons ha (pa_cons hT pa_nil rfl) (star_nos na)) (by decide) (by decide) (star_nos na) rfl) fun σ H Q h => ?_
  refine rd_bind h fun φ F ρ m H1 v u R E L r h => ?_
  obtain ⟨d, ed, h⟩ := h.lift
  obtain ⟨z, ez, h⟩ := h.lift
  cases ez
  exact ⟨u, .ty t.name, .type (tyD d), .type t.name, isiD d t, rfl, .ty _, pv_ty R.sub (pv_of R r ed), kit_ty (kit_isi d t), Post.ok0 (R := RVl X.K) R h (Rep.bl _)⟩
/-! ### methods -/
def plainBase : Expr → Bool
  | .Call _ [] [] _ => false
  | _ => true
theorem base_plain {o : Expr} {n : Str} {env : PySem.Env} (h : plainBase o = true) : attributeBase o n env (eval o env) = eval o env := by
  cases o <;> try rfl
  rename_i f as ks q
  cases as with
  | nil =>
    cases ks with
    | nil => cases h
    | cons _ _ => cases f <;> rfl
  | cons _ _ => cases f <;> rfl
theorem few1 {env : PySem.Env} {cpos : Pos} (na : nos a = true) : ((backTo cpos (starEach [a] env)).all (fun x => !x.1) && (backToKw cpos (keywordEach [] env)).all (fun x => x.1.isSome) && decide ([a].length + ([] : List Keyword).length + (if ([] : List Keyword).isEmpty then 0 else 1) < 30)) = true := by
  rw [star_nos na]; rfl
def rM (K : Frag) (W : Wsh) (f : Str → D → Option D) : V → List V → Hp → VK → Prop := fun x xs H Q => ∃ φ F m s y dy z, x = .str s ∧ xs = [y] ∧ RelS K φ F m H ∧ PV K F H y dy ∧ f s dy = some z ∧ OkD K W φ F m H z Q
theorem snd_M {f : Str → D → Option D} {name : Str} {id : String} (slot : Slot "str" name id) (hty : typeOf (.builtin id) = pure (.type "method_descriptor")) (hm : MtR X id (rM X.K W f)) (hb : plainBase a = true) (hl : (apos.endLine == pos.line) = true) (nb : nos b = true)
    (ha : PE X a (rdE X.K W oa)) (hbb : PE X b (rdE X.K W ob)) : PE X (.Call (.Attribute a name apos) [b] [] pos) (rdE X.K W (evM f oa ob)) :=
  PEmono (pe_bm PySem.F.plainAttrs_str slot hty hm ha (pa_cons hbb pa_nil (star_nos nb)) (base_plain hb) (few1 nb) hl (star_nos nb) rfl) fun σ H Q h => by
    refine rd_bind h fun φ F ρ m H1 v u R E L r h => ?_
    obtain ⟨s, es, h⟩ := h.lift
    unfold strV at es
    split at es
    · cases es
      cases (show Rep X.K F u (.str s) from r)
      refine ⟨rfl, φ, F, ρ, m, R, E, L, Post.bind R h fun y m1 φ1 F1 H2 w s1 ry h => ?_⟩
      obtain ⟨dy, ey, h⟩ := h.lift
      obtain ⟨z, ez, h⟩ := h.lift
      exact ⟨φ1, F1, m1, s, w, dy, z, rfl, rfl, s1.rel, pv_of s1.rel ry ey, ez, h⟩
    · cases es
theorem m_join : MtR X "str.join" (rM X.K W (m1D .join)) := by
  intro pins s σ H x xs v us Q I rx rxs h
  obtain ⟨φ, F, m, t, y, dy, z, rfl, rfl, R, py, e, h⟩ := h
  cases dy <;> simp only [m1D] at e <;> try (cases e; done)
  · rename_i ds
    cases es : strsD ds with
    | none => rw [es] at e; cases e
    | some ys =>
      rw [es] at e
      simp only [Option.bind_some] at e
      split at e
      · rename_i hs; cases e
        obtain ⟨q, vs, rfl, h1, r1⟩ := py.tup
        rw [r1.strs es] at h1
        exact mt_join pins s σ H _ _ v us Q I rx rxs ⟨t, q, ys, rfl, rfl, .inr (R.sub.t h1), hs, h.at R (.str _)⟩
      · cases e
  · rename_i ds
    cases es : strsD ds with
    | none => rw [es] at e; cases e
    | some ys =>
      rw [es] at e
      simp only [Option.bind_some] at e
      split at e
      · rename_i hs; cases e
        obtain ⟨q, vs, rfl, h1, r1⟩ := py.lst R.sub
        rw [r1.strs es] at h1
        exact mt_join pins s σ H _ _ v us Q I rx rxs ⟨t, q, ys, rfl, rfl, .inl h1, hs, h.at R (.str _)⟩
      · cases e
theorem m_split : MtR X "str.split" (rM X.K W (m1D .split)) := by
  intro pins s σ H x xs v us Q I rx rxs h
  obtain ⟨φ, F, m, t, y, dy, z, rfl, rfl, R, py, e, h⟩ := h
  cases dy <;> simp only [m1D] at e <;> try (cases e; done)
  split at e
  · rename_i hs; cases e
    cases py.str
    refine mt_split pins s σ H _ _ v us Q I rx rxs ⟨t, _, rfl, rfl, hs.1, hs.2, fun q hq => ?_⟩
    exact h.lst R hq (Reps.ofStrs _)
  · cases e
theorem cellL_ok {m : Store} {v : Val} {n : Nat} (h : cellL m v = some n) : ∃ ds, v = .cell n ∧ m[n]? = some (.lst ds) := by
  cases v with
  | d _ => cases h
  | cell k =>
    unfold cellL at h
    simp only at h
    cases ec : m[k]? with
    | none => rw [ec] at h; cases h
    | some cc =>
      cases cc with
      | dead => rw [ec] at h; cases h
      | dct _ _ => rw [ec] at h; cases h
      | lst ds => rw [ec] at h; cases h; exact ⟨ds, rfl, ec⟩
theorem cell_lst {K : Frag} {φ : Nat → Addr} {F : Hp} {m : Store} {H : Hp} {n : Nat} {ds : List D} (R : RelS K φ F m H) (e : m[n]? = some (.lst ds)) : ∃ vs, H (φ n) = some (.lst vs) ∧ Reps K F vs ds := by
  obtain ⟨ho, e4, e5⟩ := R.cell n _ e
  have hro := (e5 rfl).2
  cases ho <;> try exact hro.elim
  exact ⟨_, e4, hro⟩
theorem snd_app (hb : plainBase a = true) (hl : (apos.endLine == pos.line) = true) (nb : nos b = true) (ha : PE X a (rdE X.K W oa)) (hbb : PE X b (rdE X.K W ob)) : PE X (.Call (.Attribute a "append" apos) [b] [] pos) (rdE X.K W (evApp oa ob)) :=
  PEmono (pe_bm PySem.F.plainAttrs_list PySem.F.slot_list_append PySem.F.type_list_append mt_append ha (pa_cons hbb pa_nil (star_nos nb)) (base_plain hb) (few1 nb) hl (star_nos nb) rfl) fun σ H Q h => by
    refine rd_bind h fun φ F ρ m H1 v u R E L r h0 => ?_
    obtain ⟨n, en, h⟩ := h0.lift
    obtain ⟨ds, rfl, ec⟩ := cellL_ok en
    obtain ⟨rfl, hk⟩ := r
    obtain ⟨vs, e4, hro⟩ := cell_lst R ec
    refine ⟨.inl ⟨rfl, vs, SqL.of e4⟩, φ, F, ρ, m, R, E, L, Post.bind R h fun y m1 φ1 F1 H2 w s1 ry h1 => ?_⟩
    obtain ⟨d, ed, h⟩ := h1.lift
    clear h1
    cases y with
    | cell _ => cases ed
    | d dy =>
      cases ed
      unfold appC at h
      split at h
      · rename_i ds2 ec2
        split at h
        · rename_i hz
          obtain ⟨vs2, e6, hro2⟩ := cell_lst s1.rel ec2
          have s3 := Stp.write s1.rel (o := .lst (vs2 ++ [w])) (c' := .lst (ds2 ++ [d])) ec2 rfl rfl (hro2.snoc ry)
          rw [s1.ext n hk] at e6 s3
          exact ⟨_, vs2, w, rfl, rfl, e6, by rw [hro2.length]; exact hz, h φ1 F1 _ _ s3 Rep.non⟩
        · exact h.elim
      · exact h.elim
theorem mt_popN : MtM X "list.pop" (fun x vs H Q => ∃ l xs i k y, x = .ref l ∧ vs = [.int i] ∧ H l = some (.lst xs) ∧ ixN xs.length i = some k ∧ xs[k]? = some y ∧ Q y (upd H l (.lst (xs.eraseIdx k)))) := by
  intro pins s σ H x vs v us Q I rx rv h
  obtain ⟨l, xs, i, k, y, rfl, rfl, hH, hk, hy, q⟩ := h
  have hz : xs.length ≤ sizeLine := (I.hok l _ hH).1
  obtain ⟨e1, e2, e3, e4⟩ := ixN_seq hk
  have h63 := line63
  exact mt_popAt pins s σ H _ _ v us Q I rx rv ⟨l, xs, i, k, y, rfl, rfl, hH, by omega, by omega, e1, hy, q⟩
theorem snd_pop1 (hb : plainBase a = true) (hl : (apos.endLine == pos.line) = true) (nb : nos b = true) (ha : PE X a (rdE X.K W oa)) (hbb : PE X b (rdE X.K W ob)) : PE X (.Call (.Attribute a "pop" apos) [b] [] pos) (rdE X.K W (evPop1 oa ob)) :=
  PEmono (pe_bm PySem.F.plainAttrs_list PySem.F.slot_list_pop PySem.F.type_list_pop mt_popN ha (pa_cons hbb pa_nil (star_nos nb)) (base_plain hb) (few1 nb) hl (star_nos nb) rfl) fun σ H Q h => by
    refine rd_bind h fun φ F ρ m H1 v u R E L r h0 => ?_
    obtain ⟨n, en, h⟩ := h0.lift
    obtain ⟨ds, rfl, ec⟩ := cellL_ok en
    obtain ⟨rfl, hk⟩ := r
    obtain ⟨vs, e4, hro⟩ := cell_lst R ec
    refine ⟨.inl ⟨rfl, vs, SqL.of e4⟩, φ, F, ρ, m, R, E, L, Post.bind R h fun y m1 φ1 F1 H2 w s1 ry h1 => ?_⟩
    obtain ⟨i, ei, h⟩ := h1.lift
    clear h1
    unfold intV at ei
    split at ei
    · cases ei
      cases (show Rep X.K F1 w (.int i) from ry)
      unfold popC at h
      split at h
      · rename_i ds2 ec2
        split at h
        · rename_i j ej
          split at h
          · rename_i d ed
            obtain ⟨vs2, e6, hro2⟩ := cell_lst s1.rel ec2
            obtain ⟨uv, e8, r8⟩ := hro2.get ed
            have s3 := Stp.write s1.rel (o := .lst (vs2.eraseIdx j)) (c' := .lst (ds2.eraseIdx j)) ec2 rfl rfl (hro2.erase _)
            rw [s1.ext n hk] at e6 s3
            exact ⟨_, vs2, i, j, uv, rfl, rfl, e6, by rw [hro2.length]; exact ej, e8, h φ1 F1 _ _ s3 r8⟩
          · exact h.elim
        · exact h.elim
      · exact h.elim
    · cases ei
/-! ### own defs -/
/-- the promise of a def that gives what f tells -/
def spD (K : Frag) (W : Wsh) (n : Nat) (f : List Val → Store → Out Val) : Sp := fun vs H Q _ => vs.length = n ∧ ∃ φ F m xs, RelS K φ F m H ∧ RepVs K φ F m vs xs ∧ Post K W (RVl K) φ F m H (f xs m) Q
theorem rd_call {K : Frag} {n : Nat} {f : List Val → Store → Out Val} {E0 : XK} {σ : L2.St} {H : Hp} {Q : VK} (hn : ∀ xs m, f xs m ≠ .bad → xs.length = n) (h : rdE K W (evCall f ou) σ H Q) : tCall (spD K W n f) [] E0 (rdA K W ou) σ H Q := by
  refine rd_bind h fun φ F ρ m H1 xs vs R E L r h => ?_
  have hl := repVs_len r
  refine ⟨?_, φ, F, m, xs, R, by rw [List.append_nil]; exact r, h⟩
  rw [List.append_nil, hl]
  refine hn xs m fun e => ?_
  have h : Post K W (RVl K) φ F m H1 (f xs m) Q := h
  rw [e] at h; exact h
theorem snd_call {n k : Nat} {f : List Val → Store → Out Val} {fa : Addr} {fd : FuncData} {ps : List Str} {CX : CXT} {E0 : XK} (hn : ∀ xs m, f xs m ≠ .bad → xs.length = n) (G : FnG X.prog X.w X.K X.mg X.base CX k fa fd ps (spD X.K W n f)) (hgd : X.A.guards = some []) (hr : Room k X.A) (hg : Gl X x) (hm : X.mg x = some (.ref fa)) (hk : PySem.W.keepIn X.K (.ref fa) = true) (hb : Binds X.K fd ps []) (hx : Passes CX X E0)
    (hd : (x == ("__debug__" : Str)) = false) (hes : (e :: es).all nos = true) (he : PA X (e :: es) (rdA X.K W ou)) : PE X (.Call (.Name x p) (e :: es) [] pos) (rdE X.K W (evCall f ou)) := by
  rw [List.all_cons, Bool.and_eq_true] at hes
  exact PEmono (pe_callG G hgd hr hg hm hk hb hx he hd (star_nos hes.1) (star_any hes.2)) fun σ H Q h => rd_call hn h
theorem snd_call0 {n k : Nat} {f : List Val → Store → Out Val} {fa : Addr} {fd : FuncData} {ps : List Str} {CX : CXT} {E0 : XK} (hn : ∀ xs m, f xs m ≠ .bad → xs.length = n) (G : FnG X.prog X.w X.K X.mg X.base CX k fa fd ps (spD X.K W n f)) (hgd : X.A.guards = some []) (hr : Room k X.A) (hg : Gl X x) (hm : X.mg x = some (.ref fa)) (hk : PySem.W.keepIn X.K (.ref fa) = true) (hb : Binds X.K fd ps []) (hx : Passes CX X E0)
    (hd : (x == ("__debug__" : Str)) = false) : PE X (.Call (.Name x p) [] [] pos) (rdE X.K W (evCall f evNil)) := by
  refine PEmono (pe_call0G G hgd hr hg hm hk hb hx hd) fun σ H Q h => ?_
  have h2 : tCall (spD X.K W n f) [] E0 (rdA X.K W evNil) σ H Q := rd_call hn h
  obtain ⟨φ, F, ρ, m, R, E, L, h2⟩ := h2
  exact Post.ok0 (R := RVs X.K) R h2 .nil
end
end AW
set_option maxRecDepth 100000
namespace AW
open PySem L2
/-! ### the checker: the small language's text against the row's -/
structure DefI where
  name : Str
  np : Nat
structure Tab where
  free : List Str
  globs : List (Str × Nat)
  gvals : List D
  defs : List DefI
def isGl (sc : Scope) (x : Str) : Bool := decide (sc.names.lookup x = some .globalImplicit)
def isVis (sc : Scope) (x : Str) : Bool := decide (sc.names.lookup x = some .local) || (decide (sc.names.lookup x = some .cell) || decide (sc.names.lookup x = some .free))
def isLoc (sc : Scope) (x : Str) : Bool := decide (sc.names.lookup x = some .local) || decide (sc.names.lookup x = some .cell)
def plainN (x : Str) : Bool := !(x == ("__debug__" : Str)) && (!(x == ("__classdict__" : Str)) && !decide (x = ("__name__" : Str)))
def notSlice : Expr → Bool
  | .Slice _ _ _ _ => false
  | _ => true
def notSet : Expr → Bool
  | .Set _ _ _ => false
  | _ => true
def b1Name : B1 → Str
  | .len => "len" | .abs => "abs" | .all => "all" | .any => "any" | .int => "int" | .str => "str" | .repr => "repr" | .tuple => "tuple" | .lenset => "len" | .dict => "dict"
def b2Name : B2 → Str
  | .max => "max" | .min => "min"
def m1Name : M1 → Str
  | .join => "join" | .split => "split"
def lbName : LB → Str
  | .list => "list" | .sorted => "sorted" | .sset => "sorted"
def okT : E → Bool
  | .ite _ _ _ => false
  | _ => true
def tgP (N : List Str) (P : Str → Bool) : Tg → Expr → Bool
  | .name i, .Name x _ => decide (N[i]? = some x) && P x
  | .tup is, .Tuple ts _ _ => decide (is.length = ts.length) && (is.zip ts).all fun p => match p.2 with
    | .Name x _ => decide (N[p.1]? = some x) && P x
    | _ => false
  | _, _ => false
def tgOk (N : List Str) (sc : Scope) : Tg → Expr → Bool := tgP N (isLoc sc)
/-- a comprehension's own targets -/
def tgLoc (N : List Str) (sc : Scope) : Tg → Expr → Bool := tgP N fun x => decide (sc.names.lookup x = some .local)
def ownOf (N : List Str) (tg : Tg) : List (Str × Nat) := tg.slots.map fun i => (N.getD i Str.empty, i)
section
variable (N : List Str) (T : Tab)
def isF (sc : Scope) (x : Str) : Bool := isGl sc x && (T.free.contains x && plainN x)
mutual
def chkE : E → Scope → Expr → Bool
  | .var i, sc, ex => (match ex with
    | .Name x _ => decide (N[i]? = some x) && (isVis sc x && plainN x)
    | _ => false)
  | .con d, _, ex => (match ex with
    | .Constant (.int i) _ _ => (match d with | .int j => decide (i = j) | _ => false)
    | .Constant (.str i) _ _ => (match d with | .str j => decide (i = j) | _ => false)
    | .Constant (.bool i) _ _ => (match d with | .bl j => decide (i = j) | _ => false)
    | .Constant .none _ _ => (match d with | .non => true | _ => false)
    | _ => false)
  | .glob x i, sc, ex => (match ex with
    | .Name y _ => decide (x = y) && (isGl sc x && (plainN x && T.globs.contains (x, i)))
    | _ => false)
  | .bin op a b, sc, ex => (match ex with
    | .BinOp x o y _ => decide (op = o) && (chkE a sc x && chkE b sc y)
    | _ => false)
  | .neg a, sc, ex => (match ex with
    | .UnaryOp .USub x _ => chkE a sc x
    | _ => false)
  | .not a, sc, ex => (match ex with
    | .UnaryOp .Not x _ => okT a && chkE a sc x
    | _ => false)
  | .cmp op a b, sc, ex => (match ex with
    | .Compare x [o] [y] _ => decide (op = o) && (notSet y && (chkE a sc x && chkE b sc y))
    | _ => false)
  | .cmp2 op op' a b c, sc, ex => (match ex with
    | .Compare x [o, o'] [y, z] _ => decide (op = o) && (decide (op' = o') && (notSet z && (chkE a sc x && (chkE b sc y && chkE c sc z))))
    | _ => false)
  | .bop k es, sc, ex => (match ex with
    | .BoolOp .And xs _ => k && (decide (2 ≤ xs.length) && chkB es sc xs)
    | .BoolOp .Or xs _ => !k && (decide (2 ≤ xs.length) && chkB es sc xs)
    | _ => false)
  | .ite c a b, sc, ex => (match ex with
    | .IfExp x y z _ => okT c && (chkE c sc x && (chkE a sc y && chkE b sc z))
    | _ => false)
  | .tup es, sc, ex => (match ex with
    | .Tuple xs _ _ => chkEs es sc xs
    | _ => false)
  | .lm _ l, sc, ex => chkL l sc ex
  | .dict0, _, ex => (match ex with
    | .Dict [] [] _ => true
    | _ => false)
  | .idx a i, sc, ex => (match ex with
    | .Subscript x y _ => notSlice y && (chkE a sc x && chkE i sc y)
    | _ => false)
  | .sli a lo hi, sc, ex => (match ex with
    | .Subscript x (.Slice l h none _) _ => chkE a sc x && (chkO lo sc l && chkO hi sc h)
    | _ => false)
  | .isi a t, sc, ex => (match ex with
    | .Call (.Name f _) [x, .Name ty _] [] _ => decide (f = ("isinstance" : Str)) && (decide (ty = Str.ofString t.name) && (isF T sc f && (isF T sc ty && chkE a sc x)))
    | _ => false)
  | .b1 f a, sc, ex => (match f with
    | .lenset => (match ex with
      | .Call (.Name g _) [.Call (.Name h _) [x] [] _] [] _ => decide (g = ("len" : Str)) && (decide (h = ("set" : Str)) && (isF T sc g && (isF T sc h && chkE a sc x)))
      | _ => false)
    | _ => (match ex with
      | .Call (.Name g _) [x] [] _ => decide (g = b1Name f) && (isF T sc g && chkE a sc x)
      | _ => false))
  | .b2 f a b, sc, ex => (match ex with
    | .Call (.Name g _) [x, y] [] _ => decide (g = b2Name f) && (isF T sc g && (chkE a sc x && chkE b sc y))
    | _ => false)
  | .m1 f a b, sc, ex => (match ex with
    | .Call (.Attribute x n p) [y] [] q => decide (n = m1Name f) && (plainBase x && ((p.endLine == q.line) && (chkE a sc x && chkE b sc y)))
    | _ => false)
  | .app a b, sc, ex => (match ex with
    | .Call (.Attribute x n p) [y] [] q => decide (n = ("append" : Str)) && (plainBase x && ((p.endLine == q.line) && (chkE a sc x && chkE b sc y)))
    | _ => false)
  | .pop1 a b, sc, ex => (match ex with
    | .Call (.Attribute x n p) [y] [] q => decide (n = ("pop" : Str)) && (plainBase x && ((p.endLine == q.line) && (chkE a sc x && chkE b sc y)))
    | _ => false)
  | .call i es, sc, ex => (match ex with
    | .Call (.Name g _) xs [] _ => (match T.defs[i]? with
      | some f => decide (f.name = g) && (isGl sc g && (plainN g && chkEs es sc xs))
      | none => false)
    | _ => false)
def chkB : Es → Scope → List Expr → Bool
  | .nil, _, [] => true
  | .cons e es, sc, x :: xs => okT e && (chkE e sc x && chkB es sc xs)
  | _, _, _ => false
def chkEs : Es → Scope → List Expr → Bool
  | .nil, _, [] => true
  | .cons e es, sc, x :: xs => chkE e sc x && chkEs es sc xs
  | _, _, _ => false
def chkO : O → Scope → Option Expr → Bool
  | .no, _, none => true
  | .yes e, sc, some x => chkE e sc x
  | _, _, _ => false
def chkC : O → Scope → List Expr → Bool
  | .no, _, [] => true
  | .yes e, sc, [x] => okT e && chkE e sc x
  | _, _, _ => false
def chkL : L → Scope → Expr → Bool
  | .disp es, sc, ex => (match ex with
    | .List xs _ => chkEs es sc xs
    | _ => false)
  | .lc it tg c e, sc, ex => (match ex with
    | .ListComp x [⟨t, i, ifs, 0⟩] scope _ => notSet i && (blkC N sc scope (ownOf N tg) && (tgLoc N (relS scope sc) tg t && (chkIt it sc t i && (chkC c (relS scope sc) ifs && chkE e (relS scope sc) x))))
    | _ => false)
  | .blt f a, sc, ex => (match f with
    | .sset => (match ex with
      | .Call (.Name g _) [.Call (.Name h _) [x] [] _] [] _ => decide (g = ("sorted" : Str)) && (decide (h = ("set" : Str)) && (isF T sc g && (isF T sc h && chkE a sc x)))
      | _ => false)
    | _ => (match ex with
      | .Call (.Name g _) [x] [] _ => decide (g = lbName f) && (isF T sc g && chkE a sc x)
      | _ => false))
def chkIt : It → Scope → Expr → Expr → Bool
  | .seq e, sc, _, ex => chkE e sc ex
  | .rng1 a, sc, _, ex => (match ex with
    | .Call (.Name g _) [x] [] _ => decide (g = ("range" : Str)) && (isF T sc g && chkE a sc x)
    | _ => false)
  | .enum a, sc, t, ex => (match t with
    | .Tuple _ _ _ => (match ex with
      | .Call (.Name g _) [x] [] _ => decide (g = ("enumerate" : Str)) && (isF T sc g && chkE a sc x)
      | _ => false)
    | _ => false)
  | .zip a b, sc, t, ex => (match t with
    | .Tuple _ _ _ => (match ex with
      | .Call (.Name g _) [x, y] [] _ => decide (g = ("zip" : Str)) && (isF T sc g && (chkE a sc x && chkE b sc y))
      | _ => false)
    | _ => false)
end
end
end AW
set_option maxRecDepth 100000
namespace AW
open PySem L2
def rLb (K : Frag) (f : D → Option (List D)) : List V → Hp → VK → Prop := fun xs H Q => ∃ x φ F m dx ds, xs = [x] ∧ RelS K φ F m H ∧ PV K F H x dx ∧ f dx = some ds ∧ ∀ φ' F' H' vs p, Stp K φ F m H φ' F' m H' → Reps K F' vs ds → H' p = none → Q (.ref p) (upd H' p (.lst vs))
/-- rules of built-ins that are proved apart -/
structure Prims : Prop where
  repr : ∀ (X : Cx), X.calm = true → X.A.guards = some [] → X.A.units + 150 < cLine → CallR X (.builtin "repr") (r1c X.K Wn (b1D .repr))
  lenset : ∀ (X : Cx) (a : Expr) (oa : Ex) (p p2 q pos : Pos), X.calm = true → Gl X "len" → X.mg "len" = none → Gl X "set" → X.mg "set" = none → nos a = true → PE X a (rdE X.K Wn oa) → PE X (.Call (.Name "len" p) [.Call (.Name "set" p2) [a] [] q] [] pos) (rdE X.K Wn (ev1 (b1D .lenset) oa))
  list : ∀ (X : Cx), X.calm = true → CallR X (.type "list") (rLb X.K (lbD .list))
  dict : ∀ (X : Cx), X.calm = true → CallR X (.type "dict") (r1c X.K Wn (b1D .dict))
  sset : ∀ (X : Cx) (a : Expr) (oa : Ex) (p p2 q pos : Pos), X.calm = true → X.A.units + 150 < cLine → Gl X "sorted" → X.mg "sorted" = none → Gl X "set" → X.mg "set" = none → nos a = true → PE X a (rdE X.K Wn oa) → PE X (.Call (.Name "sorted" p) [.Call (.Name "set" p2) [a] [] q] [] pos) (rdL X.K Wn (evLb .sset oa))
  sorted : ∀ (X : Cx), X.calm = true → X.A.units + 150 < cLine → CallR X (.builtin "sorted") (rLb X.K (lbD .sorted))
/-- where one stands, for the checker's context -/
structure Cc (T : Tab) (Φ : Fns) (k : Nat) (N : List Str) (X : Cx) (sc : Scope) : Prop where
  hN : X.N = N
  nd : N.Nodup
  hsc : X.env.scope = sc
  kind : sc.kind = .function
  calm : X.calm = true
  room : Room k X.A
  gds : X.A.guards = some []
  free : ∀ x ∈ T.free, X.mg x = none
  glob : ∀ x i, (x, i) ∈ T.globs → ∃ u v, X.mg x = some u ∧ RelV v u ∧ ∀ F, Rep X.K F v (T.gvals.getD i .non)
  defs : ∀ i f, T.defs[i]? = some f → ∃ fa fd ps, X.mg f.name = some (.ref fa) ∧ PySem.W.keepIn X.K (.ref fa) = true ∧ Binds X.K fd ps [] ∧ FnG X.prog X.w X.K X.mg X.base CX0 k fa fd ps (spD X.K Wn f.np (Φ i))
  few : ∀ i f xs m, T.defs[i]? = some f → Φ i xs m ≠ .bad → xs.length = f.np
section
variable {T : Tab} {Φ : Fns} {k : Nat} {N : List Str} {X : Cx} {sc : Scope}
theorem Cc.units (C : Cc T Φ k N X sc) : X.A.units + 64 < cLine := C.room.units
theorem Cc.gl (C : Cc T Φ k N X sc) {x : Str} (h : isGl sc x = true) : Gl X x := by
  show X.env.scope.names.lookup x = _
  rw [C.hsc]; exact of_decide_eq_true h
theorem Cc.vis (C : Cc T Φ k N X sc) {x : Str} (h : isVis sc x = true) : Vis X.env.scope x := by
  rw [C.hsc]
  unfold isVis at h
  simp only [Bool.or_eq_true, decide_eq_true_eq] at h
  exact h
theorem Cc.loc (C : Cc T Φ k N X sc) {x : Str} (h : isLoc sc x = true) : Loc X.env.scope x := by
  rw [C.hsc]
  unfold isLoc at h
  simp only [Bool.or_eq_true, decide_eq_true_eq] at h
  exact h
theorem plain_ok {x : Str} (h : plainN x = true) : (x == ("__debug__" : Str)) = false ∧ (x == ("__classdict__" : Str)) = false ∧ x ≠ ("__name__" : Str) := by
  unfold plainN at h
  simp only [Bool.and_eq_true, Bool.not_eq_true', decide_eq_false_iff_not] at h
  exact h
theorem Cc.isF (C : Cc T Φ k N X sc) {x : Str} (h : isF T sc x = true) : Gl X x ∧ X.mg x = none ∧ (x == ("__debug__" : Str)) = false ∧ x ≠ ("__name__" : Str) := by
  unfold AW.isF at h
  simp only [Bool.and_eq_true] at h
  obtain ⟨h1, h2, h3⟩ := h
  have q := plain_ok h3
  exact ⟨C.gl h1, C.free x (by simpa using h2), q.1, q.2.2⟩
/-- the context of a comprehension's block -/
theorem Cc.blk (C : Cc T Φ k N X sc) {scope : Scope} {own : List (Str × Nat)} (hb : blkC N sc scope own = true) (s : Shared) (H : Hp) (Ca : Addr) (cl : List (Str × Addr)) (fp : List Addr) : Cc T Φ k N (X.blk s H scope (compEnvC scope cl Ca X.env) fp) (relS scope sc) := by
  have ok := blkOk_by hb
  refine ⟨C.hN, C.nd, ?_, ok.kind, C.calm, C.room, C.gds, C.free, C.glob, C.defs, C.few⟩
  show relabel scope X.env = relS scope sc
  rw [← C.hsc]; rfl
theorem notSet_ok {e : Expr} {env : PySem.Env} (h : notSet e = true) : ∀ v, foldedSetIterable e env v = pure v := by
  intro v
  cases e <;> first | rfl | cases h
theorem notSet_mark {op : CmpOp} {e : Expr} (h : notSet e = true) : behindInMarks op e = false := by cases e <;> first | rfl | cases h
theorem slice_plain {e : Expr} (h : notSlice e = true) : PlainIx e := by
  intro o i
  cases e <;> first | rfl | cases h
theorem tg_gen (C : Cc T Φ k N X sc) {P : Str → Bool} (hP : ∀ x, P x = true → Loc X.env.scope x ∧ (X.fn x = true ∨ X.env.scope.names.lookup x = some .local)) {tg : Tg} {t : Expr} (h : tgP N P tg t = true) : PG X t (gT X.K tg) := by
  have one : ∀ (i : Nat) (x : Str) (p : Pos), (decide (N[i]? = some x) && P x) = true → PG X (.Name x p) (gName i) := fun i x p h => by
    rw [Bool.and_eq_true] at h
    exact pg_name (by rw [C.hN]; exact C.nd) (by rw [C.hN]; exact of_decide_eq_true h.1) (hP x h.2).1 (hP x h.2).2
  cases tg with
  | name i =>
    cases t <;> simp only [tgP] at h <;> try (cases h; done)
    exact one i _ _ h
  | tup is =>
    cases t <;> simp only [tgP] at h <;> try (cases h; done)
    rename_i ts k p
    rw [Bool.and_eq_true] at h
    obtain ⟨hl, h⟩ := h
    have hl := of_decide_eq_true hl
    -- names one by one
    have all : ∀ (is : List Nat) (ts : List Expr), is.length = ts.length → ((is.zip ts).all fun p => match p.2 with
        | .Name x _ => decide (N[p.1]? = some x) && P x
        | _ => false) = true → PGs X ts (is.foldr (fun i t => gCons (gName i) t) gNil) ∧ (assignEach ts X.env).length = is.length ∧ (assignEach ts X.env).findIdx? (·.1) = none := by
      intro is
      induction is with
      | nil =>
        intro ts hl _
        cases ts with
        | nil => exact ⟨pgs_nil, rfl, rfl⟩
        | cons _ _ => cases hl
      | cons i is ih =>
        intro ts hl h
        cases ts with
        | nil => cases hl
        | cons t ts =>
          rw [List.zip_cons_cons, List.all_cons, Bool.and_eq_true] at h
          cases t <;> try (exact absurd h.1 Bool.false_ne_true)
          rename_i x q
          obtain ⟨g1, g2, g3⟩ := ih ts (by simpa using hl) h.2
          refine ⟨pgs_cons (one i x q h.1) g1 rfl, ?_, ?_⟩
          · show (assignEach ts X.env).length + 1 = _
            rw [g2]; rfl
          · show List.findIdx? (·.1) ((false, assign (.Name x q) X.env) :: assignEach ts X.env) = none
            rw [List.findIdx?_cons]; simp [g3]
    obtain ⟨g1, g2, g3⟩ := all is ts hl h
    exact pg_tup C.calm g1 g2 g3
theorem tg_ok (C : Cc T Φ k N X sc) (hf : ∀ x, X.fn x = true) {tg : Tg} {t : Expr} (h : tgOk N sc tg t = true) : PG X t (gT X.K tg) := tg_gen C (fun x hx => ⟨C.loc hx, .inl (hf x)⟩) h
theorem tg_blk (C : Cc T Φ k N X sc) {tg : Tg} {t : Expr} (h : tgLoc N sc tg t = true) : PG X t (gT X.K tg) := tg_gen C (fun x hx => by
  have q : X.env.scope.names.lookup x = some .local := by rw [C.hsc]; exact of_decide_eq_true hx
  exact ⟨.inl q, .inr q⟩) h
theorem own_slots (tg : Tg) : (ownOf N tg).map (·.2) = tg.slots := by
  unfold ownOf
  rw [List.map_map]
  exact List.map_id _
theorem and2 {a b : Bool} (h : (a && b) = true) : a = true ∧ b = true := by rwa [Bool.and_eq_true] at h
theorem dec {p : Prop} [Decidable p] (h : decide p = true) : p := of_decide_eq_true h
mutual
theorem chkE_nos : ∀ (e : E) (sc : Scope) (ex : Expr), chkE N T e sc ex = true → nos ex = true := by
  intro e sc ex h
  cases ex <;> try rfl
  exfalso
  cases e <;> simp only [chkE] at h <;> try (cases h; done)
  · rename_i l
    cases l <;> simp only [chkL] at h <;> first | (cases h; done) | (split at h <;> cases h)
  · split at h <;> cases h
end
theorem chkEs_nos : ∀ (es : Es) (sc : Scope) (xs : List Expr), chkEs N T es sc xs = true → xs.all nos = true
  | .nil, _, [], _ => rfl
  | .nil, _, _ :: _, h => by simp only [chkEs] at h; cases h
  | .cons _ _, _, [], h => by simp only [chkEs] at h; cases h
  | .cons e es, sc, x :: xs, h => by
    simp only [chkEs] at h
    have h := and2 h
    rw [List.all_cons, chkE_nos e sc x h.1, chkEs_nos es sc xs h.2]; rfl
end
end AW
set_option maxRecDepth 100000
set_option maxHeartbeats 4000000
namespace AW
open PySem L2
section
variable {T : Tab} {Φ : Fns} {k : Nat} {N : List Str} (P : Prims)
/-- a test whose text is no comparison, no and, or, not, if -/
def plainT : Expr → Bool
  | .UnaryOp .Not _ _ => false
  | .BoolOp _ _ _ => false
  | .IfExp _ _ _ _ => false
  | .Compare _ _ _ _ => false
  | _ => true
theorem plainT_ok {e : Expr} {env : PySem.Env} (h : plainT e = true) : ∀ whole, isTrue e env whole = (do let v ← whole; standAt e.pos; holding [v] (truthy v)) := by
  intro w
  cases e <;> first | rfl | (cases h; done) | skip
  rename_i op x p
  cases op <;> first | rfl | cases h
def Both (X : Cx) (G : List D) (Φ : Fns) (e : E) (ex : Expr) : Prop := PE X ex (rdE X.K Wn (evalE G Φ e)) ∧ (okT e = true → PT X ex (rdT X.K Wn (evT (evalE G Φ e))))
theorem both {X : Cx} {G : List D} {e : E} {ex : Expr} (q : PE X ex (rdE X.K Wn (evalE G Φ e))) (h : plainT ex = true) : Both X G Φ e ex := ⟨q, fun _ => snt_any q (plainT_ok h)⟩
def tyB (X : Cx) (G : List D) (Φ : Fns) (kk : Bool) (es : Es) (xs : List Expr) : Prop := xs ≠ [] → ∀ p, PE X (.BoolOp (if kk then .And else .Or) xs p) (rdE X.K Wn (evalB G Φ kk es)) ∧ PW X (.BoolOp (if kk then .And else .Or) xs p) (rdT X.K Wn (evT (evalB G Φ kk es)))
theorem pt_cond {X : Cx} {ifs : List Expr} {t : TT} (h : PTs X ifs t) : PTs X ifs t := h
theorem pts_no {X : Cx} : PTs X [] (rdT X.K Wn evYes) := ⟨fun pins s σ H Q I h => by
  obtain ⟨φ, F, ρ, m, R, E, L, h⟩ := h
  exact pts_nil.run pins s σ H Q I (Post.ok0 (R := REq) R h rfl)⟩
theorem rd_rLb {X : Cx} {oa : Ex} {f : LB} {σ : L2.St} {H : Hp} {Q : VK} (h : rdL X.K Wn (evLb f oa) σ H Q) : tCB (rLb X.K (lbD f)) (tCons (rdE X.K Wn oa) tNil) σ H Q := by
  obtain ⟨φ, F, ρ, m, R, E, L, h⟩ := h
  refine ⟨φ, F, ρ, m, R, E, L, ?_⟩
  unfold evLb at h
  cases ho : oa ρ m with
  | bad => rw [ho] at h; exact h
  | exc x m' => rw [ho] at h; exact h
  | ok v m1 =>
    rw [ho] at h
    simp only [Out.bind_ok] at h
    intro φ1 F1 H1 u s r
    cases e : peek m1 v with
    | none => rw [e] at h; exact h.elim
    | some d =>
      rw [e] at h
      simp only [lift_some, Out.bind_ok] at h
      cases el : lbD f d with
      | none => rw [el] at h; exact h.elim
      | some ds =>
        rw [el] at h
        exact ⟨u, φ1, F1, m1, d, ds, rfl, s.rel, pv_of s.rel r e, el, fun φ' F' H' vs p s' rv hp => h φ' F' H' vs p (s.trans s' R) rv hp⟩
include P
mutual
theorem sndE : ∀ (e : E) (X : Cx) (sc : Scope) (ex : Expr), Cc T Φ k N X sc → chkE N T e sc ex = true → Both X T.gvals Φ e ex
  | .var i, X, sc, ex, C, h => by
    simp only [chkE] at h
    split at h
    · simp only [Bool.and_eq_true] at h
      obtain ⟨h1, h2, h3⟩ := h
      have q := plain_ok h3
      exact both (snd_var (by rw [C.hN]; exact dec h1) (C.vis h2) q.1 q.2.1) rfl
    · cases h
  | .con d, X, sc, ex, C, h => by
    simp only [chkE] at h
    split at h
    · split at h
      · cases dec h; exact both (snd_con pe_int fun _ => .int _) rfl
      · cases h
    · split at h
      · cases dec h; exact both (snd_con pe_str fun _ => .str _) rfl
      · cases h
    · split at h
      · cases dec h; exact both (snd_con pe_bl fun _ => .bl _) rfl
      · cases h
    · split at h
      · exact both (snd_con pe_non fun _ => .non) rfl
      · cases h
    · cases h
  | .glob x i, X, sc, ex, C, h => by
    simp only [chkE] at h
    split at h
    · simp only [Bool.and_eq_true] at h
      obtain ⟨h1, h2, h3, h4⟩ := h
      have e0 := dec h1
      subst e0
      obtain ⟨u, v, e1, r1, r2⟩ := C.glob x i (by simpa using h4)
      exact both (snd_con (pe_glob (C.gl h2) e1 r1 (plain_ok h3).1) r2) rfl
    · cases h
  | .bin op a b, X, sc, ex, C, h => by
    simp only [chkE] at h
    split at h
    · simp only [Bool.and_eq_true] at h
      obtain ⟨h1, h2, h3⟩ := h
      have e0 := dec h1
      subst e0
      exact both (snd_op (op_bin _) (sndE a X sc _ C h2).1 (sndE b X sc _ C h3).1) rfl
    · cases h
  | .neg a, X, sc, ex, C, h => by
    simp only [chkE] at h
    split at h
    · exact both (snd_neg (sndE a X sc _ C h).1) rfl
    · cases h
  | .not a, X, sc, ex, C, h => by
    simp only [chkE] at h
    split at h
    · simp only [Bool.and_eq_true] at h
      obtain ⟨h1, h2⟩ := h
      have q := sndE a X sc _ C h2
      exact ⟨snd_not q.1, fun _ => snt_not (q.2 h1)⟩
    · cases h
  | .cmp op a b, X, sc, ex, C, h => by
    simp only [chkE] at h
    split at h
    · simp only [Bool.and_eq_true] at h
      obtain ⟨h1, h2, h3, h4⟩ := h
      have e0 := dec h1
      subst e0
      have qa := (sndE a X sc _ C h3).1
      have qb := (sndE b X sc _ C h4).1
      exact ⟨snd_cmp C.units qa qb (notSet_mark h2), fun _ => snt_cmp C.units qa qb (notSet_mark h2)⟩
    · cases h
  | .cmp2 op op' a b c, X, sc, ex, C, h => by
    simp only [chkE] at h
    split at h
    · simp only [Bool.and_eq_true] at h
      obtain ⟨h1, h2, h3, h4, h5, h6⟩ := h
      have e0 := dec h1
      have e1 := dec h2
      subst e0
      subst e1
      have qa := (sndE a X sc _ C h4).1
      have qb := (sndE b X sc _ C h5).1
      have qc := (sndE c X sc _ C h6).1
      exact ⟨snd_chain C.units qa qb qc (notSet_mark h3), fun _ => snt_chain C.units qa qb qc (notSet_mark h3)⟩
    · cases h
  | .bop kk es, X, sc, ex, C, h => by
    simp only [chkE] at h
    split at h
    · simp only [Bool.and_eq_true] at h
      obtain ⟨h1, h2, h3⟩ := h
      subst h1
      have q := sndB true es X sc _ C h3 (by intro z; subst z; exact absurd (dec h2) (by simp))
      exact ⟨(q _).1, fun _ => (q _).2.pt⟩
    · simp only [Bool.and_eq_true] at h
      obtain ⟨h1, h2, h3⟩ := h
      cases kk with
      | true => cases h1
      | false =>
        have q := sndB false es X sc _ C h3 (by intro z; subst z; exact absurd (dec h2) (by simp))
        exact ⟨(q _).1, fun _ => (q _).2.pt⟩
    · cases h
  | .ite c a b, X, sc, ex, C, h => by
    simp only [chkE] at h
    split at h
    · simp only [Bool.and_eq_true] at h
      obtain ⟨h0, h1, h2, h3⟩ := h
      exact ⟨snd_ite ((sndE c X sc _ C h1).2 h0) (sndE a X sc _ C h2).1 (sndE b X sc _ C h3).1, fun z => by cases z⟩
    · cases h
  | .tup es, X, sc, ex, C, h => by
    simp only [chkE] at h
    split at h
    · exact both (snd_tup (sndEs es X sc _ C h)) rfl
    · cases h
  | .lm mt l, X, sc, ex, C, h => by
    simp only [chkE] at h
    obtain ⟨q1, q2⟩ := sndL l X sc ex C h
    exact both (snd_lm q1) q2
  | .dict0, X, sc, ex, C, h => by
    simp only [chkE] at h
    split at h
    · exact both snd_dict0 rfl
    · cases h
  | .idx a i, X, sc, ex, C, h => by
    simp only [chkE] at h
    split at h
    · simp only [Bool.and_eq_true] at h
      obtain ⟨h1, h2, h3⟩ := h
      exact both (snd_idx (sndE a X sc _ C h2).1 (sndE i X sc _ C h3).1 (slice_plain h1)) rfl
    · cases h
  | .sli a lo hi, X, sc, ex, C, h => by
    simp only [chkE] at h
    split at h
    · simp only [Bool.and_eq_true] at h
      obtain ⟨h1, h2, h3⟩ := h
      exact both (snd_sli (sndE a X sc _ C h1).1 (sndO lo X sc _ C h2) (sndO hi X sc _ C h3)) rfl
    · cases h
  | .isi a t, X, sc, ex, C, h => by
    simp only [chkE] at h
    split at h
    · simp only [Bool.and_eq_true] at h
      obtain ⟨h1, h2, h3, h4, h5⟩ := h
      have e1 := dec h1
      have e2 := dec h2
      subst e1
      subst e2
      have f1 := C.isF h3
      have f2 := C.isF h4
      exact both (snd_isi f1.1 f1.2.1 f2.1 f2.2.1 (chkE_nos a sc _ h5) (sndE a X sc _ C h5).1) rfl
    · cases h
  | .b1 .len a, X, sc, ex, C, h => by
    simp only [chkE] at h
    split at h
    · simp only [Bool.and_eq_true] at h
      obtain ⟨h1, h2, h3⟩ := h
      have e1 := dec h1
      subst e1
      have F := C.isF h2
      exact both (snd_b1B c_len F.1 F.2.1 (by decide +kernel) F.2.2.2 F.2.2.1 (chkE_nos a sc _ h3) (sndE a X sc _ C h3).1) rfl
    · cases h
  | .b1 .abs a, X, sc, ex, C, h => by
    simp only [chkE] at h
    split at h
    · simp only [Bool.and_eq_true] at h
      obtain ⟨h1, h2, h3⟩ := h
      have e1 := dec h1
      subst e1
      have F := C.isF h2
      exact both (snd_b1B c_abs F.1 F.2.1 (by decide +kernel) F.2.2.2 F.2.2.1 (chkE_nos a sc _ h3) (sndE a X sc _ C h3).1) rfl
    · cases h
  | .b1 .all a, X, sc, ex, C, h => by
    simp only [chkE] at h
    split at h
    · simp only [Bool.and_eq_true] at h
      obtain ⟨h1, h2, h3⟩ := h
      have e1 := dec h1
      subst e1
      have F := C.isF h2
      exact both (snd_b1B (c_all C.calm) F.1 F.2.1 (by decide +kernel) F.2.2.2 F.2.2.1 (chkE_nos a sc _ h3) (sndE a X sc _ C h3).1) rfl
    · cases h
  | .b1 .any a, X, sc, ex, C, h => by
    simp only [chkE] at h
    split at h
    · simp only [Bool.and_eq_true] at h
      obtain ⟨h1, h2, h3⟩ := h
      have e1 := dec h1
      subst e1
      have F := C.isF h2
      exact both (snd_b1B (c_any C.calm) F.1 F.2.1 (by decide +kernel) F.2.2.2 F.2.2.1 (chkE_nos a sc _ h3) (sndE a X sc _ C h3).1) rfl
    · cases h
  | .b1 .int a, X, sc, ex, C, h => by
    simp only [chkE] at h
    split at h
    · simp only [Bool.and_eq_true] at h
      obtain ⟨h1, h2, h3⟩ := h
      have e1 := dec h1
      subst e1
      have F := C.isF h2
      exact both (snd_b1T c_int F.1 F.2.1 (by decide +kernel) F.2.2.2 F.2.2.1 (chkE_nos a sc _ h3) (sndE a X sc _ C h3).1) rfl
    · cases h
  | .b1 .str a, X, sc, ex, C, h => by
    simp only [chkE] at h
    split at h
    · simp only [Bool.and_eq_true] at h
      obtain ⟨h1, h2, h3⟩ := h
      have e1 := dec h1
      subst e1
      have F := C.isF h2
      exact both (snd_b1T c_str F.1 F.2.1 (by decide +kernel) F.2.2.2 F.2.2.1 (chkE_nos a sc _ h3) (sndE a X sc _ C h3).1) rfl
    · cases h
  | .b1 .repr a, X, sc, ex, C, h => by
    simp only [chkE] at h
    split at h
    · simp only [Bool.and_eq_true] at h
      obtain ⟨h1, h2, h3⟩ := h
      have e1 := dec h1
      subst e1
      have F := C.isF h2
      exact both (snd_b1B (P.repr X C.calm C.gds (by have := C.room.un; omega)) F.1 F.2.1 (by decide +kernel) F.2.2.2 F.2.2.1 (chkE_nos a sc _ h3) (sndE a X sc _ C h3).1) rfl
    · cases h
  | .b1 .tuple a, X, sc, ex, C, h => by
    simp only [chkE] at h
    split at h
    · simp only [Bool.and_eq_true] at h
      obtain ⟨h1, h2, h3⟩ := h
      have e1 := dec h1
      subst e1
      have F := C.isF h2
      exact both (snd_b1T c_tuple F.1 F.2.1 (by decide +kernel) F.2.2.2 F.2.2.1 (chkE_nos a sc _ h3) (sndE a X sc _ C h3).1) rfl
    · cases h
  | .b1 .dict a, X, sc, ex, C, h => by
    simp only [chkE] at h
    split at h
    · simp only [Bool.and_eq_true] at h
      obtain ⟨h1, h2, h3⟩ := h
      have e1 := dec h1
      subst e1
      have F := C.isF h2
      exact both (snd_b1T (P.dict X C.calm) F.1 F.2.1 (by decide +kernel) F.2.2.2 F.2.2.1 (chkE_nos a sc _ h3) (sndE a X sc _ C h3).1) rfl
    · cases h
  | .b1 .lenset a, X, sc, ex, C, h => by
    simp only [chkE] at h
    split at h
    · simp only [Bool.and_eq_true] at h
      obtain ⟨h1, h2, h3, h4, h5⟩ := h
      have e1 := dec h1
      have e2 := dec h2
      subst e1
      subst e2
      have f1 := C.isF h3
      have f2 := C.isF h4
      exact both (P.lenset X _ _ _ _ _ _ C.calm f1.1 f1.2.1 f2.1 f2.2.1 (chkE_nos a sc _ h5) (sndE a X sc _ C h5).1) rfl
    · cases h
  | .b2 .max a b, X, sc, ex, C, h => by
    simp only [chkE] at h
    split at h
    · simp only [Bool.and_eq_true] at h
      obtain ⟨h1, h2, h3, h4⟩ := h
      have e1 := dec h1
      subst e1
      have F := C.isF h2
      exact both (snd_b2B (c_max C.calm) F.1 F.2.1 (by decide +kernel) F.2.2.2 F.2.2.1 (chkE_nos a sc _ h3) (chkE_nos b sc _ h4) (sndE a X sc _ C h3).1 (sndE b X sc _ C h4).1) rfl
    · cases h
  | .b2 .min a b, X, sc, ex, C, h => by
    simp only [chkE] at h
    split at h
    · simp only [Bool.and_eq_true] at h
      obtain ⟨h1, h2, h3, h4⟩ := h
      have e1 := dec h1
      subst e1
      have F := C.isF h2
      exact both (snd_b2B (c_min C.calm) F.1 F.2.1 (by decide +kernel) F.2.2.2 F.2.2.1 (chkE_nos a sc _ h3) (chkE_nos b sc _ h4) (sndE a X sc _ C h3).1 (sndE b X sc _ C h4).1) rfl
    · cases h
  | .m1 .join a b, X, sc, ex, C, h => by
    simp only [chkE] at h
    split at h
    · simp only [Bool.and_eq_true] at h
      obtain ⟨h1, h2, h3, h4, h5⟩ := h
      have e1 := dec h1
      subst e1
      exact both (snd_M PySem.F.slot_str_join PySem.F.type_str_join m_join h2 h3 (chkE_nos b sc _ h5) (sndE a X sc _ C h4).1 (sndE b X sc _ C h5).1) rfl
    · cases h
  | .m1 .split a b, X, sc, ex, C, h => by
    simp only [chkE] at h
    split at h
    · simp only [Bool.and_eq_true] at h
      obtain ⟨h1, h2, h3, h4, h5⟩ := h
      have e1 := dec h1
      subst e1
      exact both (snd_M PySem.F.slot_str_split PySem.F.type_str_split m_split h2 h3 (chkE_nos b sc _ h5) (sndE a X sc _ C h4).1 (sndE b X sc _ C h5).1) rfl
    · cases h
  | .app a b, X, sc, ex, C, h => by
    simp only [chkE] at h
    split at h
    · simp only [Bool.and_eq_true] at h
      obtain ⟨h1, h2, h3, h4, h5⟩ := h
      have e1 := dec h1
      subst e1
      exact both (snd_app h2 h3 (chkE_nos b sc _ h5) (sndE a X sc _ C h4).1 (sndE b X sc _ C h5).1) rfl
    · cases h
  | .pop1 a b, X, sc, ex, C, h => by
    simp only [chkE] at h
    split at h
    · simp only [Bool.and_eq_true] at h
      obtain ⟨h1, h2, h3, h4, h5⟩ := h
      have e1 := dec h1
      subst e1
      exact both (snd_pop1 h2 h3 (chkE_nos b sc _ h5) (sndE a X sc _ C h4).1 (sndE b X sc _ C h5).1) rfl
    · cases h
  | .call i es, X, sc, ex, C, h => by
    simp only [chkE] at h
    split at h
    · rename_i g p xs q
      split at h
      · rename_i f ef
        simp only [Bool.and_eq_true] at h
        obtain ⟨h1, h2, h3, h4⟩ := h
        have e1 := dec h1
        subst e1
        obtain ⟨fa, fd, ps, g1, g2, g3, g4⟩ := C.defs i f ef
        have hq := chkEs_nos es sc xs h4
        have hpl := (plain_ok h3).1
        have ha := sndEs es X sc xs C h4
        cases xs with
        | nil =>
          have ee : es = .nil := by cases es <;> first | rfl | (simp only [chkEs] at h4; cases h4)
          subst ee
          exact both (snd_call0 (E0 := fun _ _ _ => False) (fun xs m => C.few i f xs m ef) g4 C.gds C.room (C.gl h2) g1 g2 g3 pass0 hpl) rfl
        | cons _ _ => exact both (snd_call (E0 := fun _ _ _ => False) (fun xs m => C.few i f xs m ef) g4 C.gds C.room (C.gl h2) g1 g2 g3 pass0 hpl hq ha) rfl
      · cases h
    · cases h
theorem sndB : ∀ (kk : Bool) (es : Es) (X : Cx) (sc : Scope) (xs : List Expr), Cc T Φ k N X sc → chkB N T es sc xs = true → tyB X T.gvals Φ kk es xs
  | _, .nil, X, sc, [], C, _ => fun h => absurd rfl h
  | _, .nil, X, sc, _ :: _, C, h => by simp only [chkB] at h; cases h
  | _, .cons _ _, X, sc, [], C, h => by simp only [chkB] at h; cases h
  | true, .cons e .nil, X, sc, x :: xs, C, h => fun _ p => by
    simp only [chkB, Bool.and_eq_true] at h
    obtain ⟨h1, h2, h3⟩ := h
    cases xs with
    | cons _ _ => simp only [chkB] at h3; cases h3
    | nil =>
      have q := sndE e X sc x C h2
      exact ⟨pe_one q.1, pw_and1 (q.2 h1)⟩
  | false, .cons e .nil, X, sc, x :: xs, C, h => fun _ p => by
    simp only [chkB, Bool.and_eq_true] at h
    obtain ⟨h1, h2, h3⟩ := h
    cases xs with
    | cons _ _ => simp only [chkB] at h3; cases h3
    | nil =>
      have q := sndE e X sc x C h2
      exact ⟨pe_one q.1, pw_or1 (q.2 h1)⟩
  | true, .cons e (.cons f es), X, sc, x :: xs, C, h => fun _ p => by
    rw [chkB] at h
    simp only [Bool.and_eq_true] at h
    obtain ⟨h1, h2, h3⟩ := h
    have q := sndE e X sc x C h2
    have qs := sndB true (.cons f es) X sc xs C h3
    cases xs with
    | nil => simp only [chkB] at h3; cases h3
    | cons y ys =>
      have qs := qs (by simp) p
      exact ⟨snd_and q.1 qs.1, snt_and (q.2 h1) qs.2⟩
  | false, .cons e (.cons f es), X, sc, x :: xs, C, h => fun _ p => by
    rw [chkB] at h
    simp only [Bool.and_eq_true] at h
    obtain ⟨h1, h2, h3⟩ := h
    have q := sndE e X sc x C h2
    have qs := sndB false (.cons f es) X sc xs C h3
    cases xs with
    | nil => simp only [chkB] at h3; cases h3
    | cons y ys =>
      have qs := qs (by simp) p
      exact ⟨snd_or q.1 qs.1, snt_or (q.2 h1) qs.2⟩
theorem sndEs : ∀ (es : Es) (X : Cx) (sc : Scope) (xs : List Expr), Cc T Φ k N X sc → chkEs N T es sc xs = true → PA X xs (rdA X.K Wn (evalEs T.gvals Φ es))
  | .nil, X, sc, [], C, _ => sna_nil
  | .nil, X, sc, _ :: _, C, h => by simp only [chkEs] at h; cases h
  | .cons _ _, X, sc, [], C, h => by simp only [chkEs] at h; cases h
  | .cons e es, X, sc, x :: xs, C, h => by
    simp only [chkEs, Bool.and_eq_true] at h
    exact sna_cons (chkE_nos e sc x h.1) (sndE e X sc x C h.1).1 (sndEs es X sc xs C h.2)
theorem sndO : ∀ (o : O) (X : Cx) (sc : Scope) (x : Option Expr), Cc T Φ k N X sc → chkO N T o sc x = true → PO X x (rdO X.K Wn (evalO T.gvals Φ o))
  | .no, X, sc, none, C, _ => sno_no
  | .no, X, sc, some _, C, h => by simp only [chkO] at h; cases h
  | .yes _, X, sc, none, C, h => by simp only [chkO] at h; cases h
  | .yes e, X, sc, some x, C, h => by
    simp only [chkO] at h
    exact sno_yes (sndE e X sc x C h).1
theorem sndC : ∀ (o : O) (X : Cx) (sc : Scope) (x : List Expr), Cc T Φ k N X sc → chkC N T o sc x = true → PTs X x (rdT X.K Wn (evalC T.gvals Φ o))
  | .no, X, sc, [], C, _ => pts_no
  | .no, X, sc, _ :: _, C, h => by simp only [chkC] at h; cases h
  | .yes _, X, sc, [], C, h => by simp only [chkC] at h; cases h
  | .yes _, X, sc, _ :: _ :: _, C, h => by simp only [chkC] at h; cases h
  | .yes e, X, sc, [x], C, h => by
    simp only [chkC, Bool.and_eq_true] at h
    exact pts_one ((sndE e X sc x C h.2).2 h.1)
theorem sndL : ∀ (l : L) (X : Cx) (sc : Scope) (ex : Expr), Cc T Φ k N X sc → chkL N T l sc ex = true → PE X ex (rdL X.K Wn (evalL T.gvals Φ l)) ∧ plainT ex = true
  | .disp es, X, sc, ex, C, h => by
    simp only [chkL] at h
    split at h
    · exact ⟨snl_disp (sndEs es X sc _ C h), rfl⟩
    · cases h
  | .lc it tg c e, X, sc, ex, C, h => by
    simp only [chkL] at h
    split at h
    · rename_i x t i ifs scope p
      simp only [Bool.and_eq_true] at h
      obtain ⟨h0, h1, h2, h3, h4, h5⟩ := h
      refine ⟨snl_lc C.calm (by rw [C.hN]; exact C.nd) (sndIt it X sc t i C h3) (by rw [C.hN, C.hsc]; exact blkOk_by h1) (own_slots tg) ?_ ?_ ?_ (notSet_ok h0), rfl⟩
      · exact fun s H Ca cl fp => tg_blk (C.blk h1 s H Ca cl fp) h2
      · exact fun s H Ca cl fp => sndC c _ _ ifs (C.blk h1 s H Ca cl fp) h4
      · exact fun s H Ca cl fp => (sndE e _ _ x (C.blk h1 s H Ca cl fp) h5).1
    · cases h
  | .blt .list a, X, sc, ex, C, h => by
    simp only [chkL] at h
    split at h
    · simp only [Bool.and_eq_true] at h
      obtain ⟨h1, h2, h3⟩ := h
      have e1 := dec h1
      subst e1
      have F := C.isF h2
      refine ⟨PEmono (pe_callTy (P.list X C.calm) F.1 F.2.1 (by decide +kernel) (pa_cons (sndE a X sc _ C h3).1 pa_nil (star_nos (chkE_nos a sc _ h3))) F.2.2.2 F.2.2.1 (star_nos (chkE_nos a sc _ h3)) rfl) fun _ _ _ h => rd_rLb h, rfl⟩
    · cases h
  | .blt .sorted a, X, sc, ex, C, h => by
    simp only [chkL] at h
    split at h
    · simp only [Bool.and_eq_true] at h
      obtain ⟨h1, h2, h3⟩ := h
      have e1 := dec h1
      subst e1
      have F := C.isF h2
      refine ⟨PEmono (pe_callB (P.sorted X C.calm (by have := C.room.un; omega)) F.1 F.2.1 (by decide +kernel) (pa_cons (sndE a X sc _ C h3).1 pa_nil (star_nos (chkE_nos a sc _ h3))) F.2.2.2 F.2.2.1 (star_nos (chkE_nos a sc _ h3)) rfl) fun _ _ _ h => rd_rLb h, rfl⟩
    · cases h
  | .blt .sset a, X, sc, ex, C, h => by
    simp only [chkL] at h
    split at h
    · simp only [Bool.and_eq_true] at h
      obtain ⟨h1, h2, h3, h4, h5⟩ := h
      have e1 := dec h1
      have e2 := dec h2
      subst e1
      subst e2
      have f1 := C.isF h3
      have f2 := C.isF h4
      exact ⟨P.sset X _ _ _ _ _ _ C.calm (by have := C.room.un; omega) f1.1 f1.2.1 f2.1 f2.2.1 (chkE_nos a sc _ h5) (sndE a X sc _ C h5).1, rfl⟩
    · cases h
theorem sndIt : ∀ (it : It) (X : Cx) (sc : Scope) (t ex : Expr), Cc T Φ k N X sc → chkIt N T it sc t ex = true → PI X t ex (rdI X.K Wn (evalIt T.gvals Φ it))
  | .seq e, X, sc, t, ex, C, h => by
    simp only [chkIt] at h
    exact sni_seq (sndE e X sc ex C h).1
  | .rng1 a, X, sc, t, ex, C, h => by
    simp only [chkIt] at h
    split at h
    · simp only [Bool.and_eq_true] at h
      obtain ⟨h1, h2, h3⟩ := h
      have e1 := dec h1
      subst e1
      have F := C.isF h2
      exact sni_rng F.1 F.2.1 (chkE_nos a sc _ h3) (sndE a X sc _ C h3).1
    · cases h
  | .enum a, X, sc, t, ex, C, h => by
    simp only [chkIt] at h
    split at h
    · split at h
      · simp only [Bool.and_eq_true] at h
        obtain ⟨h1, h2, h3⟩ := h
        have e1 := dec h1
        subst e1
        have F := C.isF h2
        exact sni_enum F.1 F.2.1 (chkE_nos a sc _ h3) (sndE a X sc _ C h3).1
      · cases h
    · cases h
  | .zip a b, X, sc, t, ex, C, h => by
    simp only [chkIt] at h
    split at h
    · split at h
      · simp only [Bool.and_eq_true] at h
        obtain ⟨h1, h2, h3, h4⟩ := h
        have e1 := dec h1
        subst e1
        have F := C.isF h2
        exact sni_zip F.1 F.2.1 (chkE_nos a sc _ h3) (chkE_nos b sc _ h4) (sndE a X sc _ C h3).1 (sndE b X sc _ C h4).1
      · cases h
    · cases h
end
end
end AW
set_option maxRecDepth 100000
set_option maxHeartbeats 4000000
namespace AW
open PySem L2
section
variable {X : Cx}
theorem c_repr (hc : X.calm = true) (hg : X.A.guards = some []) (hu : X.A.units + 150 < cLine) : CallR X (.builtin "repr") (r1c X.K Wn (b1D .repr)) := by
  intro pins s σ H xs us Q I r h
  obtain ⟨x, φ, F, m, dx, z, rfl, R, px, e, h⟩ := h
  have e : (reprD dx).map D.str = some z := e
  unfold reprD at e
  cases ep : dx.py with
  | none => rw [ep] at e; cases e
  | some p =>
    rw [ep] at e
    simp only [Option.bind_some] at e
    split at e
    · rename_i hs
      cases e
      simp only [Bool.and_eq_true, Bool.not_eq_true', decide_eq_true_eq] at hs
      obtain ⟨⟨⟨h1, h2⟩, h3⟩, h4⟩ := hs
      have h4 : p.shown.length ≤ sizeLine := of_decide_eq_true h4
      obtain ⟨u, rfl, rx⟩ := vals1 r
      have dp := px.dp R.sub ep
      have hq : Q (.str p.shown) H := h.at R (.str _)
      have fin : ∀ tk, EP X pins σ Q (.str p.shown tk) { s with toks := s.toks + 1 } := fun tk => ⟨.str p.shown, H, I.tok _, ⟨_, rfl⟩, hq⟩
      have seqs : ∀ a, u = .ref a → wpAny (model X.prog X.w) X.A (call (.builtin "repr") [u]) (EP X pins σ Q) X.xe s := by
        rintro a rfl
        obtain ⟨as, rds⟩ := Dp.reads I p x _ dp rx
        exact repr_of_reads' rds h1 (PyData.noDict_hsm h2) hg (by omega) (fun _ _ e => e) (fun h' u' tk hk => ⟨.str p.shown, H, I.kept (t' := tk) hk, ⟨_, rfl⟩, hq⟩) h4
      cases dp with
      | non => cases rx; exact P.repr_of_none (fin _)
      | bl b => cases rx; exact P.repr_of_bool (fin _)
      | int i =>
        obtain ⟨t, rfl⟩ := rx
        exact P.repr_of_int (by simpa [PyData.showable] using h1) (fin _)
      | str y =>
        obtain ⟨t, rfl⟩ := rx
        exact P.repr_of_str (fin _) h4
      | lst hl _ => exact seqs _ rx
      | tup hl _ => exact seqs _ rx
    · cases e
theorem vals_signs {s : Str} {acc : Array Value} (h : ItemsOf (SignAt s) acc s.cps.size) : Vals (s.cps.toList.map fun c => V.str ⟨#[c]⟩) acc.toList := by
  have key : ∀ (cs : List Nat) (vs : List Value), vs.length = cs.length → (∀ (j : Nat) (v : Value), vs[j]? = some v → ∃ c u, cs[j]? = some c ∧ v = .str ⟨#[c]⟩ u) → Vals (cs.map fun c => V.str ⟨#[c]⟩) vs := by
    intro cs
    induction cs with
    | nil => intro vs hl _; cases vs with | nil => exact .nil | cons _ _ => cases hl
    | cons c cs ih =>
      intro vs hl hh
      cases vs with
      | nil => cases hl
      | cons v vs =>
        obtain ⟨c', u, e1, e2⟩ := hh 0 v rfl
        cases e1
        refine .cons ⟨u, e2⟩ (ih vs (by simpa using hl) fun j w hw => ?_)
        exact hh (j + 1) w (by simpa using hw)
  refine key _ _ (by rw [Array.length_toList, h.1, Array.length_toList]) fun j v hv => ?_
  obtain ⟨c, u, hc, e⟩ := h.2 j v (by simpa using hv)
  exact ⟨c, u, by simpa using hc, e⟩
theorem c_list (hc : X.calm = true) : CallR X (.type "list") (rLb X.K (lbD .list)) := by
  intro pins s σ H xs us Q I r h
  obtain ⟨x, φ, F, m, dx, ds, rfl, R, px, e, h⟩ := h
  have e : seqD dx = some ds := e
  cases dx <;> simp only [seqD] at e <;> try (cases e; done)
  · rename_i t _
    split at e
    · rename_i hs; cases e
      obtain ⟨u, rfl, rx⟩ := vals1 r
      rw [px.str] at rx
      obtain ⟨tk, rfl⟩ := rx
      have hs : t.cps.size ≤ sizeLine := of_decide_eq_true hs
      refine call_list_str (I.ok.hd hc) t tk (hn := hs) fun h' tk' acc c hk hS hacc => ?_
      have hv := vals_signs hacc
      have hlen : (t.cps.toList.map fun c => V.str ⟨#[c]⟩).length ≤ sizeLine := by simpa using hs
      refine ⟨.ref s.heap.objs.size, _, I.laid (o := .lst (t.cps.toList.map fun c => V.str ⟨#[c]⟩)) (t' := tk') hk (Nat.le_refl _) ⟨hlen, acc.toList, c, hv, by simpa using hS⟩, rfl, ?_⟩
      refine h φ F H _ _ (Stp.refl R) ?_ I.fresh
      have all : ∀ cs : List Nat, Reps X.K F (cs.map fun c => V.str ⟨#[c]⟩) (cs.map fun c => D.str ⟨#[c]⟩) := by
        intro cs
        induction cs with
        | nil => exact .nil
        | cons c cs ih => exact .cons (.str _) ih
      exact all _
    · cases e
  · cases e
    obtain ⟨q, vs, rfl, h1, r1⟩ := px.tup
    exact call_list_of pins s σ H _ us Q I r ⟨q, vs, rfl, .inr (R.sub.t h1), fun l hl => h φ F H vs l (Stp.refl R) r1 hl⟩
  · cases e
    obtain ⟨q, vs, rfl, h1, r1⟩ := px.lst R.sub
    exact call_list_of pins s σ H _ us Q I r ⟨q, vs, rfl, .inl h1, fun l hl => h φ F H vs l (Stp.refl R) r1 hl⟩
theorem put_new {kvs : List (Key × V)} {k : Key} {v : V} (h : k ∉ kvs.map (·.1)) : putK kvs k v = kvs ++ [(k, v)] := by
  unfold putK
  rw [if_neg]
  intro q
  rw [List.any_eq_true] at q
  obtain ⟨kv, hm, e⟩ := q
  exact h (List.mem_map.mpr ⟨kv, hm, of_decide_eq_true e⟩)
theorem merge_new : ∀ (more acc : List (Key × V)), ((acc ++ more).map (·.1)).Nodup → mergeK acc more = acc ++ more
  | [], acc, _ => by simp [mergeK]
  | p :: more, acc, h => by
    show mergeK (putK acc p.1 p.2) more = _
    have hn : p.1 ∉ acc.map (·.1) := by
      rw [List.map_append, List.map_cons] at h
      intro q
      exact (List.nodup_append.mp h).2.2 _ q _ List.mem_cons_self rfl
    rw [put_new hn, merge_new more _ (by rw [List.append_assoc]; exact h), List.append_assoc]; rfl
theorem kV_rep {K : Frag} {F : Hp} {u : V} {d : D} {k : Key} (r : Rep K F u d) (e : keyOfD d = some k) : u = kV k ∧ d = keyD k := by
  cases d <;> simp only [keyOfD] at e <;> try (cases e; done)
  · cases e; cases r; exact ⟨rfl, rfl⟩
  · cases e; cases r; exact ⟨rfl, rfl⟩
theorem pairs_rep {K : Frag} {F : Hp} : ∀ {vs : List V} {ds : List D} {ps : List (Key × D)}, Reps K F vs ds → pairsD ds = some ps →
    ∃ (as : List Addr) (kvs : List (Key × V)), vs = as.map V.ref ∧ Paired (fun p kv => SqT K F p [kV kv.1, kv.2]) as kvs ∧ kvs.map (·.1) = ps.map (·.1) ∧ Reps K F (kvs.map (·.2)) (ps.map (·.2))
  | _, _, _, .nil, e => by cases e; exact ⟨[], [], rfl, .nil, rfl, .nil⟩
  | _, _, ps, .cons (d := d) (ds := ds) h r, e => by
    cases d <;> try (simp only [pairsD] at e; cases e; done)
    rename_i ts
    match ts, h, e with
    | [k, v], h, e =>
      have e : ((keyOfD k).bind fun k => (pairsD ds).map fun r => (k, v) :: r) = some ps := e
      cases ek : keyOfD k with
      | none => rw [ek] at e; cases e
      | some k' =>
        cases er : pairsD ds with
        | none => rw [ek, er] at e; cases e
        | some rr =>
          rw [ek, er] at e; cases e
          obtain ⟨as, kvs, e1, e2, e3, e4⟩ := pairs_rep r er
          cases h with
          | tup h1 r1 =>
            cases r1 with
            | cons q1 q2 =>
              cases q2 with
              | cons q2 q3 =>
                cases q3
                obtain ⟨rfl, _⟩ := kV_rep q1 ek
                exact ⟨_ :: as, (k', _) :: kvs, by rw [e1]; rfl, .cons h1 e2, by simp [e3], .cons q2 e4⟩
    | [], h, e => simp only [pairsD] at e; cases e
    | [_], h, e => simp only [pairsD] at e; cases e
    | _ :: _ :: _ :: _, h, e => simp only [pairsD] at e; cases e
theorem c_dict (hc : X.calm = true) : CallR X (.type "dict") (r1c X.K Wn (b1D .dict)) := by
  intro pins s σ H xs us Q I r h
  obtain ⟨x, φ, F, m, dx, z, rfl, R, px, e, h⟩ := h
  cases dx <;> simp only [b1D] at e <;> try (cases e; done)
  rename_i ds
  cases ep : pairsD ds with
  | none => rw [ep] at e; cases e
  | some ps =>
    rw [ep] at e
    simp only [Option.bind_some] at e
    split at e
    · rename_i hs; cases e
      obtain ⟨q, vs, rfl, h1, r1⟩ := px.lst R.sub
      obtain ⟨as, kvs, rfl, e2, e3, e4⟩ := pairs_rep r1 ep
      have e5 : mergeK [] kvs = kvs := by rw [merge_new kvs [] (by rw [List.nil_append, e3]; exact hs.1)]; rfl
      refine call_dictP hc pins s σ H _ us Q I r ⟨q, as, kvs, rfl, h1, Paired.mapP e2 fun _ _ z => R.sub.t z, fun l hl => ?_⟩
      rw [e5]
      refine h.new R hl (.dct upd_same ?_ (e4.mono (Ext.new (R.fresh hl))))
      have : ∀ (a : List (Key × V)) (b : List (Key × D)), a.map (·.1) = b.map (·.1) → a.map (fun p => keyD p.1) = b.map (fun p => keyD p.1) := by
        intro a b hab
        have : a.map (fun p => keyD p.1) = (a.map (·.1)).map keyD := by rw [List.map_map]; rfl
        rw [this, hab, List.map_map]; rfl
      exact this kvs ps e3
    · cases e
end
end AW
set_option maxRecDepth 100000
set_option maxHeartbeats 4000000
namespace AW
open PySem PySem.Spec PyProof.Rows L2
/-- one texts' set: what its table holds -/
def keyS (e : Int × Value) : Str := match e.2 with
  | .str x _ => x
  | _ => Str.empty
structure TabS (w : World) (ys : List Str) (es : Array (Int × Value)) (t : SetTable) : Prop where
  good : ∀ e ∈ es.toList, ∃ x k, e.2 = Value.str x k ∧ e.1 = hashStr w x
  pm : (es.toList.map keyS).Perm ys
  nd : ys.Nodup
  few : es.size < scanBound
  fit : t.fits es.size = true
  ris : Ris t.place.toList
  led : w.params.followText "set-order" = true ∨ t.led = true
def SetS (w : World) (h : Heap) (a : Addr) (ys : List Str) : Prop := ∃ o es ep t, h.get? a = some o ∧ o.ExactSet ∧ o.data = .set es ep t ∧ TabS w ys es t
def addS (x : Str) (ys : List Str) : List Str := if x ∈ ys then ys else x :: ys
def addAll : List Str → List Str → List Str
  | ys, [] => ys
  | ys, x :: xs => addAll (addS x ys) xs
section
variable {P : Program} {w : World} {A : Around} {E : Value → Shared → Prop} {s : Shared} {a : Addr} {ys : List Str}
variable {es : Array (Int × Value)} {t : SetTable}
theorem TabS.elems (T : TabS w ys es t) : ElemsOf (PySem.strKind P w) es.toList := fun e he => by
  obtain ⟨x, k, q1, q2⟩ := T.good e he
  exact ⟨⟨x, by rw [q1]; exact strKind_is P w x k, q2⟩, by rw [q1]; rfl⟩
theorem TabS.mem (P : Program) (T : TabS w ys es t) (x : Str) : x ∈ ys ↔ ∃ e ∈ es.toList, (PySem.strKind P w).is x e.2 = true := by
  rw [← T.pm.mem_iff, List.mem_map]
  refine exists_congr fun e => and_congr_right fun he => ?_
  obtain ⟨y, k, q1, _⟩ := T.good e he
  unfold keyS
  rw [q1]
  show y = x ↔ (y == x) = true
  exact beq_iff_eq.symm
theorem TabS.size (T : TabS w ys es t) : es.size = ys.length := by rw [← T.pm.length_eq, List.length_map, Array.length_toList]
theorem TabS.shift {es' : Array (Int × Value)} {t' : SetTable} (T : TabS w ys es t) (pm : es'.toList.Perm es.toList) (hf : t'.fits es'.size = true) (hr : Ris t'.place.toList) (hl : t'.led = t.led) : TabS w ys es' t' where
  good := fun e he => T.good e (pm.mem_iff.mp he)
  pm := (pm.map keyS).trans T.pm
  nd := T.nd
  few := by
    have : es'.size = es.size := by rw [← Array.length_toList, pm.length_eq, Array.length_toList]
    rw [this]; exact T.few
  fit := hf
  ris := hr
  led := T.led.imp id fun z => by rw [hl]; exact z
theorem SetS.at {h h' : Heap} (R : SetS w h a ys) (k : ∀ o, h.get? a = some o → h'.get? a = some o) : SetS w h' a ys := by
  obtain ⟨o, es, ep, t, q, r⟩ := R
  exact ⟨o, es, ep, t, k o q, r⟩
theorem sadd_tail {gw : Bool → Sem Unit} (hgw : ∀ (b : Bool) (z : Shared) (Z : Unit → Shared → Prop), Z () z → wpAny (model P w) A (gw b) Z E z)
    {o : Obj} {es0 : Array (Int × Value)} {ep : Nat} {t0 : SetTable} (go : s.heap.get? a = some o) (gx : o.ExactSet) (gd : o.data = .set es0 ep t0) (T : TabS w ys es t) {wd : Bool} {Z : Option Bool → Shared → Prop}
    (fin : ∀ h', Heap.SameBut a s.heap h' → SetS w h' a ys → Z (some true) { s with heap := h' }) :
    wpAny (model P w) A (do
      storeSet a es t
      if (!wd && t.tooFull) = true then do
        gw (relayAll t es (SetTable.grown es.size)).2.2
        storeSet a (relayAll t es (SetTable.grown es.size)).1 (relayAll t es (SetTable.grown es.size)).2.1
        pure (some true)
      else pure (some true)) Z E s := by
  refine wpAny_bind (wpAny_storeSet_of go gd ?_ (fits_of_scanBound T.few))
  have go1 := store_at (es' := es) (t' := t) go gd
  have same1 := Heap.SameBut.update s.heap a (Obj.putSet es t)
  by_cases c : (!wd && t.tooFull) = true
  · rw [if_pos c]
    have T2 : TabS w ys (relayAll t es (SetTable.grown es.size)).1 (relayAll t es (SetTable.grown es.size)).2.1 :=
      T.shift (relayAll_perm t es _) (relayAll_fits t es _) (relayAll_ris t es _) (relayAll_led t es _)
    refine wpAny_bind (hgw _ _ _ (wpAny_bind (wpAny_storeSet_of go1 rfl ?_ (fits_of_scanBound T2.few))))
    exact wpAny_pure (fin _ (same1.trans (Heap.SameBut.update _ a _)) ⟨_, _, _, _, store_at go1 rfl, gx, rfl, T2⟩)
  · rw [if_neg c]
    exact wpAny_pure (fin _ same1 ⟨_, _, _, _, go1, gx, rfl, T⟩)
theorem sadd {x : Str} {k : Tok} {Z : Bool → Shared → Prop} (R : SetS w s.heap a ys) (room : ys.length + 1 < scanBound)
    (fin : ∀ h', Heap.SameBut a s.heap h' → SetS w h' a (addS x ys) → ∀ b, Z b { s with heap := h' }) : wpAny (model P w) A (setAddHashed a (.str x k) ((PySem.strKind P w).hash x)) Z E s := by
  obtain ⟨o, es, ep, t, go, gx, gd, T⟩ := R
  have sc : (Value.str x k).scannable = true := rfl
  unfold setAddHashed setAddHashedIn
  refine wpAny_holding (wpAny_bind (wpAny_setState_of go gd T.fit ?_))
  dsimp only
  rw [byScan_of sc T.few (T.elems (P := P))]
  simp only [↓reduceIte]
  unfold setAddByScan
  refine wpAny_bind (wpAny_bind (wpAny_rule (wpAny_bind (wpAny_setScan_of (strKind_is P w x k) go gd T.fit (T.elems (P := P)) ?_))))
  cases found : List.findIdx? (fun e => (PySem.strKind P w).is x e.2) es.toList with
  | some j =>
    dsimp only
    obtain ⟨hj, pj, _⟩ := List.findIdx?_eq_some_iff_getElem.mp found
    have hx : x ∈ ys := (T.mem P x).2 ⟨es.toList[j], List.getElem_mem hj, pj⟩
    refine wpAny_pure (wpAny_pure (fin s.heap (Heap.SameBut.refl a s.heap) ⟨o, es, ep, t, go, gx, gd, ?_⟩ _))
    unfold addS
    rw [if_pos hx]; exact T
  | none =>
    dsimp only
    have hx : x ∉ ys := fun z => by
      obtain ⟨e, he, q⟩ := (T.mem P x).1 z
      have c := List.findIdx?_eq_none_iff.mp found e he
      rw [q] at c; cases c
    have pl := (layNew_perm t es ((PySem.strKind P w).hash x) (.str x k))
    have fl := layNew_fits t es ((PySem.strKind P w).hash x) (.str x k)
    have rl := layNew_ris t es ((PySem.strKind P w).hash x) (.str x k) T.ris
    have ll := layNew_led t es ((PySem.strKind P w).hash x) (.str x k)
    generalize layNew t es ((PySem.strKind P w).hash x) (.str x k) = Y at pl fl rl ll ⊢
    obtain ⟨es1, t1, wd, gave⟩ := Y
    dsimp only at pl fl rl ll ⊢
    rw [Array.toList_push] at pl
    have pc := pl.trans (List.perm_append_singleton _ _)
    have T1 : TabS w (addS x ys) es1 t1 := {
      good := fun e he => by
        rcases List.mem_cons.mp (pc.mem_iff.mp he) with z | z
        · rw [z]; exact ⟨x, k, rfl, rfl⟩
        · exact T.good e z
      pm := by
        unfold addS
        rw [if_neg hx]
        exact (pc.map keyS).trans (List.Perm.cons x T.pm)
      nd := by
        unfold addS
        rw [if_neg hx]
        exact List.nodup_cons.mpr ⟨hx, T.nd⟩
      few := by
        have : es1.size = ys.length + 1 := by rw [← Array.length_toList, pc.length_eq, List.length_cons, Array.length_toList, T.size]
        rw [this]; exact room
      fit := fl
      ris := rl
      led := T.led.imp id fun z => by rw [ll]; exact z }
    have gw : ∀ (b : Bool) (z : Shared) (Z : Unit → Shared → Prop), Z () z → wpAny (model P w) A (match b with | true => rule "set.scan.the-table-gave-way" | false => pure ()) Z E z :=
      fun b z Z q => by cases b <;> first | exact wpAny_pure q | exact wpAny_rule q
    refine wpAny_bind (gw _ _ _ ?_)
    split
    · refine wpAny_bind ?_
      rw [hashByValue_scannable 8 sc]
      refine wpAny_pure ?_
      refine sadd_tail gw go gx gd ?_ fun h' sb r => by dsimp only; exact wpAny_pure (fin h' sb r _)
      first
        | (split <;> first | exact T1 | exact T1.shift .rfl (SetTable.fits_plain_off fl) rl rfl)
        | exact T1
    · refine wpAny_bind (wpAny_pure ?_)
      simp only [↓reduceIte]
      exact sadd_tail gw go gx gd T1 fun h' sb r => by dsimp only; exact wpAny_pure (fin h' sb r _)
end
end AW
set_option maxRecDepth 100000
set_option maxHeartbeats 4000000
namespace AW
open PySem PySem.Spec PyProof.Rows L2
abbrev newS (w : World) : Obj := { cls := .type "set", dict := none, data := .set #[] 0 (.fresh 0 0 (!w.params.followText "set-order")) }
theorem addS_len (x : Str) (ys : List Str) : (addS x ys).length ≤ ys.length + 1 := by
  unfold addS
  split
  · exact Nat.le_succ _
  · exact Nat.le_refl _
section
variable {P : Program} {w : World} {A : Around} {Z : Result → Shared → Prop} {I : Addr} {fp wr : List Addr} {G : Array GenState → Array GenState → Prop} {n : Nat} {Pv : Nat → Value → Prop} {St : Nat → Shared → Prop}
theorem sloop (W : WalksS P w A.in1 I fp wr G n Pv St) (a : Addr) (ha : a ∉ fp) (xs : List Str) (hn : xs.length = n) (h64 : n < 64) (hv : ∀ i v, Pv i v → ∃ t, v = .str (xs.getD i Str.empty) t) :
    ∀ (k i : Nat) (s : Shared) (ys : List Str), n - i = k → i ≤ n → ys.length ≤ i → St i s → SetS w s.heap a ys →
      (∀ s', Moved (a :: wr) G s s' → SetS w s'.heap a (addAll ys (xs.drop i)) → Z (.ok (.ret .none)) s') →
      codeAny (model P w) A (.builtin "set.update.loop" ⟨[.ref a, .ref I], []⟩) Z s := by
  have haw : a ∉ wr := fun q => ha (W.sub _ q)
  have sub : ∀ b ∈ wr, b ∈ a :: wr := fun b q => List.mem_cons_of_mem _ q
  intro k
  induction k with
  | zero =>
    intro i s ys hk hi hl hst R fin
    obtain rfl : i = n := by omega
    refine codeAny_builtin PyProof.Rows.F.entry_set_update_loop ?_
    rw [Around.under_plainId PyProof.Rows.F.plain_set_update_loop _]
    show wpAny _ A.in1 (pyNext (.ref I) >>= _) _ _ s
    refine wpAny_bind (W.done s _ _ hst fun s' mv => ?_)
    show wpAny _ A.in1 (ret Value.none) _ _ s'
    refine wpAny_pure (fin s' (mv.mono sub) ?_)
    rw [List.drop_of_length_le (Nat.le_of_eq hn)]
    exact R.at fun o q => mv.heap a _ haw q
  | succ k ih =>
    intro i s ys hk hi hl hst R fin
    have hlt : i < n := by omega
    refine codeAny_builtin PyProof.Rows.F.entry_set_update_loop ?_
    rw [Around.under_plainId PyProof.Rows.F.plain_set_update_loop _]
    show wpAny _ A.in1 (pyNext (.ref I) >>= _) _ _ s
    refine wpAny_bind (W.item i s _ _ hlt hst fun v s' pv st' mv => ?_)
    obtain ⟨tk, rfl⟩ := hv i v pv
    have hd : xs.drop i = xs.getD i Str.empty :: xs.drop (i + 1) := by
      rw [List.drop_eq_getElem_cons (by omega), show xs.getD i Str.empty = xs[i]'(by omega) from by simp [List.getD, List.getElem?_eq_getElem (show i < xs.length by omega)]]
    generalize xs.getD i Str.empty = x at hd ⊢
    show wpAny _ A.in1 (holding [Value.str x tk] (setAdd a (.str x tk)) >>= _) _ _ s'
    refine wpAny_bind (wpAny_holding ?_)
    unfold setAdd
    refine wpAny_holding (wpAny_bind ((PySem.strKind P w).pyHash (k := x) (strKind_is _ _ _ _) ?_))
    refine sadd (s := { s' with toks := s'.toks + 1 }) (R.at fun o q => mv.heap a _ haw q) (by unfold scanBound; omega) fun h' sb R2 b => ?_
    refine wpAny_pure ⟨plainId_quiet PyProof.Rows.F.plain_set_update_loop _, ih (i + 1) _ (addS x ys) (by omega) hlt (Nat.le_trans (addS_len x ys) (by omega)) (W.frame _ s' _ _ st' (Nat.le_succ _) fun b hb o e => ?_) R2 fun s2 mv2 R3 => ?_⟩
    · exact (sb.2 b fun q => ha (q ▸ hb)).trans e
    · refine fin s2 (Moved.trans W.gtrans ((mv.mono sub).then_heap (Nat.le_succ _) fun b o hb e => (sb.2 b fun q => hb (q ▸ List.mem_cons_self)).trans e) mv2) ?_
      rw [hd]; exact R3
end
section
variable {P : Program} {w : World} {A : Around} {E : Value → Shared → Prop} {s : Shared}
theorem setS_fresh {h : Heap} (w : World) : SetS w (h.push (newS w)) h.objs.size [] :=
  ⟨_, #[], 0, _, Heap.get?_push_size _ rfl, ⟨rfl, rfl, rfl⟩, rfl, {
    good := fun e he => by simp at he
    pm := by simp
    nd := by simp
    few := by decide
    fit := by rfl
    ris := List.Pairwise.nil
    led := by
      show _ ∨ (!w.params.followText "set-order") = true
      cases w.params.followText "set-order"
      · exact .inr rfl
      · exact .inl rfl }⟩
theorem code_new1 (v : Value) {Z : Value → Shared → Prop} (h : Z (.ref s.heap.objs.size) { s with heap := s.heap.push (newS w) }) :
    codeAny (model P w) A (.call (.builtin "set.__new__") ⟨[.type "set", v], []⟩) (wants Z E) s := by
  refine codeAny_of_tree ?_
  show wpAny _ A.in1 (do
    checkBuiltinCall "set.__new__" ⟨[.type "set", v], []⟩
    again (.builtin "set.__new__" ⟨[.type "set", v], []⟩)) _ _ s
  refine wpAny_bind (wpAny_of_eq (PySem.F.newCall_set_1 v) (wpAny_pure ⟨plainId_quiet PySem.F.plain_set_new _, codeAny_builtin PySem.F.entry_set_new ?_⟩))
  rw [Around.under_plainId PySem.F.plain_set_new _]
  unfold Builtin.«set.__new__» Builtin.Frozenset.newClass
  have self := sub_set_self
  obtain ⟨hp, g, d, tk, os⟩ := s
  dsimp only
  wp_walk
  refine wpAny_askSetting (wpAny_pure ?_)
  dsimp only
  simp only [newObj]
  exact wpAny_bind (wpAny_alloc (wpAny_pure (wpAny_pure h)))
theorem call_setS {l : Addr} {items : Array Value} {xs : List Str} {Z : Value → Shared → Prop} (hh : A.handled = none) (hl : s.heap.IsList l items ∨ s.heap.IsTuple l items)
    (hi : StrsAre items.toList xs) (h64 : xs.length < 64)
    (h : ∀ (h' : Heap) (tk : Nat), SetS w h' s.heap.objs.size (addAll [] xs) → (∀ b o, s.heap.get? b = some o → h'.get? b = some o) → Z (.ref s.heap.objs.size) { s with heap := h', toks := tk }) :
    wpAny (model P w) A (call (.type "set") [.ref l]) Z E s := by
  obtain ⟨c, tl, hmro⟩ := PySem.F.called_set.mro
  have made := PySem.F.called_set.made
  have sub := PySem.F.called_set.sub
  refine wpAny_call (codeAny_of_tree ?_)
  show wpAny _ _ (callAny (.type "set") _) _ _ _
  refine wpAny_pure ⟨Code.quiet_builtin _ (by decide +kernel), codeAny_builtin PySem.F.entry_type_call ?_⟩
  rw [Around.under_plain (weight_type_call_type "set" [.ref l] []) rfl]
  have q1 := PySem.F.called_set.notType
  have q2 := PySem.F.called_set.canCreate
  have q3 := PySem.F.typeCall_set_1 (.ref l)
  repeat (any_goals (first | assumption | wp_step))
  refine codeAny_mono (code_new1 (.ref l) (E := E) (Z := fun v s1 => v = .ref s.heap.objs.size ∧ s1 = { s with heap := s.heap.push (newS w) }) ⟨rfl, rfl⟩) fun r s1 hr => ?_
  cases r with
  | error e => exact hr
  | ok fl =>
    cases fl with
    | ret v =>
      obtain ⟨rfl, rfl⟩ := hr
      have hS : (s.heap.push (newS w)).get? s.heap.objs.size = some (newS w) := Heap.get?_push_size _ rfl
      have hT : Shared.TypeIs { s with heap := s.heap.push (newS w) } (.ref s.heap.objs.size) "set" := ⟨_, hS, rfl⟩
      have q4 := PySem.F.called_set.init.lookup
      have q5 := PySem.F.called_set.init.bind (.ref s.heap.objs.size)
      repeat (any_goals (first | assumption | wp_step))
      refine codeAny_mono (codeAny_call_builtin (R := wants (fun r s2 => r = .none ∧ ∃ h' tk, s2 = { s with heap := h', toks := tk } ∧ SetS w h' s.heap.objs.size (addAll [] xs) ∧ ∀ b o, s.heap.get? b = some o → h'.get? b = some o) E)
        PySem.F.called_set.init.plain PySem.F.entry_set_init (check_set_init_1 hT ?_)) fun r2 s2 hr2 => ?_
      · have hsz : xs.length = items.size := by rw [← StrsAre.len_eq hi, Array.length_toList]
        have hv : ∀ (i : Nat) (v : Value), items[i]? = some v → ∃ t, v = .str (xs.getD i Str.empty) t := fun i v q => SS.strs_at hi i v (by rw [Array.getElem?_toList]; exact q)
        have e3 : A.in1.in1.in1.handled = none := by simp [hh]
        rcases hl with hl | hl <;>
        · have hl1 := hl
          obtain ⟨⟨oc, od, ot, os⟩, go, hc, nl, hd⟩ := hl
          simp only at hc hd
          subst hc; subst hd
          have hlS : l < s.heap.objs.size := Heap.lt_size go
          have go1 := Heap.get?_push_of_some (newS w) go
          have d1 := PySem.F.sub_list_set
          have d2 := PySem.F.sub_list_frozenset
          have d3 := PySem.F.sub_tuple_set
          have d4 := PySem.F.sub_tuple_frozenset
          have d5 : (Value.type "list" == Value.type "dict") = false := by decide
          have d6 : (Value.type "tuple" == Value.type "dict") = false := by decide
          have hl2 := hl1.push (newS w)
          unfold Builtin.«set.__init__» noKeywords Builtin.Frozenset.updateFrom
          generalize pin : pyIter = PI
          wp_walk
          subst pin
          have far : l ≠ (s.heap.push (newS w)).objs.size := by rw [Heap.size_push]; exact Nat.ne_of_lt (Nat.lt_succ_of_lt hlS)
          have off : s.heap.objs.size ∉ [(s.heap.push (newS w)).objs.size, l] := by
            rw [Heap.size_push]
            simp only [List.mem_cons, List.not_mem_nil, or_false, not_or]
            exact ⟨Nat.ne_of_lt (Nat.lt_succ_self _), Nat.ne_of_gt hlS⟩
          first
            | refine wpAny_pyIter_list hl2 (wpAny_bind (wpAny_runValue (sloop ((Walks.list e3 _ l far items).toS) s.heap.objs.size off xs hsz (by omega) hv (items.size - 0) 0 _ [] (by omega) (Nat.zero_le _) (Nat.zero_le _) ⟨⟨_, Heap.get?_push_size _ rfl, rfl, rfl⟩, hl2.push _⟩ ((setS_fresh w).at fun o q => Heap.get?_push_of_some _ q) fun s' mv R => ?_)))
            | refine wpAny_pyIter_tuple hl2 (wpAny_bind (wpAny_runValue (sloop ((Walks.tuple e3 _ l far items).toS) s.heap.objs.size off xs hsz (by omega) hv (items.size - 0) 0 _ [] (by omega) (Nat.zero_le _) (Nat.zero_le _) ⟨⟨_, Heap.get?_push_size _ rfl, rfl, rfl⟩, hl2.push _⟩ ((setS_fresh w).at fun o q => Heap.get?_push_of_some _ q) fun s' mv R => ?_)))
          obtain ⟨h', g', d', tk', os'⟩ := s'
          obtain rfl : g' = s.gens := mv.gens
          obtain rfl : d' = s.drawn := mv.drawn
          obtain rfl : os' = s.os := mv.os
          show wpAny _ _ _ _ _ _
          refine wpAny_pure ?_
          show wpAny _ _ (ret Value.none) _ _ _
          refine wpAny_pure ⟨rfl, h', tk', rfl, R, fun b o e => ?_⟩
          have hb := Heap.lt_size e
          refine mv.heap b o ?_ (Heap.get?_push_of_some _ (Heap.get?_push_of_some _ e))
          rw [Heap.size_push]
          simp only [List.mem_cons, List.not_mem_nil, or_false, not_or]
          exact ⟨Nat.ne_of_lt hb, Nat.ne_of_lt (Nat.lt_succ_of_lt hb)⟩
      · cases r2 with
        | error e => exact hr2
        | ok f2 =>
          cases f2 with
          | ret r =>
            obtain ⟨rfl, h', tk, rfl, R, kk⟩ := hr2
            repeat (any_goals (first | assumption | wp_step))
            exact h _ _ R kk
          | _ => exact hr2.elim
    | _ => exact hr.elim
end
end AW
set_option maxRecDepth 100000
set_option maxHeartbeats 4000000
namespace AW
open PySem PySem.Spec PyProof.Rows L2
theorem mem_addS {x y : Str} {ys : List Str} : y ∈ addS x ys ↔ y = x ∨ y ∈ ys := by
  unfold addS
  split
  · rename_i q
    exact ⟨.inr, fun z => z.elim (fun e => e ▸ q) id⟩
  · exact List.mem_cons
theorem mem_addAll {y : Str} : ∀ {xs ys : List Str}, y ∈ addAll ys xs ↔ y ∈ ys ∨ y ∈ xs
  | [], ys => by simp [addAll]
  | x :: xs, ys => by
    show y ∈ addAll (addS x ys) xs ↔ _
    rw [mem_addAll, mem_addS, List.mem_cons]
    exact ⟨fun z => z.elim (fun z => z.elim (fun e => .inr (.inl e)) .inl) fun e => .inr (.inr e), fun z => z.elim (fun e => .inl (.inr e)) fun z => z.elim (fun e => .inl (.inl e)) .inr⟩
theorem nd_addAll : ∀ {xs ys : List Str}, ys.Nodup → (addAll ys xs).Nodup
  | [], _, h => h
  | x :: xs, ys, h => nd_addAll (xs := xs) (ys := addS x ys) (by
    unfold addS
    split
    · exact h
    · rename_i q; exact List.nodup_cons.mpr ⟨q, h⟩)
theorem mem_dedupS {y : Str} : ∀ {xs : List Str}, y ∈ dedupS xs ↔ y ∈ xs
  | [] => by simp [dedupS]
  | x :: xs => by
    unfold dedupS
    split
    · rename_i q
      rw [mem_dedupS, List.mem_cons]
      exact ⟨.inr, fun z => z.elim (fun e => e ▸ q) id⟩
    · rw [List.mem_cons, List.mem_cons, mem_dedupS]
theorem nd_dedupS : ∀ xs : List Str, (dedupS xs).Nodup
  | [] => by simp [dedupS]
  | x :: xs => by
    unfold dedupS
    split
    · exact nd_dedupS xs
    · rename_i q
      exact List.nodup_cons.mpr ⟨fun z => q (mem_dedupS.mp z), nd_dedupS xs⟩
theorem dedupS_len : ∀ xs : List Str, (dedupS xs).length ≤ xs.length
  | [] => Nat.le_refl _
  | x :: xs => by
    unfold dedupS
    split
    · exact Nat.le_trans (dedupS_len xs) (Nat.le_succ _)
    · exact Nat.succ_le_succ (dedupS_len xs)
theorem addAll_dedup (xs : List Str) : (addAll [] xs).Perm (dedupS xs) := (List.perm_ext_iff_of_nodup (nd_addAll List.nodup_nil) (nd_dedupS xs)).mpr fun y => by
  rw [mem_addAll, mem_dedupS]; simp
theorem leS_iff {a b : Str} : leS a b = true ↔ a.cps.toList ≤ b.cps.toList := by
  unfold leS
  rw [Bool.not_eq_true', decide_eq_false_iff_not]
  exact List.not_lt
theorem leS_trans (a b c : Str) (h1 : leS a b = true) (h2 : leS b c = true) : leS a c = true := leS_iff.mpr (List.le_trans (leS_iff.mp h1) (leS_iff.mp h2))
theorem leS_anti {a b : Str} (h1 : leS a b = true) (h2 : leS b a = true) : a = b := by
  have e := List.le_antisymm (leS_iff.mp h1) (leS_iff.mp h2)
  cases a; cases b
  simp only [Str.mk.injEq]
  exact Array.toList_inj.mp e
theorem leS_total (a b : Str) : (leS a b || leS b a) = true := by
  rw [Bool.or_eq_true, leS_iff, leS_iff]
  exact List.le_total _ _
theorem insS_perm (x : Str) : ∀ ys : List Str, (insS x ys).Perm (x :: ys)
  | [] => .rfl
  | y :: ys => by
    unfold insS
    split
    · exact .rfl
    · exact ((insS_perm x ys).cons y).trans (.swap x y ys)
theorem sort_perm : ∀ xs : List Str, (sortS xs).Perm xs
  | [] => .rfl
  | x :: xs => (insS_perm x _).trans ((sort_perm xs).cons x)
theorem sortS_len (xs : List Str) : (sortS xs).length = xs.length := (sort_perm xs).length_eq
theorem insS_pw (x : Str) : ∀ ys : List Str, (ys.Pairwise fun a b => leS a b = true) → (insS x ys).Pairwise fun a b => leS a b = true
  | [], _ => by simp [insS]
  | y :: ys, h => by
    obtain ⟨h1, h2⟩ := List.pairwise_cons.mp h
    unfold insS
    split
    · rename_i q
      refine List.pairwise_cons.mpr ⟨fun z hz => ?_, h⟩
      rcases List.mem_cons.mp hz with e | e
      · rw [e]; exact q
      · exact leS_trans _ _ _ q (h1 z e)
    · rename_i q
      have t := leS_total x y
      rw [Bool.or_eq_true] at t
      refine List.pairwise_cons.mpr ⟨fun z hz => ?_, insS_pw x ys h2⟩
      rcases List.mem_cons.mp ((insS_perm x ys).mem_iff.mp hz) with e | e
      · rw [e]; exact t.resolve_left q
      · exact h1 z e
theorem sort_pw : ∀ xs : List Str, (sortS xs).Pairwise fun a b => leS a b = true
  | [] => .nil
  | x :: xs => insS_pw x _ (sort_pw xs)
theorem risingS_pw : ∀ (l : List Str) (p : Str), risingS p l = true → (p :: l).Pairwise fun a b => leS a b = true
  | [], p, _ => by simp
  | x :: l, p, h => by
    have h : (!ltCps x.cps.toList p.cps.toList && risingS x l) = true := h
    rw [Bool.and_eq_true] at h
    have r := risingS_pw l x h.2
    have px : leS p x = true := by unfold leS; rw [← ltCps_eq]; exact h.1
    refine List.pairwise_cons.mpr ⟨fun y hy => ?_, r⟩
    rcases List.mem_cons.mp hy with e | e
    · rw [e]; exact px
    · exact leS_trans _ _ _ px ((List.pairwise_cons.mp r).1 y e)
theorem sortedS_pw : ∀ (l : List Str), sortedS l = true → l.Pairwise fun a b => leS a b = true
  | [], _ => .nil
  | x :: l, h => risingS_pw l x h
theorem sortS_eq {xs ys : List Str} (h : ys.Perm xs) (hs : sortedS ys = true) : ys = sortS xs :=
  List.Perm.eq_of_pairwise (le := fun a b => leS a b = true) (fun _ _ _ _ => leS_anti) (sortedS_pw ys hs) (sort_pw xs) (h.trans (sort_perm xs).symm)
theorem sortS_perm {xs ys : List Str} (h : xs.Perm ys) : sortS xs = sortS ys :=
  List.Perm.eq_of_pairwise (le := fun a b => leS a b = true) (fun _ _ _ _ => leS_anti) (sort_pw xs) (sort_pw ys) ((sort_perm xs).trans (h.trans (sort_perm ys).symm))
section
variable {X : Cx}
theorem seq_strs {pins : List (Addr × Obj)} {s : Shared} {σ : L2.St} {φ : Nat → Addr} {F H : Hp} {m : Store} {x : V} {u : Value} {dx : D} {ds : List D} {xs : List Str} (I : Inv X pins σ H s) (R : RelS X.K φ F m H) (px : PV X.K F H x dx) (hd : dx = .lst ds ∨ dx = .tup ds) (hs : strsD ds = some xs)
    (rx : RelV x u) : ∃ l items, u = .ref l ∧ (s.heap.IsList l items ∨ s.heap.IsTuple l items) ∧ StrsAre items.toList xs := by
  rcases hd with rfl | rfl
  · obtain ⟨q, vs, rfl, h1, r1⟩ := px.lst R.sub
    obtain rfl := r1.strs hs
    obtain ⟨its, rv, pl, _⟩ := I.list h1
    cases rx
    exact ⟨_, _, rfl, .inl pl.isList, by simpa using rv.strs⟩
  · obtain ⟨q, vs, rfl, h1, r1⟩ := px.tup
    obtain rfl := r1.strs hs
    obtain ⟨its, rv, pl, _⟩ := I.tuple (R.sub.t h1)
    cases rx
    exact ⟨_, _, rfl, .inr pl, by simpa using rv.strs⟩
theorem lenset_seq {dx z : D} (e : b1D .lenset dx = some z) : ∃ ds xs, (dx = .lst ds ∨ dx = .tup ds) ∧ strsD ds = some xs ∧ xs.length < 64 ∧ z = .int ((dedupS xs).length : Int) := by
  cases dx <;> simp only [b1D] at e <;> try (cases e; done)
  all_goals
    rename_i ds
    cases es : strsD ds with
    | none => rw [es] at e; cases e
    | some xs =>
      rw [es] at e
      simp only [Option.bind_some] at e
      split at e
      · rename_i c; cases e
        first | exact ⟨ds, xs, .inr rfl, es, c, rfl⟩ | exact ⟨ds, xs, .inl rfl, es, c, rfl⟩
      · cases e
theorem sset_seq {dx : D} {zs : List D} (e : lbD .sset dx = some zs) : ∃ ds xs, (dx = .lst ds ∨ dx = .tup ds) ∧ strsD ds = some xs ∧ xs.length < 64 ∧ zs = (sortS (dedupS xs)).map .str := by
  cases dx <;> simp only [lbD] at e <;> try (cases e; done)
  all_goals
    rename_i ds
    unfold ssetD at e
    cases es : strsD ds with
    | none => rw [es] at e; cases e
    | some xs =>
      rw [es] at e
      simp only [Option.bind_some] at e
      split at e
      · rename_i c; cases e
        first | exact ⟨ds, xs, .inr rfl, es, c, rfl⟩ | exact ⟨ds, xs, .inl rfl, es, c, rfl⟩
      · cases e
theorem p_lenset {a : Expr} {oa : Ex} {p p2 q pos : Pos} (hc : X.calm = true) (hg : Gl X "len") (hm : X.mg "len" = none) (hg2 : Gl X "set") (hm2 : X.mg "set" = none) (na : nos a = true) (ha : PE X a (rdE X.K Wn oa)) :
    PE X (.Call (.Name "len" p) [.Call (.Name "set" p2) [a] [] q] [] pos) (rdE X.K Wn (ev1 (b1D .lenset) oa)) := by
  refine ⟨fun pins s σ H Q I h => ?_⟩
  have h := rd_c1 h
  refine Call_ (ld_blt I hg hm boot_len (callWith_builtin1 (args_cons ?_ rfl) rfl rfl))
  refine Call_ (ld_blt I hg2 hm2 boot_set ?_)
  refine callWith_type1 (args_cons (thn (ha.run pins s σ H _ I h) fun v s1 ⟨x, H1, I1, r1, q1⟩ => args_nil ?_) (star_nos na)) (star_nos na) rfl
  obtain ⟨x', φ, F, m, dx, z, ex, R, px, e, fin⟩ := q1
  cases ex
  obtain ⟨ds, xs, hd, hs, h64, rfl⟩ := lenset_seq e
  obtain ⟨l, items, rfl, hl, hi⟩ := seq_strs I1 R px hd hs r1
  refine call_setS (I1.ok.hd hc) hl hi h64 fun h' tk S kk => args_nil ?_
  obtain ⟨o, es, ep, t, go, gx, gd, T⟩ := S
  have I2 : Inv X pins σ H1 { s1 with heap := h', toks := tk } := I1.kept fun b o e => kk b o e
  have hn : es.size = (dedupS xs).length := by rw [T.size, (addAll_dedup xs).length_eq]
  have hb := T.few
  refine call_len_set go gx gd T.fit (by unfold scanBound at hb; omega) ⟨.int (dedupS xs).length, H1, I2.tok _, ⟨_, by rw [hn]⟩, fin.at R (.int _)⟩
theorem sorted_setS {s : Shared} {A : Around} {E : Value → Shared → Prop} {P : Program} {w : World} {a : Addr} {ys : List Str} {Z : Value → Shared → Prop} (R : SetS w s.heap a ys) (hh : A.handled = none) (h64 : ys.length < 64)
    (fin : ∀ s' p (out : Array Value) (c : Nat), (∀ b o, s.heap.get? b = some o → s'.heap.get? b = some o) → s'.gens = s.gens → s'.os = s.os → s.heap.objs.size ≤ p →
      s'.heap.get? p = some (seqObj "list" out c) → StrsAre out.toList (sortS ys) → Z (.ref p) s') : wpAny (model P w) A (call (.builtin "sorted") [.ref a]) Z E s := by
  obtain ⟨o, es, ep, t, go, gx, gd, T⟩ := R
  refine Calls.call_function_entry kind_sorted plain_sorted entry_sorted (args_sorted1 _) ?_
  unfold Builtin.«sorted»
  refine wpAny_bind (m := checkCount "sorted" 1 1 _) (wpAny_pure (wpAny_bind (collect_set (A := A.in1) hh ⟨o, go, gx.1, gd⟩ T.fit T.few T.ris T.led fun s1 vs k1 hz g1 o1 pm => ?_)))
  have hv : vs.length = ys.length := by rw [pm.length_eq, List.length_map, Array.length_toList, T.size]
  have hS : StrsAre vs (vs.map strOf) := strsAre_map vs fun v hv => by
    obtain ⟨e, he, q⟩ := List.mem_map.mp (pm.mem_iff.mp hv)
    obtain ⟨x, k, h1, _⟩ := T.good e he
    exact ⟨x, k, by rw [← q]; exact h1⟩
  have pk : (vs.map strOf).Perm ys := by
    have q := pm.map strOf
    rw [List.map_map] at q
    have e : es.toList.map (strOf ∘ fun x => x.2) = es.toList.map keyS := List.map_congr_left fun e he => by
      obtain ⟨x, k, h1, _⟩ := T.good e he
      unfold keyS
      simp only [Function.comp]
      rw [h1]; rfl
    rw [e] at q
    exact q.trans T.pm
  refine wpAny_bind (wpAny_newList ?_ (by rw [hv, sizeLine_eq]; omega))
  have gL : (s1.heap.push (seqObj "list" vs.toArray 0)).get? s1.heap.objs.size = some (seqObj "list" vs.toArray 0) := Heap.get?_push_size _ rfl
  refine wpAny_bind (wpAny_holding (wpAny_call_entry slot_list_sort ⟨_, gL, rfl⟩ entry_list_sort (list_sort_treeK strKind_oneLt gL hS.keysOf (fun v1 v2 rest e => keyKind_strs (by rw [← e]; exact hS)) (by omega) fun st a1 a2 => ⟨_, rfl, ?_⟩) (args_list_sort _)))
  obtain ⟨zs, z1, z2, z3⟩ := sorted_out_str hS a1 a2
  obtain ⟨c, hc⟩ := sortedHeap_at (vs := vs) (out := (arrOf st).map (·.2)) gL
  refine wpAny_pure ⟨_, rfl, fin _ s1.heap.objs.size _ c (fun b u e => ?_) g1 o1 hz hc (by rw [← sortS_eq (z2.trans pk) z3]; exact z1)⟩
  have hlt := Heap.lt_size (k1 b u e)
  show (sortedHeap (s1.heap.push (seqObj "list" vs.toArray 0)) s1.heap.objs.size vs _).get? b = some u
  rw [sortedHeap_old (Nat.ne_of_lt hlt) (by rw [size_push']; exact Nat.lt_succ_of_lt hlt)]
  exact Heap.get?_push_of_some _ (k1 b u e)
theorem p_sset {a : Expr} {oa : Ex} {p p2 q pos : Pos} (hc : X.calm = true) (hg : Gl X "sorted") (hm : X.mg "sorted" = none) (hg2 : Gl X "set") (hm2 : X.mg "set" = none) (na : nos a = true) (ha : PE X a (rdE X.K Wn oa)) :
    PE X (.Call (.Name "sorted" p) [.Call (.Name "set" p2) [a] [] q] [] pos) (rdL X.K Wn (evLb .sset oa)) := by
  refine ⟨fun pins s σ H Q I h => ?_⟩
  have h := rd_rLb h
  refine Call_ (ld_blt I hg hm boot_sorted (callWith_builtin1 (args_cons ?_ rfl) rfl rfl))
  refine Call_ (ld_blt I hg2 hm2 boot_set ?_)
  refine callWith_type1 (args_cons (thn (ha.run pins s σ H _ I h) fun v s1 ⟨x, H1, I1, r1, q1⟩ => args_nil ?_) (star_nos na)) (star_nos na) rfl
  obtain ⟨x', φ, F, m, dx, z, ex, R, px, e, fin⟩ := q1
  cases ex
  obtain ⟨ds, xs, hd, hs, h64, rfl⟩ := sset_seq e
  obtain ⟨l, items, rfl, hl, hi⟩ := seq_strs I1 R px hd hs r1
  refine call_setS (I1.ok.hd hc) hl hi h64 fun h' tk S kk => args_nil ?_
  have I2 : Inv X pins σ H1 { s1 with heap := h', toks := tk } := I1.kept fun b o e => kk b o e
  have few := dedupS_len xs
  have hn := (addAll_dedup xs).length_eq
  refine sorted_setS S (I1.ok.hd hc) (by omega) fun s2 b out c k g o hp hb hi => ?_
  rw [sortS_perm (addAll_dedup xs)] at hi
  have hlen : ((sortS (dedupS xs)).map V.str).length ≤ sizeLine := by
    rw [List.length_map, sortS_len, sizeLine_eq]
    omega
  have hf : H1 b = none := I2.hok.fresh hp
  have J : Inv X pins σ (upd H1 b (.lst ((sortS (dedupS xs)).map V.str))) { { s1 with heap := h', toks := tk } with heap := s2.heap, gens := s2.gens, drawn := s2.drawn, toks := s2.toks } :=
    I2.call (ch := []) (Un.laid k hp hf) (I2.hok.laid k hp ⟨hlen, out.toList, c, vals_of_strs hi, hb⟩) (by rw [g]; exact I2.bare) (fun _ z => nomatch z)
  have es : s2 = { { s1 with heap := h', toks := tk } with heap := s2.heap, gens := s2.gens, drawn := s2.drawn, toks := s2.toks } := by
    cases s2; cases s1; cases o; rfl
  rw [es]
  exact ⟨.ref b, _, J, rfl, fin φ F H1 _ b (Stp.refl R) (Reps.ofStrs _) hf⟩
theorem c_sorted (hc : X.calm = true) : CallR X (.builtin "sorted") (rLb X.K (lbD .sorted)) := by
  intro pins s σ H xs us Q I r h
  obtain ⟨x, φ, F, m, dx, zs, rfl, R, px, e, fin⟩ := h
  cases dx <;> simp only [lbD] at e <;> try (cases e; done)
  rename_i ds
  cases es : strsD ds with
  | none => rw [es] at e; cases e
  | some xs =>
    rw [es] at e
    simp only [Option.bind_some] at e
    split at e
    · rename_i c; cases e
      obtain ⟨q, vs, rfl, h1, r1⟩ := px.lst R.sub
      obtain rfl := r1.strs es
      refine cr_sortedS pins s σ H _ us Q I r ⟨q, xs, rfl, h1, c, fun ys p hp hs hn => ?_⟩
      rw [sortS_eq hp hs]
      exact fin φ F H _ p (Stp.refl R) (Reps.ofStrs _) hn
    · cases e
end
theorem prims : Prims where
  repr := fun X h1 h2 h3 => c_repr h1 h2 h3
  lenset := fun X a oa p p2 q pos h1 h2 h3 h4 h5 h6 h7 => p_lenset h1 h2 h3 h4 h5 h6 h7
  list := fun X h => c_list h
  dict := fun X h => c_dict h
  sset := fun X a oa p p2 q pos h1 _ h2 h3 h4 h5 h6 h7 => p_sset h1 h2 h3 h4 h5 h6 h7
  sorted := fun X h1 _ => c_sorted h1
end AW
set_option maxRecDepth 100000
set_option maxHeartbeats 4000000
namespace AW
open PySem L2
def swapB (sc : Scope) (x : Str) (px : Pos) : Expr → Bool
  | .ListComp _ _ scope p => decide (sc.names.lookup x = some .local) && ((px.line == p.line) && !(scope.names.any fun (n, k) => n == x && (k == .local || k == .cell)))
  | _ => false
def notSD : Expr → Bool
  | .SetComp _ _ _ _ => false
  | .DictComp _ _ _ _ _ => false
  | _ => true
theorem swapB_ok {env : PySem.Env} {x : Str} {px : Pos} {v : Expr} {l : Nat} (hk : env.scope.kind = .function) (hn : notSD v = true) : swapsWith v (some (.Name x px)) l env = pure (swapB env.scope x px v) := by
  cases v <;> first | rfl | (cases hn; done) | skip
  rename_i elt gs scope p
  have hb : env.blockKind = .function := by unfold Env.blockKind; rw [hk]; rfl
  unfold swapsWith swapB
  simp only [hb, Expr.pos]
  have e1 : (env.kindOf x == some NameKind.local) = decide (List.lookup x env.scope.names = some .local) := by
    show (List.lookup x env.scope.names == some NameKind.local) = _
    by_cases h : List.lookup x env.scope.names = some .local
    · rw [h]; rfl
    · rw [decide_eq_false h]; exact beq_eq_false_iff_ne.mpr h
  rw [e1]
  cases decide (List.lookup x env.scope.names = some .local) <;> simp <;> rfl
def swap2B (sc : Scope) (x y : Str) (px py : Pos) (a b : Expr) : Bool := decide (sc.names.lookup x = some .local) && (decide (sc.names.lookup y = some .local) && (decide (x ≠ y) && ((py.line == px.line) && (nos a && (nos b && (!([a, b].all (foldedForSure 8)) && !([a, b].all (constantsAlone 8))))))))
theorem swap2_ok {env : PySem.Env} {x y : Str} {px py pt pt2 : Pos} {k1 k2 : Nat} {a b : Expr} (hk : env.scope.kind = .function) (h : swap2B env.scope x y px py a b = true) : swappedStores [.Tuple [.Name x px, .Name y py] k1 pt] (.Tuple [a, b] k2 pt2) env = pure (some [x, y]) := by
  unfold swap2B at h
  simp only [Bool.and_eq_true, Bool.not_eq_true', decide_eq_true_eq] at h
  obtain ⟨h1, h2, h3, h4, h5, h6, h7, h8⟩ := h
  have hb : env.blockKind = .function := by unfold Env.blockKind; rw [hk]; rfl
  have k1' : (env.kindOf x == some NameKind.local) = true := by show (List.lookup x env.scope.names == _) = true; rw [h1]; rfl
  have k2' : (env.kindOf y == some NameKind.local) = true := by show (List.lookup y env.scope.names == _) = true; rw [h2]; rfl
  have hst : ([a, b].any fun | .Starred .. => true | _ => false) = false := by
    cases a <;> first | (cases h5; done) | (cases b <;> first | rfl | (cases h6; done))
  unfold swappedStores
  simp only [hb]
  simp only [List.length_cons, List.length_nil, hst, h7, h8, List.head?_cons, Option.map_some, Option.getD_some, Expr.pos, List.filterMap_cons, List.filterMap_nil, k1', k2', h4, beq_self_eq_true, Bool.and_self, if_true]
  have hd : [x, y].eraseDups.length = 2 := by
    have : (y == x) = false := beq_eq_false_iff_ne.mpr (fun q => h3 q.symm)
    simp [List.eraseDups, List.eraseDupsBy, List.eraseDupsBy.loop, this]
  simp [hd]
  intro hor
  rcases hor with q | q
  · cases a <;> first | (cases q; done) | (cases h5; done)
  · cases b <;> first | (cases q; done) | (cases h6; done)
def nonLoc2 (sc : Scope) (x y : Str) : Bool := !decide (sc.names.lookup x = some .local) || !decide (sc.names.lookup y = some .local)
theorem swap2_none {env : PySem.Env} {x y : Str} {px py pt pt2 : Pos} {k1 k2 : Nat} {vs : List Expr} (h : nonLoc2 env.scope x y = true) : swappedStores [.Tuple [.Name x px, .Name y py] k1 pt] (.Tuple vs k2 pt2) env = pure none := by
  unfold nonLoc2 at h
  simp only [Bool.or_eq_true, Bool.not_eq_true', decide_eq_false_iff_not] at h
  have kk : ∀ z : Str, ¬ List.lookup z env.scope.names = some .local → (env.kindOf z == some NameKind.local) = false := fun z hz => by
    show (List.lookup z env.scope.names == _) = false
    exact beq_eq_false_iff_ne.mpr hz
  have short : ∀ L : Nat, (List.filterMap (fun e => match e with
      | Expr.Name id pos => if (env.kindOf id == some NameKind.local && pos.line == L) = true then some id else none
      | _ => none) [Expr.Name x px, Expr.Name y py]).length ≠ 2 := by
    intro L
    rcases h with h | h
    · simp only [List.filterMap_cons, List.filterMap_nil, kk x h, Bool.false_and]
      cases (env.kindOf y == some NameKind.local && py.line == L) <;> simp
    · simp only [List.filterMap_cons, List.filterMap_nil, kk y h, Bool.false_and]
      cases (env.kindOf x == some NameKind.local && px.line == L) <;> simp
  unfold swappedStores
  have hs := short (([Expr.Name x px, Expr.Name y py].head?.map (·.pos.line)).getD 0)
  generalize hn : (List.filterMap (fun e => match e with
      | Expr.Name id pos => if (env.kindOf id == some NameKind.local && pos.line == (([Expr.Name x px, Expr.Name y py].head?.map (·.pos.line)).getD 0)) = true then some id else none
      | _ => none) [Expr.Name x px, Expr.Name y py]) = names at hs
  have hl : (names.length != 2) = true := bne_iff_ne.mpr hs
  simp only [List.length_cons, List.length_nil]
  split
  · rfl
  · split
    · rfl
    · show (if (_ != 2 || _) = true then _ else _) = _
      have e : ∀ {c : Bool} {A B : Sem (Option (List Str))}, (if ((names.length != 2) || c) = true then A else B) = A := fun {c A B} => by rw [hl]; rfl
      first
      | exact e
      | (rw [← hn] at e; exact e)
      | (subst hn; exact e)
end AW
set_option maxRecDepth 100000
set_option maxHeartbeats 4000000
namespace AW
open PySem L2
section
variable (N : List Str) (T : Tab)
def isLc : E → Bool
  | .lm _ (.lc _ _ _ _) => true
  | _ => false
def parOk (sc : Scope) (is : List Nat) (ts vs : List Expr) : Bool := match is, ts with
  | [i, j], [.Name x px, .Name y py] => (match vs with
    | [a, b] => nonLoc2 sc x y || (swap2B sc x y px py a b && (decide (N[i]? = some x) && (decide (N[j]? = some y) && decide (i ≠ j))))
    | _ => nonLoc2 sc x y)
  | _, _ => false
mutual
def chkS : S → Scope → Stmt → Bool
  | .asg i e, sc, st => (match st with
    | .Assign [.Name x px] v _ => decide (N[i]? = some x) && (isLoc sc x && (notSD v && ((!swapB sc x px v || isLc e) && chkE N T e sc v)))
    | _ => false)
  | .par is es, sc, st => (match st with
    | .Assign [.Tuple ts kk pp] (.Tuple vs _ _) _ => parOk N sc is ts vs && (tgOk N sc (.tup is) (.Tuple ts kk pp) && chkEs N T es sc vs)
    | _ => false)
  | .unp is e, sc, st => (match st with
    | .Assign [.Tuple ts kk pp] v _ => tgOk N sc (.tup is) (.Tuple ts kk pp) && (notTup v && (notLc v && chkE N T e sc v))
    | _ => false)
  | .setIx a i e, sc, st => (match st with
    | .Assign [.Subscript o x _] v _ => notSlice x && (notLc v && (chkE N T a sc o && (chkE N T i sc x && chkE N T e sc v)))
    | _ => false)
  | .aug i op e, sc, st => (match st with
    | .AugAssign (.Name x _) o v _ => decide (op = o) && (decide (N[i]? = some x) && (isLoc sc x && chkE N T e sc v))
    | _ => false)
  | .ife c t f, sc, st => (match st with
    | .If x a b _ => okT c && (chkE N T c sc x && (chkSs t sc a && chkSs f sc b))
    | _ => false)
  | .forr it tg b, sc, st => (match st with
    | .For t i body [] _ => notSet i && (tgOk N sc tg t && (chkIt N T it sc t i && chkSs b sc body))
    | _ => false)
  | .whil c b, sc, st => (match st with
    | .While x body [] _ => okT c && (chkE N T c sc x && chkSs b sc body)
    | _ => false)
  | .ret e, sc, st => (match st with
    | .Return (some v) _ => chkE N T e sc v
    | _ => false)
  | .retN, _, st => (match st with
    | .Return none _ => true
    | _ => false)
  | .expr e, sc, st => (match st with
    | .Expr v _ => notLc v && chkE N T e sc v
    | _ => false)
  | .pass, _, st => (match st with
    | .Pass _ => true
    | _ => false)
  | .brk, _, st => (match st with
    | .Break _ => true
    | _ => false)
  | .cont, _, st => (match st with
    | .Continue _ => true
    | _ => false)
  | .never, _, _ => true
def chkSs : Ss → Scope → List Stmt → Bool
  | .nil, _, [] => true
  | .cons s ss, sc, x :: xs => chkS s sc x && chkSs ss sc xs
  | .frz _ ss, sc, xs => chkSs ss sc xs
  | _, _, _ => false
end
end
section
variable {T : Tab} {Φ : Fns} {k : Nat} {N : List Str} (P : Prims) {fuel : Nat}
theorem sub_assign {X : Cx} {o x : Expr} {p : Pos} (h : notSlice x = true) : ∀ v, assign (.Subscript o x p) X.env v = (do
      let ov ← holding [v] (eval o X.env)
      let iv ← holding [v, ov] (eval x X.env)
      standAt p
      holding [v, ov, iv] (setItem ov iv v)
      release [v, ov, iv] []) := by
  intro v
  cases x <;> first | rfl | cases h
include P
mutual
theorem sndS : ∀ (s : S) (X : Cx) (sc : Scope) (st : Stmt), Cc T Φ k N X sc → (∀ x, X.fn x = true) → PassesOwn (model X.prog X.w) X.A X.env X.xe → chkS N T s sc st = true → PS X st (rdS X.K Wn (execS T.gvals Φ fuel s))
  | .asg i e, X, sc, st, C, hf, hp, h => by
    simp only [chkS] at h
    split at h
    · rename_i x px v pos
      simp only [Bool.and_eq_true] at h
      obtain ⟨h1, h2, h3, h4, h5⟩ := h
      have hN : X.N.Nodup := by rw [C.hN]; exact C.nd
      have hi : X.N[i]? = some x := by rw [C.hN]; exact dec h1
      have hk : X.env.scope.kind = .function := by rw [C.hsc]; exact C.kind
      have hsw := swapB_ok (px := px) (x := x) (l := pos.line) hk h3
      rw [C.hsc] at hsw
      cases hb : swapB sc x px v with
      | false =>
        rw [hb] at hsw
        exact sns_asg hN hi (C.loc h2) (.inl (hf x)) hsw (sndE P e X sc v C h5).1
      | true =>
        rw [hb] at hsw h4
        have h4 : isLc e = true := by simpa using h4
        unfold isLc at h4
        split at h4
        · rename_i mt it tg c e' _
          simp only [chkE, chkL] at h5
          split at h5
          · rename_i x' t i' ifs scope p
            simp only [Bool.and_eq_true] at h5
            obtain ⟨g0, g1, g2, g3, g4, g5⟩ := h5
            unfold swapB at hb
            simp only [Bool.and_eq_true] at hb
            refine sns_asgLc C.calm hN hi (by rw [C.hsc]; exact dec hb.1) hsw (sndIt P it X sc t i' C g3) (by rw [C.hN, C.hsc]; exact blkOk_by g1) (own_slots tg) ?_ ?_ ?_ (notSet_ok g0)
            · exact fun s H Ca cl fp => tg_blk (C.blk g1 s H Ca cl fp) g2
            · exact fun s H Ca cl fp => sndC P c _ _ ifs (C.blk g1 s H Ca cl fp) g4
            · exact fun s H Ca cl fp => (sndE P e' _ _ x' (C.blk g1 s H Ca cl fp) g5).1
          · cases h5
        · cases h4
    · cases h
  | .par is es, X, sc, st, C, hf, hp, h => by
    simp only [chkS] at h
    split at h
    · rename_i ts k1 px vs k2 py pos
      simp only [Bool.and_eq_true] at h
      obtain ⟨h1, h2, h3⟩ := h
      have hg := tg_ok C hf h2
      have ha := sndEs P es X sc vs C h3
      have hk : X.env.scope.kind = .function := by rw [C.hsc]; exact C.kind
      unfold parOk at h1
      split at h1
      · rename_i i j x px' y py'
        split at h1
        · rename_i a b
          simp only [Bool.or_eq_true, Bool.and_eq_true] at h1
          rcases h1 with h1 | ⟨h1, h4, h5, h6⟩
          · exact sns_par (by simp) hg ha (swap2_none (by rw [C.hsc]; exact h1))
          · have h1' := h1
            unfold swap2B at h1'
            simp only [Bool.and_eq_true] at h1'
            exact sns_par2 C.calm (by rw [C.hN]; exact C.nd) (by rw [C.hN]; exact dec h4) (by rw [C.hN]; exact dec h5) (dec h6) (by rw [C.hsc]; exact dec h1'.1) (by rw [C.hsc]; exact dec h1'.2.1) ha (swap2_ok hk (by rw [C.hsc]; exact h1))
        · exact sns_par (by simp) hg ha (swap2_none (by rw [C.hsc]; exact h1))
      · cases h1
    · cases h
  | .unp is e, X, sc, st, C, hf, hp, h => by
    simp only [chkS] at h
    split at h
    · rename_i ts k1 px v pos
      simp only [Bool.and_eq_true] at h
      obtain ⟨h1, h2, h3, h4⟩ := h
      exact sns_unp (tg_ok C hf h1) (sndE P e X sc v C h4).1 h2 h3
    · cases h
  | .setIx a i e, X, sc, st, C, hf, hp, h => by
    simp only [chkS] at h
    split at h
    · simp only [Bool.and_eq_true] at h
      obtain ⟨h1, h2, h3, h4, h5⟩ := h
      exact sns_setIx (sndE P a X sc _ C h3).1 (sndE P i X sc _ C h4).1 (sndE P e X sc _ C h5).1 h2 (sub_assign h1) rfl rfl
    · cases h
  | .aug i op e, X, sc, st, C, hf, hp, h => by
    simp only [chkS] at h
    split at h
    · simp only [Bool.and_eq_true] at h
      obtain ⟨h1, h2, h3, h4⟩ := h
      have e1 := dec h1
      subst e1
      exact sns_aug (by rw [C.hN]; exact C.nd) (by rw [C.hN]; exact dec h2) (C.loc h3) (.inl (hf _)) (sndE P e X sc _ C h4).1
    · cases h
  | .ife c t f, X, sc, st, C, hf, hp, h => by
    simp only [chkS] at h
    split at h
    · simp only [Bool.and_eq_true] at h
      obtain ⟨h1, h2, h3, h4⟩ := h
      exact sns_if ((sndE P c X sc _ C h2).2 h1) (sndSs t X sc _ C hf hp h3) (sndSs f X sc _ C hf hp h4)
    · cases h
  | .forr it tg b, X, sc, st, C, hf, hp, h => by
    simp only [chkS] at h
    split at h
    · simp only [Bool.and_eq_true] at h
      obtain ⟨h1, h2, h3, h4⟩ := h
      exact sns_for hp C.calm (sndIt P it X sc _ _ C h3) (tg_ok C hf h2) (sndSs b X sc _ C hf hp h4) (notSet_ok h1)
    · cases h
  | .whil c b, X, sc, st, C, hf, hp, h => by
    simp only [chkS] at h
    split at h
    · simp only [Bool.and_eq_true] at h
      obtain ⟨h1, h2, h3⟩ := h
      exact sns_while hp ((sndE P c X sc _ C h2).2 h1) (sndSs b X sc _ C hf hp h3)
    · cases h
  | .ret e, X, sc, st, C, hf, hp, h => by
    simp only [chkS] at h
    split at h
    · exact sns_ret (sndE P e X sc _ C h).1
    · cases h
  | .retN, X, sc, st, C, hf, hp, h => by
    simp only [chkS] at h
    split at h
    · refine PSmono ps_retN fun Dn σ H h => ?_
      obtain ⟨φ, F, ρ, m, R, E, L, h⟩ := h
      exact h φ F H .non (Stp.refl R) Rep.non
    · cases h
  | .expr e, X, sc, st, C, hf, hp, h => by
    simp only [chkS] at h
    split at h
    · simp only [Bool.and_eq_true] at h
      exact sns_expr h.1 (sndE P e X sc _ C h.2).1
    · cases h
  | .pass, X, sc, st, C, hf, hp, h => by
    simp only [chkS] at h
    split at h
    · exact sns_pass
    · cases h
  | .brk, X, sc, st, C, hf, hp, h => by
    simp only [chkS] at h
    split at h
    · exact sns_brk
    · cases h
  | .cont, X, sc, st, C, hf, hp, h => by
    simp only [chkS] at h
    split at h
    · exact sns_cont
    · cases h
  | .never, X, sc, st, C, hf, hp, h => sns_never
theorem sndSs : ∀ (s : Ss) (X : Cx) (sc : Scope) (st : List Stmt), Cc T Φ k N X sc → (∀ x, X.fn x = true) → PassesOwn (model X.prog X.w) X.A X.env X.xe → chkSs N T s sc st = true → PSs X st (rdS X.K Wn (execSs T.gvals Φ fuel s))
  | .nil, X, sc, [], C, hf, hp, h => snss_nil
  | .nil, X, sc, _ :: _, C, hf, hp, h => by simp only [chkSs] at h; cases h
  | .cons _ _, X, sc, [], C, hf, hp, h => by simp only [chkSs] at h; cases h
  | .cons s ss, X, sc, x :: xs, C, hf, hp, h => by
    simp only [chkSs, Bool.and_eq_true] at h
    exact snss_cons (sndS s X sc x C hf hp h.1) (sndSs ss X sc xs C hf hp h.2)
  | .frz i ss, X, sc, xs, C, hf, hp, h => by
    simp only [chkSs] at h
    exact snss_frz (sndSs ss X sc xs C hf hp h)
end
end
end AW
set_option maxRecDepth 100000
set_option maxHeartbeats 4000000
namespace AW
open PySem L2
section
variable {K : Frag} {φ φ' : Nat → Addr} {F F' : Hp} {m m' : Store} {H H' : Hp}
/-- the cells of a call that has ended are forgotten -/
theorem Stp.cut (s : Stp K φ F m H φ' F' m' H') : Stp K φ F m H φ' F' (m'.take m.length) H' where
  len := by rw [List.length_take]; have := s.len; omega
  ext := s.ext
  exF := s.exF
  fr := s.fr
  dead := fun n e => by
    have hn := (List.getElem?_eq_some_iff.mp e).1
    rw [List.getElem?_take_of_lt hn]; exact s.dead n e
  new := fun n h1 h2 => by rw [List.length_take] at h2; omega
  own := s.own
  rel := by
    refine ⟨s.rel.sub, fun n c e => ?_, fun n n' h1 h2 => ?_⟩
    · have hn := (List.getElem?_eq_some_iff.mp e).1
      rw [List.length_take] at hn
      rw [List.getElem?_take_of_lt (by omega)] at e
      exact s.rel.cell n c e
    · rw [List.length_take] at h1 h2
      exact s.rel.inj n n' (by omega) (by omega)
end
/-- a cell goes over to the caller -/
theorem Stp.hand {K : Frag} {φ φ' : Nat → Addr} {F F' : Hp} {m m' : Store} {H H' : Hp} {n : Nat} {c : Cel} (s : Stp K φ F m H φ' F' m' H') (hn : m.length ≤ n) (e : m'[n]? = some c) :
    Stp K φ F m H (fun j => if j = m.length then φ' n else φ' j) F' (m'.take m.length ++ [c]) H' := by
  have hnl := (List.getElem?_eq_some_iff.mp e).1
  have hl : (m'.take m.length).length = m.length := by rw [List.length_take]; have := s.len; omega
  have hN : ∀ j, j < m.length → (if j = m.length then φ' n else φ' j) = φ' j := fun j h => if_neg (by omega)
  refine ⟨by rw [List.length_append, hl]; simp, fun j h => by show (if j = m.length then φ' n else φ' j) = _; rw [hN j h]; exact s.ext j h, s.exF, s.fr, fun j ej => ?_, fun j h1 h2 => ?_, s.own, ⟨s.rel.sub, fun j c' ej => ?_, fun j j' h1 h2 ejj => ?_⟩⟩
  · have hj := (List.getElem?_eq_some_iff.mp ej).1
    rw [List.getElem?_append_left (by rw [hl]; exact hj), List.getElem?_take_of_lt hj]
    exact s.dead j ej
  · have : j = m.length := by rw [List.length_append, hl] at h2; simp at h2; omega
    subst this
    simp only [if_true]
    exact s.new n hn hnl
  · by_cases hj : j < m.length
    · rw [List.getElem?_append_left (by rw [hl]; exact hj), List.getElem?_take_of_lt hj] at ej
      simp only [hN j hj]
      exact s.rel.cell j c' ej
    · have hlt := (List.getElem?_eq_some_iff.mp ej).1
      have : j = m.length := by rw [List.length_append, hl] at hlt; simp at hlt; omega
      subst this
      rw [List.getElem?_append_right (by rw [hl]; exact Nat.le_refl _), hl] at ej
      simp at ej; subst ej
      simp only [if_true]
      exact s.rel.cell n _ e
  · rw [List.length_append, hl] at h1 h2
    simp at h1 h2
    have hm := s.len
    by_cases hj : j < m.length
    · by_cases hj' : j' < m.length
      · simp only [hN j hj, hN j' hj'] at ejj
        exact s.rel.inj j j' (by omega) (by omega) ejj
      · have : j' = m.length := by omega
        subst this
        simp only [hN j hj, if_true] at ejj
        have := s.rel.inj j n (by omega) hnl ejj
        omega
    · have : j = m.length := by omega
      subst this
      by_cases hj' : j' < m.length
      · simp only [hN j' hj', if_true] at ejj
        have := s.rel.inj n j' hnl (by omega) ejj
        omega
      · omega
theorem post_ret {K : Frag} {φ : Nat → Addr} {F : Hp} {m : Store} {H : Hp} {keep : Bool} {o : Out Fl} {Q : VK} (R : RelS K φ F m H) (h : Post K Wn (RVl K) φ F m H (finish keep m o) Q) : PostS K Wn φ F m H o { nx := fun _ H' => Q .non H', rt := Q } := by
  cases o with
  | bad => exact h
  | exc x m' => exact fun φ' F' H' s => h φ' F' H' s.cut
  | ok r m' =>
    cases r with
    | nx ρ => exact fun φ' F' H' σ' s E L => h φ' F' H' _ s.cut Rep.non
    | bk ρ => exact h.elim
    | ct ρ => exact h.elim
    | ret v =>
      cases v with
      | d d => exact fun φ' F' H' u s r => h φ' F' H' u s.cut r
      | cell n =>
        have h : Post K Wn (RVl K) φ F m H (retV keep m m' (.cell n)) Q := h
        unfold retV at h
        simp only at h
        split at h
        · rename_i hn
          split at h
          · rename_i ds ec
            intro φ' F' H' u s r
            obtain ⟨rfl, hlt⟩ := r
            obtain ⟨vs, e4, hro⟩ := cell_lst s.rel ec
            cases keep with
            | true =>
              simp only [if_true] at h
              have hl : (m'.take m.length).length = m.length := by rw [List.length_take]; have := s.len; omega
              exact h _ _ _ _ (s.hand hn ec) ⟨by simp, by rw [List.length_append, hl]; simp⟩
            | false =>
              simp only [Bool.false_eq_true, if_false] at h
              have s2 := Stp.kill s.rel ec rfl e4
              have s3 := (s.trans s2 R).cut
              have et : (m'.set n .dead).take m.length = m'.take m.length := by
                apply List.ext_getElem?
                intro i
                by_cases hi : i < m.length
                · rw [List.getElem?_take_of_lt hi, List.getElem?_take_of_lt hi, List.getElem?_set_ne (by omega)]
                · rw [List.getElem?_eq_none (by rw [List.length_take]; omega), List.getElem?_eq_none (by rw [List.length_take]; omega)]
              rw [et] at s3
              exact h _ _ _ _ s3 (Rep.lst (SqL.of upd_same) (hro.mono s2.exF))
          · exact h.elim
        · exact h.elim
def scopeB (N : List Str) (np : Nat) (sc : Scope) : Bool := (match sc.kind with | .function => true | _ => false) && (!sc.isCoroutine && (!sc.isGenerator && (decide N.Nodup && (decide (np ≤ N.length) && ((N.take np).all (isLoc sc) && sc.names.all fun y => match y.2 with | .free => false | _ => true)))))
theorem scope_ok {N : List Str} {np : Nat} {sc : Scope} (h : scopeB N np sc = true) : FnScope N (N.take np) sc := by
  unfold scopeB at h
  simp only [Bool.and_eq_true, Bool.not_eq_true', decide_eq_true_eq] at h
  obtain ⟨h1, h2, h3, h4, h5, h6, h7⟩ := h
  refine ⟨?_, h2, h3, h4, ?_, fun x hx => ?_, fun y hy => ?_⟩
  · split at h1
    · assumption
    · cases h1
  · rw [List.length_take, Nat.min_eq_left h5]
  · have := List.all_eq_true.mp h6 x hx
    unfold isLoc at this
    simp only [Bool.or_eq_true, decide_eq_true_eq] at this
    exact this
  · have := List.all_eq_true.mp h7 y hy
    intro q
    rw [q] at this; cases this
/-- what is known of a def -/
def DOk (K : Frag) (mg : Str → Option Value) (T : Tab) (f : Def) : Prop := ∃ (fa : Addr) (fd : FuncData) (qual : Str) (args : Arguments) (body : List Stmt) (scope : Scope),
  mg f.name = some (.ref fa) ∧ FunD K f.name qual args body scope [] [] fa fd ∧ Binds K fd (f.N.take f.np) [] ∧ scopeB f.N f.np scope = true ∧ chkSs f.N T f.body scope body = true
def DAll (K : Frag) (mg : Str → Option Value) (T : Tab) : List Def → Prop
  | [] => True
  | f :: fs => DOk K mg T f ∧ DAll K mg T fs
theorem DAll.get {K : Frag} {mg : Str → Option Value} {T : Tab} : ∀ {fs : List Def} {i : Nat} {f : Def}, DAll K mg T fs → fs[i]? = some f → DOk K mg T f
  | [], _, _, _, e => by simp at e
  | _ :: _, 0, _, h, e => by simp at e; subst e; exact h.1
  | _ :: _, _ + 1, _, h, e => DAll.get h.2 (by simpa using e)
theorem repVs_get {K : Frag} {φ : Nat → Addr} {F : Hp} {m : Store} : ∀ {vs : List V} {xs : List Val} {i : Nat} {x : Val}, RepVs K φ F m vs xs → xs[i]? = some x → ∃ v, vs[i]? = some v ∧ RepV K φ F m v x
  | _, _, _, _, .nil, e => by simp at e
  | _, _, 0, _, .cons h _, e => by simp at e; subst e; exact ⟨_, rfl, h⟩
  | _, _, i + 1, _, .cons _ r, e => by
    obtain ⟨v, h1, h2⟩ := repVs_get (i := i) r (by simpa using e)
    exact ⟨v, by simpa using h1, h2⟩
section
variable {P : Program} {w : World} {K : Frag} {mg : Str → Option Value} {base : Heap} (Pr : Prims)
theorem run_len {G : List D} {fs : List Def} {fuel k i : Nat} {f : Def} {xs : List Val} {m : Store} (e : fs[i]? = some f) (h : run G fs fuel k i xs m ≠ .bad) : xs.length = f.np := by
  cases k with
  | zero => exact absurd rfl h
  | succ k =>
    unfold run at h
    rw [e] at h
    simp only at h
    by_cases hl : xs.length = f.np
    · exact hl
    · rw [if_neg hl] at h; exact absurd rfl h
/-- the table's facts -/
structure TOk (K : Frag) (mg : Str → Option Value) (T : Tab) (fs : List Def) : Prop where
  free : ∀ x ∈ T.free, mg x = none
  glob : ∀ x i, (x, i) ∈ T.globs → ∃ u v, mg x = some u ∧ RelV v u ∧ ∀ F, Rep K F v (T.gvals.getD i .non)
  defs : T.defs = fs.map fun f => ⟨f.name, f.np⟩
  all : DAll K mg T fs
include Pr
theorem fn_all {T : Tab} {fs : List Def} {fuel : Nat} (O : TOk K mg T fs) : ∀ (k i : Nat) (f : Def), fs[i]? = some f → ∃ (fa : Addr) (fd : FuncData), mg f.name = some (.ref fa) ∧ PySem.W.keepIn K (.ref fa) = true ∧ Binds K fd (f.N.take f.np) [] ∧
    FnG P w K mg base CX0 k fa fd (f.N.take f.np) (spD K Wn f.np (run T.gvals fs fuel k i)) ∧ ∃ qual args body scope, FunD K f.name qual args body scope [] [] fa fd := by
  intro k
  induction k with
  | zero =>
    intro i f e
    obtain ⟨fa, fd, qual, args, body, scope, h1, h2, h3, h4, h5⟩ := O.all.get e
    refine ⟨fa, fd, h1, h2.kp, h3, ⟨fun vs H Q E h => ?_, fun A outer s H args us vs Q E hgd hr he hb hv h => ?_⟩, _, _, _, _, h2⟩
    · obtain ⟨_, φ, F, m, xs, _, _, hp⟩ := h; exact hp.elim
    · obtain ⟨_, φ, F, m, xs, _, _, hp⟩ := h; exact hp.elim
  | succ k ih =>
    intro i f e
    obtain ⟨fa, fd, qual, args, body, scope, h1, h2, h3, h4, h5⟩ := O.all.get e
    have sc := scope_ok h4
    have hnp : (f.N.take f.np).length = f.np := by
      have : f.np ≤ f.N.length := by
        unfold scopeB at h4
        simp only [Bool.and_eq_true, decide_eq_true_eq] at h4
        exact h4.2.2.2.2.1
      rw [List.length_take]; omega
    refine ⟨fa, fd, h1, h2.kp, h3, fnG_of h2 sc (fun vs H Q E h => by rw [hnp]; exact h.1) (fun cdv A outer s H vs Q E hgd hr h => ?_), _, _, _, _, h2⟩
    obtain ⟨hlv, φ, F, m, xs, R, rv, hp⟩ := h
    have hlx : xs.length = f.np := by rw [← repVs_len rv]; exact hlv
    refine ⟨rdS K Wn (execSs T.gvals (run T.gvals fs fuel k) fuel f.body), PSs.nox (sndSs (k := k) Pr f.body _ scope body ?_ (fun _ => rfl) PassesOwn.never h5), ?_⟩
    · refine ⟨rfl, sc.nd, rfl, sc.kind, rfl, hr, hgd, O.free, O.glob, fun i' g eg => ?_, fun i' g xs m eg hb => ?_⟩
      · rw [O.defs, List.getElem?_map] at eg
        cases ef : fs[i']? with
        | none => rw [ef] at eg; cases eg
        | some g' =>
          rw [ef] at eg; cases eg
          obtain ⟨fa', fd', q1, q2, q3, q4, _⟩ := ih i' g' ef
          exact ⟨fa', fd', _, q1, q2, q3, q4⟩
      · rw [O.defs, List.getElem?_map] at eg
        cases ef : fs[i']? with
        | none => rw [ef] at eg; cases eg
        | some g' => rw [ef] at eg; cases eg; exact run_len ef hb
    · have hp : Post K Wn (RVl K) φ F m H (finish f.keep m (execSs T.gvals (run T.gvals fs fuel k) fuel f.body (startE f xs) m)) Q := by
        have e2 : run T.gvals fs fuel (k + 1) i xs m = finish f.keep m (execSs T.gvals (run T.gvals fs fuel k) fuel f.body (startE f xs) m) := by
          show (match fs[i]? with | none => Out.bad | some f => _) = _
          rw [e]; simp only [hlx, if_true]
        rw [← e2]; exact hp
      have hle : f.np ≤ f.N.length := by
        have := hnp; rw [List.length_take] at this; omega
      refine ⟨φ, F, startE f xs, m, R, fun j v ej => ?_, ?_, post_ret R hp⟩
      · unfold startE at ej
        by_cases hj : j < xs.length
        · rw [List.getElem?_append_left (by simpa using hj), List.getElem?_map] at ej
          cases ex : xs[j]? with
          | none => rw [ex] at ej; cases ej
          | some x =>
            rw [ex] at ej; cases ej
            obtain ⟨u, e1, r1⟩ := repVs_get rv ex
            refine ⟨u, ?_, r1⟩
            unfold L2.start
            rw [List.getElem?_append_left (by simp; exact (List.getElem?_eq_some_iff.mp e1).1), List.getElem?_map, e1]; rfl
        · rw [List.getElem?_append_right (by simpa using hj), List.getElem?_replicate] at ej
          split at ej <;> cases ej
      · unfold L2.start startE
        simp only [List.length_append, List.length_map, List.length_replicate]
        rw [hlv, hlx]
omit Pr in
/-- what the law's head asks: the promise at the script -/
theorem law_sp {f : List Val → Store → Out Val} {H : Hp} {a : Addr} {ns : List Int} (hS : SqL K H a (ns.map V.int)) (h : ∃ m', f [.d (.lst (ns.map D.int))] [] = .ok (.d (.bl true)) m') {E : XK} : spD K Wn 1 f [.ref a] H (fun v _ => v = .bl true) E := by
  obtain ⟨m', e⟩ := h
  have rs : ∀ ns : List Int, Reps K H (ns.map V.int) (ns.map D.int) := by
    intro ns
    induction ns with
    | nil => exact .nil
    | cons n ns ih => exact .cons (.int n) ih
  refine ⟨rfl, fun _ => 0, H, [], [.d (.lst (ns.map D.int))], ⟨Ext.refl _, fun n o e => by simp at e, fun n n' h => by simp at h⟩, .cons (Rep.lst hS (rs ns)) .nil, ?_⟩
  rw [e]
  intro φ' F' H' b s r
  cases (show Rep K F' b (.bl true) from r)
  rfl
end
end AW
set_option maxRecDepth 100000
set_option maxHeartbeats 4000000
namespace AW
open PySem PySem.Spec PyProof.Rows L2
/-! the head: the constants, read off the kept objects -/
def vBs (f : Value → D → Bool) : List Value → List D → Bool
  | [], [] => true
  | u :: us, d :: ds => f u d && vBs f us ds
  | _, _ => false
def vB (K : Frag) : Nat → Value → D → Bool
  | _, .none, .non => true
  | _, .bool b, .bl c => b == c
  | _, .int i _, .int j => decide (i = j)
  | _, .str x _, .str y => decide (x = y)
  | n + 1, .ref a, .tup ds => match K.lookup a with
    | some ⟨.type c, _, .seq its _, _⟩ => decide (c = "tuple") && (decide (its.size ≤ sizeLine) && vBs (vB K n) its.toList ds)
    | _ => false
  | n + 1, .ref a, .lst ds => match K.lookup a with
    | some ⟨.type c, none, .seq its _, _⟩ => decide (c = "list") && (decide (its.size ≤ sizeLine) && vBs (vB K n) its.toList ds)
    | _ => false
  | _, _, _ => false
theorem vBs_ok {K : Frag} {f : Value → D → Bool} (hf : ∀ u d, f u d = true → ∃ v, RelV v u ∧ ∀ F, Rep K F v d) : ∀ (us : List Value) (ds : List D), vBs f us ds = true → ∃ vs, Vals vs us ∧ ∀ F, Reps K F vs ds
  | [], [], _ => ⟨[], .nil, fun _ => .nil⟩
  | [], _ :: _, h => by cases h
  | _ :: _, [], h => by cases h
  | u :: us, d :: ds, h => by
    obtain ⟨h1, h2⟩ := Bool.and_eq_true_iff.mp (show (f u d && vBs f us ds) = true from h)
    obtain ⟨v, r, q⟩ := hf u d h1
    obtain ⟨vs, rs, qs⟩ := vBs_ok hf us ds h2
    exact ⟨v :: vs, .cons r rs, fun F => .cons (q F) (qs F)⟩
theorem vB_ok {K : Frag} : ∀ (n : Nat) (u : Value) (d : D), vB K n u d = true → ∃ v, RelV v u ∧ ∀ F, Rep K F v d := by
  have flat : ∀ (n : Nat) (u : Value) (d : D), (∀ a, u ≠ .ref a) → vB K n u d = true → ∃ v, RelV v u ∧ ∀ F, Rep K F v d := by
    intro n u d hr h
    cases u <;> cases d <;> first
      | exact ⟨.non, rfl, fun _ => .non⟩
      | (rename_i b c; obtain rfl : b = c := by cases n <;> exact eq_of_beq h
         exact ⟨.bl b, rfl, fun _ => .bl b⟩)
      | (rename_i i t j; obtain rfl : i = j := by cases n <;> exact of_decide_eq_true h
         exact ⟨.int i, ⟨t, rfl⟩, fun _ => .int i⟩)
      | (rename_i i t j; obtain rfl : i = j := by cases n <;> exact of_decide_eq_true h
         exact ⟨.str i, ⟨t, rfl⟩, fun _ => .str i⟩)
      | exact absurd rfl (hr _)
      | (cases n <;> cases h)
  intro n
  induction n with
  | zero =>
    intro u d h
    refine flat 0 u d (fun a e => ?_) h
    subst e
    cases d <;> cases h
  | succ n ih =>
    intro u d h
    by_cases hr : ∃ a, u = .ref a
    · obtain ⟨a, rfl⟩ := hr
      cases d <;> try (cases h; done)
      · rename_i ds
        have h : (match K.lookup a with
          | some ⟨.type c, _, .seq its _, _⟩ => decide (c = "tuple") && (decide (its.size ≤ sizeLine) && vBs (vB K n) its.toList ds)
          | _ => false) = true := h
        split at h
        · rename_i c od its nn sl q
          obtain ⟨h1, h2⟩ := Bool.and_eq_true_iff.mp h
          obtain ⟨h3, h4⟩ := Bool.and_eq_true_iff.mp h2
          obtain ⟨vs, r, rs⟩ := vBs_ok ih _ _ h4
          exact ⟨.ref a, rfl, fun F => .tup (.inr ⟨_, its, nn, q, congrArg Value.type (of_decide_eq_true h1), rfl, of_decide_eq_true h3, r⟩) (rs F)⟩
        · cases h
      · rename_i ds
        have h : (match K.lookup a with
          | some ⟨.type c, none, .seq its _, _⟩ => decide (c = "list") && (decide (its.size ≤ sizeLine) && vBs (vB K n) its.toList ds)
          | _ => false) = true := h
        split at h
        · rename_i c its nn sl q
          obtain ⟨h1, h2⟩ := Bool.and_eq_true_iff.mp h
          obtain ⟨h3, h4⟩ := Bool.and_eq_true_iff.mp h2
          obtain ⟨vs, r, rs⟩ := vBs_ok ih _ _ h4
          exact ⟨.ref a, rfl, fun F => .lst (.inr ⟨_, its, nn, q, congrArg Value.type (of_decide_eq_true h1), rfl, rfl, of_decide_eq_true h3, r⟩) (rs F)⟩
        · cases h
    · exact flat (n + 1) u d (fun a e => hr ⟨a, e⟩) h
def gB (T : Tab) (K : Frag) : Bool := T.globs.all fun p => match PySem.W.nsIn K mainGlobals p.1 with
  | some (some u) => vB K 9 u (T.gvals.getD p.2 .non)
  | _ => false
theorem gB_ok {T : Tab} {K : Frag} {h : Heap} {mg : Str → Option Value} (X : K.In h) (G : h.Ns mainGlobals mg) (c : gB T K = true) (x : Str) (i : Nat) (hx : (x, i) ∈ T.globs) : ∃ u v, mg x = some u ∧ RelV v u ∧ ∀ F, Rep K F v (T.gvals.getD i .non) := by
  have c := List.all_eq_true.mp c (x, i) hx
  have c : (match PySem.W.nsIn K mainGlobals x with
    | some (some u) => vB K 9 u (T.gvals.getD i .non)
    | _ => false) = true := c
  split at c
  · rename_i u q
    obtain ⟨v, r, rs⟩ := vB_ok 9 u _ c
    exact ⟨u, v, PySem.W.mg_of X G q, r, rs⟩
  · cases c
def mkD (f : Def) (st : Stmt) : He.DefD := ⟨(f.name, none), f.name, f.name, defArgs st, defBody st, defScope st, [], []⟩
def faOf (T : Tab) : List He.Fa := T.free.map He.Fa.free ++ T.defs.map fun f => He.Fa.glo f.name
abbrev hkOf (T : Tab) (fn : List He.DefD) : PySem.W.Hook := He.hookX 4 (faOf T) fn [] [] (gB T)
section
variable {T : Tab} {fn : List He.DefD} {w : World} {h : Heap} {K : Frag} {mg : Str → Option Value}
theorem free_of (X : K.In h) (G : h.Ns mainGlobals mg) (c : He.SaysX (faOf T) fn [] [] (gB T) w h K) : ∀ x ∈ T.free, mg x = none := fun x hx =>
  He.free_ok X G (c.t.d.facts (f := .free x) (List.mem_append_left _ (List.mem_map_of_mem hx)))
theorem glo_of (X : K.In h) (G : h.Ns mainGlobals mg) (c : He.SaysX (faOf T) fn [] [] (gB T) w h K) (i : Nat) {f : DefI} (e : T.defs[i]? = some f) : mg f.name = some (.ref (He.ga K f.name)) :=
  He.glo_ok X G (c.t.d.facts (f := .glo f.name) (List.mem_append_right _ (List.mem_map.mpr ⟨f, List.mem_of_getElem? e, rfl⟩)))
theorem fun_of (c : He.SaysX (faOf T) fn [] [] (gB T) w h K) (i : Nat) {f : Def} {st : Stmt} (e : fn[i]? = some (mkD f st)) : ∃ fd, FunD K f.name f.name (defArgs st) (defBody st) (defScope st) [] [] (He.ga K f.name) fd := c.t.d.def_ i e
theorem fun_same {x q x' q' : Str} {p p' : Arguments} {b b' : List Stmt} {s s' : Scope} {f : Addr} {fd fd' : FuncData} (F : FunD K x q p b s [] [] f fd) (F' : FunD K x' q' p' b' s' [] [] f fd') : fd' = fd := by
  obtain ⟨oc, od, dV, kV, doc, pm, an, cdv, ct, osl, rfl, lk, _⟩ := F.ex
  obtain ⟨oc', od', dV', kV', doc', pm', an', cdv', ct', osl', rfl, lk', _⟩ := F'.ex
  rw [lk] at lk'
  cases lk'
  rfl
end
end AW
set_option maxRecDepth 100000
set_option maxHeartbeats 4000000
namespace AW
open PySem
/-! the laws' dice, in plain data -/
def HD (m : Store) (c : Nat) : Prop := ∃ a b e : Int, 0 ≤ a ∧ m[c]? = some (.lst [.int a, .int b, .int e])
def DS (m : Store) (c : Nat) (m' : Store) : Prop := ∃ a b e : Int, 0 ≤ a ∧ m' = m.set c (.lst [.int a, .int b, .int e])
theorem HD.lt {m : Store} {c : Nat} (h : HD m c) : c < m.length := by
  obtain ⟨a, b, e, _, h⟩ := h
  exact (List.getElem?_eq_some_iff.mp h).1
theorem DS.hd {m m' : Store} {c : Nat} (s : DS m c m') (h : HD m c) : HD m' c := by
  obtain ⟨a, b, e, p, rfl⟩ := s
  exact ⟨a, b, e, p, by rw [List.getElem?_set_self h.lt]⟩
theorem DS.len {m m' : Store} {c : Nat} (s : DS m c m') : m'.length = m.length := by
  obtain ⟨a, b, e, p, rfl⟩ := s; simp
theorem DS.trans {m m1 m2 : Store} {c : Nat} (s : DS m c m1) (t : DS m1 c m2) : DS m c m2 := by
  obtain ⟨a, b, e, p, rfl⟩ := s
  obtain ⟨a, b, e, p, rfl⟩ := t
  exact ⟨a, b, e, p, by rw [List.set_set]⟩
theorem DS.refl {m : Store} {c : Nat} (h : HD m c) : DS m c m := by
  obtain ⟨a, b, e, p, q⟩ := h
  refine ⟨a, b, e, p, ?_⟩
  apply List.ext_getElem?
  intro i
  by_cases hi : i = c
  · subst hi
    rw [List.getElem?_set_self (List.getElem?_eq_some_iff.mp q).1, q]
  · rw [List.getElem?_set_ne (Ne.symm hi)]
theorem DS.get {m m' : Store} {c j : Nat} (s : DS m c m') (h : j ≠ c) : m'[j]? = m[j]? := by
  obtain ⟨a, b, e, p, rfl⟩ := s
  exact List.getElem?_set_ne (Ne.symm h)
def rollB : Ss :=
  .cons (.ife (.cmp .Gt (.idx (.var 0) (.con (.int 0))) (.con (.int 0))) (.cons (.asg 4 (.bin .Mod (.b1 .int (.idx (.var 0) (.con (.int 0)))) (.var 1)))
    (.cons (.setIx (.var 0) (.con (.int 0)) (.bin .FloorDiv (.idx (.var 0) (.con (.int 0))) (.var 1)))
    (.cons (.ret (.var 4)) .nil))) .nil)
  (.cons (.setIx (.var 0) (.con (.int 2)) (.bin .Add (.idx (.var 0) (.con (.int 2))) (.con (.int 1))))
  (.cons (.asg 2 (.bin .Mod (.b1 .int (.bin .Add (.bin .Mult (.idx (.var 0) (.con (.int 1))) (.con (.int 25214903917))) (.bin .Mult (.idx (.var 0) (.con (.int 2))) (.con (.int 40692))))) (.con (.int 2305843009213693951))))
  (.cons (.asg 3 (.bin .Mod (.b1 .int (.bin .Add (.bin .Mult (.var 2) (.var 2)) (.bin .Mult (.idx (.var 0) (.con (.int 2))) (.con (.int 69621))))) (.con (.int 1152921504606846883))))
  (.cons (.ret (.bin .Mod (.b1 .int (.bin .FloorDiv (.bin .Mod (.b1 .int (.bin .Add (.bin .Mult (.var 3) (.var 3)) (.var 2))) (.con (.int 4398046511093))) (.con (.int 128)))) (.var 1)))
  .nil))))
theorem cmul_r {i j : Int} (h1 : -(2 ^ 64) < j) (h2 : j < 2 ^ 64) : cmul i j = true := by
  unfold cmul
  rw [decide_eq_true h1, decide_eq_true h2]
  simp
theorem fmod_lt {i j : Int} (h : 0 < j) : 0 ≤ i.fmod j ∧ i.fmod j < j := ⟨Int.fmod_nonneg_of_pos i h, Int.fmod_lt_of_pos i h⟩
theorem roll_ok {G : List D} {Φ : Fns} {fuel : Nat} {m : Store} {c : Nat} {n : Int} (h : HD m c) (h0 : 0 < n) (h1 : n < 1073741824) :
    ∃ r m', finish false m (execSs G Φ fuel rollB [some (.cell c), some (.d (.int n)), none, none, none] m) = .ok (.d (.int r)) m' ∧ 0 ≤ r ∧ r < n ∧ DS m c m' := by
  have lt := h.lt
  obtain ⟨a, b, e, pa, hm⟩ := h
  have hn : n ≠ 0 := by omega
  have hna : n.natAbs < 1073741824 := by omega
  by_cases ha : 0 < a
  · refine ⟨a.fmod n, m.set c (.lst [.int (a.fdiv n), .int b, .int e]), ?_, (fmod_lt h0).1, (fmod_lt h0).2, _, _, _, ?_, rfl⟩
    · simp [rollB, execSs, execS, exSeq, exIf, exAsg, exRet, exSetIx, evT, evalE, ev1, ev2, evVar, evCon, peek, hm, idxD, L2.atI, L2.ixN, cmpV, cmpD, truV, truD, ha, b1D, binD, hn, hna, setC, finish, retV, List.take_of_length_le]
    · rw [Int.fdiv_eq_ediv_of_nonneg _ (by omega)]
      exact Int.ediv_nonneg pa (by omega)
  · have h2 : ∀ x : Int, cmul x 25214903917 = true := fun x => cmul_r (by omega) (by omega)
    have h3 : ∀ x : Int, cmul x 40692 = true := fun x => cmul_r (by omega) (by omega)
    have h4 : ∀ x : Int, cmul x 69621 = true := fun x => cmul_r (by omega) (by omega)
    have h5 : ∀ x : Int, cmul (x.fmod 2305843009213693951) (x.fmod 2305843009213693951) = true := fun x => by
      have := fmod_lt (i := x) (j := 2305843009213693951) (by omega)
      exact cmul_r (by omega) (by omega)
    have h6 : ∀ x : Int, cmul (x.fmod 1152921504606846883) (x.fmod 1152921504606846883) = true := fun x => by
      have := fmod_lt (i := x) (j := 1152921504606846883) (by omega)
      exact cmul_r (by omega) (by omega)
    have key : ∃ x : Int, finish false m (execSs G Φ fuel rollB [some (.cell c), some (.d (.int n)), none, none, none] m) = .ok (.d (.int (x.fmod n))) (m.set c (.lst [.int a, .int b, .int (e + 1)])) := by
      simp [rollB, execSs, execS, exSeq, exIf, exAsg, exRet, exNext, exSetIx, evT, evalE, ev1, ev2, evVar, evCon, peek, hm, idxD, L2.atI, L2.ixN, cmpV, cmpD, truV, truD, ha, b1D, binD, hn, hna, setC, finish, retV, List.take_of_length_le, List.getElem?_set_self lt, h2, h3, h4, h5, h6]
      exact ⟨_, rfl⟩
    obtain ⟨x, key⟩ := key
    exact ⟨_, _, key, (fmod_lt h0).1, (fmod_lt h0).2, _, _, _, pa, rfl⟩
end AW
set_option maxRecDepth 100000
set_option maxHeartbeats 4000000
namespace AW
open PySem
def RollS (f : List Val → Store → Out Val) : Prop := ∀ (m : Store) (c : Nat) (n : Int), HD m c → 0 < n → n < 1073741824 → ∃ r m', f [.cell c, .d (.int n)] m = .ok (.d (.int r)) m' ∧ 0 ≤ r ∧ r < n ∧ DS m c m'
def PickS (f : List Val → Store → Out Val) : Prop := ∀ (m : Store) (c : Nat) (ds : List D), HD m c → ds ≠ [] → ds.length < 1073741824 → ∃ d m', f [.cell c, .d (.lst ds)] m = .ok (.d d) m' ∧ d ∈ ds ∧ DS m c m'
def PickT (f : List Val → Store → Out Val) : Prop := ∀ (m : Store) (c : Nat) (s : Str), HD m c → 0 < s.length → s.length ≤ 1000 → ∃ ch m', f [.cell c, .d (.str s)] m = .ok (.d (.str ⟨#[ch]⟩)) m' ∧ ch ∈ s.cps.toList ∧ DS m c m'
theorem small_of {n : Nat} (h : n ≤ 10000000) : small n = true := by
  unfold small
  have e : sizeLine = 16777216 := by decide
  rw [e]
  exact decide_eq_true (by omega)
def pickB (i : Nat) : Ss := .cons (.ret (.idx (.var 1) (.call i (.cons (.var 0) (.cons (.b1 .len (.var 1)) .nil))))) .nil
theorem ixN_nat {n : Nat} {r : Int} (h0 : 0 ≤ r) (h1 : r < n) : L2.ixN n r = some r.toNat := by
  unfold L2.ixN
  rw [if_pos h0, if_pos h1]
theorem atI_mem {α : Type} {xs : List α} {r : Int} (h0 : 0 ≤ r) (h1 : r < xs.length) : ∃ x, L2.atI xs r = some x ∧ x ∈ xs := by
  unfold L2.atI
  rw [ixN_nat h0 h1]
  have hl : r.toNat < xs.length := by omega
  exact ⟨xs[r.toNat], by rw [Option.bind_some, List.getElem?_eq_getElem hl], List.getElem_mem hl⟩
theorem take_self {m m' : Store} (h : m'.length = m.length) : m'.take m.length = m' := List.take_of_length_le (Nat.le_of_eq h)
theorem pick_ok {G : List D} {Φ : Fns} {fuel i : Nat} (R : RollS (Φ i)) {m : Store} {c : Nat} {ds : List D} (h : HD m c) (h0 : ds ≠ []) (h1 : ds.length < 1073741824) :
    ∃ d m', finish false m (execSs G Φ fuel (pickB i) [some (.cell c), some (.d (.lst ds))] m) = .ok (.d d) m' ∧ d ∈ ds ∧ DS m c m' := by
  have hp : 0 < ds.length := List.length_pos_iff.mpr h0
  obtain ⟨r, m', e, r0, r1, s⟩ := R m c ds.length h (by omega) (by omega)
  obtain ⟨x, ex, hx⟩ := atI_mem (xs := ds) r0 r1
  refine ⟨x, m', ?_, hx, s⟩
  simp [pickB, execSs, execS, exSeq, exRet, evalE, evalEs, ev1, ev2, evVar, evCall, evCons, evNil, peek, b1D, lenD, e, idxD, ex, finish, retV, take_self s.len]
theorem pickT_ok {G : List D} {Φ : Fns} {fuel i : Nat} (R : RollS (Φ i)) {m : Store} {c : Nat} {t : Str} (h : HD m c) (h0 : 0 < t.length) (h1 : t.length ≤ 1000) :
    ∃ ch m', finish false m (execSs G Φ fuel (pickB i) [some (.cell c), some (.d (.str t))] m) = .ok (.d (.str ⟨#[ch]⟩)) m' ∧ ch ∈ t.cps.toList ∧ DS m c m' := by
  obtain ⟨r, m', e, r0, r1, s⟩ := R m c t.length h (by omega) (by omega)
  obtain ⟨x, ex, hx⟩ := atI_mem (xs := t.cps.toList) r0 (by rw [Array.length_toList]; exact r1)
  have hs : small t.length = true := small_of (by omega)
  refine ⟨x, m', ?_, hx, s⟩
  simp [pickB, execSs, execS, exSeq, exRet, evalE, evalEs, ev1, ev2, evVar, evCall, evCons, evNil, peek, b1D, lenD, hs, e, idxD, ex, finish, retV, take_self s.len]
def diceB : Ss :=
  .cons (.asg 2 (.ite (.cmp .Lt (.var 1) (.b1 .len (.var 0))) (.idx (.var 0) (.var 1)) (.bin .Add (.bin .Mult (.con (.int 37)) (.var 1)) (.con (.int 11)))))
  (.cons (.asg 3 (.bin .Mod (.b1 .int (.b1 .abs (.var 2))) (.bin .Pow (.bin .Pow (.con (.int 10)) (.con (.int 57))) (.con (.int 11)))))
  (.cons (.ret (.lm true (.disp (.cons (.ite (.cmp .GtE (.var 3) (.bin .Pow (.con (.int 10)) (.con (.int 18)))) (.var 3) (.con (.int 0))) (.cons (.bin .Add (.bin .Add (.bin .Add (.bin .Mult (.con (.int 2)) (.var 3)) (.b1 .int (.cmp .Lt (.var 2) (.con (.int 0))))) (.bin .Mult (.con (.int 131071)) (.var 1))) (.con (.int 3))) (.cons (.con (.int 0)) .nil))))))
  .nil))
theorem pw57 : binD .Pow (.int 10) (.int 57) = some (.int (10 ^ 57)) := by kernel_rfl
theorem pw11 : binD .Pow (.int (10 ^ 57)) (.int 11) = some (.int ((10 ^ 57) ^ 11)) := by kernel_rfl
theorem pw18 : binD .Pow (.int 10) (.int 18) = some (.int 1000000000000000000) := by kernel_rfl
theorem cmul_l {i j : Int} (h1 : -(2 ^ 64) < i) (h2 : i < 2 ^ 64) : cmul i j = true := by
  unfold cmul
  rw [decide_eq_true h1, decide_eq_true h2]
  simp
theorem dice_ok {G : List D} {Φ : Fns} {fuel : Nat} {m : Store} {ns : List Int} {p : Nat} : ∃ a b : Int, 0 ≤ a ∧ finish true m (execSs G Φ fuel diceB [some (.d (.lst (ns.map .int))), some (.d (.int (p : Int))), none, none] m) = .ok (.cell m.length) (m ++ [.lst [.int a, .int b, .int 0]]) := by
  have h2 : ∀ x : Int, cmul 2 x = true := fun x => cmul_l (by omega) (by omega)
  have h3 : ∀ x : Int, cmul 37 x = true := fun x => cmul_l (by omega) (by omega)
  have h4 : ∀ x : Int, cmul 131071 x = true := fun x => cmul_l (by omega) (by omega)
  have hs : small 3 = true := small_of (by omega)
  have cellv : ∃ v : Int, evIte (evalE G Φ (.cmp .Lt (.var 1) (.b1 .len (.var 0)))) (evalE G Φ (.idx (.var 0) (.var 1))) (evalE G Φ (.bin .Add (.bin .Mult (.con (.int 37)) (.var 1)) (.con (.int 11)))) [some (.d (.lst (ns.map .int))), some (.d (.int (p : Int))), none, none] m = .ok (.d (.int v)) m := by
    by_cases hp : p < ns.length
    · have e : L2.atI (ns.map D.int) (p : Int) = some (.int ns[p]) := by
        unfold L2.atI
        rw [ixN_nat (by omega) (by rw [List.length_map]; omega)]
        simp [hp]
      exact ⟨ns[p], by simp [evIte, evT, evalE, ev1, ev2, evVar, evCon, peek, cmpV, cmpD, b1D, lenD, truV, truD, hp, idxD, e]⟩
    · exact ⟨37 * p + 11, by simp [evIte, evT, evalE, ev1, ev2, evVar, evCon, peek, cmpV, cmpD, b1D, lenD, truV, truD, hp, idxD, binD, h3]⟩
  obtain ⟨v, ev⟩ := cellv
  generalize hN : ((10 : Int) ^ 57) ^ 11 = N
  have hN0 : 0 < N := by rw [← hN]; exact Int.pow_pos (Int.pow_pos (by omega))
  have p11 := pw11
  rw [hN] at p11
  have hw := fmod_lt (i := if v < 0 then -v else v) hN0
  have hNn : N ≠ 0 := by omega
  generalize hwd : (if v < 0 then -v else v).fmod N = wh at hw
  refine ⟨if 1000000000000000000 ≤ wh then wh else 0, 2 * wh + (if v < 0 then 1 else 0) + 131071 * p + 3, by split <;> omega, ?_⟩
  have s1 : execS G Φ fuel (.asg 2 (.ite (.cmp .Lt (.var 1) (.b1 .len (.var 0))) (.idx (.var 0) (.var 1)) (.bin .Add (.bin .Mult (.con (.int 37)) (.var 1)) (.con (.int 11))))) [some (.d (.lst (ns.map .int))), some (.d (.int (p : Int))), none, none] m = .ok (.nx [some (.d (.lst (ns.map .int))), some (.d (.int (p : Int))), some (.d (.int v)), none]) m := by
    show (evIte _ _ _ _ _).bind _ = _
    rw [ev]; rfl
  have s2 : execS G Φ fuel (.asg 3 (.bin .Mod (.b1 .int (.b1 .abs (.var 2))) (.bin .Pow (.bin .Pow (.con (.int 10)) (.con (.int 57))) (.con (.int 11))))) [some (.d (.lst (ns.map .int))), some (.d (.int (p : Int))), some (.d (.int v)), none] m = .ok (.nx [some (.d (.lst (ns.map .int))), some (.d (.int (p : Int))), some (.d (.int v)), some (.d (.int wh))]) m := by
    simp only [execS, exAsg, evalE, ev1, ev2, evVar, evCon, peek, b1D, Out.bind_ok, lift_some, pw57, p11, List.getElem?_cons_zero, List.getElem?_cons_succ]
    simp [binD, hNn, hwd]
  unfold diceB
  simp only [execSs, exSeq, s1, s2, Out.bind_ok]
  have e3 : (decide (v < 0)) = (if v < 0 then true else false) := by split <;> simp_all
  have p18 := pw18
  by_cases hv : v < 0 <;> by_cases h18 : 1000000000000000000 ≤ wh <;>
  · simp only [execS, exRet, evalE, evLm, evalL, evDisp, evalEs, evCons, evNil, evIte, evT, ev1, ev2, evVar, evCon, peek, b1D, Out.bind_ok, lift_some, p18, List.getElem?_cons_zero, List.getElem?_cons_succ]
    simp [cmpV, cmpD, truV, peek, truD, h18, hv, binD, h2, h4, Val.datas, Val.data, hs, allocL, finish, retV]
end AW
set_option maxRecDepth 100000
set_option maxHeartbeats 4000000
namespace LK
open PySem L2 AW
/-! the defs: 0 is_integer, 1 is_name, 2 is_names, 3 _law_dice, 4 _law_roll, 5 _law_pick, 6 _law_some, 7 _law_words, 8 _law_integers_right, 9 _law_odd_sign, 10 _law_names_right, 11 _law_tuples_right, 12 law -/
def f0 : Def := ⟨"is_integer", 1, ["value"], false,
  (.cons (.ife (.bop false (.cons (.isi (.var 0) .bool) (.cons (.not (.isi (.var 0) .int)) .nil))) (.cons (.ret (.con (.bl false)))
  .nil) .nil)
  (.cons (.ret (.cmp .Lt (.b1 .abs (.var 0)) (.bin .Pow (.con (.int 10)) (.con (.int 60)))))
  .nil))⟩
def f1 : Def := ⟨"is_name", 1, ["value", "sign"], false,
  (.cons (.ife (.bop false (.cons (.not (.isi (.var 0) .str)) (.cons (.not (.cmp2 .LtE .LtE (.con (.int 1)) (.b1 .len (.var 0)) (.glob "MAX_LETTERS" 0))) (.cons (.cmp .In (.var 0) (.glob "KEYWORDS" 2)) .nil)))) (.cons (.ret (.con (.bl false)))
  .nil) .nil)
  (.cons (.ret (.b1 .all (.lm false (.lc (.seq (.var 0)) (.name 1) .no (.cmp2 .LtE .LtE (.con (.str "a")) (.var 1) (.con (.str "z")))))))
  .nil))⟩
def f2 : Def := ⟨"is_names", 1, ["value", "name"], false,
  (.cons (.ife (.bop false (.cons (.not (.isi (.var 0) .tuple)) (.cons (.cmp .Gt (.b1 .len (.var 0)) (.glob "MAX_NAMES" 1)) (.cons (.not (.b1 .all (.lm false (.lc (.seq (.var 0)) (.name 1) .no (.call 1 (.cons (.var 1) .nil)))))) .nil)))) (.cons (.ret (.con (.bl false)))
  .nil) .nil)
  (.cons (.ret (.cmp .Eq (.b1 .lenset (.var 0)) (.b1 .len (.var 0))))
  .nil))⟩
def f3 : Def := ⟨"_law_dice", 2, ["_law_script", "_law_spot", "_law_cell", "_law_whole"], true,
  (.cons (.asg 2 (.ite (.cmp .Lt (.var 1) (.b1 .len (.var 0))) (.idx (.var 0) (.var 1)) (.bin .Add (.bin .Mult (.con (.int 37)) (.var 1)) (.con (.int 11)))))
  (.cons (.asg 3 (.bin .Mod (.b1 .int (.b1 .abs (.var 2))) (.bin .Pow (.bin .Pow (.con (.int 10)) (.con (.int 57))) (.con (.int 11)))))
  (.cons (.ret (.lm true (.disp (.cons (.ite (.cmp .GtE (.var 3) (.bin .Pow (.con (.int 10)) (.con (.int 18)))) (.var 3) (.con (.int 0))) (.cons (.bin .Add (.bin .Add (.bin .Add (.bin .Mult (.con (.int 2)) (.var 3)) (.b1 .int (.cmp .Lt (.var 2) (.con (.int 0))))) (.bin .Mult (.con (.int 131071)) (.var 1))) (.con (.int 3))) (.cons (.con (.int 0)) .nil))))))
  .nil)))⟩
def f4 : Def := ⟨"_law_roll", 2, ["_law_dice_here", "_law_upto", "_law_one", "_law_two", "_law_found"], false,
  (.cons (.ife (.cmp .Gt (.idx (.var 0) (.con (.int 0))) (.con (.int 0))) (.cons (.asg 4 (.bin .Mod (.b1 .int (.idx (.var 0) (.con (.int 0)))) (.var 1)))
  (.cons (.setIx (.var 0) (.con (.int 0)) (.bin .FloorDiv (.idx (.var 0) (.con (.int 0))) (.var 1)))
  (.cons (.ret (.var 4))
  .nil))) .nil)
  (.cons (.setIx (.var 0) (.con (.int 2)) (.bin .Add (.idx (.var 0) (.con (.int 2))) (.con (.int 1))))
  (.cons (.asg 2 (.bin .Mod (.b1 .int (.bin .Add (.bin .Mult (.idx (.var 0) (.con (.int 1))) (.con (.int 25214903917))) (.bin .Mult (.idx (.var 0) (.con (.int 2))) (.con (.int 40692))))) (.con (.int 2305843009213693951))))
  (.cons (.asg 3 (.bin .Mod (.b1 .int (.bin .Add (.bin .Mult (.var 2) (.var 2)) (.bin .Mult (.idx (.var 0) (.con (.int 2))) (.con (.int 69621))))) (.con (.int 1152921504606846883))))
  (.cons (.ret (.bin .Mod (.b1 .int (.bin .FloorDiv (.bin .Mod (.b1 .int (.bin .Add (.bin .Mult (.var 3) (.var 3)) (.var 2))) (.con (.int 4398046511093))) (.con (.int 128)))) (.var 1)))
  .nil)))))⟩
def f5 : Def := ⟨"_law_pick", 2, ["_law_dice_here", "_law_items"], false,
  (.cons (.ret (.idx (.var 1) (.call 4 (.cons (.var 0) (.cons (.b1 .len (.var 1)) .nil)))))
  .nil)⟩
def f6 : Def := ⟨"_law_some", 3, ["_law_dice_here", "_law_items", "_law_many", "_law_turn", "_law_left", "_law_found"], false,
  (.cons (.par [4, 5] (.cons (.lm true (.blt .list (.var 1))) (.cons (.lm true (.disp .nil)) .nil)))
  (.cons (.forr (.rng1 (.b2 .min (.var 2) (.b1 .len (.var 4)))) (.name 3) (.cons (.expr (.app (.var 5) (.pop1 (.var 4) (.call 4 (.cons (.var 0) (.cons (.b1 .len (.var 4)) .nil))))))
  .nil))
  (.cons (.ret (.var 5))
  .nil)))⟩
def f7 : Def := ⟨"_law_words", 2, ["_law_dice_here", "_law_many", "_law_letter", "_law_found", "_law_letters", "_law_more", "_law_word", "_law_turn"], false,
  (.cons (.par [3, 4] (.cons (.lm true (.disp .nil)) (.cons (.con (.str "abcdefghijklmnopqrstuvwxyz")) .nil)))
  (.cons (.forr (.seq (.call 6 (.cons (.var 0) (.cons (.var 4) (.cons (.var 1) .nil))))) (.name 2) (.cons (.asg 5 (.call 5 (.cons (.var 0) (.cons (.lm false (.disp (.cons (.con (.int 0)) (.cons (.con (.int 0)) (.cons (.con (.int 0)) (.cons (.con (.int 0)) (.cons (.con (.int 1)) (.cons (.con (.int 2)) (.cons (.con (.int 4)) (.cons (.con (.int 7)) .nil)))))))))) .nil))))
  (.cons (.asg 6 (.bin .Add (.var 2) (.m1 .join (.con (.str "")) (.lm false (.lc (.rng1 (.var 5)) (.name 7) .no (.call 5 (.cons (.var 0) (.cons (.var 4) .nil))))))))
  (.cons (.expr (.app (.var 3) (.ite (.cmp .In (.var 6) (.tup (.cons (.con (.str "do")) (.cons (.con (.str "test")) (.cons (.con (.str "value")) (.cons (.con (.str "fail")) .nil)))))) (.var 2) (.var 6))))
  .nil))))
  (.cons (.ret (.var 3))
  .nil)))⟩
def f8 : Def := ⟨"_law_integers_right", 1, ["_law_dice_here", "_law_most", "_law_near", "_law_number", "_law_odd", "_law_told"], false,
  (.cons (.asg 1 (.bin .Pow (.con (.int 10)) (.con (.int 60))))
  (.cons (.asg 2 (.call 5 (.cons (.var 0) (.cons (.lm false (.disp (.cons (.con (.int 0)) (.cons (.con (.int 1)) (.cons (.con (.int 2)) (.cons (.con (.int 9)) (.cons (.con (.int 10)) (.cons (.bin .Pow (.con (.int 10)) (.con (.int 18))) (.cons (.bin .Pow (.con (.int 2)) (.con (.int 63))) (.cons (.bin .Pow (.con (.int 10)) (.con (.int 59))) (.cons (.bin .Sub (.var 1) (.con (.int 7))) (.cons (.var 1) (.cons (.bin .Mult (.var 1) (.con (.int 10))) .nil))))))))))))) .nil))))
  (.cons (.asg 2 (.bin .Add (.var 2) (.call 4 (.cons (.var 0) (.cons (.con (.int 9)) .nil)))))
  (.cons (.asg 3 (.bin .Mult (.var 2) (.call 5 (.cons (.var 0) (.cons (.lm false (.disp (.cons (.con (.int 1)) (.cons (.neg (.con (.int 1))) .nil)))) .nil)))))
  (.cons (.asg 4 (.call 5 (.cons (.var 0) (.cons (.lm false (.disp (.cons (.con .non) (.cons (.con (.bl true)) (.cons (.con (.bl false)) (.cons (.con (.str "1")) (.cons (.con (.str "")) (.cons (.tup .nil) (.cons (.lm false (.disp .nil)) (.cons .dict0 (.cons (.tup (.cons (.con (.int 1)) .nil)) (.cons (.lm false (.disp (.cons (.con (.int 1)) .nil))) (.cons (.con (.str "a")) (.cons (.var 1) (.cons (.bin .Sub (.con (.int 0)) (.var 1)) .nil))))))))))))))) .nil))))
  (.cons (.asg 5 (.lm false (.disp (.cons (.call 0 (.cons (.var 3) .nil)) (.cons (.call 0 (.cons (.var 4) .nil)) (.cons (.call 0 (.cons (.bin .Sub (.var 1) (.con (.int 1))) .nil)) (.cons (.call 0 (.cons (.bin .Sub (.con (.int 1)) (.var 1)) .nil)) (.cons (.call 0 (.cons (.b1 .str (.var 3)) .nil)) .nil))))))))
  (.cons (.ret (.cmp .Eq (.b1 .repr (.var 5)) (.b1 .repr (.lm false (.disp (.cons (.cmp .Lt (.var 2) (.var 1)) (.cons (.con (.bl false)) (.cons (.con (.bl true)) (.cons (.con (.bl true)) (.cons (.con (.bl false)) .nil))))))))))
  .nil)))))))⟩
def f9 : Def := ⟨"_law_odd_sign", 1, ["_law_dice_here"], false,
  (.cons (.ret (.call 5 (.cons (.var 0) (.cons (.con (.str ⟨#[65, 66, 67, 68, 69, 70, 71, 72, 73, 74, 75, 76, 77, 78, 79, 80, 81, 82, 83, 84, 85, 86, 87, 88, 89, 90, 48, 49, 50, 51, 52, 53, 54, 55, 56, 57, 32, 33, 35, 36, 38, 40, 41, 42, 43, 44, 45, 46, 47, 58, 59, 60, 61, 62, 63, 64, 91, 93, 94, 95, 123, 124, 125, 126, 96, 39, 34, 92, 10]⟩)) .nil))))
  .nil)⟩
def f10 : Def := ⟨"_law_names_right", 1, ["_law_dice_here", "_law_letters", "_law_many", "_law_word", "_law_at", "_law_bad", "_law_due", "_law_told", "_law_near", "_law_odd", "_law_turn"], false,
  (.cons (.asg 1 (.con (.str "abcdefghijklmnopqrstuvwxyz")))
  (.cons (.asg 2 (.call 5 (.cons (.var 0) (.cons (.lm false (.disp (.cons (.con (.int 1)) (.cons (.con (.int 2)) (.cons (.con (.int 3)) (.cons (.con (.int 4)) (.cons (.con (.int 5)) (.cons (.con (.int 6)) (.cons (.con (.int 7)) (.cons (.con (.int 8)) (.cons (.con (.int 9)) (.cons (.con (.int 10)) (.cons (.con (.int 40)) .nil))))))))))))) .nil))))
  (.cons (.asg 3 (.m1 .join (.con (.str "")) (.lm false (.lc (.rng1 (.var 2)) (.name 10) .no (.call 5 (.cons (.var 0) (.cons (.var 1) .nil)))))))
  (.cons (.asg 4 (.call 4 (.cons (.var 0) (.cons (.bin .Add (.b1 .len (.var 3)) (.con (.int 1))) .nil))))
  (.cons (.asg 5 (.bin .Add (.bin .Add (.sli (.var 3) .no (.yes (.var 4))) (.call 9 (.cons (.var 0) .nil))) (.sli (.var 3) (.yes (.bin .Add (.var 4) (.call 4 (.cons (.var 0) (.cons (.con (.int 2)) .nil))))) .no)))
  (.cons (.asg 6 (.bop true (.cons (.cmp .Lt (.var 2) (.con (.int 9))) (.cons (.cmp .NotIn (.var 3) (.tup (.cons (.con (.str "do")) (.cons (.con (.str "test")) (.cons (.con (.str "value")) (.cons (.con (.str "fail")) .nil)))))) .nil))))
  (.cons (.asg 7 (.lm false (.disp (.cons (.call 1 (.cons (.var 3) .nil)) (.cons (.call 1 (.cons (.var 5) .nil)) (.cons (.call 2 (.cons (.tup (.cons (.var 3) .nil)) .nil)) (.cons (.call 2 (.cons (.tup (.cons (.var 5) .nil)) .nil)) (.cons (.call 2 (.cons (.tup (.cons (.con (.str "a")) (.cons (.var 5) .nil))) .nil)) .nil))))))))
  (.cons (.ife (.cmp .NotEq (.b1 .repr (.var 7)) (.b1 .repr (.lm false (.disp (.cons (.var 6) (.cons (.con (.bl false)) (.cons (.var 6) (.cons (.con (.bl false)) (.cons (.con (.bl false)) .nil))))))))) (.cons (.ret (.con (.bl false)))
  .nil) .nil)
  (.cons (.asg 8 (.call 5 (.cons (.var 0) (.cons (.lm false (.disp (.cons (.con (.str "dos")) (.cons (.con (.str "tests")) (.cons (.con (.str "values")) (.cons (.con (.str "fails")) (.cons (.con (.str "d")) (.cons (.con (.str "tes")) (.cons (.con (.str "od")) (.cons (.con (.str "falue")) (.cons (.con (.str "lazy")) (.cons (.con (.str "strict")) (.cons (.con (.str "use")) .nil))))))))))))) .nil))))
  (.cons (.asg 8 (.call 5 (.cons (.var 0) (.cons (.lm false (.disp (.cons (.var 8) (.cons (.var 8) (.cons (.con (.str "call")) (.cons (.con (.str "zzzzzzzz")) (.cons (.con (.str "testdo")) (.cons (.con (.str "doo")) .nil)))))))) .nil))))
  (.cons (.asg 9 (.call 5 (.cons (.var 0) (.cons (.lm false (.disp (.cons (.con (.str "do")) (.cons (.con (.str "test")) (.cons (.con (.str "value")) (.cons (.con (.str "fail")) (.cons (.con (.str "")) (.cons (.con (.str "zzzzzzzzz")) (.cons (.con .non) (.cons (.con (.int 0)) (.cons (.con (.bl true)) (.cons (.tup .nil) (.cons (.tup (.cons (.con (.str "a")) .nil)) (.cons (.lm false (.disp (.cons (.con (.str "a")) .nil))) (.cons .dict0 (.cons (.con (.int 7)) .nil)))))))))))))))) .nil))))
  (.cons (.asg 7 (.lm false (.disp (.cons (.call 1 (.cons (.var 8) .nil)) (.cons (.call 1 (.cons (.var 9) .nil)) (.cons (.call 2 (.cons (.tup (.cons (.var 8) (.cons (.var 9) .nil))) .nil)) (.cons (.call 2 (.cons (.tup (.cons (.var 9) (.cons (.var 8) .nil))) .nil)) (.cons (.call 2 (.cons (.tup (.cons (.var 9) .nil)) .nil)) .nil))))))))
  (.cons (.ret (.cmp .Eq (.b1 .repr (.var 7)) (.b1 .repr (.lm false (.disp (.cons (.con (.bl true)) (.cons (.con (.bl false)) (.cons (.con (.bl false)) (.cons (.con (.bl false)) (.cons (.con (.bl false)) .nil))))))))))
  .nil)))))))))))))⟩
def f11 : Def := ⟨"_law_tuples_right", 1, ["_law_dice_here", "_law_words_here", "_law_many", "_law_told", "_law_row", "_law_odd", "_law_nested", "_law_turn"], false,
  (.cons (.asg 1 (.call 7 (.cons (.var 0) (.cons (.con (.int 5)) .nil))))
  (.cons (.asg 2 (.call 4 (.cons (.var 0) (.cons (.con (.int 6)) .nil))))
  (.cons (.asg 3 (.lm false (.disp (.cons (.call 2 (.cons (.b1 .tuple (.sli (.var 1) .no (.yes (.var 2)))) .nil)) (.cons (.call 2 (.cons (.sli (.var 1) .no (.yes (.var 2))) .nil)) (.cons (.call 1 (.cons (.b1 .tuple (.sli (.var 1) .no (.yes (.var 2)))) .nil)) (.cons (.call 2 (.cons (.tup .nil) .nil)) .nil)))))))
  (.cons (.ife (.cmp .NotEq (.b1 .repr (.var 3)) (.b1 .repr (.lm false (.disp (.cons (.cmp .Lt (.var 2) (.con (.int 4))) (.cons (.con (.bl false)) (.cons (.con (.bl false)) (.cons (.con (.bl true)) .nil)))))))) (.cons (.ret (.con (.bl false)))
  .nil) .nil)
  (.cons (.asg 4 (.lm false (.lc (.rng1 (.bin .Add (.con (.int 1)) (.call 4 (.cons (.var 0) (.cons (.con (.int 3)) .nil))))) (.name 7) .no (.call 5 (.cons (.var 0) (.cons (.sli (.var 1) .no (.yes (.con (.int 3)))) .nil))))))
  (.cons (.ife (.cmp .NotEq (.b1 .repr (.call 2 (.cons (.b1 .tuple (.var 4)) .nil))) (.b1 .repr (.cmp .Eq (.b1 .len (.lm false (.blt .sset (.var 4)))) (.b1 .len (.var 4))))) (.cons (.ret (.con (.bl false)))
  .nil) .nil)
  (.cons (.asg 5 (.call 5 (.cons (.var 0) (.cons (.lm false (.disp (.cons (.con .non) (.cons (.con (.int 0)) (.cons (.con (.bl true)) (.cons (.con (.str "")) (.cons (.con (.str "int")) (.cons (.idx (.var 1) (.con (.int 0))) (.cons .dict0 (.cons (.lm false (.disp .nil)) (.cons (.lm false (.disp (.cons (.b1 .tuple (.var 1)) .nil))) (.cons (.b1 .dict (.lm false (.disp (.cons (.tup (.cons (.idx (.var 1) (.con (.int 0))) (.cons (.con (.int 1)) .nil))) .nil)))) .nil)))))))))))) .nil))))
  (.cons (.asg 6 (.call 5 (.cons (.var 0) (.cons (.lm false (.disp (.cons (.tup (.cons (.b1 .tuple (.var 1)) .nil)) (.cons (.tup (.cons (.var 1) .nil)) (.cons (.tup (.cons (.idx (.var 1) (.con (.int 0))) (.cons (.tup .nil) .nil))) (.cons (.tup (.cons (.idx (.var 1) (.con (.int 0))) (.cons (.con .non) .nil))) (.cons (.tup (.cons (.con (.int 0)) .nil)) (.cons (.tup (.cons (.con (.bl true)) .nil)) (.cons (.tup (.cons (.lm false (.disp .nil)) .nil)) (.cons (.tup (.cons .dict0 .nil)) .nil)))))))))) .nil))))
  (.cons (.asg 3 (.lm false (.disp (.cons (.call 2 (.cons (.var 5) .nil)) (.cons (.call 2 (.cons (.var 6) .nil)) (.cons (.call 1 (.cons (.idx (.var 1) (.con (.int 0))) .nil)) (.cons (.bop true (.cons (.call 1 (.cons (.var 5) .nil)) (.cons (.cmp .NotIn (.var 5) (.tup (.cons (.con (.str "int")) (.cons (.idx (.var 1) (.con (.int 0))) .nil)))) .nil))) .nil)))))))
  (.cons (.ret (.cmp .Eq (.b1 .repr (.var 3)) (.b1 .repr (.lm false (.disp (.cons (.con (.bl false)) (.cons (.con (.bl false)) (.cons (.con (.bl true)) (.cons (.con (.bl false)) .nil)))))))))
  .nil))))))))))⟩
def f12 : Def := ⟨"law", 1, ["_law_script", "_law_spot", "_law_told", "_law_good", "_law_bad", "_law_dice_here", "_law_word", "_law_number"], false,
  (.cons (.forr (.rng1 (.b2 .max (.con (.int 1)) (.b2 .min (.con (.int 8)) (.b1 .len (.var 0))))) (.name 1) (.cons (.asg 5 (.call 3 (.cons (.var 0) (.cons (.var 1) .nil))))
  (.cons (.ife (.bop false (.cons (.not (.call 8 (.cons (.var 5) .nil))) (.cons (.not (.call 10 (.cons (.var 5) .nil))) (.cons (.not (.call 10 (.cons (.var 5) .nil))) .nil)))) (.cons (.ret (.con (.bl false)))
  .nil) .nil)
  (.cons (.ife (.not (.call 11 (.cons (.var 5) .nil))) (.cons (.ret (.con (.bl false)))
  .nil) .nil)
  .nil))))
  (.cons (.asg 2 (.lm false (.disp (.cons (.call 0 (.cons (.con (.bl true)) .nil)) (.cons (.call 0 (.cons (.bin .Pow (.con (.int 10)) (.con (.int 60))) .nil)) (.cons (.call 0 (.cons (.bin .Sub (.bin .Pow (.con (.int 10)) (.con (.int 60))) (.con (.int 1))) .nil)) (.cons (.call 0 (.cons (.neg (.bin .Pow (.con (.int 10)) (.con (.int 60)))) .nil)) (.cons (.call 1 (.cons (.con (.str "a1")) .nil)) .nil))))))))
  (.cons (.asg 2 (.bin .Add (.var 2) (.lm false (.disp (.cons (.call 1 (.cons (.con (.str "a b")) .nil)) (.cons (.call 1 (.cons (.con (.str "lazy")) .nil)) (.cons (.call 2 (.cons (.tup (.cons (.con (.str "a")) (.cons (.con (.str "a")) .nil))) .nil)) (.cons (.call 2 (.cons (.tup (.cons (.con (.str "a")) (.cons (.con (.str "b")) (.cons (.con (.str "c")) .nil)))) .nil)) .nil))))))))
  (.cons (.ife (.cmp .NotEq (.b1 .repr (.var 2)) (.b1 .repr (.lm false (.disp (.cons (.con (.bl false)) (.cons (.con (.bl false)) (.cons (.con (.bl true)) (.cons (.con (.bl false)) (.cons (.con (.bl false)) (.cons (.con (.bl false)) (.cons (.con (.bl true)) (.cons (.con (.bl false)) (.cons (.con (.bl true)) .nil))))))))))))) (.cons (.ret (.con (.bl false)))
  .nil) .nil)
  (.cons (.asg 3 (.lm false (.disp (.cons (.con (.str "none")) (.cons (.con (.str "done")) (.cons (.con (.str "dead")) (.cons (.con (.str "what")) (.cons (.con (.str "yes")) (.cons (.con (.str "no")) (.cons (.con (.str "and")) (.cons (.con (.str "or")) (.cons (.con (.str "never")) (.cons (.con (.str "kept")) (.cons (.con (.str "list")) (.cons (.con (.str "if")) (.cons (.con (.str "undo")) (.cons (.con (.str "fails")) .nil)))))))))))))))))
  (.cons (.ife (.cmp .NotEq (.lm false (.lc (.seq (.var 3)) (.name 6) (.yes (.bop false (.cons (.cmp .IsNot (.call 1 (.cons (.var 6) .nil)) (.con (.bl true))) (.cons (.cmp .IsNot (.call 2 (.cons (.tup (.cons (.var 6) (.cons (.con (.str "q")) .nil))) .nil)) (.con (.bl true))) .nil)))) (.var 6))) (.lm false (.disp .nil))) (.cons (.ret (.con (.bl false)))
  .nil) .nil)
  (.cons (.asg 4 (.lm false (.disp (.cons (.con (.str ⟨#[110, 10]⟩)) (.cons (.con (.str ⟨#[10, 110]⟩)) (.cons (.con (.str "n ")) (.cons (.con (.str " n")) (.cons (.con (.str ⟨#[97, 45, 98]⟩)) (.cons (.con (.str "a_b")) (.cons (.con (.str ⟨#[45]⟩)) .nil))))))))))
  (.cons (.ife (.cmp .NotEq (.lm false (.lc (.seq (.var 4)) (.name 6) (.yes (.bop false (.cons (.cmp .IsNot (.call 1 (.cons (.var 6) .nil)) (.con (.bl false))) (.cons (.cmp .IsNot (.call 2 (.cons (.tup (.cons (.var 6) .nil)) .nil)) (.con (.bl false))) .nil)))) (.var 6))) (.lm false (.disp .nil))) (.cons (.ret (.con (.bl false)))
  .nil) .nil)
  (.cons (.ife (.cmp .NotEq (.lm false (.lc (.seq (.tup (.cons (.bin .Mult (.bin .Pow (.con (.int 10)) (.con (.int 60))) (.bin .Pow (.con (.int 10)) (.con (.int 39)))) (.cons (.bin .Mult (.neg (.bin .Pow (.con (.int 10)) (.con (.int 60)))) (.bin .Pow (.con (.int 10)) (.con (.int 39)))) .nil)))) (.name 7) (.yes (.call 0 (.cons (.var 7) .nil))) (.var 7))) (.lm false (.disp .nil))) (.cons (.ret (.con (.bl false)))
  .nil) .nil)
  (.cons (.ret (.cmp .Eq (.b1 .repr (.lm false (.disp (.cons (.glob "MAX_LETTERS" 0) (.cons (.glob "KEYWORDS" 2) .nil))))) (.b1 .repr (.lm false (.disp (.cons (.con (.int 8)) (.cons (.tup (.cons (.con (.str "do")) (.cons (.con (.str "fail")) (.cons (.con (.str "test")) (.cons (.con (.str "value")) .nil))))) .nil)))))))
  .nil))))))))))⟩
def fs : List Def := [f0, f1, f2, f3, f4, f5, f6, f7, f8, f9, f10, f11, f12]
def tab : Tab := ⟨["abs", "all", "bool", "dict", "int", "isinstance", "len", "list", "max", "min", "range", "repr", "set", "sorted", "str", "tuple"], [("MAX_LETTERS", 0), ("MAX_NAMES", 1), ("KEYWORDS", 2)], [(.int 8), (.int 3), (.tup [(.str "do"), (.str "fail"), (.str "test"), (.str "value")])], [⟨"is_integer", 1⟩, ⟨"is_name", 1⟩, ⟨"is_names", 1⟩, ⟨"_law_dice", 2⟩, ⟨"_law_roll", 2⟩, ⟨"_law_pick", 2⟩, ⟨"_law_some", 3⟩, ⟨"_law_words", 2⟩, ⟨"_law_integers_right", 1⟩, ⟨"_law_odd_sign", 1⟩, ⟨"_law_names_right", 1⟩, ⟨"_law_tuples_right", 1⟩, ⟨"law", 1⟩]⟩
-- places: is_integer 4, is_name 5, is_names 6, _law_dice 8, _law_roll 9, _law_pick 10, _law_some 11, _law_words 12, _law_integers_right 13, _law_odd_sign 14, _law_names_right 15, _law_tuples_right 16, law 17
end LK
set_option maxRecDepth 100000
set_option maxHeartbeats 4000000
namespace LK
open PySem L2 AW
def top (i : Nat) : Stmt := PySem.Challenge.pw_askwords_k01_integers_and_names.main.body.getD i (.Pass ⟨0, 0, 0, 0⟩)
theorem sc0 : scopeB f0.N f0.np (defScope (top 4)) = true := by decide +kernel
theorem ck0 : chkSs f0.N tab f0.body (defScope (top 4)) (defBody (top 4)) = true := by decide +kernel
theorem sc1 : scopeB f1.N f1.np (defScope (top 5)) = true := by decide +kernel
theorem ck1 : chkSs f1.N tab f1.body (defScope (top 5)) (defBody (top 5)) = true := by decide +kernel
theorem sc2 : scopeB f2.N f2.np (defScope (top 6)) = true := by decide +kernel
theorem ck2 : chkSs f2.N tab f2.body (defScope (top 6)) (defBody (top 6)) = true := by decide +kernel
theorem sc3 : scopeB f3.N f3.np (defScope (top 8)) = true := by decide +kernel
theorem ck3 : chkSs f3.N tab f3.body (defScope (top 8)) (defBody (top 8)) = true := by decide +kernel
theorem sc4 : scopeB f4.N f4.np (defScope (top 9)) = true := by decide +kernel
theorem ck4 : chkSs f4.N tab f4.body (defScope (top 9)) (defBody (top 9)) = true := by decide +kernel
theorem sc5 : scopeB f5.N f5.np (defScope (top 10)) = true := by decide +kernel
theorem ck5 : chkSs f5.N tab f5.body (defScope (top 10)) (defBody (top 10)) = true := by decide +kernel
theorem sc6 : scopeB f6.N f6.np (defScope (top 11)) = true := by decide +kernel
theorem ck6 : chkSs f6.N tab f6.body (defScope (top 11)) (defBody (top 11)) = true := by decide +kernel
theorem sc7 : scopeB f7.N f7.np (defScope (top 12)) = true := by decide +kernel
theorem ck7 : chkSs f7.N tab f7.body (defScope (top 12)) (defBody (top 12)) = true := by decide +kernel
theorem sc8 : scopeB f8.N f8.np (defScope (top 13)) = true := by decide +kernel
theorem ck8 : chkSs f8.N tab f8.body (defScope (top 13)) (defBody (top 13)) = true := by decide +kernel
theorem sc9 : scopeB f9.N f9.np (defScope (top 14)) = true := by decide +kernel
theorem ck9 : chkSs f9.N tab f9.body (defScope (top 14)) (defBody (top 14)) = true := by decide +kernel
theorem sc10 : scopeB f10.N f10.np (defScope (top 15)) = true := by decide +kernel
theorem ck10 : chkSs f10.N tab f10.body (defScope (top 15)) (defBody (top 15)) = true := by decide +kernel
theorem sc11 : scopeB f11.N f11.np (defScope (top 16)) = true := by decide +kernel
theorem ck11 : chkSs f11.N tab f11.body (defScope (top 16)) (defBody (top 16)) = true := by decide +kernel
theorem sc12 : scopeB f12.N f12.np (defScope (top 17)) = true := by decide +kernel
theorem ck12 : chkSs f12.N tab f12.body (defScope (top 17)) (defBody (top 17)) = true := by decide +kernel
end LK
set_option maxRecDepth 100000
set_option maxHeartbeats 0
namespace LK
open PySem PySem.Spec PyProof.Rows L2 AW
def fn : List He.DefD := [mkD f0 (top 4), mkD f1 (top 5), mkD f2 (top 6), mkD f3 (top 8), mkD f4 (top 9), mkD f5 (top 10), mkD f6 (top 11), mkD f7 (top 12), mkD f8 (top 13), mkD f9 (top 14), mkD f10 (top 15), mkD f11 (top 16), mkD f12 (top 17)]
abbrev hk : PySem.W.Hook := hkOf tab fn
def ob (s : PySem.W.SharedT) : He.AlX := He.obsX 4 (faOf tab) fn [] [] (gB tab) (HandSHeadRun.getT s)
theorem ob_eq (s : PySem.W.SharedT) : ob s = hk.obs s.abs := He.obsX_eq (HandSHeadRun.getT_eq s)
def loose : List Str := ["MAX_LETTERS", "MAX_NAMES", "KEYWORDS", "is_integer", "is_name", "is_names", "_law_dice", "_law_roll", "_law_pick", "_law_some", "_law_words", "_law_integers_right", "_law_odd_sign", "_law_names_right", "_law_tuples_right"]
theorem runs (w : World) : HandSHeadRun.RunEq (PySem.W.OpenLaw.row PySem.Challenge.rw_askwords_k01_integers_and_names) (PySem.W.view (PySem.W.OpenLaw.row PySem.Challenge.rw_askwords_k01_integers_and_names).prog [17]) hk ob 4000 loose w := by
  intro os
  kernel_rfl
theorem tok {w : World} {h : Heap} {K : Frag} {mg : Str → Option Value} (X : K.In h) (G : h.Ns mainGlobals mg) (c : He.SaysX (faOf tab) fn [] [] (gB tab) w h K) : TOk K mg tab fs := by
  obtain ⟨fd0, F0⟩ := fun_of c 0 (f := f0) (st := top 4) rfl
  obtain ⟨fd1, F1⟩ := fun_of c 1 (f := f1) (st := top 5) rfl
  obtain ⟨fd2, F2⟩ := fun_of c 2 (f := f2) (st := top 6) rfl
  obtain ⟨fd3, F3⟩ := fun_of c 3 (f := f3) (st := top 8) rfl
  obtain ⟨fd4, F4⟩ := fun_of c 4 (f := f4) (st := top 9) rfl
  obtain ⟨fd5, F5⟩ := fun_of c 5 (f := f5) (st := top 10) rfl
  obtain ⟨fd6, F6⟩ := fun_of c 6 (f := f6) (st := top 11) rfl
  obtain ⟨fd7, F7⟩ := fun_of c 7 (f := f7) (st := top 12) rfl
  obtain ⟨fd8, F8⟩ := fun_of c 8 (f := f8) (st := top 13) rfl
  obtain ⟨fd9, F9⟩ := fun_of c 9 (f := f9) (st := top 14) rfl
  obtain ⟨fd10, F10⟩ := fun_of c 10 (f := f10) (st := top 15) rfl
  obtain ⟨fd11, F11⟩ := fun_of c 11 (f := f11) (st := top 16) rfl
  obtain ⟨fd12, F12⟩ := fun_of c 12 (f := f12) (st := top 17) rfl
  refine ⟨free_of X G c, gB_ok X G c.more, rfl, ?d0, ?d1, ?d2, ?d3, ?d4, ?d5, ?d6, ?d7, ?d8, ?d9, ?d10, ?d11, ?d12, trivial⟩
  case d0 => exact ⟨_, fd0, _, _, _, _, glo_of X G c 0 rfl, F0, F0.bindsN (ps := f0.N.take f0.np) (fun _ _ _ _ _ _ us hl => match us, hl with | [_], _ => rfl), sc0, ck0⟩
  case d1 => exact ⟨_, fd1, _, _, _, _, glo_of X G c 1 rfl, F1, F1.bindsN (ps := f1.N.take f1.np) (fun _ _ _ _ _ _ us hl => match us, hl with | [_], _ => rfl), sc1, ck1⟩
  case d2 => exact ⟨_, fd2, _, _, _, _, glo_of X G c 2 rfl, F2, F2.bindsN (ps := f2.N.take f2.np) (fun _ _ _ _ _ _ us hl => match us, hl with | [_], _ => rfl), sc2, ck2⟩
  case d3 => exact ⟨_, fd3, _, _, _, _, glo_of X G c 3 rfl, F3, F3.bindsN (ps := f3.N.take f3.np) (fun _ _ _ _ _ _ us hl => match us, hl with | [_, _], _ => rfl), sc3, ck3⟩
  case d4 => exact ⟨_, fd4, _, _, _, _, glo_of X G c 4 rfl, F4, F4.bindsN (ps := f4.N.take f4.np) (fun _ _ _ _ _ _ us hl => match us, hl with | [_, _], _ => rfl), sc4, ck4⟩
  case d5 => exact ⟨_, fd5, _, _, _, _, glo_of X G c 5 rfl, F5, F5.bindsN (ps := f5.N.take f5.np) (fun _ _ _ _ _ _ us hl => match us, hl with | [_, _], _ => rfl), sc5, ck5⟩
  case d6 => exact ⟨_, fd6, _, _, _, _, glo_of X G c 6 rfl, F6, F6.bindsN (ps := f6.N.take f6.np) (fun _ _ _ _ _ _ us hl => match us, hl with | [_, _, _], _ => rfl), sc6, ck6⟩
  case d7 => exact ⟨_, fd7, _, _, _, _, glo_of X G c 7 rfl, F7, F7.bindsN (ps := f7.N.take f7.np) (fun _ _ _ _ _ _ us hl => match us, hl with | [_, _], _ => rfl), sc7, ck7⟩
  case d8 => exact ⟨_, fd8, _, _, _, _, glo_of X G c 8 rfl, F8, F8.bindsN (ps := f8.N.take f8.np) (fun _ _ _ _ _ _ us hl => match us, hl with | [_], _ => rfl), sc8, ck8⟩
  case d9 => exact ⟨_, fd9, _, _, _, _, glo_of X G c 9 rfl, F9, F9.bindsN (ps := f9.N.take f9.np) (fun _ _ _ _ _ _ us hl => match us, hl with | [_], _ => rfl), sc9, ck9⟩
  case d10 => exact ⟨_, fd10, _, _, _, _, glo_of X G c 10 rfl, F10, F10.bindsN (ps := f10.N.take f10.np) (fun _ _ _ _ _ _ us hl => match us, hl with | [_], _ => rfl), sc10, ck10⟩
  case d11 => exact ⟨_, fd11, _, _, _, _, glo_of X G c 11 rfl, F11, F11.bindsN (ps := f11.N.take f11.np) (fun _ _ _ _ _ _ us hl => match us, hl with | [_], _ => rfl), sc11, ck11⟩
  case d12 => exact ⟨_, fd12, _, _, _, _, glo_of X G c 12 rfl, F12, F12.bindsN (ps := f12.N.take f12.np) (fun _ _ _ _ _ _ us hl => match us, hl with | [_], _ => rfl), sc12, ck12⟩
def Good : Prop := ∀ ns : List Int, ns.length ≤ 63 → ∃ m', run tab.gvals fs 100 8 12 [.d (.lst (ns.map D.int))] [] = .ok (.d (.bl true)) m'
theorem hold (good : Good) : PySem.Challenge.rw_askwords_k01_integers_and_names.Holds := by
  w_on; o_law
  refine HandSHeadRun.head_any (r := (PySem.W.OpenLaw.row PySem.Challenge.rw_askwords_k01_integers_and_names)) (q := PySem.W.view (PySem.W.OpenLaw.row PySem.Challenge.rw_askwords_k01_integers_and_names).prog [17]) (H := hk) (ob := ob) (M := 4000) (loose := loose) (d := HandSHeadRun.topDef (PySem.W.OpenLaw.row PySem.Challenge.rw_askwords_k01_integers_and_names).prog 17) (kwd := []) ob_eq
    (by kernel_rfl) (fun s => by kernel_rfl) runs (by kernel_rfl) (by kernel_rfl) (by kernel_rfl) (by rfl) (by first | assumption | decide +kernel) (by decide +kernel) ⟨rfl, rfl, rfl, rfl, rfl, by decide +kernel⟩ ?hw ?hc
  case hw => w_witness2
  case hc =>
    refine walk_G (l := PySem.Challenge.rw_askwords_k01_integers_and_names) (n := 63) (k := 8) (x := f12.N.headD "") (CX := L2.CX0) rfl (by decide) (by kernel_rfl) ⟨rfl, by decide, by decide⟩ ?F (fun _ _ _ _ z => z)
    intro w mg fa h Y G hmg0
    obtain ⟨K, KX, c⟩ := Y
    have hmg : mg f12.name = some (.ref fa) := by
      have e : (HandSHeadRun.topDef (PySem.W.OpenLaw.row PySem.Challenge.rw_askwords_k01_integers_and_names).prog 17).name = f12.name := by kernel_rfl
      rw [← e]
      exact hmg0
    have O := tok KX G c
    obtain ⟨fd, F⟩ := fun_of c 12 (f := f12) (st := top 17) rfl
    have hga := glo_of KX G c 12 (f := ⟨f12.name, f12.np⟩) rfl
    have e := hmg.symm.trans hga
    cases e
    have b := FunD.bindsA (ps := [f12.N.headD ""]) F fun _ _ _ _ _ _ us hl => match us, hl with | [_], _ => rfl
    refine ⟨K, fd, spD K Wn 1 (run tab.gvals fs 100 8 12), KX, fun s v => b s [v] rfl, fun H a ns hl hS => law_sp hS (good ns hl), fun base kb nb => ?_⟩
    obtain ⟨fa', fd', h1, h2, h3, h4, _, _, _, _, F'⟩ := fn_all (P := (PySem.Challenge.rw_askwords_k01_integers_and_names).prog) (w := w) (base := base) prims (fuel := 100) O 8 12 f12 rfl
    have e := h1.symm.trans hga
    cases e
    cases fun_same F F'
    exact h4
end LK
set_option maxRecDepth 100000
set_option maxHeartbeats 4000000
namespace LK
open PySem AW
abbrev R (k : Nat) : Fns := run tab.gvals fs 100 k
theorem cLt (i j : Int) : cmpD .Lt (.int i) (.int j) = some (decide (i < j)) := rfl
theorem cLe (i j : Int) : cmpD .LtE (.int i) (.int j) = some (decide (i ≤ j)) := rfl
theorem cGt (i j : Int) : cmpD .Gt (.int i) (.int j) = some (decide (j < i)) := rfl
theorem cGe (i j : Int) : cmpD .GtE (.int i) (.int j) = some (decide (j ≤ i)) := rfl
def M : Int := 10 ^ 60
theorem hM : M = 1000000000000000000000000000000000000000000000000000000000000 := by kernel_rfl
theorem pw60 : binD .Pow (.int 10) (.int 60) = some (.int M) := by kernel_rfl
def isInt : D → Bool
  | .int i => decide ((if i < 0 then -i else i) < M)
  | _ => false
theorem r0 (k : Nat) (d : D) (m : Store) : R (k + 1) 0 [.d d] m = .ok (.d (.bl (isInt d))) m := by
  show AW.finish false m (execSs tab.gvals (R k) 100 f0.body [some (.d d)] m) = _
  have p := pw60
  cases d <;> simp [f0, AW.execSs, AW.execS, AW.exSeq, AW.exIf, AW.exNext, AW.exRet, AW.exAsg, AW.exDrop, AW.exSetIx, AW.evT, AW.evalE, AW.evalB, AW.evalEs, AW.evalO, AW.evalC, AW.evalL, AW.evalIt, AW.evOr, AW.evAnd, AW.evNot, AW.evIte, AW.evTup, AW.evLm, AW.evDisp, AW.evCall, AW.evCons, AW.evNil, AW.evNoPart, AW.evPart, AW.evYes, AW.evSli, AW.ixV, AW.ev1, AW.ev2, AW.evVar, AW.evCon, AW.peek, AW.truV, AW.truD, AW.isiD, AW.cmpV, LK.cLt, LK.cLe, LK.cGt, LK.cGe, AW.b1D, AW.finish, AW.retV, AW.Val.data, AW.Val.datas, AW.allocL, p, isInt]
def kws : List Str := ["do", "fail", "test", "value"]
def low (c : Nat) : Bool := decide (97 ≤ c) && decide (c ≤ 122)
def nameS (s : Str) : Bool := decide (1 ≤ s.length) && decide (s.length ≤ 8) && !decide (s ∈ kws) && s.cps.toList.all low
def isName : D → Bool
  | .str s => nameS s
  | _ => false
def okS : D → Prop
  | .str s => s.length ≤ 10000
  | _ => True
theorem goLc_map {f : D → Store → Out (Option D)} {g : D → D} {m : Store} : ∀ (ds acc : List D), (∀ d ∈ ds, f d m = .ok (some (g d)) m) → acc.length + ds.length ≤ sizeLine → goLc f ds acc m = .ok (acc ++ ds.map g) m
  | [], acc, _, _ => by simp [goLc]
  | d :: ds, acc, h, hl => by
    rw [List.length_cons] at hl
    unfold goLc
    rw [h d List.mem_cons_self]
    show (if acc.length < sizeLine then goLc f ds (acc ++ [g d]) m else .bad) = _
    rw [if_pos (by omega), goLc_map ds _ (fun e he => h e (List.mem_cons_of_mem _ he)) (by simp; omega)]
    simp
theorem bools_map {α : Type} (p : α → Bool) : ∀ xs : List α, boolsD (xs.map fun x => D.bl (p x)) = some (xs.map p)
  | [] => rfl
  | x :: xs => by simp [boolsD, bools_map p xs]
theorem lex1 (a b : Nat) : (([a] : List Nat) < [b]) ↔ a < b := by
  constructor
  · intro h
    cases h with
    | rel h => exact h
    | cons h => cases h
  · intro h; exact .rel h
theorem cmp_a (c : Nat) : cmpD .LtE (.str "a") (.str ⟨#[c]⟩) = some (decide (97 ≤ c)) := by
  have e : (Str.ofString "a").cps.toList = [97] := by decide
  show some (!decide (([c] : List Nat) < (Str.ofString "a").cps.toList)) = _
  rw [e]
  by_cases h : c < 97
  · rw [decide_eq_true ((lex1 c 97).mpr h), decide_eq_false (by omega : ¬ 97 ≤ c)]; rfl
  · rw [decide_eq_false (fun q => h ((lex1 c 97).mp q)), decide_eq_true (by omega : 97 ≤ c)]; rfl
theorem cmp_z (c : Nat) : cmpD .LtE (.str ⟨#[c]⟩) (.str "z") = some (decide (c ≤ 122)) := by
  have e : (Str.ofString "z").cps.toList = [122] := by decide
  show some (!decide ((Str.ofString "z").cps.toList < ([c] : List Nat))) = _
  rw [e]
  by_cases h : 122 < c
  · rw [decide_eq_true ((lex1 122 c).mpr h), decide_eq_false (by omega : ¬ c ≤ 122)]; rfl
  · rw [decide_eq_false (fun q => h ((lex1 122 c).mp q)), decide_eq_true (by omega : c ≤ 122)]; rfl
theorem chr_low (c : Nat) (d : D) (m : Store) : evChain .LtE .LtE (evCon (.str "a")) (evVar 1) (evCon (.str "z")) [some (.d d), some (.d (.str ⟨#[c]⟩))] m = .ok (.d (.bl (low c))) m := by
  simp only [evChain, evCon, evVar, peek, cmpV, Out.bind_ok, lift_some, List.getElem?_cons_succ, List.getElem?_cons_zero, cmp_a, cmp_z, Option.map_some, low]
  by_cases h : 97 ≤ c
  · simp [h]
  · simp [h]
theorem sl : sizeLine = 16777216 := by decide
theorem any_kws (s : Str) : (([D.str "do", .str "fail", .str "test", .str "value"] : List D).any fun z => eqS z (.str s)) = decide (s ∈ kws) := by
  have e : ∀ x : Str, (x == s) = decide (s = x) := fun x => by
    by_cases h : s = x
    · subst h; simp
    · have : ¬ (x = s) := fun q => h q.symm
      simp [h, this]
  simp [eqS, kws, e]
theorem in_kws (s : Str) : cmpD .In (.str s) (.tup [.str "do", .str "fail", .str "test", .str "value"]) = some (decide (s ∈ kws)) := by
  rw [← any_kws]; rfl
theorem r1 (k : Nat) (d : D) (m : Store) (h : okS d) : R (k + 1) 1 [.d d] m = .ok (.d (.bl (isName d))) m := by
  show AW.finish false m (execSs tab.gvals (R k) 100 f1.body [some (.d d), none] m) = _
  cases d with
  | str s =>
    have h : s.length ≤ 10000 := h
    have hs : small s.length = true := small_of (by omega)
    have hk := in_kws s
    have lc : evLc (itSeq (evVar 0)) (.name 1) evYes (evChain .LtE .LtE (evCon (.str "a")) (evVar 1) (evCon (.str "z"))) [some (.d (.str s)), none] m = .ok ((s.cps.toList.map fun c => D.bl (low c))) m := by
      simp only [evLc, itSeq, evVar, List.getElem?_cons_zero, Out.bind_ok, Val.data, lift_some, seqD, hs, if_true]
      rw [goLc_map (g := fun d => match d with | .str x => .bl (x.cps.toList.all low) | d => d)]
      · simp
      · intro d hd
        obtain ⟨c, _, rfl⟩ := List.mem_map.mp hd
        simp [lcTurn, bindT, evYes, chr_low, Val.data]
      · rw [sl]; simp; exact Nat.le_trans h (by omega)
    by_cases h1 : 1 ≤ s.length
    · have i1 : (1 : Int) ≤ (s.length : Int) := by omega
      by_cases h8 : s.length ≤ 8
      · have i8 : (s.length : Int) ≤ 8 := by omega
        by_cases hkw : s ∈ kws
        · simp [f1, AW.execSs, AW.execS, AW.exSeq, AW.exIf, AW.exNext, AW.exRet, AW.exAsg, AW.exDrop, AW.exSetIx, AW.evT, AW.evalE, AW.evalB, AW.evalEs, AW.evalO, AW.evalC, AW.evalL, AW.evalIt, AW.evOr, AW.evAnd, AW.evNot, AW.evIte, AW.evTup, AW.evLm, AW.evDisp, AW.evCall, AW.evCons, AW.evNil, AW.evNoPart, AW.evPart, AW.evYes, AW.evSli, AW.ixV, AW.ev1, AW.ev2, AW.evVar, AW.evCon, AW.peek, AW.truV, AW.truD, AW.isiD, AW.cmpV, LK.cLt, LK.cLe, LK.cGt, LK.cGe, AW.b1D, AW.finish, AW.retV, AW.Val.data, AW.Val.datas, AW.allocL, evChain, lenD, hs, tab, scalD, hk, i1, i8, hkw, isName, nameS]
        · simp [f1, AW.execSs, AW.execS, AW.exSeq, AW.exIf, AW.exNext, AW.exRet, AW.exAsg, AW.exDrop, AW.exSetIx, AW.evT, AW.evalE, AW.evalB, AW.evalEs, AW.evalO, AW.evalC, AW.evalL, AW.evalIt, AW.evOr, AW.evAnd, AW.evNot, AW.evIte, AW.evTup, AW.evLm, AW.evDisp, AW.evCall, AW.evCons, AW.evNil, AW.evNoPart, AW.evPart, AW.evYes, AW.evSli, AW.ixV, AW.ev1, AW.ev2, AW.evVar, AW.evCon, AW.peek, AW.truV, AW.truD, AW.isiD, AW.cmpV, LK.cLt, LK.cLe, LK.cGt, LK.cGe, AW.b1D, AW.finish, AW.retV, AW.Val.data, AW.Val.datas, AW.allocL, evChain, lenD, hs, tab, scalD, hk, i1, i8, hkw, isName, nameS, lc, bools_map, h1, h8]
      · have i8 : ¬ (s.length : Int) ≤ 8 := by omega
        simp [f1, AW.execSs, AW.execS, AW.exSeq, AW.exIf, AW.exNext, AW.exRet, AW.exAsg, AW.exDrop, AW.exSetIx, AW.evT, AW.evalE, AW.evalB, AW.evalEs, AW.evalO, AW.evalC, AW.evalL, AW.evalIt, AW.evOr, AW.evAnd, AW.evNot, AW.evIte, AW.evTup, AW.evLm, AW.evDisp, AW.evCall, AW.evCons, AW.evNil, AW.evNoPart, AW.evPart, AW.evYes, AW.evSli, AW.ixV, AW.ev1, AW.ev2, AW.evVar, AW.evCon, AW.peek, AW.truV, AW.truD, AW.isiD, AW.cmpV, LK.cLt, LK.cLe, LK.cGt, LK.cGe, AW.b1D, AW.finish, AW.retV, AW.Val.data, AW.Val.datas, AW.allocL, evChain, lenD, hs, tab, scalD, hk, i1, i8, h8, isName, nameS]
    · have i1 : ¬ (1 : Int) ≤ (s.length : Int) := by omega
      simp [f1, AW.execSs, AW.execS, AW.exSeq, AW.exIf, AW.exNext, AW.exRet, AW.exAsg, AW.exDrop, AW.exSetIx, AW.evT, AW.evalE, AW.evalB, AW.evalEs, AW.evalO, AW.evalC, AW.evalL, AW.evalIt, AW.evOr, AW.evAnd, AW.evNot, AW.evIte, AW.evTup, AW.evLm, AW.evDisp, AW.evCall, AW.evCons, AW.evNil, AW.evNoPart, AW.evPart, AW.evYes, AW.evSli, AW.ixV, AW.ev1, AW.ev2, AW.evVar, AW.evCon, AW.peek, AW.truV, AW.truD, AW.isiD, AW.cmpV, LK.cLt, LK.cLe, LK.cGt, LK.cGe, AW.b1D, AW.finish, AW.retV, AW.Val.data, AW.Val.datas, AW.allocL, evChain, lenD, hs, tab, scalD, hk, i1, h1, isName, nameS]
  | _ => simp [f1, AW.execSs, AW.execS, AW.exSeq, AW.exIf, AW.exNext, AW.exRet, AW.exAsg, AW.exDrop, AW.exSetIx, AW.evT, AW.evalE, AW.evalB, AW.evalEs, AW.evalO, AW.evalC, AW.evalL, AW.evalIt, AW.evOr, AW.evAnd, AW.evNot, AW.evIte, AW.evTup, AW.evLm, AW.evDisp, AW.evCall, AW.evCons, AW.evNil, AW.evNoPart, AW.evPart, AW.evYes, AW.evSli, AW.ixV, AW.ev1, AW.ev2, AW.evVar, AW.evCon, AW.peek, AW.truV, AW.truD, AW.isiD, AW.cmpV, LK.cLt, LK.cLe, LK.cGt, LK.cGe, AW.b1D, AW.finish, AW.retV, AW.Val.data, AW.Val.datas, AW.allocL, isName]
end LK
set_option maxRecDepth 100000
set_option maxHeartbeats 4000000
namespace LK
open PySem AW
theorem eqI (i j : Int) : cmpD .Eq (.int i) (.int j) = some (decide (i = j)) := by
  show (if (SeqAt.shaped (.int i) && SeqAt.shaped (.int j)) = true then some (PyData.eqv (.int i) (.int j)) else none) = _
  have e : ∀ i : Int, SeqAt.shaped (.int i) = true := fun i => by rfl
  rw [e, e]
  simp [PyData.eqv]
  rw [Bool.eq_iff_iff]; simp
theorem sh_str {s : Str} (h : PyData.strOk s = true) : SeqAt.shaped (.str s) = true := by
  unfold SeqAt.shaped
  rw [Bool.and_eq_true]
  exact ⟨by simpa [PyData.canLay0] using h, by rfl⟩
theorem eqSelf {s : Str} (h : PyData.strOk s = true) : cmpD .Eq (.str s) (.str s) = some true := by
  show (if (SeqAt.shaped (.str s) && SeqAt.shaped (.str s)) = true then some (PyData.eqv (.str s) (.str s)) else none) = _
  rw [sh_str h]
  simp [PyData.eqv]
theorem neSelf {s : Str} (h : PyData.strOk s = true) : cmpD .NotEq (.str s) (.str s) = some false := by
  show (cmpD .Eq (.str s) (.str s)).map not = _
  rw [eqSelf h]; rfl
def isNames : D → Bool
  | .tup ds => decide (ds.length ≤ 3) && ds.all isName && (match strsD ds with
    | some xs => decide ((dedupS xs).length = xs.length)
    | none => false)
  | _ => false
def okN : D → Prop
  | .tup ds => ∀ d ∈ ds, okS d
  | _ => True
theorem strs_of : ∀ {ds : List D}, ds.all isName = true → ∃ xs, strsD ds = some xs ∧ xs.length = ds.length
  | [], _ => ⟨[], rfl, rfl⟩
  | d :: ds, h => by
    rw [List.all_cons, Bool.and_eq_true] at h
    obtain ⟨xs, e, l⟩ := strs_of h.2
    cases d with
    | str s => exact ⟨s :: xs, by simp [strsD, e], by simp [l]⟩
    | _ => cases h.1
theorem r2 (k : Nat) (d : D) (m : Store) (h : okN d) : R (k + 2) 2 [.d d] m = .ok (.d (.bl (isNames d))) m := by
  show AW.finish false m (execSs tab.gvals (R (k + 1)) 100 f2.body [some (.d d), none] m) = _
  cases d with
  | tup ds =>
    have h : ∀ d ∈ ds, okS d := h
    by_cases h3 : ds.length ≤ 3
    · have i3 : ¬ (3 : Int) < (ds.length : Int) := by omega
      have lc : evLc (itSeq (evVar 0)) (.name 1) evYes (evCall (R (k + 1) 1) (evCons (evVar 1) evNil)) [some (.d (.tup ds)), none] m = .ok (ds.map fun d => D.bl (isName d)) m := by
        simp only [evLc, itSeq, evVar, List.getElem?_cons_zero, Out.bind_ok, Val.data, lift_some, seqD]
        rw [goLc_map (g := fun d => .bl (isName d))]
        · simp
        · intro d hd
          simp [lcTurn, bindT, evYes, evCall, evCons, evVar, evNil, r1 k d m (h d hd), Val.data]
        · rw [sl]; simp; omega
      by_cases ha : ds.all isName = true
      · obtain ⟨xs, ex, el⟩ := strs_of ha
        have hl : xs.length < 64 := by omega
        have hx : ds.length = xs.length := el.symm
        have hb : ((ds.map isName).all id) = true := by rw [List.all_map]; exact ha
        have j3 : ¬ (3 : Int) < (xs.length : Int) := by omega
        have k3 : xs.length ≤ 3 := by omega
        simp [f2, AW.execSs, AW.execS, AW.exSeq, AW.exIf, AW.exNext, AW.exRet, AW.exAsg, AW.exDrop, AW.exSetIx, AW.evT, AW.evalE, AW.evalB, AW.evalEs, AW.evalO, AW.evalC, AW.evalL, AW.evalIt, AW.evOr, AW.evAnd, AW.evNot, AW.evIte, AW.evTup, AW.evLm, AW.evDisp, AW.evCall, AW.evCons, AW.evNil, AW.evNoPart, AW.evPart, AW.evYes, AW.evSli, AW.ixV, AW.ev1, AW.ev2, AW.evVar, AW.evCon, AW.peek, AW.truV, AW.truD, AW.isiD, AW.cmpV, LK.cLt, LK.cLe, LK.cGt, LK.cGe, AW.b1D, AW.finish, AW.retV, AW.Val.data, AW.Val.datas, AW.allocL, lenD, tab, j3, k3, lc, bools_map, hb, ex, hl, eqI, hx, isNames, ha]
        omega
      · have hb : ((ds.map isName).all id) = false := by rw [List.all_map]; simpa using ha
        simp [f2, AW.execSs, AW.execS, AW.exSeq, AW.exIf, AW.exNext, AW.exRet, AW.exAsg, AW.exDrop, AW.exSetIx, AW.evT, AW.evalE, AW.evalB, AW.evalEs, AW.evalO, AW.evalC, AW.evalL, AW.evalIt, AW.evOr, AW.evAnd, AW.evNot, AW.evIte, AW.evTup, AW.evLm, AW.evDisp, AW.evCall, AW.evCons, AW.evNil, AW.evNoPart, AW.evPart, AW.evYes, AW.evSli, AW.ixV, AW.ev1, AW.ev2, AW.evVar, AW.evCon, AW.peek, AW.truV, AW.truD, AW.isiD, AW.cmpV, LK.cLt, LK.cLe, LK.cGt, LK.cGe, AW.b1D, AW.finish, AW.retV, AW.Val.data, AW.Val.datas, AW.allocL, lenD, tab, i3, lc, bools_map, hb, isNames, ha]
    · have i3 : (3 : Int) < (ds.length : Int) := by omega
      simp [f2, AW.execSs, AW.execS, AW.exSeq, AW.exIf, AW.exNext, AW.exRet, AW.exAsg, AW.exDrop, AW.exSetIx, AW.evT, AW.evalE, AW.evalB, AW.evalEs, AW.evalO, AW.evalC, AW.evalL, AW.evalIt, AW.evOr, AW.evAnd, AW.evNot, AW.evIte, AW.evTup, AW.evLm, AW.evDisp, AW.evCall, AW.evCons, AW.evNil, AW.evNoPart, AW.evPart, AW.evYes, AW.evSli, AW.ixV, AW.ev1, AW.ev2, AW.evVar, AW.evCon, AW.peek, AW.truV, AW.truD, AW.isiD, AW.cmpV, LK.cLt, LK.cLe, LK.cGt, LK.cGe, AW.b1D, AW.finish, AW.retV, AW.Val.data, AW.Val.datas, AW.allocL, lenD, tab, i3, isNames, h3]
  | _ => simp [f2, AW.execSs, AW.execS, AW.exSeq, AW.exIf, AW.exNext, AW.exRet, AW.exAsg, AW.exDrop, AW.exSetIx, AW.evT, AW.evalE, AW.evalB, AW.evalEs, AW.evalO, AW.evalC, AW.evalL, AW.evalIt, AW.evOr, AW.evAnd, AW.evNot, AW.evIte, AW.evTup, AW.evLm, AW.evDisp, AW.evCall, AW.evCons, AW.evNil, AW.evNoPart, AW.evPart, AW.evYes, AW.evSli, AW.ixV, AW.ev1, AW.ev2, AW.evVar, AW.evCon, AW.peek, AW.truV, AW.truD, AW.isiD, AW.cmpV, LK.cLt, LK.cLe, LK.cGt, LK.cGe, AW.b1D, AW.finish, AW.retV, AW.Val.data, AW.Val.datas, AW.allocL, isNames]
theorem r4 (k : Nat) : RollS (R (k + 1) 4) := fun m c n h h0 h1 => roll_ok h h0 h1
theorem r5 (k : Nat) : PickS (R (k + 2) 5) := fun m c ds h h0 h1 => pick_ok (r4 k) h h0 h1
theorem r5t (k : Nat) : PickT (R (k + 2) 5) := fun m c s h h0 h1 => pickT_ok (r4 k) h h0 h1
def odd : Str := ⟨#[65, 66, 67, 68, 69, 70, 71, 72, 73, 74, 75, 76, 77, 78, 79, 80, 81, 82, 83, 84, 85, 86, 87, 88, 89, 90, 48, 49, 50, 51, 52, 53, 54, 55, 56, 57, 32, 33, 35, 36, 38, 40, 41, 42, 43, 44, 45, 46, 47, 58, 59, 60, 61, 62, 63, 64, 91, 93, 94, 95, 123, 124, 125, 126, 96, 39, 34, 92, 10]⟩
theorem odd_low : odd.cps.toList.all (fun c => !low c) = true := by decide +kernel
theorem r9 (k : Nat) {m : Store} {c : Nat} (h : HD m c) : ∃ ch m', R (k + 3) 9 [.cell c] m = .ok (.d (.str ⟨#[ch]⟩)) m' ∧ low ch = false ∧ DS m c m' := by
  obtain ⟨ch, m', e, hc, s⟩ := r5t k m c odd h (by decide) (by decide)
  refine ⟨ch, m', ?_, by simpa using List.all_eq_true.mp odd_low ch hc, s⟩
  show AW.finish false m (execSs tab.gvals (R (k + 2)) 100 f9.body [some (.cell c)] m) = _
  have e' : R (k + 2) 5 [.cell c, .d (.str ⟨#[65, 66, 67, 68, 69, 70, 71, 72, 73, 74, 75, 76, 77, 78, 79, 80, 81, 82, 83, 84, 85, 86, 87, 88, 89, 90, 48, 49, 50, 51, 52, 53, 54, 55, 56, 57, 32, 33, 35, 36, 38, 40, 41, 42, 43, 44, 45, 46, 47, 58, 59, 60, 61, 62, 63, 64, 91, 93, 94, 95, 123, 124, 125, 126, 96, 39, 34, 92, 10]⟩)] m = _ := e
  simp [f9, AW.execSs, AW.execS, AW.exSeq, AW.exIf, AW.exNext, AW.exRet, AW.exAsg, AW.exDrop, AW.exSetIx, AW.evT, AW.evalE, AW.evalB, AW.evalEs, AW.evalO, AW.evalC, AW.evalL, AW.evalIt, AW.evOr, AW.evAnd, AW.evNot, AW.evIte, AW.evTup, AW.evLm, AW.evDisp, AW.evCall, AW.evCons, AW.evNil, AW.evNoPart, AW.evPart, AW.evYes, AW.evSli, AW.ixV, AW.ev1, AW.ev2, AW.evVar, AW.evCon, AW.peek, AW.truV, AW.truD, AW.isiD, AW.cmpV, LK.cLt, LK.cLe, LK.cGt, LK.cGe, AW.b1D, AW.finish, AW.retV, AW.Val.data, AW.Val.datas, AW.allocL, e', take_self s.len]
theorem r3 (k : Nat) (m : Store) (ns : List Int) (p : Nat) : ∃ a b : Int, 0 ≤ a ∧ R (k + 1) 3 [.d (.lst (ns.map .int)), .d (.int (p : Int))] m = .ok (.cell m.length) (m ++ [.lst [.int a, .int b, .int 0]]) := dice_ok
end LK
set_option maxRecDepth 100000
set_option maxHeartbeats 4000000
namespace LK
open PySem AW
section
variable {G : List D} {Φ : Fns} {fuel : Nat} {s : S} {ss : Ss} {ρ ρ' : Ev} {m m' m0 : Store} {b : Bool} {r : Out Val}
theorem fin_nx (ρ' : Ev) (m' : Store) (h : execS G Φ fuel s ρ m = .ok (.nx ρ') m') (t : AW.finish b m0 (execSs G Φ fuel ss ρ' m') = r) : AW.finish b m0 (execSs G Φ fuel (.cons s ss) ρ m) = r := by
  rw [← t]
  simp [execSs, exSeq, h]
theorem fin_ret (v : D) (m' : Store) (h : execS G Φ fuel s ρ m = .ok (.ret (.d v)) m') (hl : m'.length = m0.length) : AW.finish b m0 (execSs G Φ fuel (.cons s ss) ρ m) = .ok (.d v) m' := by
  simp [execSs, exSeq, h, AW.finish, retV, take_self hl]
end
theorem isInt_str (s : Str) : isInt (.str s) = false := rfl
theorem isInt_pos {i : Int} (h : 0 ≤ i) : isInt (.int i) = decide (i < M) := by
  show decide ((if i < 0 then -i else i) < M) = _
  rw [if_neg (by omega)]
theorem isInt_neg {i : Int} (h : i ≤ 0) : isInt (.int i) = decide (-i < M) := by
  show decide ((if i < 0 then -i else i) < M) = _
  by_cases z : i = 0
  · subst z; rfl
  · rw [if_pos (by omega)]
theorem pw59 : binD .Pow (.int 10) (.int 59) = some (.int 100000000000000000000000000000000000000000000000000000000000) := by kernel_rfl
theorem pw63 : binD .Pow (.int 2) (.int 63) = some (.int 9223372036854775808) := by kernel_rfl
theorem add_i (i j : Int) : binD .Add (.int i) (.int j) = some (.int (i + j)) := rfl
theorem sub0 : binD .Sub (.int 0) (.int M) = some (.int (-M)) := by rw [← Int.zero_sub]; rfl
theorem sub_i (i j : Int) : binD .Sub (.int i) (.int j) = some (.int (i - j)) := rfl
theorem mul_r {i j : Int} (h1 : -(2 ^ 64) < j) (h2 : j < 2 ^ 64) : binD .Mult (.int i) (.int j) = some (.int (i * j)) := by
  show (if cmul i j then some (D.int (i * j)) else none) = _
  rw [cmul_r h1 h2]; rfl
theorem mul10 (i : Int) : binD .Mult (.int i) (.int 10) = some (.int (i * 10)) := mul_r (by omega) (by omega)
theorem mul1 (i : Int) : binD .Mult (.int i) (.int 1) = some (.int i) := by rw [mul_r (by omega) (by omega), Int.mul_one]
theorem mulm (i : Int) : binD .Mult (.int i) (.int (-1)) = some (.int (-i)) := by
  rw [mul_r (by omega) (by omega)]
  have : i * -1 = -i := by omega
  rw [this]
theorem sm {n : Nat} (h : n ≤ 1000) : small n = true := small_of (by omega)
def la : List D := [.int 0, .int 1, .int 2, .int 9, .int 10, .int 1000000000000000000, .int 9223372036854775808, .int 100000000000000000000000000000000000000000000000000000000000, .int (M - 7), .int M, .int (M * 10)]
theorem la_int {d : D} (h : d ∈ la) : ∃ n : Int, d = .int n ∧ 0 ≤ n ∧ n < 100000000000000000000000000000000000000000000000000000000000000 := by
  have := hM
  unfold la at h
  simp only [List.mem_cons, List.not_mem_nil, or_false] at h
  rcases h with rfl | rfl | rfl | rfl | rfl | rfl | rfl | rfl | rfl | rfl | rfl <;> exact ⟨_, rfl, by omega, by omega⟩
def lb : List D := [.non, .bl true, .bl false, .str "1", .str "", .tup [], .lst [], .dct [] [], .tup [.int 1], .lst [.int 1], .str "a", .int M, .int (-M)]
theorem lb_no {d : D} (h : d ∈ lb) : isInt d = false := by
  have := hM
  unfold lb at h
  simp only [List.mem_cons, List.not_mem_nil, or_false] at h
  rcases h with rfl | rfl | rfl | rfl | rfl | rfl | rfl | rfl | rfl | rfl | rfl | rfl | rfl <;> first | rfl | (rw [isInt_pos (by omega), decide_eq_false_iff_not]; omega) | (rw [isInt_neg (by omega), decide_eq_false_iff_not]; omega)
theorem rp5 (b : Bool) : ∃ s, reprD (.lst [.bl b, .bl false, .bl true, .bl true, .bl false]) = some s ∧ PyData.strOk s = true := by
  cases b
  · exact ⟨"[False, False, True, True, False]", by kernel_rfl, by kernel_rfl⟩
  · exact ⟨"[True, False, True, True, False]", by kernel_rfl, by kernel_rfl⟩
theorem log_lt {i : Int} (h : i.natAbs < 2 ^ 300) : i.natAbs.log2 < 1920 := by
  rcases Nat.eq_zero_or_pos i.natAbs with e | e
  · rw [e]; decide
  · exact Nat.lt_of_lt_of_le ((Nat.log2_lt (by omega)).mpr h) (by omega)
theorem r8 (k : Nat) {m : Store} {c : Nat} (h : HD m c) : ∃ m', R (k + 3) 8 [.cell c] m = .ok (.d (.bl true)) m' ∧ DS m c m' := by
  have hM := hM
  obtain ⟨d2, m2, e2, h2, s2⟩ := r5 k m c la h (by simp [la]) (by simp [la])
  obtain ⟨n, rfl, n0, n1⟩ := la_int h2
  obtain ⟨r, m3, e3, r0', r1', s3⟩ := r4 (k + 1) m2 c 9 (s2.hd h) (by omega) (by omega)
  have s3 := s2.trans s3
  obtain ⟨d4, m4, e4, h4, s4⟩ := r5 k m3 c [.int 1, .int (-1)] (s3.hd h) (by simp) (by simp)
  have s4 := s3.trans s4
  obtain ⟨d5, m5, e5, h5, s5⟩ := r5 k m4 c lb (s4.hd h) (by simp [lb]) (by simp [lb])
  have s5 := s4.trans s5
  have ho := lb_no h5
  refine ⟨m5, ?_, s5⟩
  have g4 : ∃ z : Int, binD .Mult (.int (n + r)) d4 = some (.int z) ∧ isInt (.int z) = decide (n + r < M) ∧ z.natAbs.log2 < 1920 := by
    simp only [List.mem_cons, List.not_mem_nil, or_false] at h4
    rcases h4 with rfl | rfl
    · exact ⟨n + r, mul1 _, isInt_pos (by omega), log_lt (by omega)⟩
    · refine ⟨-(n + r), mulm _, ?_, log_lt (by omega)⟩
      rw [isInt_neg (by omega), Int.neg_neg]
  obtain ⟨z, ez, iz, lz⟩ := g4
  have i1 : isInt (.int (M - 1)) = true := by rw [isInt_pos (by omega), decide_eq_true_eq]; omega
  have i2 : isInt (.int (1 - M)) = true := by rw [isInt_neg (by omega), decide_eq_true_eq]; omega
  have e2' : ∀ mm, R (k + 2) 5 [.cell c, .d (.lst [.int 0, .int 1, .int 2, .int 9, .int 10, .int 1000000000000000000, .int 9223372036854775808, .int 100000000000000000000000000000000000000000000000000000000000, .int (M - 7), .int M, .int (M * 10)])] mm = R (k + 2) 5 [.cell c, .d (.lst la)] mm := fun _ => rfl
  have e5' : ∀ mm, R (k + 2) 5 [.cell c, .d (.lst [.non, .bl true, .bl false, .str "1", .str "", .tup [], .lst [], .dct [] [], .tup [.int 1], .lst [.int 1], .str "a", .int M, .int (-M)])] mm = R (k + 2) 5 [.cell c, .d (.lst lb)] mm := fun _ => rfl
  obtain ⟨t, et, ht⟩ := rp5 (decide (n + r < M))
  show AW.finish false m (execSs tab.gvals (R (k + 2)) 100 f8.body [some (.cell c), none, none, none, none, none] m) = _
  refine fin_nx [some (.cell c), some (.d (.int M)), none, none, none, none] m (by simp [AW.execSs, AW.execS, AW.exSeq, AW.exIf, AW.exNext, AW.exRet, AW.exAsg, AW.exDrop, AW.exSetIx, AW.evT, AW.evalE, AW.evalB, AW.evalEs, AW.evalO, AW.evalC, AW.evalL, AW.evalIt, AW.evOr, AW.evAnd, AW.evNot, AW.evIte, AW.evTup, AW.evLm, AW.evDisp, AW.evCall, AW.evCons, AW.evNil, AW.evNoPart, AW.evPart, AW.evYes, AW.evSli, AW.ixV, AW.ev1, AW.ev2, AW.evVar, AW.evCon, AW.peek, AW.truV, AW.truD, AW.isiD, AW.cmpV, LK.cLt, LK.cLe, LK.cGt, LK.cGe, AW.b1D, AW.finish, AW.retV, AW.Val.data, AW.Val.datas, AW.allocL, pw60]) ?_
  refine fin_nx [some (.cell c), some (.d (.int M)), some (.d (.int n)), none, none, none] m2 (by simp [AW.execSs, AW.execS, AW.exSeq, AW.exIf, AW.exNext, AW.exRet, AW.exAsg, AW.exDrop, AW.exSetIx, AW.evT, AW.evalE, AW.evalB, AW.evalEs, AW.evalO, AW.evalC, AW.evalL, AW.evalIt, AW.evOr, AW.evAnd, AW.evNot, AW.evIte, AW.evTup, AW.evLm, AW.evDisp, AW.evCall, AW.evCons, AW.evNil, AW.evNoPart, AW.evPart, AW.evYes, AW.evSli, AW.ixV, AW.ev1, AW.ev2, AW.evVar, AW.evCon, AW.peek, AW.truV, AW.truD, AW.isiD, AW.cmpV, LK.cLt, LK.cLe, LK.cGt, LK.cGe, AW.b1D, AW.finish, AW.retV, AW.Val.data, AW.Val.datas, AW.allocL, pw18, pw59, pw63, sub_i, mul10, sm, e2', e2]) ?_
  refine fin_nx [some (.cell c), some (.d (.int M)), some (.d (.int (n + r))), none, none, none] m3 (by simp [AW.execSs, AW.execS, AW.exSeq, AW.exIf, AW.exNext, AW.exRet, AW.exAsg, AW.exDrop, AW.exSetIx, AW.evT, AW.evalE, AW.evalB, AW.evalEs, AW.evalO, AW.evalC, AW.evalL, AW.evalIt, AW.evOr, AW.evAnd, AW.evNot, AW.evIte, AW.evTup, AW.evLm, AW.evDisp, AW.evCall, AW.evCons, AW.evNil, AW.evNoPart, AW.evPart, AW.evYes, AW.evSli, AW.ixV, AW.ev1, AW.ev2, AW.evVar, AW.evCon, AW.peek, AW.truV, AW.truD, AW.isiD, AW.cmpV, LK.cLt, LK.cLe, LK.cGt, LK.cGe, AW.b1D, AW.finish, AW.retV, AW.Val.data, AW.Val.datas, AW.allocL, e3, add_i]) ?_
  refine fin_nx [some (.cell c), some (.d (.int M)), some (.d (.int (n + r))), some (.d (.int z)), none, none] m4 (by simp [AW.execSs, AW.execS, AW.exSeq, AW.exIf, AW.exNext, AW.exRet, AW.exAsg, AW.exDrop, AW.exSetIx, AW.evT, AW.evalE, AW.evalB, AW.evalEs, AW.evalO, AW.evalC, AW.evalL, AW.evalIt, AW.evOr, AW.evAnd, AW.evNot, AW.evIte, AW.evTup, AW.evLm, AW.evDisp, AW.evCall, AW.evCons, AW.evNil, AW.evNoPart, AW.evPart, AW.evYes, AW.evSli, AW.ixV, AW.ev1, AW.ev2, AW.evVar, AW.evCon, AW.peek, AW.truV, AW.truD, AW.isiD, AW.cmpV, LK.cLt, LK.cLe, LK.cGt, LK.cGe, AW.b1D, AW.finish, AW.retV, AW.Val.data, AW.Val.datas, AW.allocL, negD, sm, e4, ez]) ?_
  refine fin_nx [some (.cell c), some (.d (.int M)), some (.d (.int (n + r))), some (.d (.int z)), some (.d d5), none] m5 (by simp [AW.execSs, AW.execS, AW.exSeq, AW.exIf, AW.exNext, AW.exRet, AW.exAsg, AW.exDrop, AW.exSetIx, AW.evT, AW.evalE, AW.evalB, AW.evalEs, AW.evalO, AW.evalC, AW.evalL, AW.evalIt, AW.evOr, AW.evAnd, AW.evNot, AW.evIte, AW.evTup, AW.evLm, AW.evDisp, AW.evCall, AW.evCons, AW.evNil, AW.evNoPart, AW.evPart, AW.evYes, AW.evSli, AW.ixV, AW.ev1, AW.ev2, AW.evVar, AW.evCon, AW.peek, AW.truV, AW.truD, AW.isiD, AW.cmpV, LK.cLt, LK.cLe, LK.cGt, LK.cGe, AW.b1D, AW.finish, AW.retV, AW.Val.data, AW.Val.datas, AW.allocL, sub0, sm, e5', e5]) ?_
  refine fin_nx [some (.cell c), some (.d (.int M)), some (.d (.int (n + r))), some (.d (.int z)), some (.d d5), some (.d (.lst [.bl (decide (n + r < M)), .bl false, .bl true, .bl true, .bl false]))] m5 (by simp [AW.execSs, AW.execS, AW.exSeq, AW.exIf, AW.exNext, AW.exRet, AW.exAsg, AW.exDrop, AW.exSetIx, AW.evT, AW.evalE, AW.evalB, AW.evalEs, AW.evalO, AW.evalC, AW.evalL, AW.evalIt, AW.evOr, AW.evAnd, AW.evNot, AW.evIte, AW.evTup, AW.evLm, AW.evDisp, AW.evCall, AW.evCons, AW.evNil, AW.evNoPart, AW.evPart, AW.evYes, AW.evSli, AW.ixV, AW.ev1, AW.ev2, AW.evVar, AW.evCon, AW.peek, AW.truV, AW.truD, AW.isiD, AW.cmpV, LK.cLt, LK.cLe, LK.cGt, LK.cGe, AW.b1D, AW.finish, AW.retV, AW.Val.data, AW.Val.datas, AW.allocL, sub_i, r0, iz, ho, i1, i2, lz, isInt_str, sm]) ?_
  refine fin_ret _ m5 (by simp [AW.execSs, AW.execS, AW.exSeq, AW.exIf, AW.exNext, AW.exRet, AW.exAsg, AW.exDrop, AW.exSetIx, AW.evT, AW.evalE, AW.evalB, AW.evalEs, AW.evalO, AW.evalC, AW.evalL, AW.evalIt, AW.evOr, AW.evAnd, AW.evNot, AW.evIte, AW.evTup, AW.evLm, AW.evDisp, AW.evCall, AW.evCons, AW.evNil, AW.evNoPart, AW.evPart, AW.evYes, AW.evSli, AW.ixV, AW.ev1, AW.ev2, AW.evVar, AW.evCon, AW.peek, AW.truV, AW.truD, AW.isiD, AW.cmpV, LK.cLt, LK.cLe, LK.cGt, LK.cGe, AW.b1D, AW.finish, AW.retV, AW.Val.data, AW.Val.datas, AW.allocL, et, eqSelf ht, sm]) s5.len
end LK
set_option maxRecDepth 100000
set_option maxHeartbeats 4000000
namespace LK
open PySem AW
theorem lc_dice {f : D → Store → Out (Option D)} {c : Nat} {P : D → Prop} (hf : ∀ d m, HD m c → ∃ y m', f d m = .ok (some y) m' ∧ P y ∧ DS m c m') : ∀ (ds acc : List D) (m : Store), HD m c → acc.length + ds.length ≤ sizeLine →
    ∃ ys m', goLc f ds acc m = .ok (acc ++ ys) m' ∧ ys.length = ds.length ∧ (∀ y ∈ ys, P y) ∧ DS m c m'
  | [], acc, m, h, _ => ⟨[], m, by simp [goLc], rfl, by simp, DS.refl h⟩
  | d :: ds, acc, m, h, hl => by
    rw [List.length_cons] at hl
    obtain ⟨y, m1, e, p, s⟩ := hf d m h
    obtain ⟨ys, m2, e2, l2, p2, s2⟩ := lc_dice hf ds (acc ++ [y]) m1 (s.hd h) (by simp; omega)
    refine ⟨y :: ys, m2, ?_, by simp [l2], fun z hz => ?_, s.trans s2⟩
    · unfold goLc
      rw [e]
      show (if acc.length < sizeLine then goLc f ds (acc ++ [y]) m1 else .bad) = _
      rw [if_pos (by omega), e2]; simp
    · rcases List.mem_cons.mp hz with rfl | hz
      · exact p
      · exact p2 z hz
def ch (n : Nat) : Str := ⟨#[n]⟩
def LowS (d : D) : Prop := ∃ n, d = .str (ch n) ∧ low n = true
theorem chars_of : ∀ {ys : List D}, (∀ y ∈ ys, LowS y) → ∃ cs : List Nat, ys = cs.map (fun n => D.str (ch n)) ∧ cs.all low = true
  | [], _ => ⟨[], rfl, rfl⟩
  | y :: ys, h => by
    obtain ⟨n, rfl, hn⟩ := h y List.mem_cons_self
    obtain ⟨cs, rfl, hc⟩ := chars_of fun z hz => h z (List.mem_cons_of_mem _ hz)
    exact ⟨n :: cs, rfl, by simp [hn, hc]⟩
theorem strs_chars : ∀ cs : List Nat, strsD (cs.map fun n => D.str (ch n)) = some (cs.map ch)
  | [] => rfl
  | n :: cs => by simp [strsD, strs_chars cs]
theorem join_fold : ∀ (cs : List Nat) (a : Array Nat), ((cs.map ch).foldl (fun acc p => acc ++ (Str.ofString "").cps ++ p.cps) a).toList = a.toList ++ cs
  | [], a => by simp
  | n :: cs, a => by
    rw [List.map_cons, List.foldl_cons, join_fold cs]
    have e : (Str.ofString "").cps = #[] := by decide
    simp [e, ch]
theorem join_chars (cs : List Nat) : Txt.join "" (cs.map ch) = ⟨cs.toArray⟩ := by
  have key : (Txt.join "" (cs.map ch)).cps.toList = cs := by
    cases cs with
    | nil => rfl
    | cons n cs =>
      show (((cs.map ch).foldl (fun acc p => acc ++ (Str.ofString "").cps ++ p.cps) (ch n).cps).toList) = _
      rw [join_fold]; rfl
  have : (Txt.join "" (cs.map ch)).cps = cs.toArray := by
    apply Array.toList_inj.mp
    rw [key]
  cases h : Txt.join "" (cs.map ch)
  rw [h] at this
  simp only at this
  rw [this]
theorem m1_join (cs : List Nat) (h : cs.length ≤ 1000) : m1D .join "" (.lst (cs.map fun n => D.str (ch n))) = some (.str ⟨cs.toArray⟩) := by
  have e0 : (Str.ofString "").length = 0 := by decide
  have e1 : (List.map (fun x : Str => x.length) (cs.map ch)).sum = cs.length := by
    induction cs with
    | nil => rfl
    | cons n cs ih =>
      simp only [List.map_cons, List.sum_cons, List.length_cons]
      rw [ih (by simp at h; omega)]
      show 1 + _ = _
      omega
  show (strsD (cs.map fun n => D.str (ch n))).bind _ = _
  rw [strs_chars, Option.bind_some, if_pos, join_chars]
  rw [e1, e0]; omega
def abc : Str := "abcdefghijklmnopqrstuvwxyz"
theorem abc_low : abc.cps.toList.all low = true := by decide +kernel
theorem abc_pos : 0 < abc.length := by decide +kernel
theorem abc_le : abc.length ≤ 1000 := by decide +kernel
theorem pick_abc (k : Nat) {m : Store} {c : Nat} (h : HD m c) : ∃ n m', R (k + 2) 5 [.cell c, .d (.str abc)] m = .ok (.d (.str (ch n))) m' ∧ low n = true ∧ DS m c m' := by
  obtain ⟨n, m', e, hn, s⟩ := r5t k m c abc h abc_pos abc_le
  exact ⟨n, m', e, List.all_eq_true.mp abc_low n hn, s⟩
theorem if_both {α : Type} {p q : Prop} [Decidable p] [Decidable q] {x y : α} (hp : p) (hq : q) : (if (decide p && decide q) = true then x else y) = x := by
  rw [decide_eq_true hp, decide_eq_true hq]; rfl
theorem rng_int (n : Nat) (h1 : (-(2 ^ 62) : Int) ≤ (n : Int)) (h2 : (n : Int) < 2 ^ 62) (oa : Ex) (ρ : Ev) (m m' : Store) (e : oa ρ m = .ok (.d (.int (n : Int))) m') : itRng1 oa ρ m = .ok (rngD n) m' := by
  have hb := if_both (x := Out.ok (rngD n) m') (y := Out.bad) h1 h2
  generalize hc : (decide ((-(2 ^ 62) : Int) ≤ (n : Int)) && decide ((n : Int) < 2 ^ 62)) = b at hb
  have u : itRng1 oa ρ m = (oa ρ m).bind fun x m => match x with
    | .d (.int n) => if (decide ((-(2 ^ 62) : Int) ≤ n) && decide (n < 2 ^ 62)) = true then .ok (rngD n.toNat) m else .bad
    | _ => .bad := rfl
  rw [u, e, Out.bind_ok]
  dsimp only
  rw [hc, Int.toNat_natCast]
  exact hb
theorem rng_ok (n : Nat) (h : n ≤ 1000) (ρ : Ev) (m : Store) (i : Nat) (hi : ρ[i]? = some (some (.d (.int (n : Int))))) : itRng1 (evVar i) ρ m = .ok (rngD n) m :=
  rng_int n (by omega) (by omega) _ _ _ _ (by simp [evVar, hi])
theorem rng_len (n : Nat) : (rngD n).length = n := by simp [rngD]
/-- ''.join([pick(dice, letters) for turn in range(n)]) -/
theorem join_pick (k : Nat) {m : Store} {c a b j t n : Nat} {ρ : Ev} (h : HD m c) (hn : n ≤ 1000) (h0 : ∀ d : D, (ρ.set t (some (.d d)))[a]? = some (some (.cell c))) (h1 : ∀ d : D, (ρ.set t (some (.d d)))[b]? = some (some (.d (.str abc)))) (hj : ρ[j]? = some (some (.d (.int (n : Int))))) :
    ∃ (cs : List Nat) (m' : Store), evM (m1D .join) (evCon (.str "")) (evLm false (evLc (itRng1 (evVar j)) (.name t) evYes (evCall (R (k + 2) 5) (evCons (evVar a) (evCons (evVar b) evNil))))) ρ m = .ok (.d (.str ⟨cs.toArray⟩)) m' ∧ cs.length = n ∧ cs.all low = true ∧ DS m c m' := by
  obtain ⟨ys, m', e, l, p, s⟩ := lc_dice (c := c) (P := LowS) (f := lcTurn (.name t) evYes (evCall (R (k + 2) 5) (evCons (evVar a) (evCons (evVar b) evNil))) ρ) (fun d m h => by
    obtain ⟨x, m', e, hx, s⟩ := pick_abc k h
    exact ⟨_, m', by simp [lcTurn, bindT, evYes, evCall, evCons, evVar, evNil, h0, h1, e, Val.data], ⟨x, rfl, hx⟩, s⟩) (rngD n) [] m h (by rw [sl, rng_len]; simp; omega)
  obtain ⟨cs, rfl, hc⟩ := chars_of p
  have hl : cs.length = n := by simpa [rng_len] using l
  refine ⟨cs, m', ?_, hl, hc, s⟩
  rw [List.nil_append] at e
  simp [evM, evCon, evLm, evLc, rng_ok n hn ρ m j hj, e, allocL, strV, peek, m1_join cs (by omega)]
end LK
set_option maxRecDepth 100000
set_option maxHeartbeats 4000000
namespace LK
open PySem AW
theorem lv {p : Nat → Prop} {a : Nat} (f : ∀ k, p (k + a)) {k : Nat} (h : a ≤ k) : p k := by
  have := f (k - a)
  rwa [Nat.sub_add_cancel h] at this
theorem q1 {k : Nat} (h : 1 ≤ k) (d : D) (m : Store) (o : okS d) : R k 1 [.d d] m = .ok (.d (.bl (isName d))) m := lv (p := fun k => R k 1 [.d d] m = _) (fun k => r1 k d m o) h
theorem q2 {k : Nat} (h : 2 ≤ k) (d : D) (m : Store) (o : okN d) : R k 2 [.d d] m = .ok (.d (.bl (isNames d))) m := lv (p := fun k => R k 2 [.d d] m = _) (fun k => r2 k d m o) h
theorem q2t {k : Nat} (h : 2 ≤ k) {ds : List D} (m : Store) (o : ∀ d ∈ ds, okS d) : R k 2 [.d (.tup ds)] m = .ok (.d (.bl (isNames (.tup ds)))) m := q2 h (.tup ds) m o
theorem ok1 {x : D} (h : okS x) : ∀ d ∈ [x], okS d := fun d hd => by rw [List.mem_singleton.mp hd]; exact h
theorem ok2 {x y : D} (h : okS x) (g : okS y) : ∀ d ∈ [x, y], okS d := fun d hd => by
  rcases List.mem_cons.mp hd with q | q
  · rw [q]; exact h
  · rw [List.mem_singleton.mp q]; exact g
theorem q4 {k : Nat} (h : 1 ≤ k) : RollS (R k 4) := lv (p := fun k => RollS (R k 4)) r4 h
theorem q5 {k : Nat} (h : 2 ≤ k) : PickS (R k 5) := lv (p := fun k => PickS (R k 5)) r5 h
theorem qj {k : Nat} (hk : 2 ≤ k) {m : Store} {c a b j t n : Nat} {ρ : Ev} (h : HD m c) (hn : n ≤ 1000) (h0 : ∀ d : D, (ρ.set t (some (.d d)))[a]? = some (some (.cell c))) (h1 : ∀ d : D, (ρ.set t (some (.d d)))[b]? = some (some (.d (.str abc)))) (hj : ρ[j]? = some (some (.d (.int (n : Int))))) :
    ∃ (cs : List Nat) (m' : Store), evM (m1D .join) (evCon (.str "")) (evLm false (evLc (itRng1 (evVar j)) (.name t) evYes (evCall (R k 5) (evCons (evVar a) (evCons (evVar b) evNil))))) ρ m = .ok (.d (.str ⟨cs.toArray⟩)) m' ∧ cs.length = n ∧ cs.all low = true ∧ DS m c m' := by
  obtain ⟨i, rfl⟩ : ∃ i, k = i + 2 := ⟨k - 2, by omega⟩
  exact join_pick i h hn h0 h1 hj
theorem names_no {ds : List D} (h : ds.all isName = false) : isNames (.tup ds) = false := by
  unfold isNames
  simp only [h]
  simp
theorem names_one (s : Str) : isNames (.tup [.str s]) = nameS s := by
  unfold isNames
  simp [isName, strsD, dedupS]
theorem in4 (s : Str) : cmpD .NotIn (.str s) (.tup [.str "do", .str "test", .str "value", .str "fail"]) = some (!decide (s ∈ kws)) := by
  show some (!(([D.str "do", .str "test", .str "value", .str "fail"] : List D).any fun z => eqS z (.str s))) = _
  have e : ∀ x : Str, (x == s) = decide (s = x) := fun x => by
    by_cases h : s = x
    · subst h; simp
    · have : ¬ (x = s) := fun q => h q.symm
      simp [h, this]
  congr 2
  simp only [List.any_cons, List.any_nil, eqS, e, kws, Bool.or_false]
  rw [Bool.eq_iff_iff]
  simp only [Bool.or_eq_true, decide_eq_true_eq, List.mem_cons, List.not_mem_nil, or_false]
  constructor
  · rintro (h | h | h | h)
    · exact .inl h
    · exact .inr (.inr (.inl h))
    · exact .inr (.inr (.inr h))
    · exact .inr (.inl h)
  · rintro (h | h | h | h)
    · exact .inl h
    · exact .inr (.inr (.inr h))
    · exact .inr (.inl h)
    · exact .inr (.inr (.inl h))
theorem len_app (a b : Str) : (a ++ b).length = a.length + b.length := by
  show (a.cps ++ b.cps).size = a.cps.size + b.cps.size
  simp
theorem cps_app (a b : Str) : (a ++ b).cps.toList = a.cps.toList ++ b.cps.toList := by
  show (a.cps ++ b.cps).toList = _
  simp
theorem cut_len (z : Str) (lo hi : Option Int) : (L2.cutS z lo hi).length ≤ z.length := by
  show (L2.cutS z lo hi).cps.size ≤ z.cps.size
  unfold L2.cutS
  simp
  omega
theorem add_t {a b : Str} (h : a.length + b.length ≤ 10000000) : binD .Add (.str a) (.str b) = some (.str (a ++ b)) := by
  show (if small (a.length + b.length) = true then some (D.str (a ++ b)) else none) = _
  rw [small_of h]; rfl
def lc1 : List D := [.int 1, .int 2, .int 3, .int 4, .int 5, .int 6, .int 7, .int 8, .int 9, .int 10, .int 40]
theorem lc1_nat {d : D} (h : d ∈ lc1) : ∃ n : Nat, d = .int (n : Int) ∧ 1 ≤ n ∧ n ≤ 40 := by
  unfold lc1 at h
  simp only [List.mem_cons, List.not_mem_nil, or_false] at h
  rcases h with rfl | rfl | rfl | rfl | rfl | rfl | rfl | rfl | rfl | rfl | rfl
  · exact ⟨1, rfl, by omega, by omega⟩
  · exact ⟨2, rfl, by omega, by omega⟩
  · exact ⟨3, rfl, by omega, by omega⟩
  · exact ⟨4, rfl, by omega, by omega⟩
  · exact ⟨5, rfl, by omega, by omega⟩
  · exact ⟨6, rfl, by omega, by omega⟩
  · exact ⟨7, rfl, by omega, by omega⟩
  · exact ⟨8, rfl, by omega, by omega⟩
  · exact ⟨9, rfl, by omega, by omega⟩
  · exact ⟨10, rfl, by omega, by omega⟩
  · exact ⟨40, rfl, by omega, by omega⟩
def ln : List D := [.str "dos", .str "tests", .str "values", .str "fails", .str "d", .str "tes", .str "od", .str "falue", .str "lazy", .str "strict", .str "use"]
def lo2 : List D := [.str "do", .str "test", .str "value", .str "fail", .str "", .str "zzzzzzzzz", .non, .int 0, .bl true, .tup [], .tup [.str "a"], .lst [.str "a"], .dct [] [], .int 7]
theorem ln_ok : ln.all (fun d => isName d) = true := by decide +kernel
theorem ln2_ok : ([.str "call", .str "zzzzzzzz", .str "testdo", .str "doo"] : List D).all (fun d => isName d) = true := by decide +kernel
theorem lo2_no : lo2.all (fun d => !isName d) = true := by decide +kernel
theorem okS_name {d : D} (h : isName d = true) : okS d := by
  cases d with
  | str s =>
    have h : nameS s = true := h
    unfold nameS at h
    simp only [Bool.and_eq_true, decide_eq_true_eq] at h
    show s.length ≤ 10000
    omega
  | _ => trivial
theorem lo2_ok {d : D} (h : d ∈ lo2) : okS d := by
  unfold lo2 at h
  simp only [List.mem_cons, List.not_mem_nil, or_false] at h
  rcases h with rfl | rfl | rfl | rfl | rfl | rfl | rfl | rfl | rfl | rfl | rfl | rfl | rfl | rfl <;> first | trivial | (show Str.length _ ≤ 10000; decide +kernel)
theorem rpa (b : Bool) : ∃ s, reprD (.lst [.bl b, .bl false, .bl b, .bl false, .bl false]) = some s ∧ PyData.strOk s = true := by
  cases b
  · exact ⟨"[False, False, False, False, False]", by kernel_rfl, by kernel_rfl⟩
  · exact ⟨"[True, False, True, False, False]", by kernel_rfl, by kernel_rfl⟩
theorem rpb : reprD (.lst [.bl true, .bl false, .bl false, .bl false, .bl false]) = some "[True, False, False, False, False]" := by kernel_rfl
theorem rpb' : PyData.strOk "[True, False, False, False, False]" = true := by kernel_rfl
theorem r10 (k : Nat) {m : Store} {c : Nat} (h : HD m c) : ∃ m', R (k + 4) 10 [.cell c] m = .ok (.d (.bl true)) m' ∧ DS m c m' := by
  obtain ⟨d2, m2, e2, h2, s2⟩ := q5 (k := k + 3) (by omega) m c lc1 h (by simp [lc1]) (by simp [lc1])
  obtain ⟨n, rfl, n0, n1⟩ := lc1_nat h2
  obtain ⟨cs, m3, e3, l3, a3, s3⟩ := qj (k := k + 3) (by omega) (ρ := [some (.cell c), some (.d (.str abc)), some (.d (.int (n : Int))), none, none, none, none, none, none, none, none]) (a := 0) (b := 1) (j := 2) (t := 10) (s2.hd h) (by omega) (fun _ => rfl) (fun _ => rfl) rfl
  have s3 := s2.trans s3
  generalize hw : (⟨cs.toArray⟩ : Str) = w at e3
  have wl : w.length = n := by rw [← hw, ← l3]; rfl
  have wa : w.cps.toList.all low = true := by rw [← hw]; exact a3
  obtain ⟨t, m4, e4, t0, t1, s4⟩ := q4 (k := k + 3) (by omega) m3 c (w.length + 1) (s3.hd h) (by omega) (by omega)
  have s4 := s3.trans s4
  obtain ⟨x, m5, e5, x5, s5⟩ := r9 k (s4.hd h)
  have s5 := s4.trans s5
  obtain ⟨u, m6, e6, u0, u1, s6⟩ := q4 (k := k + 3) (by omega) m5 c 2 (s5.hd h) (by omega) (by omega)
  have s6 := s5.trans s6
  obtain ⟨d8, m8, e8, h8, s8⟩ := q5 (k := k + 3) (by omega) m6 c ln (s6.hd h) (by simp [ln]) (by simp [ln])
  have s8 := s6.trans s8
  have n8 := List.all_eq_true.mp ln_ok d8 h8
  obtain ⟨d9, m9, e9, h9, s9⟩ := q5 (k := k + 3) (by omega) m8 c [d8, d8, .str "call", .str "zzzzzzzz", .str "testdo", .str "doo"] (s8.hd h) (by simp) (by simp)
  have s9 := s8.trans s9
  have n9 : isName d9 = true := by
    rcases List.mem_cons.mp h9 with q | q
    · rw [q]; exact n8
    · rcases List.mem_cons.mp q with q | q
      · rw [q]; exact n8
      · exact List.all_eq_true.mp ln2_ok d9 q
  obtain ⟨d10, m10, e10, h10, s10⟩ := q5 (k := k + 3) (by omega) m9 c lo2 (s9.hd h) (by simp [lo2]) (by simp [lo2])
  have s10 := s9.trans s10
  have n10 : isName d10 = false := by simpa using List.all_eq_true.mp lo2_no d10 h10
  have o9 := okS_name n9
  have o10 := lo2_ok h10
  refine ⟨m10, ?_, s10⟩
  have hl1 := cut_len w none (some t)
  have hl2 := cut_len w (some (t + u)) none
  generalize hc1 : L2.cutS w none (some t) = c1 at hl1
  generalize hc2 : L2.cutS w (some (t + u)) none = c2 at hl2
  have lx : (⟨#[x]⟩ : Str).length = 1 := rfl
  have ad1 : binD .Add (.str c1) (.str ⟨#[x]⟩) = some (.str (c1 ++ ⟨#[x]⟩)) := add_t (by omega)
  have ad2 : binD .Add (.str (c1 ++ ⟨#[x]⟩)) (.str c2) = some (.str (c1 ++ ⟨#[x]⟩ ++ c2)) := add_t (by rw [len_app]; omega)
  have bl : (c1 ++ ⟨#[x]⟩ ++ c2).length ≤ 10000 := by rw [len_app, len_app]; omega
  have bn : nameS (c1 ++ ⟨#[x]⟩ ++ c2) = false := by
    have : (c1 ++ ⟨#[x]⟩ ++ c2).cps.toList.all low = false := by
      rw [cps_app, cps_app, List.all_append, List.all_append]
      simp [x5]
    unfold nameS
    rw [this]; simp
  generalize c1 ++ ⟨#[x]⟩ ++ c2 = bad at ad2 bl bn
  have hsw : small w.length = true := small_of (by omega)
  have due : nameS w = (decide ((n : Int) < 9) && !decide (w ∈ kws)) := by
    unfold nameS
    rw [wa, wl, Bool.and_true]
    by_cases q : n ≤ 8
    · rw [decide_eq_true (by omega : 1 ≤ n), decide_eq_true q, decide_eq_true (by omega : (n : Int) < 9)]; rfl
    · rw [decide_eq_false q, decide_eq_false (by omega : ¬ (n : Int) < 9)]; simp
  have ow : okS (.str w) := by show w.length ≤ 10000; omega
  have ob : okS (.str bad) := bl
  have oa : okS (.str "a") := by show Str.length _ ≤ 10000; decide +kernel
  have c11 : ∀ m, R (k + 3) 1 [.d (.str w)] m = .ok (.d (.bl (nameS w))) m := fun m => q1 (by omega) _ _ ow
  have c12 : ∀ m, R (k + 3) 1 [.d (.str bad)] m = .ok (.d (.bl false)) m := fun m => by rw [q1 (by omega) _ _ ob]; show Out.ok (Val.d (D.bl (nameS bad))) m = _; rw [bn]
  have c21 : ∀ m, R (k + 3) 2 [.d (.tup [.str w])] m = .ok (.d (.bl (nameS w))) m := fun m => by rw [q2t (by omega) _ (ok1 ow), names_one]
  have c22 : ∀ m, R (k + 3) 2 [.d (.tup [.str bad])] m = .ok (.d (.bl false)) m := fun m => by rw [q2t (by omega) _ (ok1 ob), names_one, bn]
  have c23 : ∀ m, R (k + 3) 2 [.d (.tup [.str "a", .str bad])] m = .ok (.d (.bl false)) m := fun m => by
    rw [q2t (by omega) _ (ok2 oa ob), names_no]
    simp [isName, bn]
  have c13 : ∀ m, R (k + 3) 1 [.d d9] m = .ok (.d (.bl true)) m := fun m => by rw [q1 (by omega) _ _ o9, n9]
  have c14 : ∀ m, R (k + 3) 1 [.d d10] m = .ok (.d (.bl false)) m := fun m => by rw [q1 (by omega) _ _ o10, n10]
  have c24 : ∀ m, R (k + 3) 2 [.d (.tup [d9, d10])] m = .ok (.d (.bl false)) m := fun m => by
    rw [q2t (by omega) _ (ok2 o9 o10), names_no]
    simp [n9, n10]
  have c25 : ∀ m, R (k + 3) 2 [.d (.tup [d10, d9])] m = .ok (.d (.bl false)) m := fun m => by
    rw [q2t (by omega) _ (ok2 o10 o9), names_no]
    simp [n9, n10]
  have c26 : ∀ m, R (k + 3) 2 [.d (.tup [d10])] m = .ok (.d (.bl false)) m := fun m => by
    rw [q2t (by omega) _ (ok1 o10), names_no]
    simp [n10]
  obtain ⟨sh, es, hs⟩ := rpa (nameS w)
  have hsl : sliD (.str w) none (some t) = some (.str c1) := by
    show (if small w.length = true then some (D.str (L2.cutS w none (some t))) else none) = _
    rw [hsw, hc1]; rfl
  have hsr : sliD (.str w) (some (t + u)) none = some (.str c2) := by
    show (if small w.length = true then some (D.str (L2.cutS w (some (t + u)) none)) else none) = _
    rw [hsw, hc2]; rfl
  have e2' : ∀ mm, R (k + 3) 5 [.cell c, .d (.lst [.int 1, .int 2, .int 3, .int 4, .int 5, .int 6, .int 7, .int 8, .int 9, .int 10, .int 40])] mm = R (k + 3) 5 [.cell c, .d (.lst lc1)] mm := fun _ => rfl
  have e8' : ∀ mm, R (k + 3) 5 [.cell c, .d (.lst [.str "dos", .str "tests", .str "values", .str "fails", .str "d", .str "tes", .str "od", .str "falue", .str "lazy", .str "strict", .str "use"])] mm = R (k + 3) 5 [.cell c, .d (.lst ln)] mm := fun _ => rfl
  have e10' : ∀ mm, R (k + 3) 5 [.cell c, .d (.lst [.str "do", .str "test", .str "value", .str "fail", .str "", .str "zzzzzzzzz", .non, .int 0, .bl true, .tup [], .tup [.str "a"], .lst [.str "a"], .dct [] [], .int 7])] mm = R (k + 3) 5 [.cell c, .d (.lst lo2)] mm := fun _ => rfl
  show AW.finish false m (execSs tab.gvals (R (k + 3)) 100 f10.body [some (.cell c), none, none, none, none, none, none, none, none, none, none] m) = _
  refine fin_nx [some (.cell c), some (.d (.str abc)), none, none, none, none, none, none, none, none, none] m (by simp [AW.execSs, AW.execS, AW.exSeq, AW.exIf, AW.exNext, AW.exRet, AW.exAsg, AW.exDrop, AW.exSetIx, AW.evT, AW.evalE, AW.evalB, AW.evalEs, AW.evalO, AW.evalC, AW.evalL, AW.evalIt, AW.evOr, AW.evAnd, AW.evNot, AW.evIte, AW.evTup, AW.evLm, AW.evDisp, AW.evCall, AW.evCons, AW.evNil, AW.evNoPart, AW.evPart, AW.evYes, AW.evSli, AW.ixV, AW.ev1, AW.ev2, AW.evVar, AW.evCon, AW.peek, AW.truV, AW.truD, AW.isiD, AW.cmpV, LK.cLt, LK.cLe, LK.cGt, LK.cGe, AW.b1D, AW.finish, AW.retV, AW.Val.data, AW.Val.datas, AW.allocL, abc]) ?_
  refine fin_nx [some (.cell c), some (.d (.str abc)), some (.d (.int (n : Int))), none, none, none, none, none, none, none, none] m2 (by simp [AW.execSs, AW.execS, AW.exSeq, AW.exIf, AW.exNext, AW.exRet, AW.exAsg, AW.exDrop, AW.exSetIx, AW.evT, AW.evalE, AW.evalB, AW.evalEs, AW.evalO, AW.evalC, AW.evalL, AW.evalIt, AW.evOr, AW.evAnd, AW.evNot, AW.evIte, AW.evTup, AW.evLm, AW.evDisp, AW.evCall, AW.evCons, AW.evNil, AW.evNoPart, AW.evPart, AW.evYes, AW.evSli, AW.ixV, AW.ev1, AW.ev2, AW.evVar, AW.evCon, AW.peek, AW.truV, AW.truD, AW.isiD, AW.cmpV, LK.cLt, LK.cLe, LK.cGt, LK.cGe, AW.b1D, AW.finish, AW.retV, AW.Val.data, AW.Val.datas, AW.allocL, sm, e2', e2]) ?_
  refine fin_nx [some (.cell c), some (.d (.str abc)), some (.d (.int (n : Int))), some (.d (.str w)), none, none, none, none, none, none, none] m3 (by
    simp only [AW.execS, exAsg, evalE, evalL, evalIt, evalC, evalEs]
    rw [e3]
    rfl) ?_
  refine fin_nx [some (.cell c), some (.d (.str abc)), some (.d (.int (n : Int))), some (.d (.str w)), some (.d (.int t)), none, none, none, none, none, none] m4 (by simp [AW.execSs, AW.execS, AW.exSeq, AW.exIf, AW.exNext, AW.exRet, AW.exAsg, AW.exDrop, AW.exSetIx, AW.evT, AW.evalE, AW.evalB, AW.evalEs, AW.evalO, AW.evalC, AW.evalL, AW.evalIt, AW.evOr, AW.evAnd, AW.evNot, AW.evIte, AW.evTup, AW.evLm, AW.evDisp, AW.evCall, AW.evCons, AW.evNil, AW.evNoPart, AW.evPart, AW.evYes, AW.evSli, AW.ixV, AW.ev1, AW.ev2, AW.evVar, AW.evCon, AW.peek, AW.truV, AW.truD, AW.isiD, AW.cmpV, LK.cLt, LK.cLe, LK.cGt, LK.cGe, AW.b1D, AW.finish, AW.retV, AW.Val.data, AW.Val.datas, AW.allocL, lenD, hsw, add_i, e4]) ?_
  refine fin_nx [some (.cell c), some (.d (.str abc)), some (.d (.int (n : Int))), some (.d (.str w)), some (.d (.int t)), some (.d (.str bad)), none, none, none, none, none] m6 (by simp [AW.execSs, AW.execS, AW.exSeq, AW.exIf, AW.exNext, AW.exRet, AW.exAsg, AW.exDrop, AW.exSetIx, AW.evT, AW.evalE, AW.evalB, AW.evalEs, AW.evalO, AW.evalC, AW.evalL, AW.evalIt, AW.evOr, AW.evAnd, AW.evNot, AW.evIte, AW.evTup, AW.evLm, AW.evDisp, AW.evCall, AW.evCons, AW.evNil, AW.evNoPart, AW.evPart, AW.evYes, AW.evSli, AW.ixV, AW.ev1, AW.ev2, AW.evVar, AW.evCon, AW.peek, AW.truV, AW.truD, AW.isiD, AW.cmpV, LK.cLt, LK.cLe, LK.cGt, LK.cGe, AW.b1D, AW.finish, AW.retV, AW.Val.data, AW.Val.datas, AW.allocL, hsl, hsr, e5, e6, add_i, ad1, ad2]) ?_
  refine fin_nx [some (.cell c), some (.d (.str abc)), some (.d (.int (n : Int))), some (.d (.str w)), some (.d (.int t)), some (.d (.str bad)), some (.d (.bl (nameS w))), none, none, none, none] m6 (by
    rw [due]
    by_cases q : (n : Int) < 9
    · simp [AW.execSs, AW.execS, AW.exSeq, AW.exIf, AW.exNext, AW.exRet, AW.exAsg, AW.exDrop, AW.exSetIx, AW.evT, AW.evalE, AW.evalB, AW.evalEs, AW.evalO, AW.evalC, AW.evalL, AW.evalIt, AW.evOr, AW.evAnd, AW.evNot, AW.evIte, AW.evTup, AW.evLm, AW.evDisp, AW.evCall, AW.evCons, AW.evNil, AW.evNoPart, AW.evPart, AW.evYes, AW.evSli, AW.ixV, AW.ev1, AW.ev2, AW.evVar, AW.evCon, AW.peek, AW.truV, AW.truD, AW.isiD, AW.cmpV, LK.cLt, LK.cLe, LK.cGt, LK.cGe, AW.b1D, AW.finish, AW.retV, AW.Val.data, AW.Val.datas, AW.allocL, sm, in4, q]
    · simp [AW.execSs, AW.execS, AW.exSeq, AW.exIf, AW.exNext, AW.exRet, AW.exAsg, AW.exDrop, AW.exSetIx, AW.evT, AW.evalE, AW.evalB, AW.evalEs, AW.evalO, AW.evalC, AW.evalL, AW.evalIt, AW.evOr, AW.evAnd, AW.evNot, AW.evIte, AW.evTup, AW.evLm, AW.evDisp, AW.evCall, AW.evCons, AW.evNil, AW.evNoPart, AW.evPart, AW.evYes, AW.evSli, AW.ixV, AW.ev1, AW.ev2, AW.evVar, AW.evCon, AW.peek, AW.truV, AW.truD, AW.isiD, AW.cmpV, LK.cLt, LK.cLe, LK.cGt, LK.cGe, AW.b1D, AW.finish, AW.retV, AW.Val.data, AW.Val.datas, AW.allocL, sm, in4, q]) ?_
  refine fin_nx [some (.cell c), some (.d (.str abc)), some (.d (.int (n : Int))), some (.d (.str w)), some (.d (.int t)), some (.d (.str bad)), some (.d (.bl (nameS w))), some (.d (.lst [.bl (nameS w), .bl false, .bl (nameS w), .bl false, .bl false])), none, none, none] m6 (by simp [AW.execSs, AW.execS, AW.exSeq, AW.exIf, AW.exNext, AW.exRet, AW.exAsg, AW.exDrop, AW.exSetIx, AW.evT, AW.evalE, AW.evalB, AW.evalEs, AW.evalO, AW.evalC, AW.evalL, AW.evalIt, AW.evOr, AW.evAnd, AW.evNot, AW.evIte, AW.evTup, AW.evLm, AW.evDisp, AW.evCall, AW.evCons, AW.evNil, AW.evNoPart, AW.evPart, AW.evYes, AW.evSli, AW.ixV, AW.ev1, AW.ev2, AW.evVar, AW.evCon, AW.peek, AW.truV, AW.truD, AW.isiD, AW.cmpV, LK.cLt, LK.cLe, LK.cGt, LK.cGe, AW.b1D, AW.finish, AW.retV, AW.Val.data, AW.Val.datas, AW.allocL, sm, c11, c12, c21, c22, c23]) ?_
  refine fin_nx [some (.cell c), some (.d (.str abc)), some (.d (.int (n : Int))), some (.d (.str w)), some (.d (.int t)), some (.d (.str bad)), some (.d (.bl (nameS w))), some (.d (.lst [.bl (nameS w), .bl false, .bl (nameS w), .bl false, .bl false])), none, none, none] m6 (by simp [AW.execSs, AW.execS, AW.exSeq, AW.exIf, AW.exNext, AW.exRet, AW.exAsg, AW.exDrop, AW.exSetIx, AW.evT, AW.evalE, AW.evalB, AW.evalEs, AW.evalO, AW.evalC, AW.evalL, AW.evalIt, AW.evOr, AW.evAnd, AW.evNot, AW.evIte, AW.evTup, AW.evLm, AW.evDisp, AW.evCall, AW.evCons, AW.evNil, AW.evNoPart, AW.evPart, AW.evYes, AW.evSli, AW.ixV, AW.ev1, AW.ev2, AW.evVar, AW.evCon, AW.peek, AW.truV, AW.truD, AW.isiD, AW.cmpV, LK.cLt, LK.cLe, LK.cGt, LK.cGe, AW.b1D, AW.finish, AW.retV, AW.Val.data, AW.Val.datas, AW.allocL, sm, es, neSelf hs]) ?_
  refine fin_nx [some (.cell c), some (.d (.str abc)), some (.d (.int (n : Int))), some (.d (.str w)), some (.d (.int t)), some (.d (.str bad)), some (.d (.bl (nameS w))), some (.d (.lst [.bl (nameS w), .bl false, .bl (nameS w), .bl false, .bl false])), some (.d d8), none, none] m8 (by simp [AW.execSs, AW.execS, AW.exSeq, AW.exIf, AW.exNext, AW.exRet, AW.exAsg, AW.exDrop, AW.exSetIx, AW.evT, AW.evalE, AW.evalB, AW.evalEs, AW.evalO, AW.evalC, AW.evalL, AW.evalIt, AW.evOr, AW.evAnd, AW.evNot, AW.evIte, AW.evTup, AW.evLm, AW.evDisp, AW.evCall, AW.evCons, AW.evNil, AW.evNoPart, AW.evPart, AW.evYes, AW.evSli, AW.ixV, AW.ev1, AW.ev2, AW.evVar, AW.evCon, AW.peek, AW.truV, AW.truD, AW.isiD, AW.cmpV, LK.cLt, LK.cLe, LK.cGt, LK.cGe, AW.b1D, AW.finish, AW.retV, AW.Val.data, AW.Val.datas, AW.allocL, sm, e8', e8]) ?_
  refine fin_nx [some (.cell c), some (.d (.str abc)), some (.d (.int (n : Int))), some (.d (.str w)), some (.d (.int t)), some (.d (.str bad)), some (.d (.bl (nameS w))), some (.d (.lst [.bl (nameS w), .bl false, .bl (nameS w), .bl false, .bl false])), some (.d d9), none, none] m9 (by simp [AW.execSs, AW.execS, AW.exSeq, AW.exIf, AW.exNext, AW.exRet, AW.exAsg, AW.exDrop, AW.exSetIx, AW.evT, AW.evalE, AW.evalB, AW.evalEs, AW.evalO, AW.evalC, AW.evalL, AW.evalIt, AW.evOr, AW.evAnd, AW.evNot, AW.evIte, AW.evTup, AW.evLm, AW.evDisp, AW.evCall, AW.evCons, AW.evNil, AW.evNoPart, AW.evPart, AW.evYes, AW.evSli, AW.ixV, AW.ev1, AW.ev2, AW.evVar, AW.evCon, AW.peek, AW.truV, AW.truD, AW.isiD, AW.cmpV, LK.cLt, LK.cLe, LK.cGt, LK.cGe, AW.b1D, AW.finish, AW.retV, AW.Val.data, AW.Val.datas, AW.allocL, sm, e9]) ?_
  refine fin_nx [some (.cell c), some (.d (.str abc)), some (.d (.int (n : Int))), some (.d (.str w)), some (.d (.int t)), some (.d (.str bad)), some (.d (.bl (nameS w))), some (.d (.lst [.bl (nameS w), .bl false, .bl (nameS w), .bl false, .bl false])), some (.d d9), some (.d d10), none] m10 (by simp [AW.execSs, AW.execS, AW.exSeq, AW.exIf, AW.exNext, AW.exRet, AW.exAsg, AW.exDrop, AW.exSetIx, AW.evT, AW.evalE, AW.evalB, AW.evalEs, AW.evalO, AW.evalC, AW.evalL, AW.evalIt, AW.evOr, AW.evAnd, AW.evNot, AW.evIte, AW.evTup, AW.evLm, AW.evDisp, AW.evCall, AW.evCons, AW.evNil, AW.evNoPart, AW.evPart, AW.evYes, AW.evSli, AW.ixV, AW.ev1, AW.ev2, AW.evVar, AW.evCon, AW.peek, AW.truV, AW.truD, AW.isiD, AW.cmpV, LK.cLt, LK.cLe, LK.cGt, LK.cGe, AW.b1D, AW.finish, AW.retV, AW.Val.data, AW.Val.datas, AW.allocL, sm, e10', e10]) ?_
  refine fin_nx [some (.cell c), some (.d (.str abc)), some (.d (.int (n : Int))), some (.d (.str w)), some (.d (.int t)), some (.d (.str bad)), some (.d (.bl (nameS w))), some (.d (.lst [.bl true, .bl false, .bl false, .bl false, .bl false])), some (.d d9), some (.d d10), none] m10 (by simp [AW.execSs, AW.execS, AW.exSeq, AW.exIf, AW.exNext, AW.exRet, AW.exAsg, AW.exDrop, AW.exSetIx, AW.evT, AW.evalE, AW.evalB, AW.evalEs, AW.evalO, AW.evalC, AW.evalL, AW.evalIt, AW.evOr, AW.evAnd, AW.evNot, AW.evIte, AW.evTup, AW.evLm, AW.evDisp, AW.evCall, AW.evCons, AW.evNil, AW.evNoPart, AW.evPart, AW.evYes, AW.evSli, AW.ixV, AW.ev1, AW.ev2, AW.evVar, AW.evCon, AW.peek, AW.truV, AW.truD, AW.isiD, AW.cmpV, LK.cLt, LK.cLe, LK.cGt, LK.cGe, AW.b1D, AW.finish, AW.retV, AW.Val.data, AW.Val.datas, AW.allocL, sm, c13, c14, c24, c25, c26]) ?_
  exact fin_ret _ m10 (by simp [AW.execSs, AW.execS, AW.exSeq, AW.exIf, AW.exNext, AW.exRet, AW.exAsg, AW.exDrop, AW.exSetIx, AW.evT, AW.evalE, AW.evalB, AW.evalEs, AW.evalO, AW.evalC, AW.evalL, AW.evalIt, AW.evOr, AW.evAnd, AW.evNot, AW.evIte, AW.evTup, AW.evLm, AW.evDisp, AW.evCall, AW.evCons, AW.evNil, AW.evNoPart, AW.evPart, AW.evYes, AW.evSli, AW.ixV, AW.ev1, AW.ev2, AW.evVar, AW.evCon, AW.peek, AW.truV, AW.truD, AW.isiD, AW.cmpV, LK.cLt, LK.cLe, LK.cGt, LK.cGe, AW.b1D, AW.finish, AW.retV, AW.Val.data, AW.Val.datas, AW.allocL, sm, rpb, eqSelf rpb']) s10.len
end LK
set_option maxRecDepth 100000
set_option maxHeartbeats 4000000
namespace LK
open PySem AW
def chD (n : Nat) : D := .str (ch n)
section
variable {m : Store} {a b a' b' x : Cel} {c : Nat}
theorem g0 : (m ++ [a, b])[m.length]? = some a := by simp
theorem g1 : (m ++ [a, b])[m.length + 1]? = some b := by simp [List.getElem?_append_right]
theorem gc (h : c < m.length) : (m ++ [a, b])[c]? = m[c]? := List.getElem?_append_left h
theorem t0 : (m ++ [a, b]).set m.length a' = m ++ [a', b] := by simp [List.set_append]
theorem t1 : (m ++ [a, b]).set (m.length + 1) b' = m ++ [a, b'] := by simp [List.set_append]
theorem tc (h : c < m.length) : (m ++ [a, b]).set c x = m.set c x ++ [a, b] := List.set_append_left c x h
end
theorem hd_app {m : Store} {c : Nat} {l : Store} (h : HD m c) : HD (m ++ l) c := by
  have := h.lt
  obtain ⟨a, b, e, p, q⟩ := h
  exact ⟨a, b, e, p, by rw [List.getElem?_append_left this]; exact q⟩
theorem ds_app {m m' : Store} {c : Nat} {l : Store} (h : HD m c) (s : DS (m ++ l) c m') : ∃ m1, m' = m1 ++ l ∧ DS m c m1 := by
  obtain ⟨a, b, e, p, rfl⟩ := s
  exact ⟨_, List.set_append_left c _ h.lt, a, b, e, p, rfl⟩
theorem er_perm : ∀ (l : List Nat) (i : Nat) (h : i < l.length), (l[i] :: l.eraseIdx i).Perm l
  | x :: l, 0, _ => .rfl
  | x :: l, i + 1, h => by
    have := er_perm l i (by simpa using h)
    exact (List.Perm.swap x _ _).trans (this.cons x)
def someB : Ss := .cons (.expr (.app (.var 5) (.pop1 (.var 4) (.call 4 (.cons (.var 0) (.cons (.b1 .len (.var 4)) .nil)))))) .nil
theorem some_turn (k : Nat) {m : Store} {c : Nat} {ls fs : List Nat} {u v w : Option Val} (h : HD m c) (hl : ls ≠ []) (hf : fs.length ≤ 1000) (hl2 : ls.length ≤ 1000) : ∃ (ls' fs' : List Nat) (m' : Store),
    execSs tab.gvals (R (k + 1)) 100 someB [some (.cell c), u, v, w, some (.cell m.length), some (.cell (m.length + 1))] (m ++ [.lst (ls.map chD), .lst (fs.map chD)]) =
      .ok (.nx [some (.cell c), u, v, w, some (.cell m.length), some (.cell (m.length + 1))]) (m' ++ [.lst (ls'.map chD), .lst (fs'.map chD)]) ∧ DS m c m' ∧ fs'.length = fs.length + 1 ∧ ls'.length + 1 = ls.length ∧ (fs' ++ ls').Perm (fs ++ ls) := by
  have hp : 0 < ls.length := List.length_pos_iff.mpr hl
  obtain ⟨r, m2, e, r0, r1, s⟩ := r4 k (m ++ [.lst (ls.map chD), .lst (fs.map chD)]) c ls.length (hd_app h) (by omega) (by omega)
  obtain ⟨m1, rfl, s1⟩ := ds_app h s
  have hL : m.length = m1.length := s1.len.symm
  have hj : r.toNat < ls.length := by omega
  refine ⟨ls.eraseIdx r.toNat, fs ++ [ls[r.toNat]], m1, ?_, s1, by simp, by rw [List.length_eraseIdx_of_lt hj]; omega, ?_⟩
  · have er : (ls.map chD).eraseIdx r.toNat = (ls.eraseIdx r.toNat).map chD := by
      apply List.ext_getElem?
      intro i
      simp only [List.getElem?_eraseIdx, List.getElem?_map]
      split <;> rfl
    have hd : (ls.map chD)[r.toNat]? = some (chD ls[r.toNat]) := by simp [hj]
    have hA : (ls.map chD).length = ls.length := by simp
    have hB : (fs.map chD).length < sizeLine := by rw [sl]; simp; omega
    have eB : fs.map chD ++ [chD ls[r.toNat]] = (fs ++ [ls[r.toNat]]).map chD := by simp
    generalize ls.map chD = A at er hd hA e
    generalize fs.map chD = B at hB eB e
    have ix : L2.ixN A.length r = some r.toNat := by rw [hA]; exact ixN_nat r0 r1
    have e' : R (k + 1) 4 [.cell c, .d (.int (A.length : Int))] (m ++ [.lst A, .lst B]) = .ok (.d (.int r)) (m1 ++ [.lst A, .lst B]) := by rw [hA]; exact e
    rw [← er, ← eB]
    have e'' : R (k + 1) 4 [.cell c, .d (.int (A.length : Int))] (m ++ [.lst A, .lst B]) = .ok (.d (.int r)) (m1 ++ [.lst A, .lst B]) := e'
    have p0 : (m ++ [Cel.lst A, Cel.lst B])[m1.length]? = some (.lst A) := hL ▸ g0
    have p1 : (m ++ [Cel.lst A, Cel.lst B])[m1.length + 1]? = some (.lst B) := hL ▸ g1
    have q0 : (m1 ++ [Cel.lst A, Cel.lst B])[m1.length]? = some (.lst A) := g0
    have q1 : (m1 ++ [Cel.lst (A.eraseIdx r.toNat), Cel.lst B])[m1.length + 1]? = some (.lst B) := g1
    have w0 : (m1 ++ [Cel.lst A, Cel.lst B]).set m1.length (.lst (A.eraseIdx r.toNat)) = m1 ++ [.lst (A.eraseIdx r.toNat), .lst B] := t0
    have w1 : (m1 ++ [Cel.lst (A.eraseIdx r.toNat), Cel.lst B]).set (m1.length + 1) (.lst (B ++ [chD ls[r.toNat]])) = m1 ++ [.lst (A.eraseIdx r.toNat), .lst (B ++ [chD ls[r.toNat]])] := t1
    rw [hL]
    simp only [someB, AW.execSs, AW.exSeq, AW.execS, AW.exDrop, AW.evalE, AW.evApp, AW.evPop1, AW.evCall, AW.evCons, AW.evNil, AW.evalEs, AW.evVar, List.getElem?_cons_zero, List.getElem?_cons_succ, Out.bind_ok, cellL, p0, p1, lift_some, AW.ev1, AW.peek, AW.b1D, lenD, Option.map_some, Option.bind_eq_bind, Option.bind_some, Option.pure_def, e'', intV, popC, q0, ix, hd, w0, AW.Val.data, appC, q1, hB, if_true, w1, AW.exNext]
  · rw [List.append_assoc]
    refine List.Perm.append_left fs ?_
    exact er_perm ls r.toNat hj
theorem some_loop (k : Nat) {c : Nat} {u v : Option Val} : ∀ (ds : List D) (m : Store) (ls fs : List Nat) (w : Option Val), HD m c → ds.length ≤ ls.length → fs.length + ls.length ≤ 100 → ∃ (ls' fs' : List Nat) (m' : Store) (w' : Option Val),
    goFor (fun d ρ m => (lift m (bindT (.name 3) d ρ)).bind fun ρ m => execSs tab.gvals (R (k + 1)) 100 someB ρ m) ds [some (.cell c), u, v, w, some (.cell m.length), some (.cell (m.length + 1))] (m ++ [.lst (ls.map chD), .lst (fs.map chD)]) =
      .ok (.nx [some (.cell c), u, v, w', some (.cell m.length), some (.cell (m.length + 1))]) (m' ++ [.lst (ls'.map chD), .lst (fs'.map chD)]) ∧ DS m c m' ∧ fs'.length = fs.length + ds.length ∧ (fs' ++ ls').Perm (fs ++ ls)
  | [], m, ls, fs, w, h, _, _ => ⟨ls, fs, m, w, rfl, DS.refl h, rfl, .rfl⟩
  | d :: ds, m, ls, fs, w, h, h1, h2 => by
    rw [List.length_cons] at h1
    obtain ⟨ls1, fs1, m1, e1, s1, l1, g1, p1⟩ := some_turn k (u := u) (v := v) (w := some (.d d)) h (ls := ls) (fs := fs) (fun q => by rw [q] at h1; simp at h1) (by omega) (by omega)
    obtain ⟨ls2, fs2, m2, w2, e2, s2, l2, p2⟩ := some_loop k ds m1 ls1 fs1 (some (.d d)) (s1.hd h) (by omega) (by omega)
    refine ⟨ls2, fs2, m2, w2, ?_, s1.trans s2, by rw [l2, l1, List.length_cons]; omega, p2.trans p1⟩
    rw [s1.len] at e2
    unfold goFor
    simp only [bindT, lift_some, Out.bind_ok, List.set_cons_succ, List.set_cons_zero]
    rw [e1]
    exact e2
def al : List Nat := [97, 98, 99, 100, 101, 102, 103, 104, 105, 106, 107, 108, 109, 110, 111, 112, 113, 114, 115, 116, 117, 118, 119, 120, 121, 122]
theorem abc_al : abc.cps.toList = al := by decide +kernel
theorem al_nd : al.Nodup := by decide +kernel
theorem al_low : al.all low = true := by decide +kernel
theorem abc_len : abc.length = 26 := by decide +kernel
theorem list_abc : lbD .list (.str abc) = some (al.map chD) := by
  show (if small abc.length = true then some (abc.cps.toList.map fun c => D.str ⟨#[c]⟩) else none) = _
  rw [abc_len, abc_al, sm (by omega)]; rfl
theorem r6 (k : Nat) {m : Store} {c : Nat} (h : HD m c) (n : Nat) (hn : n ≤ 26) : ∃ (fs : List Nat) (m' : Store), R (k + 2) 6 [.cell c, .d (.str abc), .d (.int (n : Int))] m = .ok (.d (.lst (fs.map chD))) m' ∧ DS m c m' ∧ fs.length = n ∧ fs.Nodup ∧ fs.all low = true := by
  obtain ⟨ls', fs', m', w', e, s, l, p⟩ := some_loop k (u := some (.d (.str abc))) (v := some (.d (.int (n : Int)))) (rngD n) m al [] none h (by rw [rng_len]; exact hn) (by decide)
  rw [rng_len] at l
  rw [List.nil_append] at p
  have nd : fs'.Nodup := (List.nodup_append.mp (p.nodup_iff.mpr al_nd)).1
  have lo : fs'.all low = true := List.all_eq_true.mpr fun x hx => List.all_eq_true.mp al_low x (p.mem_iff.mp (List.mem_append_left _ hx))
  refine ⟨fs', m', ?_, s, by simpa using l, nd, lo⟩
  have a0 : (m ++ [Cel.lst (al.map chD)])[m.length]? = some (.lst (al.map chD)) := by simp
  have hm : b2D .min (.int (n : Int)) (.int 26) = some (.int (n : Int)) := by
    show some (D.int (if (26 : Int) < (n : Int) then 26 else (n : Int))) = _
    rw [if_neg (by omega)]
  have la : (al.map chD).length = 26 := by decide
  show AW.finish false m (execSs tab.gvals (R (k + 1)) 100 f6.body [some (.cell c), some (.d (.str abc)), some (.d (.int (n : Int))), none, none, none] m) = _
  have i1 : (m ++ [Cel.lst (al.map chD), .lst []])[m.length]? = some (.lst (al.map chD)) := g0
  generalize hal : al.map chD = A at *
  refine fin_nx [some (.cell c), some (.d (.str abc)), some (.d (.int (n : Int))), none, some (.cell m.length), some (.cell (m.length + 1))] (m ++ [.lst A, .lst []]) (by
    simp only [AW.execS, exPar, AW.evalEs, AW.evalE, AW.evalL, AW.evLm, AW.evLb, AW.evDisp, AW.evCons, AW.evNil, AW.evVar, List.getElem?_cons_zero, List.getElem?_cons_succ, Out.bind_ok, AW.peek, lift_some, list_abc, hal, AW.allocL, if_true, AW.Val.datas, List.length_nil, sm (Nat.zero_le 1000), setVs, List.set_cons_succ, List.set_cons_zero, List.append_assoc, List.cons_append, List.nil_append, List.length_append, List.length_cons, Nat.zero_add]) ?_
  refine fin_nx [some (.cell c), some (.d (.str abc)), some (.d (.int (n : Int))), w', some (.cell m.length), some (.cell (m.length + 1))] (m' ++ [.lst (ls'.map chD), .lst (fs'.map chD)]) (by
    show (itRng1 _ _ _).bind _ = _
    rw [rng_int n (by omega) (by omega) _ _ _ (m ++ [.lst A, .lst []])]
    · exact e
    · simp only [AW.evalE, AW.ev1, AW.ev2, AW.evVar, List.getElem?_cons_zero, List.getElem?_cons_succ, Out.bind_ok, AW.peek, lift_some, i1, AW.b1D, lenD, la, Option.map_some, Option.bind_eq_bind, Option.bind_some, Option.pure_def]
      exact congrArg (fun z => (lift _ z).bind _) hm) ?_
  have j1 : (m' ++ [Cel.lst (ls'.map chD), Cel.lst (fs'.map chD)])[m.length + 1]? = some (.lst (fs'.map chD)) := s.len ▸ g1
  have tk : (m' ++ [Cel.lst (ls'.map chD), Cel.lst (fs'.map chD)]).take m.length = m' := by rw [← s.len]; simp
  simp only [AW.execSs, AW.exSeq, AW.execS, AW.exRet, AW.evalE, AW.evVar, List.getElem?_cons_zero, List.getElem?_cons_succ, Out.bind_ok, AW.finish, AW.retV, j1, tk]
  simp
end LK
set_option maxRecDepth 100000
set_option maxHeartbeats 4000000
namespace LK
open PySem AW
theorem ss_nx {G : List D} {Φ : Fns} {fuel : Nat} {s : S} {ss : Ss} {ρ : Ev} {m : Store} {r : Out Fl} (ρ' : Ev) (m' : Store) (h : execS G Φ fuel s ρ m = .ok (.nx ρ') m') (t : execSs G Φ fuel ss ρ' m' = r) : execSs G Φ fuel (.cons s ss) ρ m = r := by
  rw [← t]
  simp [execSs, exSeq, h]
def lw : List D := [.int 0, .int 0, .int 0, .int 0, .int 1, .int 2, .int 4, .int 7]
theorem lw_nat {d : D} (h : d ∈ lw) : ∃ n : Nat, d = .int (n : Int) ∧ n ≤ 7 := by
  unfold lw at h
  simp only [List.mem_cons, List.not_mem_nil, or_false] at h
  rcases h with rfl | rfl | rfl | rfl | rfl | rfl | rfl | rfl
  · exact ⟨0, rfl, by omega⟩
  · exact ⟨0, rfl, by omega⟩
  · exact ⟨0, rfl, by omega⟩
  · exact ⟨0, rfl, by omega⟩
  · exact ⟨1, rfl, by omega⟩
  · exact ⟨2, rfl, by omega⟩
  · exact ⟨4, rfl, by omega⟩
  · exact ⟨7, rfl, by omega⟩
theorem isin4 (s : Str) : cmpD .In (.str s) (.tup [.str "do", .str "test", .str "value", .str "fail"]) = some (decide (s ∈ kws)) := by
  have h := in4 s
  have e : cmpD .NotIn (.str s) (.tup [.str "do", .str "test", .str "value", .str "fail"]) = (cmpD .In (.str s) (.tup [.str "do", .str "test", .str "value", .str "fail"])).map not := rfl
  rw [e] at h
  have i : ∃ b, cmpD .In (.str s) (.tup [.str "do", .str "test", .str "value", .str "fail"]) = some b := ⟨_, rfl⟩
  obtain ⟨b, hb⟩ := i
  rw [hb] at h ⊢
  simp only [Option.map_some, Option.some.injEq] at h ⊢
  cases b <;> simpa using h
def wordB : Ss :=
  .cons (.asg 5 (.call 5 (.cons (.var 0) (.cons (.lm false (.disp (.cons (.con (.int 0)) (.cons (.con (.int 0)) (.cons (.con (.int 0)) (.cons (.con (.int 0)) (.cons (.con (.int 1)) (.cons (.con (.int 2)) (.cons (.con (.int 4)) (.cons (.con (.int 7)) .nil)))))))))) .nil))))
  (.cons (.asg 6 (.bin .Add (.var 2) (.m1 .join (.con (.str "")) (.lm false (.lc (.rng1 (.var 5)) (.name 7) .no (.call 5 (.cons (.var 0) (.cons (.var 4) .nil))))))))
  (.cons (.expr (.app (.var 3) (.ite (.cmp .In (.var 6) (.tup (.cons (.con (.str "do")) (.cons (.con (.str "test")) (.cons (.con (.str "value")) (.cons (.con (.str "fail")) .nil)))))) (.var 2) (.var 6))))
  .nil))
def hd0 (w : Str) : Nat := w.cps.toList.headD 0
theorem h0 {m : Store} {a : Cel} : (m ++ [a])[m.length]? = some a := by simp
theorem u0 {m : Store} {a a' : Cel} : (m ++ [a]).set m.length a' = m ++ [a'] := by simp [List.set_append]
theorem ch_name {x : Nat} (h : low x = true) : nameS (ch x) = true := by
  have l : (ch x).length = 1 := rfl
  have nk : ch x ∉ kws := by
    intro q
    have : ∀ w ∈ kws, w.length ≠ 1 := by decide +kernel
    exact this _ q l
  unfold nameS
  rw [l, decide_eq_false nk]
  simp [ch, h]
theorem app_turn {G : List D} {Φ : Fns} {fuel : Nat} {ie : E} {ρ : Ev} {M : Store} {B : List D} {w : Str} {L : Nat} (hv : ρ[3]? = some (some (.cell L))) (p0 : M[L]? = some (.lst B)) (hi : evalE G Φ ie ρ M = .ok (.d (.str w)) M) (hB : B.length < sizeLine) :
    execSs G Φ fuel (.cons (.expr (.app (.var 3) ie)) .nil) ρ M = .ok (.nx ρ) (M.set L (.lst (B ++ [.str w]))) := by
  simp only [AW.execSs, AW.exSeq, AW.execS, AW.exDrop, AW.evalE, AW.evApp, AW.evVar, hv, Out.bind_ok, cellL, p0, lift_some, hi, AW.Val.data, appC, hB, if_true, AW.exNext]
theorem word_turn (k : Nat) {m : Store} {c x : Nat} {W : List Str} {e1 e5 e6 : Option Val} (h : HD m c) (hx : low x = true) (hW : W.length ≤ 100) : ∃ (w : Str) (m' : Store) (e5' e6' : Option Val),
    execSs tab.gvals (R (k + 2)) 100 wordB [some (.cell c), e1, some (.d (chD x)), some (.cell m.length), some (.d (.str abc)), e5, e6, none] (m ++ [.lst (W.map D.str)]) =
      .ok (.nx [some (.cell c), e1, some (.d (chD x)), some (.cell m.length), some (.d (.str abc)), e5', e6', none]) (m' ++ [.lst ((W ++ [w]).map D.str)]) ∧ DS m c m' ∧ nameS w = true ∧ hd0 w = x := by
  obtain ⟨d1, M1, f1, g1, t1⟩ := q5 (k := k + 2) (by omega) (m ++ [.lst (W.map D.str)]) c lw (hd_app h) (by simp [lw]) (by simp [lw])
  obtain ⟨n, rfl, hn⟩ := lw_nat g1
  obtain ⟨m1, rfl, s1⟩ := ds_app h t1
  obtain ⟨cs, M2, f2, l2, a2, t2⟩ := qj (k := k + 2) (by omega) (ρ := [some (.cell c), e1, some (.d (chD x)), some (.cell m.length), some (.d (.str abc)), some (.d (.int (n : Int))), e6, none]) (a := 0) (b := 4) (j := 5) (t := 7) (n := n) (hd_app (l := [.lst (W.map D.str)]) (s1.hd h)) (by omega) (fun _ => rfl) (fun _ => rfl) rfl
  obtain ⟨m2, rfl, s2⟩ := ds_app (s1.hd h) t2
  have s2 := s1.trans s2
  generalize hz : (⟨cs.toArray⟩ : Str) = z at f2
  have zl : z.length = n := by rw [← hz, ← l2]; rfl
  have za : z.cps.toList.all low = true := by rw [← hz]; exact a2
  have cl : (ch x).length = 1 := rfl
  have ad : binD .Add (chD x) (.str z) = some (.str (ch x ++ z)) := add_t (by omega)
  have wc : (ch x ++ z).cps.toList = x :: z.cps.toList := by rw [cps_app]; rfl
  have wl : (ch x ++ z).length = n + 1 := by rw [len_app]; omega
  have key : ∃ w : Str, (if decide (ch x ++ z ∈ kws) = true then chD x else D.str (ch x ++ z)) = .str w ∧ nameS w = true ∧ hd0 w = x := by
    by_cases q : ch x ++ z ∈ kws
    · exact ⟨ch x, by rw [if_pos (decide_eq_true q)]; rfl, ch_name hx, rfl⟩
    · refine ⟨ch x ++ z, by rw [if_neg (by simpa using q)], ?_, by unfold hd0; rw [wc]; rfl⟩
      unfold nameS
      rw [wl, wc, decide_eq_false q, List.all_cons, za, hx, decide_eq_true (by omega : 1 ≤ n + 1), decide_eq_true (by omega : n + 1 ≤ 8)]; rfl
  obtain ⟨w, kw, nw, hw⟩ := key
  refine ⟨w, m2, some (.d (.int (n : Int))), some (.d (.str (ch x ++ z))), ?_, s2, nw, hw⟩
  have hL : m.length = m2.length := s2.len.symm
  have f1' : R (k + 2) 5 [.cell c, .d (.lst [.int 0, .int 0, .int 0, .int 0, .int 1, .int 2, .int 4, .int 7])] (m ++ [.lst (W.map D.str)]) = .ok (.d (.int (n : Int))) (m1 ++ [.lst (W.map D.str)]) := f1
  have eB : W.map D.str ++ [D.str w] = (W ++ [w]).map D.str := by simp
  have hB : (W.map D.str).length < sizeLine := by rw [sl]; simp; omega
  generalize W.map D.str = B at *
  refine ss_nx [some (.cell c), e1, some (.d (chD x)), some (.cell m.length), some (.d (.str abc)), some (.d (.int (n : Int))), e6, none] (m1 ++ [.lst B]) (by simp [AW.execSs, AW.execS, AW.exSeq, AW.exIf, AW.exNext, AW.exRet, AW.exAsg, AW.exDrop, AW.exSetIx, AW.evT, AW.evalE, AW.evalB, AW.evalEs, AW.evalO, AW.evalC, AW.evalL, AW.evalIt, AW.evOr, AW.evAnd, AW.evNot, AW.evIte, AW.evTup, AW.evLm, AW.evDisp, AW.evCall, AW.evCons, AW.evNil, AW.evNoPart, AW.evPart, AW.evYes, AW.evSli, AW.ixV, AW.ev1, AW.ev2, AW.evVar, AW.evCon, AW.peek, AW.truV, AW.truD, AW.isiD, AW.cmpV, LK.cLt, LK.cLe, LK.cGt, LK.cGe, AW.b1D, AW.finish, AW.retV, AW.Val.data, AW.Val.datas, AW.allocL, sm, f1']) ?_
  refine ss_nx [some (.cell c), e1, some (.d (chD x)), some (.cell m.length), some (.d (.str abc)), some (.d (.int (n : Int))), some (.d (.str (ch x ++ z))), none] (m2 ++ [.lst B]) (by
    simp only [AW.execS, exAsg, AW.evalE, AW.evalL, AW.evalIt, AW.evalC, AW.evalEs, AW.ev2]
    rw [show evVar 2 [some (.cell c), e1, some (.d (chD x)), some (.cell m.length), some (.d (.str abc)), some (.d (.int (n : Int))), e6, none] (m1 ++ [.lst B]) = .ok (.d (chD x)) (m1 ++ [.lst B]) from rfl, Out.bind_ok, f2]
    simp [AW.execSs, AW.execS, AW.exSeq, AW.exIf, AW.exNext, AW.exRet, AW.exAsg, AW.exDrop, AW.exSetIx, AW.evT, AW.evalE, AW.evalB, AW.evalEs, AW.evalO, AW.evalC, AW.evalL, AW.evalIt, AW.evOr, AW.evAnd, AW.evNot, AW.evIte, AW.evTup, AW.evLm, AW.evDisp, AW.evCall, AW.evCons, AW.evNil, AW.evNoPart, AW.evPart, AW.evYes, AW.evSli, AW.ixV, AW.ev1, AW.ev2, AW.evVar, AW.evCon, AW.peek, AW.truV, AW.truD, AW.isiD, AW.cmpV, LK.cLt, LK.cLe, LK.cGt, LK.cGe, AW.b1D, AW.finish, AW.retV, AW.Val.data, AW.Val.datas, AW.allocL, ad]) ?_
  have p0 : (m2 ++ [Cel.lst B])[m.length]? = some (.lst B) := hL ▸ h0
  have w0 : (m2 ++ [Cel.lst B]).set m.length (.lst (B ++ [.str w])) = m2 ++ [.lst (B ++ [.str w])] := hL ▸ u0
  rw [← eB]
  have hsm : small 4 = true := sm (by omega)
  have ite : evIte (evalE tab.gvals (R (k + 2)) (.cmp .In (.var 6) (.tup (.cons (.con (.str "do")) (.cons (.con (.str "test")) (.cons (.con (.str "value")) (.cons (.con (.str "fail")) .nil))))))) (evVar 2) (evVar 6) [some (.cell c), e1, some (.d (chD x)), some (.cell m.length), some (.d (.str abc)), some (.d (.int (n : Int))), some (.d (.str (ch x ++ z))), none] (m2 ++ [.lst B]) = .ok (.d (.str w)) (m2 ++ [.lst B]) := by
    rw [← kw]
    by_cases q : ch x ++ z ∈ kws
    · simp [AW.execSs, AW.execS, AW.exSeq, AW.exIf, AW.exNext, AW.exRet, AW.exAsg, AW.exDrop, AW.exSetIx, AW.evT, AW.evalE, AW.evalB, AW.evalEs, AW.evalO, AW.evalC, AW.evalL, AW.evalIt, AW.evOr, AW.evAnd, AW.evNot, AW.evIte, AW.evTup, AW.evLm, AW.evDisp, AW.evCall, AW.evCons, AW.evNil, AW.evNoPart, AW.evPart, AW.evYes, AW.evSli, AW.ixV, AW.ev1, AW.ev2, AW.evVar, AW.evCon, AW.peek, AW.truV, AW.truD, AW.isiD, AW.cmpV, LK.cLt, LK.cLe, LK.cGt, LK.cGe, AW.b1D, AW.finish, AW.retV, AW.Val.data, AW.Val.datas, AW.allocL, isin4, q, hsm]
    · simp [AW.execSs, AW.execS, AW.exSeq, AW.exIf, AW.exNext, AW.exRet, AW.exAsg, AW.exDrop, AW.exSetIx, AW.evT, AW.evalE, AW.evalB, AW.evalEs, AW.evalO, AW.evalC, AW.evalL, AW.evalIt, AW.evOr, AW.evAnd, AW.evNot, AW.evIte, AW.evTup, AW.evLm, AW.evDisp, AW.evCall, AW.evCons, AW.evNil, AW.evNoPart, AW.evPart, AW.evYes, AW.evSli, AW.ixV, AW.ev1, AW.ev2, AW.evVar, AW.evCon, AW.peek, AW.truV, AW.truD, AW.isiD, AW.cmpV, LK.cLt, LK.cLe, LK.cGt, LK.cGe, AW.b1D, AW.finish, AW.retV, AW.Val.data, AW.Val.datas, AW.allocL, isin4, q, hsm]
  have ite' : evalE tab.gvals (R (k + 2)) (.ite (.cmp .In (.var 6) (.tup (.cons (.con (.str "do")) (.cons (.con (.str "test")) (.cons (.con (.str "value")) (.cons (.con (.str "fail")) .nil)))))) (.var 2) (.var 6)) [some (.cell c), e1, some (.d (chD x)), some (.cell m.length), some (.d (.str abc)), some (.d (.int (n : Int))), some (.d (.str (ch x ++ z))), none] (m2 ++ [.lst B]) = .ok (.d (.str w)) (m2 ++ [.lst B]) := ite
  rw [← w0]
  exact app_turn rfl p0 ite' hB
theorem word_loop (k : Nat) {c : Nat} {e1 : Option Val} : ∀ (xs : List Nat) (m : Store) (W : List Str) (e2 e5 e6 : Option Val), HD m c → xs.all low = true → W.length + xs.length ≤ 100 → (∀ w ∈ W, nameS w = true) → ∃ (W' : List Str) (m' : Store) (e2' e5' e6' : Option Val),
    goFor (fun d ρ m => (lift m (bindT (.name 2) d ρ)).bind fun ρ m => execSs tab.gvals (R (k + 2)) 100 wordB ρ m) (xs.map chD) [some (.cell c), e1, e2, some (.cell m.length), some (.d (.str abc)), e5, e6, none] (m ++ [.lst (W.map D.str)]) =
      .ok (.nx [some (.cell c), e1, e2', some (.cell m.length), some (.d (.str abc)), e5', e6', none]) (m' ++ [.lst (W'.map D.str)]) ∧ DS m c m' ∧ W'.map hd0 = W.map hd0 ++ xs ∧ ∀ w ∈ W', nameS w = true
  | [], m, W, e2, e5, e6, h, _, _, hw => ⟨W, m, e2, e5, e6, rfl, DS.refl h, by simp, hw⟩
  | x :: xs, m, W, e2, e5, e6, h, hx, hl, hw => by
    rw [List.all_cons, Bool.and_eq_true] at hx
    rw [List.length_cons] at hl
    obtain ⟨w, m1, a5, a6, f1, s1, nw, hdw⟩ := word_turn k (e1 := e1) (e5 := e5) (e6 := e6) (W := W) h hx.1 (by omega)
    obtain ⟨W', m2, b2, b5, b6, f2, s2, p2, n2⟩ := word_loop k xs m1 (W ++ [w]) (some (.d (chD x))) a5 a6 (s1.hd h) hx.2 (by simp; omega) (fun v hv => by
      rcases List.mem_append.mp hv with q | q
      · exact hw v q
      · rw [List.mem_singleton.mp q]; exact nw)
    refine ⟨W', m2, b2, b5, b6, ?_, s1.trans s2, by rw [p2]; simp [hdw], n2⟩
    rw [s1.len] at f2
    unfold goFor
    rw [List.map_cons]
    simp only [bindT, lift_some, Out.bind_ok, List.set_cons_succ, List.set_cons_zero]
    rw [f1]
    exact f2
theorem q6 {k : Nat} (hk : 2 ≤ k) {m : Store} {c : Nat} (h : HD m c) (n : Nat) (hn : n ≤ 26) : ∃ (fs : List Nat) (m' : Store), R k 6 [.cell c, .d (.str abc), .d (.int (n : Int))] m = .ok (.d (.lst (fs.map chD))) m' ∧ DS m c m' ∧ fs.length = n ∧ fs.Nodup ∧ fs.all low = true := by
  obtain ⟨i, rfl⟩ : ∃ i, k = i + 2 := ⟨k - 2, by omega⟩
  exact r6 i h n hn
theorem r7 (k : Nat) {m : Store} {c : Nat} (h : HD m c) : ∃ (W : List Str) (m' : Store), R (k + 3) 7 [.cell c, .d (.int 5)] m = .ok (.d (.lst (W.map D.str))) m' ∧ DS m c m' ∧ W.length = 5 ∧ W.Nodup ∧ ∀ w ∈ W, nameS w = true := by
  obtain ⟨xs, M1, f1, t1, l1, nd, lo⟩ := q6 (k := k + 2) (by omega) (hd_app (l := [.lst []]) h) 5 (by omega)
  obtain ⟨m1, rfl, s1⟩ := ds_app h t1
  obtain ⟨W, m2, b2, b5, b6, f2, s2, p2, n2⟩ := word_loop k (e1 := some (.d (.int 5))) xs m1 [] none none none (s1.hd h) lo (by rw [l1]; decide) (by simp)
  rw [s1.len] at f2
  have s2 := s1.trans s2
  rw [List.map_nil, List.nil_append] at p2
  refine ⟨W, m2, ?_, s2, by rw [← l1, ← p2, List.length_map], ?_, n2⟩
  · have f1' : R (k + 2) 6 [.cell c, .d (.str abc), .d (.int 5)] (m ++ [.lst []]) = .ok (.d (.lst (xs.map chD))) (m1 ++ [.lst []]) := f1
    show AW.finish false m (execSs tab.gvals (R (k + 2)) 100 f7.body [some (.cell c), some (.d (.int 5)), none, none, none, none, none, none] m) = _
    refine fin_nx [some (.cell c), some (.d (.int 5)), none, some (.cell m.length), some (.d (.str abc)), none, none, none] (m ++ [.lst []]) (by
      simp only [AW.execS, exPar, AW.evalEs, AW.evalE, AW.evalL, AW.evLm, AW.evDisp, AW.evCons, AW.evNil, AW.evCon, Out.bind_ok, lift_some, AW.allocL, if_true, AW.Val.datas, List.length_nil, sm (Nat.zero_le 1000), setVs, List.set_cons_succ, List.set_cons_zero, abc]) ?_
    refine fin_nx [some (.cell c), some (.d (.int 5)), b2, some (.cell m.length), some (.d (.str abc)), b5, b6, none] (m2 ++ [.lst (W.map D.str)]) (by
      show (itSeq _ _ _).bind _ = _
      simp only [itSeq, AW.evalE, AW.evalEs, AW.evCall, AW.evCons, AW.evNil, AW.evVar, List.getElem?_cons_zero, List.getElem?_cons_succ, Out.bind_ok, f1', AW.Val.data, lift_some, seqD]
      exact f2) ?_
    have j1 : (m2 ++ [Cel.lst (W.map D.str)])[m.length]? = some (.lst (W.map D.str)) := s2.len ▸ h0
    have tk : (m2 ++ [Cel.lst (W.map D.str)]).take m.length = m2 := by rw [← s2.len]; simp
    simp only [AW.execSs, AW.exSeq, AW.execS, AW.exRet, AW.evalE, AW.evVar, List.getElem?_cons_zero, List.getElem?_cons_succ, Out.bind_ok, AW.finish, AW.retV, j1, tk]
    simp
  · rw [← p2] at nd
    unfold List.Nodup at nd ⊢
    rw [List.pairwise_map] at nd
    exact nd.imp fun q e => q (by rw [e])
end LK
set_option maxRecDepth 100000
set_option maxHeartbeats 4000000
namespace LK
open PySem AW
theorem dedup_nd : ∀ {xs : List Str}, xs.Nodup → dedupS xs = xs
  | [], _ => rfl
  | x :: xs, h => by
    obtain ⟨h1, h2⟩ := List.nodup_cons.mp h
    unfold dedupS
    rw [if_neg h1, dedup_nd h2]
theorem strs_map : ∀ W : List Str, strsD (W.map D.str) = some W
  | [] => rfl
  | w :: W => by simp [strsD, strs_map W]
theorem all_names {W : List Str} (h : ∀ w ∈ W, nameS w = true) : (W.map D.str).all isName = true := by
  rw [List.all_map]
  exact List.all_eq_true.mpr fun w hw => h w hw
theorem names_of {W : List Str} (h : ∀ w ∈ W, nameS w = true) : isNames (.tup (W.map D.str)) = (decide (W.length ≤ 3) && decide ((dedupS W).length = W.length)) := by
  show (decide ((W.map D.str).length ≤ 3) && (W.map D.str).all isName && (match strsD (W.map D.str) with
    | some xs => decide ((dedupS xs).length = xs.length)
    | none => false)) = _
  rw [strs_map, all_names h, List.length_map, Bool.and_true]
theorem ok_names {W : List Str} (h : ∀ w ∈ W, nameS w = true) : ∀ d ∈ W.map D.str, okS d := fun d hd => by
  obtain ⟨w, hw, rfl⟩ := List.mem_map.mp hd
  exact okS_name (d := .str w) (h w hw)
theorem cut_take {α : Type} (xs : List α) {t : Int} (h : 0 ≤ t) : cutD xs none (some t) = xs.take t.toNat := by
  unfold cutD
  show (xs.drop 0).take ((if t < 0 then (t + (xs.length : Int)).toNat else min t.toNat xs.length) - 0) = _
  rw [if_neg (by omega), List.drop_zero, Nat.sub_zero]
  rcases Nat.le_total t.toNat xs.length with q | q
  · rw [Nat.min_eq_left q]
  · rw [Nat.min_eq_right q, List.take_of_length_le (Nat.le_refl _), List.take_of_length_le q]
theorem rpc (b : Bool) : ∃ s, reprD (.lst [.bl b, .bl false, .bl false, .bl true]) = some s ∧ PyData.strOk s = true := by
  cases b
  · exact ⟨"[False, False, False, True]", by kernel_rfl, by kernel_rfl⟩
  · exact ⟨"[True, False, False, True]", by kernel_rfl, by kernel_rfl⟩
theorem rpd (b : Bool) : ∃ s, reprD (.bl b) = some s ∧ PyData.strOk s = true := by
  cases b
  · exact ⟨"False", by kernel_rfl, by kernel_rfl⟩
  · exact ⟨"True", by kernel_rfl, by kernel_rfl⟩
theorem rpe : reprD (.lst [.bl false, .bl false, .bl true, .bl false]) = some "[False, False, True, False]" := by kernel_rfl
theorem rpe' : PyData.strOk "[False, False, True, False]" = true := by kernel_rfl
def lo3 (w0 w1 w2 w3 w4 : Str) : List D := [.non, .int 0, .bl true, .str "", .str "int", .str w0, .dct [] [], .lst [], .lst [.tup [.str w0, .str w1, .str w2, .str w3, .str w4]], .dct [.str w0] [.int 1]]
def ln3 (w0 w1 w2 w3 w4 : Str) : List D := [.tup [.tup [.str w0, .str w1, .str w2, .str w3, .str w4]], .tup [.lst [.str w0, .str w1, .str w2, .str w3, .str w4]], .tup [.str w0, .tup []], .tup [.str w0, .non], .tup [.int 0], .tup [.bl true], .tup [.lst []], .tup [.dct [] []]]
theorem notin2 {d : D} {w : Str} (h : d = .str "int" ∨ d = .str w) : cmpD .NotIn d (.tup [.str "int", .str w]) = some false := by
  rcases h with rfl | rfl
  · show some (!((Str.ofString "int" == Str.ofString "int") || ((w == Str.ofString "int") || false))) = _
    simp
  · show some (!((Str.ofString "int" == w) || ((w == w) || false))) = _
    simp
theorem lo3_ok {w0 w1 w2 w3 w4 : Str} (h : nameS w0 = true) {d : D} (hd : d ∈ lo3 w0 w1 w2 w3 w4) : okS d ∧ isNames d = false ∧ (isName d = false ∨ isName d = true ∧ cmpD .NotIn d (.tup [.str "int", .str w0]) = some false) ∧ okN d := by
  have n1 : nameS "int" = true := by decide +kernel
  have n2 : nameS "" = false := by decide +kernel
  unfold lo3 at hd
  simp only [List.mem_cons, List.not_mem_nil, or_false] at hd
  rcases hd with rfl | rfl | rfl | rfl | rfl | rfl | rfl | rfl | rfl | rfl
  · exact ⟨trivial, rfl, .inl rfl, trivial⟩
  · exact ⟨trivial, rfl, .inl rfl, trivial⟩
  · exact ⟨trivial, rfl, .inl rfl, trivial⟩
  · exact ⟨by show Str.length _ ≤ 10000; decide +kernel, rfl, .inl n2, trivial⟩
  · exact ⟨okS_name (d := .str "int") n1, rfl, .inr ⟨n1, notin2 (.inl rfl)⟩, trivial⟩
  · exact ⟨okS_name (d := .str w0) h, rfl, .inr ⟨h, notin2 (.inr rfl)⟩, trivial⟩
  · exact ⟨trivial, rfl, .inl rfl, trivial⟩
  · exact ⟨trivial, rfl, .inl rfl, trivial⟩
  · exact ⟨trivial, rfl, .inl rfl, trivial⟩
  · exact ⟨trivial, rfl, .inl rfl, trivial⟩
theorem ln3_ok {w0 w1 w2 w3 w4 : Str} (h : nameS w0 = true) {d : D} (hd : d ∈ ln3 w0 w1 w2 w3 w4) : isNames d = false ∧ okN d := by
  have o : okS (.str w0) := okS_name (d := .str w0) h
  unfold ln3 at hd
  simp only [List.mem_cons, List.not_mem_nil, or_false] at hd
  rcases hd with rfl | rfl | rfl | rfl | rfl | rfl | rfl | rfl
  · exact ⟨names_no rfl, ok1 trivial⟩
  · exact ⟨names_no rfl, ok1 trivial⟩
  · exact ⟨names_no (by simp [isName]), ok2 o trivial⟩
  · exact ⟨names_no (by simp [isName]), ok2 o trivial⟩
  · exact ⟨names_no rfl, ok1 trivial⟩
  · exact ⟨names_no rfl, ok1 trivial⟩
  · exact ⟨names_no rfl, ok1 trivial⟩
  · exact ⟨names_no rfl, ok1 trivial⟩
theorem q7 {k : Nat} (hk : 3 ≤ k) {m : Store} {c : Nat} (h : HD m c) : ∃ (W : List Str) (m' : Store), R k 7 [.cell c, .d (.int 5)] m = .ok (.d (.lst (W.map D.str))) m' ∧ DS m c m' ∧ W.length = 5 ∧ W.Nodup ∧ ∀ w ∈ W, nameS w = true := by
  obtain ⟨i, rfl⟩ : ∃ i, k = i + 3 := ⟨k - 3, by omega⟩
  exact r7 i h
/-- the row of picks -/
theorem row_ok {k : Nat} (hk : 2 ≤ k) {W : List Str} {m : Store} {c n : Nat} {ρ : Ev} (h : HD m c) (hn : n ≤ 100) (hW : 3 ≤ W.length) (h0 : ∀ d : D, (ρ.set 7 (some (.d d)))[0]? = some (some (.cell c))) (h1 : ∀ d : D, (ρ.set 7 (some (.d d)))[1]? = some (some (.d (.lst (W.map D.str))))) :
    ∃ (V : List Str) (m' : Store), goLc (lcTurn (.name 7) evYes (evCall (R k 5) (evCons (evVar 0) (evCons (evSli (evVar 1) evNoPart (evPart (evCon (.int 3)))) evNil))) ρ) (rngD n) [] m = .ok (V.map D.str) m' ∧ V.length = n ∧ (∀ v ∈ V, v ∈ W) ∧ DS m c m' := by
  have ct : cutD (W.map D.str) none (some 3) = (W.take 3).map D.str := by rw [cut_take _ (by omega)]; simp [List.map_take]
  obtain ⟨ys, m', e, l, p, s⟩ := lc_dice (c := c) (P := fun d => ∃ w ∈ W, d = .str w) (f := lcTurn (.name 7) evYes (evCall (R k 5) (evCons (evVar 0) (evCons (evSli (evVar 1) evNoPart (evPart (evCon (.int 3)))) evNil))) ρ) (fun d m h => by
    obtain ⟨x, m', e, hx, s⟩ := q5 hk m c ((W.take 3).map D.str) h (fun q => by
      have : ((W.take 3).map D.str).length = 0 := by rw [q]; rfl
      rw [List.length_map, List.length_take] at this
      omega) (by rw [List.length_map, List.length_take]; omega)
    obtain ⟨w, hw, rfl⟩ := List.mem_map.mp hx
    refine ⟨_, m', ?_, ⟨w, List.mem_of_mem_take hw, rfl⟩, s⟩
    simp only [lcTurn, bindT, lift_some, Out.bind_ok, evYes, if_true, evCall, evCons, evVar, h0, h1, evSli, evNoPart, evPart, evCon, ixV, peek, sliD, ct, evNil, e, Val.data]) (rngD n) [] m h (by rw [sl, rng_len]; simp; omega)
  have all : ∀ {ys : List D}, (∀ y ∈ ys, ∃ w ∈ W, y = .str w) → ∃ V : List Str, ys = V.map D.str ∧ ∀ v ∈ V, v ∈ W := by
    intro ys
    induction ys with
    | nil => intro _; exact ⟨[], rfl, by simp⟩
    | cons y ys ih =>
      intro h
      obtain ⟨w, hw, rfl⟩ := h y List.mem_cons_self
      obtain ⟨V, rfl, hV⟩ := ih fun z hz => h z (List.mem_cons_of_mem _ hz)
      exact ⟨w :: V, rfl, fun v hv => by
        rcases List.mem_cons.mp hv with q | q
        · rw [q]; exact hw
        · exact hV v q⟩
  obtain ⟨V, rfl, hV⟩ := all p
  refine ⟨V, m', by simpa using e, by simpa [rng_len] using l, hV, s⟩
end LK
set_option maxRecDepth 100000
set_option maxHeartbeats 4000000
namespace LK
open PySem AW
theorem r11 (k : Nat) {m : Store} {c : Nat} (h : HD m c) : ∃ m', R (k + 4) 11 [.cell c] m = .ok (.d (.bl true)) m' ∧ DS m c m' := by
  obtain ⟨W, m1, e1, s1, wl, nd, nW⟩ := q7 (k := k + 3) (by omega) h
  obtain ⟨t, m2, e2, t0, t1, s2⟩ := q4 (k := k + 3) (by omega) m1 c 6 (s1.hd h) (by omega) (by omega)
  have s2 := s1.trans s2
  obtain ⟨u, m3, e3, u0, u1, s3⟩ := q4 (k := k + 3) (by omega) m2 c 3 (s2.hd h) (by omega) (by omega)
  have s3 := s2.trans s3
  obtain ⟨x3, hx3⟩ : ∃ x : Option Val, x = some (.d (.lst [.bl (decide (t < 4)), .bl false, .bl false, .bl true])) := ⟨_, rfl⟩
  obtain ⟨V, m4, e4, vl, hV, s4⟩ := row_ok (k := k + 3) (by omega) (W := W) (n := 1 + u.toNat) (ρ := [some (.cell c), some (.d (.lst (W.map D.str))), some (.d (.int t)), x3, none, none, none, none]) (s3.hd h) (by omega) (by omega) (fun _ => rfl) (fun _ => rfl)
  have s4 := s3.trans s4
  have nV : ∀ v ∈ V, nameS v = true := fun v hv => nW v (hV v hv)
  match W, wl, nd, nW, e1, e4, hV with
  | [w0, w1, w2, w3, w4], wl, nd, nW, e1, e4, hV =>
    have n0 : nameS w0 = true := nW w0 (by simp)
    obtain ⟨d5, m5, e5, h5, s5⟩ := q5 (k := k + 3) (by omega) m4 c (lo3 w0 w1 w2 w3 w4) (s4.hd h) (by simp [lo3]) (by simp [lo3])
    have s5 := s4.trans s5
    obtain ⟨o5, p5, r5, on5⟩ := lo3_ok n0 h5
    obtain ⟨d6, m6, e6, h6, s6⟩ := q5 (k := k + 3) (by omega) m5 c (ln3 w0 w1 w2 w3 w4) (s5.hd h) (by simp [ln3]) (by simp [ln3])
    have s6 := s5.trans s6
    obtain ⟨p6, on6⟩ := ln3_ok n0 h6
    refine ⟨m6, ?_, s6⟩
    have nT : ∀ w ∈ [w0, w1, w2, w3, w4].take t.toNat, nameS w = true := fun w hw => nW w (List.mem_of_mem_take hw)
    have tl : ([w0, w1, w2, w3, w4].take t.toNat).length = t.toNat := by rw [List.length_take]; simp; omega
    have dT : (dedupS ([w0, w1, w2, w3, w4].take t.toNat)).length = t.toNat := by rw [dedup_nd ((List.take_sublist _ _).nodup nd), tl]
    have iT : isNames (.tup (([w0, w1, w2, w3, w4].take t.toNat).map D.str)) = decide (t < 4) := by
      rw [names_of nT, tl, dT]
      by_cases q : t < 4
      · rw [decide_eq_true q, decide_eq_true (by omega : t.toNat ≤ 3)]; simp
      · rw [decide_eq_false q, decide_eq_false (by omega : ¬ t.toNat ≤ 3)]; simp
    have ct : cutD [D.str w0, .str w1, .str w2, .str w3, .str w4] none (some t) = ([w0, w1, w2, w3, w4].take t.toNat).map D.str := by
      rw [cut_take _ t0, List.map_take]; rfl
    have oT := ok_names nT
    generalize ([w0, w1, w2, w3, w4].take t.toNat).map D.str = T at iT ct oT
    have c2a : ∀ m, R (k + 3) 2 [.d (.tup T)] m = .ok (.d (.bl (decide (t < 4)))) m := fun m => by rw [q2t (by omega) _ oT, iT]
    have c2b : ∀ m, R (k + 3) 2 [.d (.lst T)] m = .ok (.d (.bl false)) m := fun m => q2 (by omega) (.lst T) m trivial
    have c1a : ∀ m, R (k + 3) 1 [.d (.tup T)] m = .ok (.d (.bl false)) m := fun m => q1 (by omega) (.tup T) m trivial
    have c2c : ∀ m, R (k + 3) 2 [.d (.tup [])] m = .ok (.d (.bl true)) m := fun m => q2 (by omega) (.tup []) m (fun _ q => nomatch q)
    have c2d : ∀ m, R (k + 3) 2 [.d (.tup (V.map D.str))] m = .ok (.d (.bl (decide ((dedupS V).length = V.length)))) m := fun m => by
      rw [q2t (by omega) _ (ok_names nV), names_of nV, decide_eq_true (by omega : V.length ≤ 3), Bool.true_and]
    have ss : lbD .sset (.lst (V.map D.str)) = some ((sortS (dedupS V)).map .str) := by
      show (strsD (V.map D.str)).bind _ = _
      rw [strs_map, Option.bind_some, if_pos (by omega)]
    have sn : ((sortS (dedupS V)).map D.str).length = (dedupS V).length := by rw [List.length_map, sortS_len]
    have vn : (V.map D.str).length = V.length := List.length_map ..
    have c25 : ∀ m, R (k + 3) 2 [.d d5] m = .ok (.d (.bl false)) m := fun m => by rw [q2 (by omega) _ _ on5, p5]
    have c26 : ∀ m, R (k + 3) 2 [.d d6] m = .ok (.d (.bl false)) m := fun m => by rw [q2 (by omega) _ _ on6, p6]
    have c10 : ∀ m, R (k + 3) 1 [.d (.str w0)] m = .ok (.d (.bl true)) m := fun m => by rw [q1 (by omega) _ _ (okS_name (d := .str w0) n0)]; show Out.ok (Val.d (D.bl (nameS w0))) m = _; rw [n0]
    have c15 : ∀ m, R (k + 3) 1 [.d d5] m = .ok (.d (.bl (isName d5))) m := fun m => q1 (by omega) _ _ o5
    have i0 : idxD (.lst [.str w0, .str w1, .str w2, .str w3, .str w4]) (.int 0) = some (.str w0) := rfl
    have dc : b1D .dict (.lst [.tup [.str w0, .int 1]]) = some (.dct [.str w0] [.int 1]) := by
      show (if ([(Sum.inr w0 : L2.Key)] : List L2.Key).Nodup ∧ 1 ≤ sizeLine then some (D.dct [.str w0] [.int 1]) else none) = _
      rw [if_pos ⟨by simp, by rw [sl]; omega⟩]
    have pd : pairsD [.tup [.str w0, .int 1]] = some [(.inr w0, .int 1)] := rfl
    have kd : keyD (.inr w0) = .str w0 := rfl
    have e5' : ∀ mm, R (k + 3) 5 [.cell c, .d (.lst [.non, .int 0, .bl true, .str "", .str "int", .str w0, .dct [] [], .lst [], .lst [.tup [.str w0, .str w1, .str w2, .str w3, .str w4]], .dct [.str w0] [.int 1]])] mm = R (k + 3) 5 [.cell c, .d (.lst (lo3 w0 w1 w2 w3 w4))] mm := fun _ => rfl
    have e6' : ∀ mm, R (k + 3) 5 [.cell c, .d (.lst [.tup [.tup [.str w0, .str w1, .str w2, .str w3, .str w4]], .tup [.lst [.str w0, .str w1, .str w2, .str w3, .str w4]], .tup [.str w0, .tup []], .tup [.str w0, .non], .tup [.int 0], .tup [.bl true], .tup [.lst []], .tup [.dct [] []]])] mm = R (k + 3) 5 [.cell c, .d (.lst (ln3 w0 w1 w2 w3 w4))] mm := fun _ => rfl
    obtain ⟨ta, ea, ha⟩ := rpc (decide (t < 4))
    obtain ⟨tb, eb, hb⟩ := rpd (decide ((dedupS V).length = V.length))
    have sl5 : sliD (.lst [.str w0, .str w1, .str w2, .str w3, .str w4]) none (some t) = some (.lst T) := congrArg (fun z => some (D.lst z)) ct
    have tuT : b1D .tuple (.lst T) = some (.tup T) := rfl
    have tu5 : b1D .tuple (.lst [.str w0, .str w1, .str w2, .str w3, .str w4]) = some (.tup [.str w0, .str w1, .str w2, .str w3, .str w4]) := rfl
    have e1' : R (k + 3) 7 [.cell c, .d (.int 5)] m = .ok (.d (.lst [.str w0, .str w1, .str w2, .str w3, .str w4])) m1 := e1
    show AW.finish false m (execSs tab.gvals (R (k + 3)) 100 f11.body [some (.cell c), none, none, none, none, none, none, none] m) = _
    refine fin_nx [some (.cell c), some (.d (.lst [.str w0, .str w1, .str w2, .str w3, .str w4])), none, none, none, none, none, none] m1 (by simp [AW.execSs, AW.execS, AW.exSeq, AW.exIf, AW.exNext, AW.exRet, AW.exAsg, AW.exDrop, AW.exSetIx, AW.evT, AW.evalE, AW.evalB, AW.evalEs, AW.evalO, AW.evalC, AW.evalL, AW.evalIt, AW.evOr, AW.evAnd, AW.evNot, AW.evIte, AW.evTup, AW.evLm, AW.evDisp, AW.evCall, AW.evCons, AW.evNil, AW.evNoPart, AW.evPart, AW.evYes, AW.evSli, AW.ixV, AW.ev1, AW.ev2, AW.evVar, AW.evCon, AW.peek, AW.truV, AW.truD, AW.isiD, AW.cmpV, LK.cLt, LK.cLe, LK.cGt, LK.cGe, AW.b1D, AW.finish, AW.retV, AW.Val.data, AW.Val.datas, AW.allocL, e1']) ?_
    refine fin_nx [some (.cell c), some (.d (.lst [.str w0, .str w1, .str w2, .str w3, .str w4])), some (.d (.int t)), none, none, none, none, none] m2 (by simp [AW.execSs, AW.execS, AW.exSeq, AW.exIf, AW.exNext, AW.exRet, AW.exAsg, AW.exDrop, AW.exSetIx, AW.evT, AW.evalE, AW.evalB, AW.evalEs, AW.evalO, AW.evalC, AW.evalL, AW.evalIt, AW.evOr, AW.evAnd, AW.evNot, AW.evIte, AW.evTup, AW.evLm, AW.evDisp, AW.evCall, AW.evCons, AW.evNil, AW.evNoPart, AW.evPart, AW.evYes, AW.evSli, AW.ixV, AW.ev1, AW.ev2, AW.evVar, AW.evCon, AW.peek, AW.truV, AW.truD, AW.isiD, AW.cmpV, LK.cLt, LK.cLe, LK.cGt, LK.cGe, AW.b1D, AW.finish, AW.retV, AW.Val.data, AW.Val.datas, AW.allocL, e2]) ?_
    refine fin_nx [some (.cell c), some (.d (.lst [.str w0, .str w1, .str w2, .str w3, .str w4])), some (.d (.int t)), some (.d (.lst [.bl (decide (t < 4)), .bl false, .bl false, .bl true])), none, none, none, none] m2 (by simp [AW.execSs, AW.execS, AW.exSeq, AW.exIf, AW.exNext, AW.exRet, AW.exAsg, AW.exDrop, AW.exSetIx, AW.evT, AW.evalE, AW.evalB, AW.evalEs, AW.evalO, AW.evalC, AW.evalL, AW.evalIt, AW.evOr, AW.evAnd, AW.evNot, AW.evIte, AW.evTup, AW.evLm, AW.evDisp, AW.evCall, AW.evCons, AW.evNil, AW.evNoPart, AW.evPart, AW.evYes, AW.evSli, AW.ixV, AW.ev1, AW.ev2, AW.evVar, AW.evCon, AW.peek, AW.truV, AW.truD, AW.isiD, AW.cmpV, LK.cLt, LK.cLe, LK.cGt, LK.cGe, AW.b1D, AW.finish, AW.retV, AW.Val.data, AW.Val.datas, AW.allocL, sm, sl5, c2a, c2b, c1a, c2c]) ?_
    refine fin_nx [some (.cell c), some (.d (.lst [.str w0, .str w1, .str w2, .str w3, .str w4])), some (.d (.int t)), some (.d (.lst [.bl (decide (t < 4)), .bl false, .bl false, .bl true])), none, none, none, none] m2 (by simp [AW.execSs, AW.execS, AW.exSeq, AW.exIf, AW.exNext, AW.exRet, AW.exAsg, AW.exDrop, AW.exSetIx, AW.evT, AW.evalE, AW.evalB, AW.evalEs, AW.evalO, AW.evalC, AW.evalL, AW.evalIt, AW.evOr, AW.evAnd, AW.evNot, AW.evIte, AW.evTup, AW.evLm, AW.evDisp, AW.evCall, AW.evCons, AW.evNil, AW.evNoPart, AW.evPart, AW.evYes, AW.evSli, AW.ixV, AW.ev1, AW.ev2, AW.evVar, AW.evCon, AW.peek, AW.truV, AW.truD, AW.isiD, AW.cmpV, LK.cLt, LK.cLe, LK.cGt, LK.cGe, AW.b1D, AW.finish, AW.retV, AW.Val.data, AW.Val.datas, AW.allocL, sm, ea, neSelf ha]) ?_
    refine fin_nx [some (.cell c), some (.d (.lst [.str w0, .str w1, .str w2, .str w3, .str w4])), some (.d (.int t)), some (.d (.lst [.bl (decide (t < 4)), .bl false, .bl false, .bl true])), some (.d (.lst (V.map D.str))), none, none, none] m4 (by
      subst hx3
      simp only [AW.execS, exAsg, AW.evalE, AW.evalL, AW.evalIt, AW.evalC, AW.evalEs, AW.evalO, AW.evLm, AW.evLc]
      rw [rng_int (1 + u.toNat) (by omega) (by omega) _ _ _ m3]
      · rw [Out.bind_ok]
        have e4' : goLc (lcTurn (.name 7) evYes (evCall (R (k + 3) 5) (evCons (evVar 0) (evCons (evSli (evVar 1) evNoPart (evPart (evCon (.int 3)))) evNil))) [some (.cell c), some (.d (.lst [.str w0, .str w1, .str w2, .str w3, .str w4])), some (.d (.int t)), some (.d (.lst [.bl (decide (t < 4)), .bl false, .bl false, .bl true])), none, none, none, none]) (rngD (1 + u.toNat)) [] m3 = .ok (V.map D.str) m4 := e4
        rw [e4']
        rfl
      · have eu : ((1 + u.toNat : Nat) : Int) = 1 + u := by omega
        rw [eu]
        simp [AW.execSs, AW.execS, AW.exSeq, AW.exIf, AW.exNext, AW.exRet, AW.exAsg, AW.exDrop, AW.exSetIx, AW.evT, AW.evalE, AW.evalB, AW.evalEs, AW.evalO, AW.evalC, AW.evalL, AW.evalIt, AW.evOr, AW.evAnd, AW.evNot, AW.evIte, AW.evTup, AW.evLm, AW.evDisp, AW.evCall, AW.evCons, AW.evNil, AW.evNoPart, AW.evPart, AW.evYes, AW.evSli, AW.ixV, AW.ev1, AW.ev2, AW.evVar, AW.evCon, AW.peek, AW.truV, AW.truD, AW.isiD, AW.cmpV, LK.cLt, LK.cLe, LK.cGt, LK.cGe, AW.b1D, AW.finish, AW.retV, AW.Val.data, AW.Val.datas, AW.allocL, e3, add_i]) ?_
    refine fin_nx [some (.cell c), some (.d (.lst [.str w0, .str w1, .str w2, .str w3, .str w4])), some (.d (.int t)), some (.d (.lst [.bl (decide (t < 4)), .bl false, .bl false, .bl true])), some (.d (.lst (V.map D.str))), none, none, none] m4 (by
      have ei : (decide (((dedupS V).length : Int) = (V.length : Int))) = decide ((dedupS V).length = V.length) := by
        rw [Bool.eq_iff_iff, decide_eq_true_eq, decide_eq_true_eq]; omega
      generalize V.map D.str = Y at *
      generalize (sortS (dedupS V)).map D.str = Y2 at *
      simp [AW.execSs, AW.execS, AW.exSeq, AW.exIf, AW.exNext, AW.exRet, AW.exAsg, AW.exDrop, AW.exSetIx, AW.evT, AW.evalE, AW.evalB, AW.evalEs, AW.evalO, AW.evalC, AW.evalL, AW.evalIt, AW.evOr, AW.evAnd, AW.evNot, AW.evIte, AW.evTup, AW.evLm, AW.evDisp, AW.evCall, AW.evCons, AW.evNil, AW.evNoPart, AW.evPart, AW.evYes, AW.evSli, AW.ixV, AW.ev1, AW.ev2, AW.evVar, AW.evCon, AW.peek, AW.truV, AW.truD, AW.isiD, AW.cmpV, LK.cLt, LK.cLe, LK.cGt, LK.cGe, AW.b1D, AW.finish, AW.retV, AW.Val.data, AW.Val.datas, AW.allocL, sm, c2d, eb, lenD, evLb, ss, sn, vn, eqI, ei, neSelf hb]) ?_
    refine fin_nx [some (.cell c), some (.d (.lst [.str w0, .str w1, .str w2, .str w3, .str w4])), some (.d (.int t)), some (.d (.lst [.bl (decide (t < 4)), .bl false, .bl false, .bl true])), some (.d (.lst (V.map D.str))), some (.d d5), none, none] m5 (by simp [AW.execSs, AW.execS, AW.exSeq, AW.exIf, AW.exNext, AW.exRet, AW.exAsg, AW.exDrop, AW.exSetIx, AW.evT, AW.evalE, AW.evalB, AW.evalEs, AW.evalO, AW.evalC, AW.evalL, AW.evalIt, AW.evOr, AW.evAnd, AW.evNot, AW.evIte, AW.evTup, AW.evLm, AW.evDisp, AW.evCall, AW.evCons, AW.evNil, AW.evNoPart, AW.evPart, AW.evYes, AW.evSli, AW.ixV, AW.ev1, AW.ev2, AW.evVar, AW.evCon, AW.peek, AW.truV, AW.truD, AW.isiD, AW.cmpV, LK.cLt, LK.cLe, LK.cGt, LK.cGe, AW.b1D, AW.finish, AW.retV, AW.Val.data, AW.Val.datas, AW.allocL, sm, i0, pd, kd, sl, tu5, e5', e5]) ?_
    refine fin_nx [some (.cell c), some (.d (.lst [.str w0, .str w1, .str w2, .str w3, .str w4])), some (.d (.int t)), some (.d (.lst [.bl (decide (t < 4)), .bl false, .bl false, .bl true])), some (.d (.lst (V.map D.str))), some (.d d5), some (.d d6), none] m6 (by simp [AW.execSs, AW.execS, AW.exSeq, AW.exIf, AW.exNext, AW.exRet, AW.exAsg, AW.exDrop, AW.exSetIx, AW.evT, AW.evalE, AW.evalB, AW.evalEs, AW.evalO, AW.evalC, AW.evalL, AW.evalIt, AW.evOr, AW.evAnd, AW.evNot, AW.evIte, AW.evTup, AW.evLm, AW.evDisp, AW.evCall, AW.evCons, AW.evNil, AW.evNoPart, AW.evPart, AW.evYes, AW.evSli, AW.ixV, AW.ev1, AW.ev2, AW.evVar, AW.evCon, AW.peek, AW.truV, AW.truD, AW.isiD, AW.cmpV, LK.cLt, LK.cLe, LK.cGt, LK.cGe, AW.b1D, AW.finish, AW.retV, AW.Val.data, AW.Val.datas, AW.allocL, sm, i0, tu5, e6', e6]) ?_
    refine fin_nx [some (.cell c), some (.d (.lst [.str w0, .str w1, .str w2, .str w3, .str w4])), some (.d (.int t)), some (.d (.lst [.bl false, .bl false, .bl true, .bl false])), some (.d (.lst (V.map D.str))), some (.d d5), some (.d d6), none] m6 (by
      rcases r5 with q | ⟨q, z⟩
      · simp [AW.execSs, AW.execS, AW.exSeq, AW.exIf, AW.exNext, AW.exRet, AW.exAsg, AW.exDrop, AW.exSetIx, AW.evT, AW.evalE, AW.evalB, AW.evalEs, AW.evalO, AW.evalC, AW.evalL, AW.evalIt, AW.evOr, AW.evAnd, AW.evNot, AW.evIte, AW.evTup, AW.evLm, AW.evDisp, AW.evCall, AW.evCons, AW.evNil, AW.evNoPart, AW.evPart, AW.evYes, AW.evSli, AW.ixV, AW.ev1, AW.ev2, AW.evVar, AW.evCon, AW.peek, AW.truV, AW.truD, AW.isiD, AW.cmpV, LK.cLt, LK.cLe, LK.cGt, LK.cGe, AW.b1D, AW.finish, AW.retV, AW.Val.data, AW.Val.datas, AW.allocL, sm, i0, c25, c26, c10, c15, q]
      · simp [AW.execSs, AW.execS, AW.exSeq, AW.exIf, AW.exNext, AW.exRet, AW.exAsg, AW.exDrop, AW.exSetIx, AW.evT, AW.evalE, AW.evalB, AW.evalEs, AW.evalO, AW.evalC, AW.evalL, AW.evalIt, AW.evOr, AW.evAnd, AW.evNot, AW.evIte, AW.evTup, AW.evLm, AW.evDisp, AW.evCall, AW.evCons, AW.evNil, AW.evNoPart, AW.evPart, AW.evYes, AW.evSli, AW.ixV, AW.ev1, AW.ev2, AW.evVar, AW.evCon, AW.peek, AW.truV, AW.truD, AW.isiD, AW.cmpV, LK.cLt, LK.cLe, LK.cGt, LK.cGe, AW.b1D, AW.finish, AW.retV, AW.Val.data, AW.Val.datas, AW.allocL, sm, i0, c25, c26, c10, c15, q, z]) ?_
    exact fin_ret _ m6 (by simp [AW.execSs, AW.execS, AW.exSeq, AW.exIf, AW.exNext, AW.exRet, AW.exAsg, AW.exDrop, AW.exSetIx, AW.evT, AW.evalE, AW.evalB, AW.evalEs, AW.evalO, AW.evalC, AW.evalL, AW.evalIt, AW.evOr, AW.evAnd, AW.evNot, AW.evIte, AW.evTup, AW.evLm, AW.evDisp, AW.evCall, AW.evCons, AW.evNil, AW.evNoPart, AW.evPart, AW.evYes, AW.evSli, AW.ixV, AW.ev1, AW.ev2, AW.evVar, AW.evCon, AW.peek, AW.truV, AW.truD, AW.isiD, AW.cmpV, LK.cLt, LK.cLe, LK.cGt, LK.cGe, AW.b1D, AW.finish, AW.retV, AW.Val.data, AW.Val.datas, AW.allocL, sm, rpe, eqSelf rpe']) s6.len
end LK
set_option maxRecDepth 100000
set_option maxHeartbeats 4000000
namespace LK
open PySem AW
theorem goLc_none {f : D → Store → Out (Option D)} {m : Store} : ∀ (ds acc : List D), (∀ d ∈ ds, f d m = .ok none m) → goLc f ds acc m = .ok acc m
  | [], acc, _ => rfl
  | d :: ds, acc, h => by
    unfold goLc
    rw [h d List.mem_cons_self]
    exact goLc_none ds acc fun e he => h e (List.mem_cons_of_mem _ he)
theorem cIsN (a b : Bool) : cmpD .IsNot (.bl a) (.bl b) = some (!(a == b)) := rfl
theorem eqNil : cmpD .NotEq (.lst []) (.lst []) = some false := by kernel_rfl
def turnB : Ss :=
  .cons (.asg 5 (.call 3 (.cons (.var 0) (.cons (.var 1) .nil))))
  (.cons (.ife (.bop false (.cons (.not (.call 8 (.cons (.var 5) .nil))) (.cons (.not (.call 10 (.cons (.var 5) .nil))) (.cons (.not (.call 10 (.cons (.var 5) .nil))) .nil)))) (.cons (.ret (.con (.bl false))) .nil) .nil)
  (.cons (.ife (.not (.call 11 (.cons (.var 5) .nil))) (.cons (.ret (.con (.bl false))) .nil) .nil)
  .nil))
theorem turn_ok {m : Store} {ns : List Int} {p : Nat} {e5 : Option Val} : ∃ (m' : Store) (e5' : Option Val), execSs tab.gvals (R 7) 100 turnB [some (.d (.lst (ns.map .int))), some (.d (.int (p : Int))), none, none, none, e5, none, none] m = .ok (.nx [some (.d (.lst (ns.map .int))), some (.d (.int (p : Int))), none, none, none, e5', none, none]) m' := by
  obtain ⟨a, b, pa, f1⟩ := r3 6 m ns p
  have h1 : HD (m ++ [.lst [.int a, .int b, .int 0]]) m.length := ⟨a, b, 0, pa, by simp⟩
  generalize m ++ [Cel.lst [.int a, .int b, .int 0]] = m1 at *
  obtain ⟨m2, f2, s2⟩ := r8 4 h1
  obtain ⟨m3, f3, s3⟩ := r10 3 (s2.hd h1)
  have s3 := s2.trans s3
  obtain ⟨m4, f4, s4⟩ := r10 3 (s3.hd h1)
  have s4 := s3.trans s4
  obtain ⟨m5, f5, s5⟩ := r11 3 (s4.hd h1)
  have f1 : R 7 3 [.d (.lst (ns.map .int)), .d (.int (p : Int))] m = .ok (.cell m.length) m1 := f1
  have f2 : R 7 8 [.cell m.length] m1 = .ok (.d (.bl true)) m2 := f2
  have f3 : R 7 10 [.cell m.length] m2 = .ok (.d (.bl true)) m3 := f3
  have f4 : R 7 10 [.cell m.length] m3 = .ok (.d (.bl true)) m4 := f4
  have f5 : R 7 11 [.cell m.length] m4 = .ok (.d (.bl true)) m5 := f5
  refine ⟨m5, some (.cell m.length), ?_⟩
  refine ss_nx [some (.d (.lst (ns.map .int))), some (.d (.int (p : Int))), none, none, none, some (.cell m.length), none, none] m1 (by simp [AW.execSs, AW.execS, AW.exSeq, AW.exIf, AW.exNext, AW.exRet, AW.exAsg, AW.exDrop, AW.exSetIx, AW.evT, AW.evalE, AW.evalB, AW.evalEs, AW.evalO, AW.evalC, AW.evalL, AW.evalIt, AW.evOr, AW.evAnd, AW.evNot, AW.evIte, AW.evTup, AW.evLm, AW.evDisp, AW.evCall, AW.evCons, AW.evNil, AW.evNoPart, AW.evPart, AW.evYes, AW.evSli, AW.ixV, AW.ev1, AW.ev2, AW.evVar, AW.evCon, AW.peek, AW.truV, AW.truD, AW.isiD, AW.cmpV, LK.cLt, LK.cLe, LK.cGt, LK.cGe, AW.b1D, AW.finish, AW.retV, AW.Val.data, AW.Val.datas, AW.allocL, f1]) ?_
  refine ss_nx [some (.d (.lst (ns.map .int))), some (.d (.int (p : Int))), none, none, none, some (.cell m.length), none, none] m4 (by simp [AW.execSs, AW.execS, AW.exSeq, AW.exIf, AW.exNext, AW.exRet, AW.exAsg, AW.exDrop, AW.exSetIx, AW.evT, AW.evalE, AW.evalB, AW.evalEs, AW.evalO, AW.evalC, AW.evalL, AW.evalIt, AW.evOr, AW.evAnd, AW.evNot, AW.evIte, AW.evTup, AW.evLm, AW.evDisp, AW.evCall, AW.evCons, AW.evNil, AW.evNoPart, AW.evPart, AW.evYes, AW.evSli, AW.ixV, AW.ev1, AW.ev2, AW.evVar, AW.evCon, AW.peek, AW.truV, AW.truD, AW.isiD, AW.cmpV, LK.cLt, LK.cLe, LK.cGt, LK.cGe, AW.b1D, AW.finish, AW.retV, AW.Val.data, AW.Val.datas, AW.allocL, f2, f3, f4]) ?_
  refine ss_nx [some (.d (.lst (ns.map .int))), some (.d (.int (p : Int))), none, none, none, some (.cell m.length), none, none] m5 (by simp [AW.execSs, AW.execS, AW.exSeq, AW.exIf, AW.exNext, AW.exRet, AW.exAsg, AW.exDrop, AW.exSetIx, AW.evT, AW.evalE, AW.evalB, AW.evalEs, AW.evalO, AW.evalC, AW.evalL, AW.evalIt, AW.evOr, AW.evAnd, AW.evNot, AW.evIte, AW.evTup, AW.evLm, AW.evDisp, AW.evCall, AW.evCons, AW.evNil, AW.evNoPart, AW.evPart, AW.evYes, AW.evSli, AW.ixV, AW.ev1, AW.ev2, AW.evVar, AW.evCon, AW.peek, AW.truV, AW.truD, AW.isiD, AW.cmpV, LK.cLt, LK.cLe, LK.cGt, LK.cGe, AW.b1D, AW.finish, AW.retV, AW.Val.data, AW.Val.datas, AW.allocL, f5]) ?_
  rfl
theorem turns {ns : List Int} : ∀ (ps : List Nat) (m : Store) (e1 e5 : Option Val), ∃ (m' : Store) (e1' e5' : Option Val),
    goFor (fun d ρ m => (lift m (bindT (.name 1) d ρ)).bind fun ρ m => execSs tab.gvals (R 7) 100 turnB ρ m) (ps.map fun p : Nat => D.int (p : Int)) [some (.d (.lst (ns.map .int))), e1, none, none, none, e5, none, none] m = .ok (.nx [some (.d (.lst (ns.map .int))), e1', none, none, none, e5', none, none]) m'
  | [], m, e1, e5 => ⟨m, e1, e5, rfl⟩
  | p :: ps, m, e1, e5 => by
    obtain ⟨m1, a5, f1⟩ := turn_ok (m := m) (ns := ns) (p := p) (e5 := e5)
    obtain ⟨m2, b1, b5, f2⟩ := turns (ns := ns) ps m1 (some (.d (.int (p : Int)))) a5
    refine ⟨m2, b1, b5, ?_⟩
    rw [List.map_cons]
    unfold goFor
    simp only [bindT, lift_some, Out.bind_ok, List.set_cons_succ, List.set_cons_zero]
    rw [f1]
    exact f2
def goodW : List Str := ["none", "done", "dead", "what", "yes", "no", "and", "or", "never", "kept", "list", "if", "undo", "fails"]
theorem good_ok : goodW.all (fun w => nameS w && isNames (.tup [.str w, .str "q"])) = true := by decide +kernel
def badW : List Str := [⟨#[110, 10]⟩, ⟨#[10, 110]⟩, "n ", " n", ⟨#[97, 45, 98]⟩, "a_b", ⟨#[45]⟩]
theorem bad_ok : badW.all (fun w => decide (w.length ≤ 10000) && !nameS w) = true := by decide +kernel
theorem n1 {s : Str} {b : Bool} (h : nameS s = b) (hl : s.length ≤ 10000) (m : Store) : R 7 1 [.d (.str s)] m = .ok (.d (.bl b)) m := by rw [q1 (by omega) (.str s) m hl, ← h]; rfl
theorem n2 {ds : List D} {b : Bool} (h : isNames (.tup ds) = b) (hl : ∀ d ∈ ds, okS d) (m : Store) : R 7 2 [.d (.tup ds)] m = .ok (.d (.bl b)) m := by rw [q2t (by omega) m hl, ← h]
theorem n0 {d : D} {b : Bool} (h : isInt d = b) (m : Store) : R 7 0 [.d d] m = .ok (.d (.bl b)) m := by rw [← h]; exact r0 6 d m
theorem rpf : reprD (.lst [.bl false, .bl false, .bl true, .bl false, .bl false, .bl false, .bl true, .bl false, .bl true]) = some "[False, False, True, False, False, False, True, False, True]" := by kernel_rfl
theorem rpf' : PyData.strOk "[False, False, True, False, False, False, True, False, True]" = true := by kernel_rfl
theorem rpg : reprD (.lst [.int 8, .tup [.str "do", .str "fail", .str "test", .str "value"]]) = some "[8, ('do', 'fail', 'test', 'value')]" := by kernel_rfl
theorem rpg' : PyData.strOk "[8, ('do', 'fail', 'test', 'value')]" = true := by kernel_rfl
theorem pw39 : binD .Pow (.int 10) (.int 39) = some (.int 1000000000000000000000000000000000000000) := by kernel_rfl
def N1 : Int := 1000000000000000000000000000000000000000000000000000000000000000000000000000000000000000000000000000
theorem big1 : binD .Mult (.int M) (.int 1000000000000000000000000000000000000000) = some (.int N1) := by kernel_rfl
theorem big2 : binD .Mult (.int (-M)) (.int 1000000000000000000000000000000000000000) = some (.int (-N1)) := by kernel_rfl
theorem isI1 : isInt (.int N1) = false := by decide +kernel
theorem isI2 : isInt (.int (-N1)) = false := by decide +kernel
theorem isI3 : isInt (.int M) = false := by decide +kernel
theorem isI4 : isInt (.int (-M)) = false := by decide +kernel
theorem isI5 : isInt (.int (M - 1)) = true := by decide +kernel
theorem add_l {a b : List D} (h : a.length + b.length ≤ 1000) : binD .Add (.lst a) (.lst b) = some (.lst (a ++ b)) := by
  show (if small (a.length + b.length) = true then some (D.lst (a ++ b)) else none) = _
  rw [sm h]; rfl
end LK
set_option maxRecDepth 100000
set_option maxHeartbeats 400000
namespace LK
open PySem AW
theorem oq : okS (.str "q") := by show Str.length _ ≤ 10000; decide +kernel
section
variable (m : Store) (sc e1 e5 : Option Val)
theorem lg (told : Option Val) : evalE tab.gvals (R 7) (.lm false (.lc (.seq (.var 3)) (.name 6) (.yes (.bop false (.cons (.cmp .IsNot (.call 1 (.cons (.var 6) .nil)) (.con (.bl true))) (.cons (.cmp .IsNot (.call 2 (.cons (.tup (.cons (.var 6) (.cons (.con (.str "q")) .nil))) .nil)) (.con (.bl true))) .nil)))) (.var 6))) [sc, e1, told, some (.d (.lst (goodW.map .str))), none, e5, none, none] m = .ok (.d (.lst [])) m := by
    simp only [AW.evalE, AW.evalL, AW.evalIt, AW.evalC, AW.evLm, AW.evLc, itSeq, AW.evVar, List.getElem?_cons_zero, List.getElem?_cons_succ, Out.bind_ok, AW.Val.data, lift_some, seqD]
    rw [goLc_none]
    · rfl
    · intro d hd
      obtain ⟨w, hw, rfl⟩ := List.mem_map.mp hd
      have hg := List.all_eq_true.mp good_ok w hw
      rw [Bool.and_eq_true] at hg
      have ow : okS (.str w) := okS_name (d := .str w) hg.1
      have u1 := n1 hg.1 ow m
      have u2 := n2 hg.2 (ok2 ow oq) m
      simp [lcTurn, bindT, AW.execSs, AW.execS, AW.exSeq, AW.exIf, AW.exNext, AW.exRet, AW.exAsg, AW.exDrop, AW.exSetIx, AW.evT, AW.evalE, AW.evalB, AW.evalEs, AW.evalO, AW.evalC, AW.evalL, AW.evalIt, AW.evOr, AW.evAnd, AW.evNot, AW.evIte, AW.evTup, AW.evLm, AW.evDisp, AW.evCall, AW.evCons, AW.evNil, AW.evNoPart, AW.evPart, AW.evYes, AW.evSli, AW.ixV, AW.ev1, AW.ev2, AW.evVar, AW.evCon, AW.peek, AW.truV, AW.truD, AW.isiD, AW.cmpV, LK.cLt, LK.cLe, LK.cGt, LK.cGe, AW.b1D, AW.finish, AW.retV, AW.Val.data, AW.Val.datas, AW.allocL, u1, u2, cIsN, sm]
theorem lbd (told good : Option Val) : evalE tab.gvals (R 7) (.lm false (.lc (.seq (.var 4)) (.name 6) (.yes (.bop false (.cons (.cmp .IsNot (.call 1 (.cons (.var 6) .nil)) (.con (.bl false))) (.cons (.cmp .IsNot (.call 2 (.cons (.tup (.cons (.var 6) .nil)) .nil)) (.con (.bl false))) .nil)))) (.var 6))) [sc, e1, told, good, some (.d (.lst (badW.map .str))), e5, none, none] m = .ok (.d (.lst [])) m := by
    simp only [AW.evalE, AW.evalL, AW.evalIt, AW.evalC, AW.evLm, AW.evLc, itSeq, AW.evVar, List.getElem?_cons_zero, List.getElem?_cons_succ, Out.bind_ok, AW.Val.data, lift_some, seqD]
    rw [goLc_none]
    · rfl
    · intro d hd
      obtain ⟨w, hw, rfl⟩ := List.mem_map.mp hd
      have hg := List.all_eq_true.mp bad_ok w hw
      rw [Bool.and_eq_true, decide_eq_true_eq, Bool.not_eq_true'] at hg
      have u1 := n1 hg.2 hg.1 m
      have u2 := n2 (ds := [.str w]) (b := false) (by rw [names_one]; exact hg.2) (ok1 hg.1) m
      simp [lcTurn, bindT, AW.execSs, AW.execS, AW.exSeq, AW.exIf, AW.exNext, AW.exRet, AW.exAsg, AW.exDrop, AW.exSetIx, AW.evT, AW.evalE, AW.evalB, AW.evalEs, AW.evalO, AW.evalC, AW.evalL, AW.evalIt, AW.evOr, AW.evAnd, AW.evNot, AW.evIte, AW.evTup, AW.evLm, AW.evDisp, AW.evCall, AW.evCons, AW.evNil, AW.evNoPart, AW.evPart, AW.evYes, AW.evSli, AW.ixV, AW.ev1, AW.ev2, AW.evVar, AW.evCon, AW.peek, AW.truV, AW.truD, AW.isiD, AW.cmpV, LK.cLt, LK.cLe, LK.cGt, LK.cGe, AW.b1D, AW.finish, AW.retV, AW.Val.data, AW.Val.datas, AW.allocL, u1, u2, cIsN, sm]
end
end LK
set_option maxRecDepth 100000
set_option maxHeartbeats 400000
namespace LK
open PySem AW
theorem pwM (G : List D) (Φ : Fns) (ρ : Ev) (m : Store) : evalE G Φ (.bin .Pow (.con (.int 10)) (.con (.int 60))) ρ m = .ok (.d (.int M)) m := by
  simp only [AW.evalE, AW.ev2, AW.evCon, Out.bind_ok, AW.peek, lift_some, pw60]
theorem pwN (G : List D) (Φ : Fns) (ρ : Ev) (m : Store) : evalE G Φ (.bin .Pow (.con (.int 10)) (.con (.int 39))) ρ m = .ok (.d (.int 1000000000000000000000000000000000000000)) m := by
  simp only [AW.evalE, AW.ev2, AW.evCon, Out.bind_ok, AW.peek, lift_some, pw39]
theorem biP (G : List D) (Φ : Fns) (ρ : Ev) (m : Store) : evalE G Φ (.bin .Mult (.bin .Pow (.con (.int 10)) (.con (.int 60))) (.bin .Pow (.con (.int 10)) (.con (.int 39)))) ρ m = .ok (.d (.int N1)) m := by
  rw [AW.evalE, AW.ev2, pwM, Out.bind_ok, pwN]
  simp only [Out.bind_ok, AW.peek, lift_some, big1]
theorem ngM (G : List D) (Φ : Fns) (ρ : Ev) (m : Store) : evalE G Φ (.neg (.bin .Pow (.con (.int 10)) (.con (.int 60)))) ρ m = .ok (.d (.int (-M))) m := by
  rw [AW.evalE, AW.ev1, pwM]
  simp only [Out.bind_ok, AW.peek, lift_some, negD]
theorem biN (G : List D) (Φ : Fns) (ρ : Ev) (m : Store) : evalE G Φ (.bin .Mult (.neg (.bin .Pow (.con (.int 10)) (.con (.int 60)))) (.bin .Pow (.con (.int 10)) (.con (.int 39)))) ρ m = .ok (.d (.int (-N1))) m := by
  rw [AW.evalE, AW.ev2, ngM, Out.bind_ok, pwN]
  simp only [Out.bind_ok, AW.peek, lift_some, big2]
theorem li (m : Store) (ρ : Ev) (hr : ∀ d : D, (ρ.set 7 (some (.d d)))[7]? = some (some (.d d))) : evalE tab.gvals (R 7) (.lm false (.lc (.seq (.tup (.cons (.bin .Mult (.bin .Pow (.con (.int 10)) (.con (.int 60))) (.bin .Pow (.con (.int 10)) (.con (.int 39)))) (.cons (.bin .Mult (.neg (.bin .Pow (.con (.int 10)) (.con (.int 60)))) (.bin .Pow (.con (.int 10)) (.con (.int 39)))) .nil)))) (.name 7) (.yes (.call 0 (.cons (.var 7) .nil))) (.var 7))) ρ m = .ok (.d (.lst [])) m := by
  have tp : evalE tab.gvals (R 7) (.tup (.cons (.bin .Mult (.bin .Pow (.con (.int 10)) (.con (.int 60))) (.bin .Pow (.con (.int 10)) (.con (.int 39)))) (.cons (.bin .Mult (.neg (.bin .Pow (.con (.int 10)) (.con (.int 60)))) (.bin .Pow (.con (.int 10)) (.con (.int 39)))) .nil))) ρ m = .ok (.d (.tup [.int N1, .int (-N1)])) m := by
    rw [AW.evalE, AW.evTup, AW.evalEs, AW.evCons, biP, Out.bind_ok, AW.evalEs, AW.evCons, biN, Out.bind_ok, AW.evalEs, AW.evNil]
    simp only [Out.bind_ok, AW.Val.datas, AW.Val.data, Option.bind_some, Option.map_some, lift_some, List.length_cons, List.length_nil, sm (show 0 + 1 + 1 ≤ 1000 by omega), if_true]
  generalize E.tup (.cons (.bin .Mult (.bin .Pow (.con (.int 10)) (.con (.int 60))) (.bin .Pow (.con (.int 10)) (.con (.int 39)))) (.cons (.bin .Mult (.neg (.bin .Pow (.con (.int 10)) (.con (.int 60)))) (.bin .Pow (.con (.int 10)) (.con (.int 39)))) .nil)) = te at tp
  rw [AW.evalE, AW.evLm, AW.evalL, AW.evLc, AW.evalIt, itSeq, tp]
  simp only [Out.bind_ok, AW.Val.data, lift_some, seqD]
  rw [goLc_none]
  · rfl
  · intro d hd
    have u : isInt d = false := by
      rcases List.mem_cons.mp hd with q | q
      · rw [q]; exact isI1
      · rw [List.mem_singleton.mp q]; exact isI2
    have u1 := n0 u m
    simp only [lcTurn, bindT, lift_some, Out.bind_ok, AW.evalC, AW.evT, AW.evalE, AW.evCall, AW.evalEs, AW.evCons, AW.evVar, hr, AW.evNil, u1, AW.truV, AW.peek, AW.truD]
    rfl
end LK
set_option maxRecDepth 100000
set_option maxHeartbeats 1000000
namespace LK
open PySem AW
theorem if_nil {Φ : Fns} {a : E} {ρ : Ev} {m : Store} {th : Ss} (h : evalE tab.gvals Φ a ρ m = .ok (.d (.lst [])) m) : execS tab.gvals Φ 100 (.ife (.cmp .NotEq a (.lm false (.disp .nil))) th .nil) ρ m = .ok (.nx ρ) m := by
  rw [AW.execS, AW.exIf, AW.evT, AW.evalE, AW.ev2, h]
  simp only [Out.bind_ok, AW.evalE, AW.evLm, AW.evalL, AW.evDisp, AW.evalEs, AW.evNil, AW.Val.datas, lift_some, List.length_nil, sm (Nat.zero_le 1000), if_true, AW.allocL, Bool.false_eq_true, if_false, AW.peek, AW.cmpV, eqNil, Option.map_some, AW.truV, AW.truD, AW.execSs, AW.exNext]
theorem r12 (ns : List Int) (hn : ns.length ≤ 63) : ∃ m', R 8 12 [.d (.lst (ns.map D.int))] [] = .ok (.d (.bl true)) m' := by
  have cnt : ∃ n : Nat, n ≤ 8 ∧ evalE tab.gvals (R 7) (.b2 .max (.con (.int 1)) (.b2 .min (.con (.int 8)) (.b1 .len (.var 0)))) [some (.d (.lst (ns.map .int))), none, none, none, none, none, none, none] [] = .ok (.d (.int (n : Int))) [] := by
    by_cases h8 : ns.length < 8
    · by_cases h1 : 1 < ns.length
      · refine ⟨ns.length, by omega, ?_⟩
        have a1 : (ns.length : Int) < 8 := by omega
        have a2 : (1 : Int) < (ns.length : Int) := by omega
        simp [AW.execSs, AW.execS, AW.exSeq, AW.exIf, AW.exNext, AW.exRet, AW.exAsg, AW.exDrop, AW.exSetIx, AW.evT, AW.evalE, AW.evalB, AW.evalEs, AW.evalO, AW.evalC, AW.evalL, AW.evalIt, AW.evOr, AW.evAnd, AW.evNot, AW.evIte, AW.evTup, AW.evLm, AW.evDisp, AW.evCall, AW.evCons, AW.evNil, AW.evNoPart, AW.evPart, AW.evYes, AW.evSli, AW.ixV, AW.ev1, AW.ev2, AW.evVar, AW.evCon, AW.peek, AW.truV, AW.truD, AW.isiD, AW.cmpV, LK.cLt, LK.cLe, LK.cGt, LK.cGe, AW.b1D, AW.finish, AW.retV, AW.Val.data, AW.Val.datas, AW.allocL, lenD, b2D, a1, a2]
      · refine ⟨1, by omega, ?_⟩
        have a1 : (ns.length : Int) < 8 := by omega
        have a2 : ¬ (1 : Int) < (ns.length : Int) := by omega
        simp [AW.execSs, AW.execS, AW.exSeq, AW.exIf, AW.exNext, AW.exRet, AW.exAsg, AW.exDrop, AW.exSetIx, AW.evT, AW.evalE, AW.evalB, AW.evalEs, AW.evalO, AW.evalC, AW.evalL, AW.evalIt, AW.evOr, AW.evAnd, AW.evNot, AW.evIte, AW.evTup, AW.evLm, AW.evDisp, AW.evCall, AW.evCons, AW.evNil, AW.evNoPart, AW.evPart, AW.evYes, AW.evSli, AW.ixV, AW.ev1, AW.ev2, AW.evVar, AW.evCon, AW.peek, AW.truV, AW.truD, AW.isiD, AW.cmpV, LK.cLt, LK.cLe, LK.cGt, LK.cGe, AW.b1D, AW.finish, AW.retV, AW.Val.data, AW.Val.datas, AW.allocL, lenD, b2D, a1, a2]
    · refine ⟨8, by omega, ?_⟩
      have a1 : ¬ (ns.length : Int) < 8 := by omega
      simp [AW.execSs, AW.execS, AW.exSeq, AW.exIf, AW.exNext, AW.exRet, AW.exAsg, AW.exDrop, AW.exSetIx, AW.evT, AW.evalE, AW.evalB, AW.evalEs, AW.evalO, AW.evalC, AW.evalL, AW.evalIt, AW.evOr, AW.evAnd, AW.evNot, AW.evIte, AW.evTup, AW.evLm, AW.evDisp, AW.evCall, AW.evCons, AW.evNil, AW.evNoPart, AW.evPart, AW.evYes, AW.evSli, AW.ixV, AW.ev1, AW.ev2, AW.evVar, AW.evCon, AW.peek, AW.truV, AW.truD, AW.isiD, AW.cmpV, LK.cLt, LK.cLe, LK.cGt, LK.cGe, AW.b1D, AW.finish, AW.retV, AW.Val.data, AW.Val.datas, AW.allocL, lenD, b2D, a1]
  obtain ⟨n, n8, ec⟩ := cnt
  obtain ⟨m, e1, e5, ft⟩ := turns (ns := ns) (List.range n) [] none none
  have s1 : execS tab.gvals (R 7) 100 (.forr (.rng1 (.b2 .max (.con (.int 1)) (.b2 .min (.con (.int 8)) (.b1 .len (.var 0))))) (.name 1) turnB) [some (.d (.lst (ns.map .int))), none, none, none, none, none, none, none] [] = .ok (.nx [some (.d (.lst (ns.map .int))), e1, none, none, none, e5, none, none]) m := by
    show (itRng1 _ _ _).bind _ = _
    rw [rng_int n (by omega) (by omega) _ _ _ [] ec]
    exact ft
  have v1 := n1 (s := "a1") (b := false) (by decide +kernel) (by decide +kernel) m
  have v2 := n1 (s := "a b") (b := false) (by decide +kernel) (by decide +kernel) m
  have v3 := n1 (s := "lazy") (b := true) (by decide +kernel) (by decide +kernel) m
  have oS : ∀ s : Str, s.length ≤ 10000 → okS (.str s) := fun s h => h
  have oa := oS "a" (by decide +kernel)
  have ob := oS "b" (by decide +kernel)
  have oc := oS "c" (by decide +kernel)
  have oq := oS "q" (by decide +kernel)
  have v4 := n2 (ds := [.str "a", .str "a"]) (b := false) (by decide +kernel) (ok2 oa oa) m
  have v5 := n2 (ds := [.str "a", .str "b", .str "c"]) (b := true) (by decide +kernel) (fun d hd => by
    rcases List.mem_cons.mp hd with q | q
    · rw [q]; exact oa
    · exact ok2 ob oc d q) m
  have v6 := n0 (d := .bl true) (b := false) rfl m
  have v7 := n0 isI3 m
  have v8 := n0 isI4 m
  have v9 := n0 isI5 m
  generalize hsc : some (Val.d (D.lst (ns.map D.int))) = sc at *
  refine ⟨m.take 0, ?_⟩
  show AW.finish false [] (execSs tab.gvals (R 7) 100 f12.body [some (.d (.lst (ns.map .int))), none, none, none, none, none, none, none] []) = _
  rw [hsc]
  refine fin_nx [sc, e1, none, none, none, e5, none, none] m s1 ?_
  refine fin_nx [sc, e1, some (.d (.lst [.bl false, .bl false, .bl true, .bl false, .bl false])), none, none, e5, none, none] m (by simp only [AW.execS, AW.exAsg, AW.evalE, AW.evLm, AW.evalL, AW.evDisp, AW.evalEs, AW.evCons, AW.evNil, AW.evCall, AW.evCon, AW.ev1, AW.ev2, AW.peek, Out.bind_ok, lift_some, pw60, sub_i, negD, v1, v6, v7, v8, v9, AW.Val.datas, AW.Val.data, Option.bind_some, Option.map_some, List.length_cons, List.length_nil, sm (show 0 + 1 + 1 + 1 + 1 + 1 ≤ 1000 by omega), if_true, AW.allocL, List.set_cons_zero, List.set_cons_succ, Bool.false_eq_true, if_false]) ?_
  refine fin_nx [sc, e1, some (.d (.lst [.bl false, .bl false, .bl true, .bl false, .bl false, .bl false, .bl true, .bl false, .bl true])), none, none, e5, none, none] m (by simp [AW.execSs, AW.execS, AW.exSeq, AW.exIf, AW.exNext, AW.exRet, AW.exAsg, AW.exDrop, AW.exSetIx, AW.evT, AW.evalE, AW.evalB, AW.evalEs, AW.evalO, AW.evalC, AW.evalL, AW.evalIt, AW.evOr, AW.evAnd, AW.evNot, AW.evIte, AW.evTup, AW.evLm, AW.evDisp, AW.evCall, AW.evCons, AW.evNil, AW.evNoPart, AW.evPart, AW.evYes, AW.evSli, AW.ixV, AW.ev1, AW.ev2, AW.evVar, AW.evCon, AW.peek, AW.truV, AW.truD, AW.isiD, AW.cmpV, LK.cLt, LK.cLe, LK.cGt, LK.cGe, AW.b1D, AW.finish, AW.retV, AW.Val.data, AW.Val.datas, AW.allocL, sm, v2, v3, v4, v5, add_l]) ?_
  refine fin_nx [sc, e1, some (.d (.lst [.bl false, .bl false, .bl true, .bl false, .bl false, .bl false, .bl true, .bl false, .bl true])), none, none, e5, none, none] m (by simp [AW.execSs, AW.execS, AW.exSeq, AW.exIf, AW.exNext, AW.exRet, AW.exAsg, AW.exDrop, AW.exSetIx, AW.evT, AW.evalE, AW.evalB, AW.evalEs, AW.evalO, AW.evalC, AW.evalL, AW.evalIt, AW.evOr, AW.evAnd, AW.evNot, AW.evIte, AW.evTup, AW.evLm, AW.evDisp, AW.evCall, AW.evCons, AW.evNil, AW.evNoPart, AW.evPart, AW.evYes, AW.evSli, AW.ixV, AW.ev1, AW.ev2, AW.evVar, AW.evCon, AW.peek, AW.truV, AW.truD, AW.isiD, AW.cmpV, LK.cLt, LK.cLe, LK.cGt, LK.cGe, AW.b1D, AW.finish, AW.retV, AW.Val.data, AW.Val.datas, AW.allocL, sm, rpf, neSelf rpf']) ?_
  refine fin_nx [sc, e1, some (.d (.lst [.bl false, .bl false, .bl true, .bl false, .bl false, .bl false, .bl true, .bl false, .bl true])), some (.d (.lst (goodW.map .str))), none, e5, none, none] m (by simp [AW.execSs, AW.execS, AW.exSeq, AW.exIf, AW.exNext, AW.exRet, AW.exAsg, AW.exDrop, AW.exSetIx, AW.evT, AW.evalE, AW.evalB, AW.evalEs, AW.evalO, AW.evalC, AW.evalL, AW.evalIt, AW.evOr, AW.evAnd, AW.evNot, AW.evIte, AW.evTup, AW.evLm, AW.evDisp, AW.evCall, AW.evCons, AW.evNil, AW.evNoPart, AW.evPart, AW.evYes, AW.evSli, AW.ixV, AW.ev1, AW.ev2, AW.evVar, AW.evCon, AW.peek, AW.truV, AW.truD, AW.isiD, AW.cmpV, LK.cLt, LK.cLe, LK.cGt, LK.cGe, AW.b1D, AW.finish, AW.retV, AW.Val.data, AW.Val.datas, AW.allocL, sm, goodW]) ?_
  have lg := lg m sc e1 e5 (some (.d (.lst [.bl false, .bl false, .bl true, .bl false, .bl false, .bl false, .bl true, .bl false, .bl true])))
  refine fin_nx [sc, e1, some (.d (.lst [.bl false, .bl false, .bl true, .bl false, .bl false, .bl false, .bl true, .bl false, .bl true])), some (.d (.lst (goodW.map .str))), none, e5, none, none] m (by
    exact if_nil lg) ?_
  refine fin_nx [sc, e1, some (.d (.lst [.bl false, .bl false, .bl true, .bl false, .bl false, .bl false, .bl true, .bl false, .bl true])), some (.d (.lst (goodW.map .str))), some (.d (.lst (badW.map .str))), e5, none, none] m (by simp [AW.execSs, AW.execS, AW.exSeq, AW.exIf, AW.exNext, AW.exRet, AW.exAsg, AW.exDrop, AW.exSetIx, AW.evT, AW.evalE, AW.evalB, AW.evalEs, AW.evalO, AW.evalC, AW.evalL, AW.evalIt, AW.evOr, AW.evAnd, AW.evNot, AW.evIte, AW.evTup, AW.evLm, AW.evDisp, AW.evCall, AW.evCons, AW.evNil, AW.evNoPart, AW.evPart, AW.evYes, AW.evSli, AW.ixV, AW.ev1, AW.ev2, AW.evVar, AW.evCon, AW.peek, AW.truV, AW.truD, AW.isiD, AW.cmpV, LK.cLt, LK.cLe, LK.cGt, LK.cGe, AW.b1D, AW.finish, AW.retV, AW.Val.data, AW.Val.datas, AW.allocL, sm, badW]) ?_
  have lb' := lbd m sc e1 e5 (some (.d (.lst [.bl false, .bl false, .bl true, .bl false, .bl false, .bl false, .bl true, .bl false, .bl true]))) (some (.d (.lst (goodW.map .str))))
  refine fin_nx [sc, e1, some (.d (.lst [.bl false, .bl false, .bl true, .bl false, .bl false, .bl false, .bl true, .bl false, .bl true])), some (.d (.lst (goodW.map .str))), some (.d (.lst (badW.map .str))), e5, none, none] m (by
    exact if_nil lb') ?_
  have li := li m [sc, e1, some (.d (.lst [.bl false, .bl false, .bl true, .bl false, .bl false, .bl false, .bl true, .bl false, .bl true])), some (.d (.lst (goodW.map .str))), some (.d (.lst (badW.map .str))), e5, none, none] (fun _ => rfl)
  refine fin_nx [sc, e1, some (.d (.lst [.bl false, .bl false, .bl true, .bl false, .bl false, .bl false, .bl true, .bl false, .bl true])), some (.d (.lst (goodW.map .str))), some (.d (.lst (badW.map .str))), e5, none, none] m (by
    exact if_nil li) ?_
  simp [AW.execSs, AW.execS, AW.exSeq, AW.exIf, AW.exNext, AW.exRet, AW.exAsg, AW.exDrop, AW.exSetIx, AW.evT, AW.evalE, AW.evalB, AW.evalEs, AW.evalO, AW.evalC, AW.evalL, AW.evalIt, AW.evOr, AW.evAnd, AW.evNot, AW.evIte, AW.evTup, AW.evLm, AW.evDisp, AW.evCall, AW.evCons, AW.evNil, AW.evNoPart, AW.evPart, AW.evYes, AW.evSli, AW.ixV, AW.ev1, AW.ev2, AW.evVar, AW.evCon, AW.peek, AW.truV, AW.truD, AW.isiD, AW.cmpV, LK.cLt, LK.cLe, LK.cGt, LK.cGe, AW.b1D, AW.finish, AW.retV, AW.Val.data, AW.Val.datas, AW.allocL, sm, tab, rpg, eqSelf rpg']
end LK
theorem PySem.Challenge.cw_askwords_k01_integers_and_names_holds : PySem.Challenge.rw_askwords_k01_integers_and_names.Holds := by
  exact LK.hold LK.r12
