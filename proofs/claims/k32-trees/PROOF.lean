import PyProof.Rows.All
import Wide.All
import OpenK.AllK
import Wide.FinOn
import HandS.ForMost
import HandS.Deep
import HandS.IsInst
import HandS.Lambda
import HandS.Nested
import HandS.Style
import HandS.SetFor
import HandS.Walk
import HandS.Conv
import HandS.More
import PyProof.ReprRoads
import PyProof.Rows.StrRev
import PyProof.StrOps2
import KE.KRevSl
import HandS.Steps
import HandS.Codes
import PySem.Challenge.RW_foldplans_k32_whole_trees_by_operations
import KE.KSortedM
import KE.KStateDown
import HandS.Head0
import HandS.Head1
import HandS.Head2
import HandS.HeadEnd
import HandS.HeadHook1
import HandS.HeadHook2
import HandS.HeadHook3
import HandS.HeadHook4
import HandS.HeadNt
import HandS.EndTab
import HandS.NestedK
set_option Elab.async false
set_option linter.all false
set_option maxRecDepth 100000
set_option maxHeartbeats 4000000
/-! WA: tracked data, how heaps grow, functions whose callers hold no repr open -/
namespace W7
open PySem PySem.Spec PyProof.Rows L2 LamX NdefX

/-! ### data that stand in a heap, all of it tracked -/
mutual
inductive Td (G : Hp) : V → PyData → Prop
  | non : Td G .non .none
  | bl (b : Bool) : Td G (.bl b) (.bool b)
  | int (i : Int) : Td G (.int i) (.int i)
  | str (x : Str) : Td G (.str x) (.str x)
  | lst {a : Addr} {xs : List V} {ds : List PyData} : G a = some (.lst xs) → TdAll G xs ds → Td G (.ref a) (.list ds)
  | tup {a : Addr} {xs : List V} {ds : List PyData} : G a = some (.tup xs) → TdAll G xs ds → Td G (.ref a) (.tuple ds)
inductive TdAll (G : Hp) : List V → List PyData → Prop
  | nil : TdAll G [] []
  | cons {v : V} {vs : List V} {d : PyData} {ds : List PyData} : Td G v d → TdAll G vs ds → TdAll G (v :: vs) (d :: ds)
end
mutual
theorem Td.mono {G G' : Hp} (e : Same G G') : ∀ {v : V} {d : PyData}, Td G v d → Td G' v d
  | _, _, .non => .non
  | _, _, .bl b => .bl b
  | _, _, .int i => .int i
  | _, _, .str x => .str x
  | _, _, .lst h t => .lst (e _ _ h) (t.mono e)
  | _, _, .tup h t => .tup (e _ _ h) (t.mono e)
theorem TdAll.mono {G G' : Hp} (e : Same G G') : ∀ {v : List V} {d : List PyData}, TdAll G v d → TdAll G' v d
  | _, _, .nil => .nil
  | _, _, .cons h t => .cons (h.mono e) (t.mono e)
end
mutual
theorem Td.dp {K : PySem.W.Frag} {G : Hp} : ∀ {v : V} {d : PyData}, Td G v d → Dp K G v d
  | _, _, .non => .non
  | _, _, .bl b => .bl b
  | _, _, .int i => .int i
  | _, _, .str x => .str x
  | _, _, .lst h t => .lst (SqL.of h) t.dp
  | _, _, .tup h t => .tup (SqT.of h) t.dp
theorem TdAll.dp {K : PySem.W.Frag} {G : Hp} : ∀ {v : List V} {d : List PyData}, TdAll G v d → DpAll K G v d
  | _, _, .nil => .nil
  | _, _, .cons h t => .cons h.dp t.dp
end
theorem TdAll.length {G : Hp} : ∀ {v : List V} {d : List PyData}, TdAll G v d → v.length = d.length
  | _, _, .nil => rfl
  | _, _, .cons _ t => congrArg (· + 1) t.length
theorem TdAll.app {G : Hp} : ∀ {v w : List V} {d e : List PyData}, TdAll G v d → TdAll G w e → TdAll G (v ++ w) (d ++ e)
  | _, _, _, _, .nil, k => k
  | _, _, _, _, .cons h t, k => .cons h (t.app k)
theorem TdAll.get {G : Hp} : ∀ {v : List V} {d : List PyData}, TdAll G v d → ∀ {i : Nat} {x : V}, v[i]? = some x → ∃ z, d[i]? = some z ∧ Td G x z
  | _, _, .nil, i, x, e => by simp at e
  | _, _, .cons h _, 0, x, e => ⟨_, rfl, by cases e; exact h⟩
  | _, _, .cons _ t, i + 1, x, e => t.get (i := i) e
theorem TdAll.getd {G : Hp} : ∀ {v : List V} {d : List PyData}, TdAll G v d → ∀ {i : Nat} {z : PyData}, d[i]? = some z → ∃ x, v[i]? = some x ∧ Td G x z
  | _, _, .nil, i, x, e => by simp at e
  | _, _, .cons h _, 0, x, e => ⟨_, rfl, by cases e; exact h⟩
  | _, _, .cons _ t, i + 1, x, e => t.getd (i := i) e
theorem TdAll.take {G : Hp} : ∀ {v : List V} {d : List PyData}, TdAll G v d → ∀ n : Nat, TdAll G (v.take n) (d.take n)
  | _, _, _, 0 => .nil
  | _, _, .nil, _ + 1 => .nil
  | _, _, .cons h t, n + 1 => .cons h (t.take n)
theorem TdAll.drop {G : Hp} : ∀ {v : List V} {d : List PyData}, TdAll G v d → ∀ n : Nat, TdAll G (v.drop n) (d.drop n)
  | _, _, k, 0 => k
  | _, _, .nil, _ + 1 => .nil
  | _, _, .cons _ t, n + 1 => t.drop n
theorem TdAll.erase {G : Hp} : ∀ {v : List V} {d : List PyData}, TdAll G v d → ∀ n : Nat, TdAll G (v.eraseIdx n) (d.eraseIdx n)
  | _, _, .nil, _ => .nil
  | _, _, .cons _ t, 0 => t
  | _, _, .cons h t, n + 1 => .cons h (t.erase n)
theorem TdAll.dropLast {G : Hp} {v : List V} {d : List PyData} (t : TdAll G v d) : TdAll G v.dropLast d.dropLast := by
  rw [List.dropLast_eq_take, List.dropLast_eq_take, t.length]
  exact t.take _
theorem Td.list_inv {G : Hp} {v : V} {ds : List PyData} (h : Td G v (.list ds)) : ∃ a xs, v = .ref a ∧ G a = some (.lst xs) ∧ TdAll G xs ds := by
  cases h with
  | lst h t => exact ⟨_, _, rfl, h, t⟩
theorem Td.tup_inv {G : Hp} {v : V} {ds : List PyData} (h : Td G v (.tuple ds)) : ∃ a xs, v = .ref a ∧ G a = some (.tup xs) ∧ TdAll G xs ds := by
  cases h with
  | tup h t => exact ⟨_, _, rfl, h, t⟩
theorem Td.int_inv {G : Hp} {v : V} {i : Int} (h : Td G v (.int i)) : v = .int i := by cases h; rfl
theorem Td.str_inv {G : Hp} {v : V} {i : Str} (h : Td G v (.str i)) : v = .str i := by cases h; rfl
theorem TdAll.ints {G : Hp} : ∀ (ns : List Int), TdAll G (ns.map V.int) (ns.map PyData.int)
  | [] => .nil
  | n :: r => .cons (.int n) (TdAll.ints r)
theorem TdAll.ints_inv {G : Hp} : ∀ {xs : List V} {ns : List Int}, TdAll G xs (ns.map PyData.int) → xs = ns.map V.int
  | _, [], .nil => rfl
  | _, _ :: r, .cons h t => by rw [h.int_inv, t.ints_inv]; rfl
theorem TdAll.strs {G : Hp} : ∀ (ns : List Str), TdAll G (ns.map V.str) (ns.map PyData.str)
  | [] => .nil
  | n :: r => .cons (.str n) (TdAll.strs r)
theorem TdAll.strs_inv {G : Hp} : ∀ {xs : List V} {ns : List Str}, TdAll G xs (ns.map PyData.str) → xs = ns.map V.str
  | _, [], .nil => rfl
  | _, _ :: r, .cons h t => by rw [h.str_inv, t.strs_inv]; rfl
theorem TdAll.two_inv {G : Hp} {xs : List V} {d e : PyData} (t : TdAll G xs [d, e]) : ∃ v w, xs = [v, w] ∧ Td G v d ∧ Td G w e := by
  cases t with
  | cons h t =>
    cases t with
    | cons h2 t => cases t; exact ⟨_, _, rfl, h, h2⟩

/-! ### how the heap goes on: G, what stands still; E, what may change -/
/-- tables of code objects that a step keeps alive -/
structure Gx (T : List NTab) (E : List Addr) (G H G' H' : Hp) : Prop where
  g : Same G G'
  s : Same G' H'
  n : ∀ b o, G' b = some o → G b = some o ∨ H b = none
  h : ∀ b o, b ∉ E → H b = some o → (∀ ps, o ≠ .tbl ps) → H' b = some o
  u : ∀ b, H' b = none → H b = none
  t : TabsN T H → TabsN T H'
section
variable {T : List NTab} {E : List Addr} {G H G1 H1 G2 H2 : Hp}
theorem Gx.refl (e : Same G H) : Gx T E G H G H := ⟨fun _ _ h => h, e, fun _ _ h => .inl h, fun _ _ _ h _ => h, fun _ h => h, fun h => h⟩
theorem Gx.trans (a : Gx T E G H G1 H1) (b : Gx T E G1 H1 G2 H2) : Gx T E G H G2 H2 where
  g := a.g.trans b.g
  s := b.s
  n := fun c o h => by
    rcases b.n c o h with z | z
    · exact a.n c o z
    · exact .inr (a.u c z)
  h := fun c o nc h q => b.h c o nc (a.h c o nc h q) q
  u := fun c h => a.u c (b.u c h)
  t := fun h => b.t (a.t h)
theorem Gx.wide {E' : List Addr} (a : Gx T E G H G1 H1) (h : ∀ b ∈ E, b ∈ E') : Gx T E' G H G1 H1 := ⟨a.g, a.s, a.n, fun c o nc => a.h c o fun z => nc (h c z), a.u, a.t⟩
theorem Gx.none0 (a : Gx T [] G H G1 H1) : Gx T E G H G1 H1 := a.wide fun _ h => absurd h (by simp)
theorem same_new {H : Hp} {p : Addr} (h : H p = none) (o : HO) : Same H (upd H p o) := fun b u q => by rw [upd_ne (ne_of_none q h)]; exact q
theorem upd_none_ne {H : Hp} {a b : Addr} {o : HO} (h : upd H a o b = none) : b ≠ a ∧ H b = none := by
  unfold upd at h
  split at h
  · cases h
  · rename_i q
    exact ⟨q, h⟩
/-- a new thing that stands still from now on -/
theorem Gx.new (e : Same G H) {p : Addr} (hp : H p = none) (o : HO) : Gx T E G H (upd G p o) (upd H p o) where
  g := same_new (e.free hp) o
  s := fun b u q => by
    by_cases hb : b = p
    · rw [hb, upd_same] at q ⊢; exact q
    · rw [upd_ne hb] at q ⊢; exact e b u q
  n := fun b u q => by
    by_cases hb : b = p
    · rw [hb]; exact .inr hp
    · rw [upd_ne hb] at q; exact .inl q
  h := fun b u _ q _ => same_new hp o b u q
  u := fun b q => (upd_none_ne q).2
  t := fun h => h.ext (same_new hp o)
/-- a new thing that may change -/
theorem Gx.newM (e : Same G H) {p : Addr} (hp : H p = none) (o : HO) : Gx T E G H G (upd H p o) where
  g := Same.refl G
  s := e.trans (same_new hp o)
  n := fun _ _ q => .inl q
  h := fun b u _ q _ => same_new hp o b u q
  u := fun b q => (upd_none_ne q).2
  t := fun h => h.ext (same_new hp o)
/-- it stands still from now on -/
theorem Gx.freeze (e : Same G H) (a : Gx T E G1 H1 G H) {p : Addr} {o : HO} (h1 : H1 p = none) (h : H p = some o) : Gx T E G1 H1 (upd G p o) H where
  g := fun b u q => by
    have q2 := a.g b u q
    by_cases hb : b = p
    · rw [hb] at q2 ⊢
      rw [upd_same, ← h]
      exact e p u q2
    · rw [upd_ne hb]; exact q2
  s := fun b u q => by
    by_cases hb : b = p
    · rw [hb, upd_same] at q; rw [hb, h]; exact q
    · rw [upd_ne hb] at q; exact e b u q
  n := fun b u q => by
    by_cases hb : b = p
    · rw [hb]; exact .inr h1
    · rw [upd_ne hb] at q; exact a.n b u q
  h := a.h
  u := a.u
  t := a.t
/-- an object of ours is written: a list or a dict -/
def Wr : HO → Prop
  | .lst _ => True
  | .dK _ => True
  | _ => False
theorem TabsN.write {H : Hp} {p : Addr} {o o' : HO} (t : TabsN T H) (h : H p = some o) (w : Wr o) : TabsN T (upd H p o') := fun q hq => by
  obtain ⟨ps, e1, e2, e3⟩ := t q hq
  have n1 : q.1 ≠ p := fun z => by
    rw [z, h] at e1
    cases e1
    exact w
  refine ⟨ps, by rw [upd_ne n1]; exact e1, e2, fun pos cv hc => ?_⟩
  obtain ⟨c, c1, c2⟩ := e3 pos cv hc
  refine ⟨c, c1, ?_⟩
  rw [upd_ne fun z => ?_]
  · exact c2
  · rw [z, h] at c2
    cases c2
    exact w
theorem Gx.write (a : Gx T E G H G1 H1) {p : Addr} {o o' : HO} (h0 : H p = none ∨ p ∈ E) (h1 : G1 p = none) (h : H1 p = some o) (w : Wr o) : Gx T E G H G1 (upd H1 p o') where
  g := a.g
  s := fun b u q => by
    rw [upd_ne (ne_of_none q h1)]
    exact a.s b u q
  n := a.n
  h := fun b u nb q nt => by
    rw [upd_ne fun z => ?_]
    · exact a.h b u nb q nt
    · rcases h0 with h0 | h0
      · rw [z, h0] at q; cases q
      · exact nb (z ▸ h0)
  u := fun b q => a.u b (upd_none_ne q).2
  t := fun t => W7.TabsN.write (a.t t) h w
/-- an object of ours that may change, o what it is now -/
structure Mu (G0 H0 G H : Hp) (p : Addr) (o : HO) : Prop where
  z : H0 p = none
  g : G p = none
  h : H p = some o
theorem Gx.keepM {o : HO} {p : Addr} (a : Gx T E G H G1 H1) (nE : p ∉ E) (g : G p = none) (h : H p = some o) (nt : ∀ ps, o ≠ .tbl ps) : G1 p = none ∧ H1 p = some o := by
  refine ⟨?_, a.h p o nE h nt⟩
  cases q : G1 p with
  | none => rfl
  | some u =>
    rcases a.n p u q with z | z
    · rw [z] at g; cases g
    · rw [z] at h; cases h
theorem Mu.step {G0 H0 : Hp} {p : Addr} {o : HO} (m : Mu G0 H0 G H p o) (a : Gx T E G H G1 H1) (nE : p ∉ E) (nt : ∀ ps, o ≠ .tbl ps) : Mu G0 H0 G1 H1 p o :=
  let ⟨x, y⟩ := a.keepM nE m.g m.h nt
  ⟨m.z, x, y⟩
theorem Gx.keepN {p : Addr} (a : Gx T E G H G1 H1) (g : G p = none) {o : HO} (h : H p = some o) : G1 p = none := by
  cases q : G1 p with
  | none => rfl
  | some u =>
    rcases a.n p u q with z | z
    · rw [z] at g; cases g
    · rw [z] at h; cases h
end

/-! ### functions, where no repr is under way -/
abbrev Sq := List V → Hp → VK → Prop
structure Fn (P : Program) (w : World) (K : PySem.W.Frag) (mg : Str → Option Value) (base : Heap) (k : Nat) (f : Addr) (fd : FuncData) (ps : List Str) (sp : Sq) : Prop where
  len : ∀ vs H Q, sp vs H Q → vs.length = ps.length
  go : ∀ (A : Around) (outer : List Env) (s : Shared) (H : Hp) (args : Args) (us : List Value) (vs : List V) (Q : VK), A.guards = some [] → Room k A → Env0 P w K mg base A outer s H →
    BindsTo s fd args (ps.zip us) → Vals vs us → sp vs H Q → codeAny (model P w) A (.call (.ref f) args) (CR CX0 outer P w H s Q E0) s
/-- what is known of a def's object -/
structure Dn (K : PySem.W.Frag) (mg : Str → Option Value) (x : Str) (st : Stmt) (ps : List Str) (f : Addr) (fd : FuncData) : Prop where
  fn : Fun K x x st f fd
  bi : Binds K fd ps []
  at_ : mg x = some (.ref f)
section
variable {P : Program} {w : World} {K : PySem.W.Frag} {mg : Str → Option Value} {base : Heap} {f : Addr} {fd : FuncData} {ps : List Str} {sp : Sq} {k : Nat}
theorem Fn.mono {j : Nat} (F : Fn P w K mg base j f fd ps sp) (h : j ≤ k) : Fn P w K mg base k f fd ps sp :=
  ⟨F.len, fun A outer s H args us vs Q hg hr => F.go A outer s H args us vs Q hg (hr.mono h)⟩
theorem Fn.imp {sp' : Sq} (F : Fn P w K mg base k f fd ps sp) (h : ∀ vs H Q, sp' vs H Q → sp vs H Q) : Fn P w K mg base k f fd ps sp' :=
  ⟨fun vs H Q q => F.len vs H Q (h _ _ _ q), fun A outer s H args us vs Q hg hr he hb hv q => F.go A outer s H args us vs Q hg hr he hb hv (h _ _ _ q)⟩
theorem Dn.ok {x : Str} {st : Stmt} {N : List Str} (F : Dn K mg x st ps f fd) (S : FnScope N ps (defScope st)) (len : ∀ vs H Q, sp vs H Q → vs.length = ps.length)
    (body : ∀ (cdv : Value) (A : Around) (outer : List Env) (s : Shared) (H : Hp) (vs : List V) (Q : VK), (A.deeper (envOfC x (defScope st) s.heap.objs.size f cdv)).guards = some [] → Room k (A.deeper (envOfC x (defScope st) s.heap.objs.size f cdv)) → PySem.W.codeIn K cdv x = true → fd.code = cdv → sp vs H Q →
      ∃ t, PSs (cxOf CX0 P w K mg base N x (defScope st) f cdv A outer s H E0).nox (defBody st) t ∧ t { nx := fun _ H' => Q .non H', rt := Q } (start N vs) H) : Fn P w K mg base (k + 1) f fd ps sp := by
  obtain ⟨oc, od, kV, doc, pm, an, cdv, ct, osl, rfl, lk, hcd⟩ := F.fn.ex
  refine ⟨len, fun A outer s H args us vs Q hg hr he hb hv q => ?_⟩
  refine run_ofS (N := N) (ps := ps) (us := us) (vs := vs) lk hcd S hr he hb hv (len _ _ _ q) fun hr' => ?_
  obtain ⟨t, h1, h2⟩ := body cdv A outer s H vs Q hg hr' hcd rfl q
  exact ⟨t, h1.nox, h2⟩
end
def tFn (sp : Sq) (t : TA) : TE := fun σ H Q => t σ H fun vs H1 => sp vs H1 Q
section
variable {X : Cx} {k : Nat} {f : Addr} {fd : FuncData} {ps : List Str} {sp : Sq} {x : Str} {st : Stmt} {p pos : Pos} {e : Expr} {es : List Expr} {t : TA}
theorem run_go {pins : List (Addr × Obj)} {σ : L2.St} {H : Hp} {s : Shared} {Q : VK} {us : List Value} {vs : List V} (F : Fn X.prog X.w X.K X.mg X.base k f fd ps sp) (hg : X.A.guards = some []) (hr : Room k X.A) (hb : Binds X.K fd ps [])
    (I : Inv X pins σ H s) (r : Vals vs us) (h : sp vs H Q) : wpAny (model X.prog X.w) X.A (call (.ref f) us) (EP X pins σ Q) X.xe s := by
  have hl : us.length = ps.length := by rw [← r.length]; exact F.len _ _ _ h
  have hb' := hb s us I.kIn (by rw [List.append_nil]; exact hl)
  rw [List.append_nil] at hb'
  refine wpAny_call (codeAny_mono (F.go X.A X.stack s H ⟨us, []⟩ us vs Q hg hr I.env0 hb' r h) fun r s' hq => ?_)
  match r, hq with
  | .ok (.ret u), hq => exact I.after hq
  | .ok .next, hq => exact False.elim hq
  | .ok .brk, hq => exact False.elim hq
  | .ok .cont, hq => exact False.elim hq
  | .error e, hq => exact False.elim hq
/-- f(a, ..) by its promise -/
theorem pe_fn (F : Fn X.prog X.w X.K X.mg X.base k f fd ps sp) (D : Dn X.K X.mg x st ps f fd) (hg : X.A.guards = some []) (hr : Room k X.A) (hgl : Gl X x) (ha : PA X (e :: es) t)
    (hdb : (x == ("__debug__" : Str)) = false := by decide) (he : starEach (e :: es) X.env = (false, eval e X.env) :: starEach es X.env := by rfl) (hpl : (backTo pos (starEach es X.env)).any (·.1) = false := by rfl) :
    PE X (.Call (.Name x p) (e :: es) [] pos) (tFn sp t) := by
  refine ⟨fun pins s σ H Q I h => wpAny_Call_Name_kw (ld_glob I hgl D.at_ ?_ hdb)⟩
  refine PySem.W.callWith_K (h₀ := X.base) I.ok.mod.kin D.fn.kp (thn (ha.run pos pins s σ H _ I h) fun us s1 ⟨vs, H1, I1, r, q⟩ => ⟨I1.kIn, ?_⟩) he hpl
  exact run_go F hg hr D.bi I1 r q
theorem pe_fn0 (F : Fn X.prog X.w X.K X.mg X.base k f fd ps sp) (D : Dn X.K X.mg x st ps f fd) (hg : X.A.guards = some []) (hr : Room k X.A) (hgl : Gl X x)
    (hdb : (x == ("__debug__" : Str)) = false := by decide) : PE X (.Call (.Name x p) [] [] pos) (tFn sp tNil) := by
  refine ⟨fun pins s σ H Q I h => wpAny_Call_Name_kw (ld_glob I hgl D.at_ ?_ hdb)⟩
  exact PySem.W.callWith_K0 I.kIn D.fn.kp (run_go (us := []) F hg hr D.bi I .nil h)
end
end W7
set_option maxRecDepth 100000
set_option maxHeartbeats 4000000
/-! WB: rules that the layer lacks -/
namespace W7
open PySem PySem.Spec PyProof.Rows L2 LamX NdefX

/-! ### a promise by the def's name -/
structure Has (P : Program) (w : World) (K : PySem.W.Frag) (mg : Str → Option Value) (base : Heap) (k : Nat) (x : Str) (ps : List Str) (sp : Sq) : Prop where
  ex : ∃ (f : Addr) (fd : FuncData), Fn P w K mg base k f fd ps sp ∧ mg x = some (.ref f) ∧ PySem.W.keepIn K (.ref f) = true ∧ Binds K fd ps []
theorem Has.mk' {P : Program} {w : World} {K : PySem.W.Frag} {mg : Str → Option Value} {base : Heap} {k : Nat} {x : Str} {st : Stmt} {ps : List Str} {sp : Sq} {f : Addr} {fd : FuncData} (D : Dn K mg x st ps f fd) (F : Fn P w K mg base k f fd ps sp) : Has P w K mg base k x ps sp :=
  ⟨f, fd, F, D.at_, D.fn.kp, D.bi⟩
theorem Has.imp {P : Program} {w : World} {K : PySem.W.Frag} {mg : Str → Option Value} {base : Heap} {k : Nat} {x : Str} {ps : List Str} {sp sp' : Sq} (h : Has P w K mg base k x ps sp) (q : ∀ vs H Q, sp' vs H Q → sp vs H Q) : Has P w K mg base k x ps sp' := by
  obtain ⟨f, fd, F, r⟩ := h.ex
  exact ⟨f, fd, F.imp q, r⟩
section
variable {X : Cx} {k j : Nat} {ps : List Str} {sp : Sq} {x : Str} {p pos : Pos} {e : Expr} {es : List Expr} {t : TA}
theorem pe_h (F : Has X.prog X.w X.K X.mg X.base k x ps sp) (hg : X.A.guards = some []) (hr : Room j X.A) (ha : PA X (e :: es) t) (hkj : k ≤ j := by first | exact Nat.le_refl _ | decide | omega) (hgl : Gl X x := by rfl)
    (hdb : (x == ("__debug__" : Str)) = false := by decide) (he : starEach (e :: es) X.env = (false, eval e X.env) :: starEach es X.env := by rfl) (hpl : (backTo pos (starEach es X.env)).any (·.1) = false := by rfl) :
    PE X (.Call (.Name x p) (e :: es) [] pos) (tFn sp t) := by
  obtain ⟨f, fd, F, hm, kp, hb⟩ := F.ex
  refine ⟨fun pins s σ H Q I h => wpAny_Call_Name_kw (ld_glob I hgl hm ?_ hdb)⟩
  refine PySem.W.callWith_K (h₀ := X.base) I.ok.mod.kin kp (thn (ha.run pos pins s σ H _ I h) fun us s1 ⟨vs, H1, I1, r, q⟩ => ⟨I1.kIn, ?_⟩) he hpl
  exact run_go F hg (hr.mono hkj) hb I1 r q
theorem pe_h0 (F : Has X.prog X.w X.K X.mg X.base k x ps sp) (hg : X.A.guards = some []) (hr : Room j X.A) (hkj : k ≤ j := by first | exact Nat.le_refl _ | decide | omega) (hgl : Gl X x := by rfl)
    (hdb : (x == ("__debug__" : Str)) = false := by decide) : PE X (.Call (.Name x p) [] [] pos) (tFn sp tNil) := by
  obtain ⟨f, fd, F, hm, kp, hb⟩ := F.ex
  refine ⟨fun pins s σ H Q I h => wpAny_Call_Name_kw (ld_glob I hgl hm ?_ hdb)⟩
  exact PySem.W.callWith_K0 I.kIn kp (run_go (us := []) F hg (hr.mono hkj) hb I .nil h)
end

/-! ### built-in names -/
structure Bn (mg : Str → Option Value) : Prop where
  isinstance : mg "isinstance" = none
  tuple : mg "tuple" = none
  list : mg "list" = none
  range : mg "range" = none
  len : mg "len" = none
  enumerate : mg "enumerate" = none
  sorted : mg "sorted" = none
  int : mg "int" = none
  str : mg "str" = none
  repr : mg "repr" = none
  min : mg "min" = none
  max : mg "max" = none
  abs : mg "abs" = none
theorem b_isinstance : bootBuiltins "isinstance" = some (.builtin "isinstance") := by decide +kernel
theorem b_tuple : bootBuiltins "tuple" = some (.type "tuple") := by decide +kernel
theorem b_list : bootBuiltins "list" = some (.type "list") := by decide +kernel
theorem b_range : bootBuiltins "range" = some (.type "range") := by decide +kernel
theorem b_len : bootBuiltins "len" = some (.builtin "len") := by decide +kernel
theorem b_sorted : bootBuiltins "sorted" = some (.builtin "sorted") := by decide +kernel
theorem b_int : bootBuiltins "int" = some (.type "int") := by decide +kernel
theorem b_str : bootBuiltins "str" = some (.type "str") := by decide +kernel
theorem b_repr : bootBuiltins "repr" = some (.builtin "repr") := by decide +kernel
theorem b_min : bootBuiltins "min" = some (.builtin "min") := by decide +kernel
theorem b_max : bootBuiltins "max" = some (.builtin "max") := by decide +kernel
theorem b_abs : bootBuiltins "abs" = some (.builtin "abs") := by decide +kernel

/-! ### isinstance(x, tuple) of data -/
def isTup : PyData → Bool
  | .tuple _ => true
  | _ => false
theorem kt_tt {K : PySem.W.Frag} : PySem.W.kitOne K (.type "tuple") (.type "tuple") = some true := kit_ty (by decide +kernel)
theorem kt_it {K : PySem.W.Frag} : PySem.W.kitOne K (.type "int") (.type "tuple") = some false := kit_ty (by decide +kernel)
theorem kt_st {K : PySem.W.Frag} : PySem.W.kitOne K (.type "str") (.type "tuple") = some false := kit_ty (by decide +kernel)
theorem kt_lt {K : PySem.W.Frag} : PySem.W.kitOne K (.type "list") (.type "tuple") = some false := kit_ty (by decide +kernel)
theorem kt_bt {K : PySem.W.Frag} : PySem.W.kitOne K (.type "bool") (.type "tuple") = some false := kit_ty (by decide +kernel)
theorem kt_nt {K : PySem.W.Frag} : PySem.W.kitOne K (.type "NoneType") (.type "tuple") = some false := kit_ty (by decide +kernel)
def rIsTup : List V → Hp → VK → Prop := fun xs H Q => ∃ (x : V) (d : PyData), xs = [x, .ty "tuple"] ∧ Td H x d ∧ Q (.bl (isTup d)) H
section
variable {X : Cx}
theorem call_isTup : CallR X (.builtin "isinstance") rIsTup := by
  intro pins s σ H xs us Q I r h
  obtain ⟨x, d, rfl, t, q⟩ := h
  refine call_isi pins s σ H _ us Q I r ?_
  cases t with
  | non => exact ⟨_, _, _, _, _, rfl, .ty _, .base .non, kt_nt, q⟩
  | bl b => exact ⟨_, _, _, _, _, rfl, .ty _, .base (.bl b), kt_bt, q⟩
  | int i => exact ⟨_, _, _, _, _, rfl, .ty _, .base (.int i), kt_it, q⟩
  | str i => exact ⟨_, _, _, _, _, rfl, .ty _, .base (.str i), kt_st, q⟩
  | lst e _ => exact ⟨_, _, _, _, _, rfl, .ty _, .base (.lst e), kt_lt, q⟩
  | tup e _ => exact ⟨_, _, _, _, _, rfl, .ty _, .base (.tup e), kt_tt, q⟩

/-! ### repr(x), str(x) of ints and tuples of them -/
def rShow (D : PyData → Prop) : List V → Hp → VK → Prop := fun xs H Q => ∃ (x : V) (d : PyData), xs = [x] ∧ Td H x d ∧ D d ∧ Q (.str d.shown) H
/-- ints and tuples, small -/
def Shw (d : PyData) : Prop := ((∃ i : Int, d = .int i) ∨ ∃ ds, d = .tuple ds) ∧ d.showable = true ∧ d.hasDict = false ∧ d.shown.length ≤ sizeLine ∧ d.depth ≤ 40
theorem call_reprD (hg : X.A.guards = some []) (hu : X.A.units + 64 < cLine) : CallR X (.builtin "repr") (rShow Shw) := by
  intro pins s σ H xs us Q I r h
  obtain ⟨x, d, rfl, t, ⟨hd, h1, h2, h3, h4⟩, q⟩ := h
  obtain ⟨u, rfl, ru⟩ := vals1 r
  rcases hd with ⟨i, rfl⟩ | ⟨ds, rfl⟩
  · cases t.int_inv
    obtain ⟨tk, rfl⟩ := ru
    have h1' : i.natAbs.log2 < 1920 := by simpa [PyData.showable] using h1
    exact PySem.P.repr_of_int h1' ⟨.str (toString i), H, I.tok _, ⟨_, rfl⟩, by simpa [PyData.shown] using q⟩
  · obtain ⟨a, ys, rfl, ha, ty⟩ := t.tup_inv
    obtain ⟨as, rd⟩ := Dp.reads I _ _ u (Td.dp (K := X.K) t) ru
    obtain rfl : u = Value.ref a := ru
    refine repr_of_reads' rd h1 (PySem.PyData.noDict_hsm h2) hg (by omega) (fun _ _ e => e) (fun h' u tk hk => ?_) h3
    exact ⟨.str _, H, I.kept (t' := tk) hk, ⟨_, rfl⟩, q⟩
theorem call_strD (hg : X.A.guards = some []) (hu : X.A.units + 64 < cLine) : CallR X (.type "str") (rShow Shw) := by
  intro pins s σ H xs us Q I r h
  obtain ⟨x, d, rfl, t, ⟨hd, h1, h2, h3, h4⟩, q⟩ := h
  rcases hd with ⟨i, rfl⟩ | ⟨ds, rfl⟩
  · cases t.int_inv
    have h1' : i.natAbs.log2 < 1920 := by simpa [PyData.showable] using h1
    exact call_str_int pins s σ H _ us Q I r ⟨i, rfl, h1', by simpa [PyData.shown] using q⟩
  · obtain ⟨a, ys, rfl, ha, ty⟩ := t.tup_inv
    obtain ⟨u, rfl, ru⟩ := vals1 r
    obtain ⟨as, rd⟩ := Dp.reads I _ _ u (Td.dp (K := X.K) t) ru
    obtain rfl : u = Value.ref a := ru
    refine str_of_reads rd h1 (PySem.PyData.noDict_hsm h2) hg (by omega) (fun _ _ e => e) (fun h' u tk hk => ?_) h3
    exact ⟨.str _, H, I.kept (t' := tk) hk, ⟨_, rfl⟩, q⟩

/-! ### int(x) of an int, of a bool -/
theorem call_intI : CallR X (.type "int") (fun xs H Q => ∃ i, xs = [.int i] ∧ Q (.int i) H) := fun pins s σ H xs us Q I r h => call_int1 pins s σ H xs us Q I r (.inl h)
theorem call_intB : CallR X (.type "int") (fun xs H Q => ∃ k, xs = [.bl k] ∧ Q (.int (if k then 1 else 0)) H) := fun pins s σ H xs us Q I r h => call_int1 pins s σ H xs us Q I r (.inr h)
/-! ### rules that speak of the written part, where it is named: for the blocks of comprehensions -/
section
variable {K : PySem.W.Frag}
theorem sl_list' (hK : X.K = K := by rfl) : SlR X (rSlL K) := by subst hK; exact sl_list
theorem ix_list' (hK : X.K = K := by rfl) : IxR X (rIxL K) := by subst hK; exact ix_list
theorem ix_tup' (hK : X.K = K := by rfl) : IxR X (rIxT K) := by subst hK; exact ix_tup
theorem op_in_seq' (hK : X.K = K := by rfl) : OpR X (compareOp .In) (rIn K false) := by subst hK; exact op_in_seq
theorem op_notIn_seq' (hK : X.K = K := by rfl) : OpR X (compareOp .NotIn) (rIn K true) := by subst hK; exact op_notIn_seq
theorem op_inD' (hu : X.A.units + 65 < cLine) (hK : X.K = K := by rfl) : OpR X (compareOp .In) (rInD K) := by subst hK; exact op_inD hu
theorem op_notInD' (hu : X.A.units + 65 < cLine) (hK : X.K = K := by rfl) : OpR X (compareOp .NotIn) (rNotInD K) := by subst hK; exact op_notInD hu
theorem op_eqD' (hu : X.A.units + 64 < cLine) (hK : X.K = K := by rfl) : OpR X (compareOp .Eq) (rEqD K) := by subst hK; exact op_eqD hu
theorem op_neD' (hu : X.A.units + 64 < cLine) (hK : X.K = K := by rfl) : OpR X (compareOp .NotEq) (rNeD K) := by subst hK; exact op_neD hu
theorem mt_index' (hK : X.K = K := by rfl) : MtR X "list.index" (rIndex K) := by subst hK; exact mt_index
theorem mt_indexD' (hu : X.A.units + 65 < cLine) (hK : X.K = K := by rfl) : MtR X "list.index" (rIndexD K) := by subst hK; exact mt_indexD hu
theorem mt_lcount' (hK : X.K = K := by rfl) : MtR X "list.count" (rCntI K) := by subst hK; exact mt_lcount
def rLenSq (K : PySem.W.Frag) : List V → Hp → VK → Prop := fun xs H Q => ∃ p ys, xs = [.ref p] ∧ (SqL K H p ys ∨ SqT K H p ys) ∧ Q (.int ys.length) H
theorem call_len_seq' (hK : X.K = K := by rfl) : CallR X (.builtin "len") (rLenSq K) := by subst hK; exact call_len_seq
theorem pi_list' {tg l : Expr} {tl : TE} (hl : PE X l tl) (hK : X.K = K := by rfl) : PI X tg l (iList K tl) := by subst hK; exact pi_list hl
theorem pi_tup' {tg l : Expr} {tl : TE} (hl : PE X l tl) (hK : X.K = K := by rfl) : PI X tg l (iTup K tl) := by subst hK; exact pi_tup hl
theorem pg_tup' {es : List Expr} {k : Nat} {t : TGs} {n : Nat} {pos : Pos} (hc : X.calm = true) (h : PGs X es t) (hK : X.K = K := by rfl)
    (hn : (assignEach es X.env).length = n := by rfl) (hst : (assignEach es X.env).findIdx? (·.1) = none := by rfl) : PG X (.Tuple es k pos) (gTup K n t) := by subst hK; exact pg_tup hc h hn hst
theorem pe_bm' {o e : Expr} {es : List Expr} {to : TE} {t : TA} {name : Str} {apos cpos : Pos} {T id : String} {r : V → List V → Hp → VK → Prop} (pa : PlainAttrs T) (slot : Slot T name id) (hty : typeOf (.builtin id) = pure (.type "method_descriptor")) (hm : MtR X id r) (ho : PE X o to) (ha : PA X (e :: es) t) (hK : X.K = K := by rfl)
    (hbase : attributeBase o name X.env (eval o X.env) = eval o X.env := by rfl)
    (hfew : ((backTo cpos (starEach (e :: es) X.env)).all (fun x => !x.1) && (backToKw cpos (keywordEach [] X.env)).all (fun x => x.1.isSome) && decide ((e :: es).length + ([] : List Keyword).length + (if ([] : List Keyword).isEmpty then 0 else 1) < 30)) = true := by rfl)
    (hline : (apos.endLine == cpos.line) = true := by rfl) (hs : starEach (e :: es) X.env = (false, eval e X.env) :: starEach es X.env := by rfl) (hplain : (backTo cpos (starEach es X.env)).any (·.1) = false := by rfl) :
    PE X (.Call (.Attribute o name apos) (e :: es) [] cpos) (tBM K T r to t) := by subst hK; exact pe_bm pa slot hty hm ho ha hbase hfew hline hs hplain
end
/-! ### a text times 0 or 1 -/
def rRepS : R2 := fun x y H Q => ∃ (z : Str) (b : Bool), x = .str z ∧ y = .int (if b then 1 else 0) ∧ Q (.str (if b then z else Str.empty)) H
theorem op_repS : OpR X (binaryOp .Mult) rRepS := by
  intro pins s σ H x y v u Q I rx ry h
  obtain ⟨z, b, rfl, rfl, q⟩ := h
  obtain ⟨t, rfl⟩ := rx
  obtain ⟨t', rfl⟩ := ry
  cases b with
  | false => exact PySem.P.mul_str_none (by decide) (by decide) ⟨.str Str.empty, H, I.tok _, ⟨_, rfl⟩, q⟩
  | true =>
    refine PySem.P.mul_str (by decide) (fun _ h => ?_) (fun _ h => ?_) ?_
    · exact absurd h (by simp)
    · exact absurd h (by simp)
    · rw [if_neg (by decide), if_pos (by simp)]
      exact ⟨.str z, H, I, ⟨t, rfl⟩, q⟩
end
end W7
set_option maxRecDepth 100000
set_option maxHeartbeats 4000000
/-! WC: a text backwards -/
namespace W7
open PySem PySem.Spec PyProof.Rows L2 LamX NdefX
def revS (z : Str) : Str := ⟨z.cps.toList.reverse.toArray⟩
theorem rev_pick (z : Str) : ((Builtin.Str.strSliceIndices none none (-1) z.length).filterMap (z.cps[·]?)).toArray = (revS z).cps := by
  rw [picked_rev, filterMap_get]
  · obtain ⟨⟨l⟩⟩ := z
    show (List.map _ (List.map _ (List.range l.length))).toArray = l.reverse.toArray
    congr 1
    apply List.ext_getElem?
    intro i
    by_cases hi : i < l.length
    · rw [List.getElem?_reverse hi]
      have e : ({ cps := { toList := l } } : Str).length = l.length := rfl
      simp [hi, e, show l.length - 1 - i < l.length by omega]
    · rw [List.getElem?_eq_none (by simp; omega), List.getElem?_eq_none (by simp; omega)]
  · intro i hi
    obtain ⟨k, hk, rfl⟩ := List.mem_map.mp hi
    have hk' : k < z.length := List.mem_range.mp hk
    show z.length - 1 - k < z.length
    omega
section
variable {X : Cx}
def tRevS (te : TE) : TE := fun σ H Q => te σ H fun x H1 => ∃ z, x = .str z ∧ z.length ≤ sizeLine ∧ Q (.str (revS z)) H1
theorem pe_revS {e : Expr} {te : TE} {k : Nat} {p1 p2 p3 pos : Pos} (he : PE X e te) : PE X (.Subscript e (.Slice none none (some (.UnaryOp .USub (.Constant (.int 1) k p1) p2)) p3) pos) (tRevS te) := by
  refine ⟨fun pins s σ H Q I h => Subscript_ (thn (he.run pins s σ H _ I h) fun v s1 ⟨x, H1, I1, r1, z, ex, hz, q⟩ => ?_)⟩
  subst ex
  obtain ⟨t, rfl⟩ := r1
  have step : PO X (some (.UnaryOp .USub (.Constant (.int 1) k p1) p2)) (tPart (tUn (rU fun i => .int (-i)) (tC (.int 1)))) := po_some (pe_un un_neg pe_int)
  refine wpAny_Slice (thn (po_none.run pins s1 σ H1 (fun o H2 => o = none ∧ H2 = H1) I1 ⟨rfl, rfl⟩) fun vl s2 ⟨l, H2, I2, pl, el, e2⟩ => ?_)
  subst el e2
  refine thn (po_none.run pins s2 σ H2 (fun o H3 => o = none ∧ H3 = H2) I2 ⟨rfl, rfl⟩) fun vu s3 ⟨u, H3, I3, pu, eu, e3⟩ => ?_
  subst eu e3
  refine thn (step.run pins s3 σ H3 (fun o H4 => o = some (-1) ∧ H4 = H3) I3 ⟨1, rfl, -1, rfl, rfl, rfl⟩) fun vs s4 ⟨o, H4, I4, ps, eo, e4⟩ => ?_
  subst eo e4
  have I5 : Inv X pins σ H4 { s4 with heap := s4.heap.push { cls := .type "slice", data := .fields #[vl, vu, vs] } } := I4.kept (t' := s4.toks) fun b ob q => Heap.get?_push_of_some _ q
  obtain ⟨l, rfl, e1⟩ := IsPart.raw pl
  obtain ⟨u, rfl, e2⟩ := IsPart.raw pu
  obtain ⟨w, rfl, e3⟩ := IsPart.raw ps
  have el : l = none := by cases l <;> first | rfl | cases e1
  have eu : u = none := by cases u <;> first | rfl | cases e2
  obtain ⟨tk, rfl⟩ : ∃ tk, w = some (-1, tk) := by
    cases w with
    | none => cases e3
    | some w =>
      obtain ⟨a, tk⟩ := w
      cases e3
      exact ⟨tk, rfl⟩
  subst el eu
  show wpAny (model X.prog X.w) X.A (subscriptTail e (.Slice none none (some (.UnaryOp .USub (.Constant (.int 1) k p1) p2)) p3) (.str z t) (.ref s4.heap.objs.size)) (EP X pins σ Q) X.xe _
  refine tail_any (ops := [.ref s4.heap.objs.size, .str z t]) (typeIs_str _ _ _) F.slot_str_getitem.lookup ?_ (by with_unfolding_all rfl)
  refine wpAny_getItem_str_slice (l := none) (u := none) (st := some (-1, tk)) (Heap.IsSliceOf.new _ _ _ _) rfl ?_
  show Made.post (if (((-1 : Int) == 1) && _) = true then Made.val (.str z t) else Made.str ⟨((Builtin.Str.strSliceIndices none none (-1) z.length).filterMap (z.cps[·]?)).toArray⟩) (EP X pins σ Q) _
  rw [if_neg (by simp), rev_pick]
  refine ⟨?_, .str _, _, I5.tok _, ⟨_, rfl⟩, q⟩
  show z.cps.toList.reverse.toArray.size ≤ sizeLine
  have hl : z.cps.size ≤ sizeLine := hz
  simpa using hl
end
end W7
set_option maxRecDepth 100000
set_option maxHeartbeats 4000000
/-! WD: the text by places, the pen -/
namespace W7
open PySem PySem.Spec PyProof.Rows L2 LamX NdefX
def top (i : Nat) : Stmt := PySem.Challenge.pw_foldplans_k32_whole_trees_by_operations.main.body.getD i (.Pass ⟨0, 0, 0, 0⟩)
theorem hu65 {A : Around} {k : Nat} (hr : Room k A) : A.units + 65 < cLine := by have := hr.un; omega

/-! ### the pen -/
theorem s_tc : ("turn" : Str) ≠ "cells" := by decide +kernel
theorem s_lc : ("left" : Str) ≠ "cells" := by decide +kernel
theorem s_lt : ("left" : Str) ≠ "turn" := by decide +kernel
def penL (c : Addr) (turn left : Int) : List (Key × V) := [(.inr "cells", .ref c), (.inr "turn", .int turn), (.inr "left", .int left)]
theorem inr_ne {a b : Str} (h : a ≠ b) : ¬ (Sum.inr a : Key) = Sum.inr b := fun z => h (Sum.inr.inj z)
theorem pen_cells (c : Addr) (t l : Int) : valV (penL c t l) (.inr "cells") = some (.ref c) := valV_pos rfl
theorem pen_turn (c : Addr) (t l : Int) : valV (penL c t l) (.inr "turn") = some (.int t) := by
  show valV (_ :: _ :: _) _ = _
  rw [valV_neg (inr_ne s_tc.symm), valV_pos rfl]
theorem pen_left (c : Addr) (t l : Int) : valV (penL c t l) (.inr "left") = some (.int l) := by
  show valV (_ :: _ :: _ :: _) _ = _
  rw [valV_neg (inr_ne s_lc.symm), valV_neg (inr_ne s_lt.symm), valV_pos rfl]
theorem pen_putT (c : Addr) (t l u : Int) : putK (penL c t l) (.inr "turn") (.int u) = penL c u l := by
  simp [putK, penL, s_tc, s_tc.symm, s_lt, s_lt.symm]
theorem pen_putL (c : Addr) (t l u : Int) : putK (penL c t l) (.inr "left") (.int u) = penL c t u := by
  simp [putK, penL, s_lc, s_lc.symm, s_lt, s_lt.symm]
/-- a pen at p that has turned at most n times -/
def Pen (G H : Hp) (p : Addr) (n : Nat) : Prop := ∃ (c : Addr) (cs : List Int) (t l : Int), G p = none ∧ H p = some (.dK (penL c t l)) ∧ G c = some (.lst (cs.map V.int)) ∧ cs.length ≤ 63 ∧ 0 ≤ t ∧ t ≤ (n : Int) ∧ 0 ≤ l
theorem Pen.more {G H : Hp} {p : Addr} {n m : Nat} (h : Pen G H p n) (hm : n ≤ m) : Pen G H p m := by
  obtain ⟨c, cs, t, l, a, b, d, e, f, g, i⟩ := h
  exact ⟨c, cs, t, l, a, b, d, e, f, by omega, i⟩
/-- a step that leaves the pen alone -/
theorem Pen.keep {T : List NTab} {E : List Addr} {G H G' H' : Hp} {p : Addr} {n : Nat} (h : Pen G H p n) (a : Gx T E G H G' H') (nE : p ∉ E) : Pen G' H' p n := by
  obtain ⟨c, cs, t, l, h1, h2, h3, r⟩ := h
  obtain ⟨x, y⟩ := a.keepM nE h1 h2 (fun ps z => by cases z)
  exact ⟨c, cs, t, l, x, y, a.g _ _ h3, r⟩
theorem pg_c {H : Hp} {p c : Addr} {t l : Int} (h : H p = some (.dK (penL c t l))) : DGet H p (.str "cells") (some (.ref c)) := by
  have q := DGet.k (k := .inr "cells") h
  rw [pen_cells] at q
  exact q
theorem pg_t {H : Hp} {p c : Addr} {t l : Int} (h : H p = some (.dK (penL c t l))) : DGet H p (.str "turn") (some (.int t)) := by
  have q := DGet.k (k := .inr "turn") h
  rw [pen_turn] at q
  exact q
theorem pg_l {H : Hp} {p c : Addr} {t l : Int} (h : H p = some (.dK (penL c t l))) : DGet H p (.str "left") (some (.int l)) := by
  have q := DGet.k (k := .inr "left") h
  rw [pen_left] at q
  exact q
theorem pp_t {H : Hp} {p c : Addr} {t l : Int} (u : Int) (h : H p = some (.dK (penL c t l))) : DPut H p (.str "turn") (.int u) (upd H p (.dK (penL c u l))) := by
  have q := DPut.k (k := .inr "turn") (v := .int u) h (by show 3 < sizeLine; decide)
  rw [pen_putT] at q
  exact q
theorem pp_l {H : Hp} {p c : Addr} {t l : Int} (u : Int) (h : H p = some (.dK (penL c t l))) : DPut H p (.str "left") (.int u) (upd H p (.dK (penL c t u))) := by
  have q := DPut.k (k := .inr "left") (v := .int u) h (by show 3 < sizeLine; decide)
  rw [pen_putL] at q
  exact q
theorem Pen.wrote {T : List NTab} {G H : Hp} {p c : Addr} {t l u m : Int} (hS : Same G H) (h1 : G p = none) (h : H p = some (.dK (penL c t l))) : Gx T [p] G H G (upd H p (.dK (penL c u m))) :=
  (Gx.refl hS).write (.inr (by simp)) h1 h True.intro
theorem small_span {m : Int} {span : Nat} (h : 1 ≤ span) : ∃ k : Nat, k < span ∧ m % (span : Int) = (k : Int) := by
  have h1 := Int.emod_nonneg m (show (span : Int) ≠ 0 by omega)
  have h2 := Int.emod_lt_of_pos m (show (0 : Int) < span by omega)
  exact ⟨(m % (span : Int)).toNat, by omega, by omega⟩
/-! ### x != [], x == [] -/
theorem eqv_nil (ds : List PyData) : PyData.eqv (.list ds) (.list []) = ds.isEmpty := by
  rw [PyData.eqv]
  cases ds <;> simp [PyData.eqvAll]
theorem shaped_nil : SeqAt.shaped (.list []) = true := by decide +kernel
theorem rd_neNil {K : PySem.W.Frag} {H : Hp} {v : V} {e : Addr} {ds : List PyData} {Q : VK} (he : H e = some (.lst [])) (t : Td H v (.list ds)) (sh : SeqAt.shaped (.list ds) = true) (q : Q (.bl (!ds.isEmpty)) H) : rNeD K v (.ref e) H Q :=
  ⟨_, _, t.dp, .lst (SqL.of he) .nil, sh, shaped_nil, by rw [eqv_nil]; exact q⟩
theorem rd_eqNil {K : PySem.W.Frag} {H : Hp} {v : V} {e : Addr} {ds : List PyData} {Q : VK} (he : H e = some (.lst [])) (t : Td H v (.list ds)) (sh : SeqAt.shaped (.list ds) = true) (q : Q (.bl ds.isEmpty) H) : rEqD K v (.ref e) H Q :=
  ⟨_, _, t.dp, .lst (SqL.of he) .nil, sh, shaped_nil, by rw [eqv_nil]; exact q⟩
theorem lay_ints : ∀ ns : List Int, PyData.canLayAll0 (ns.map PyData.int) = true
  | [] => by simp [PyData.canLayAll0]
  | n :: r => by simp [PyData.canLayAll0, PyData.canLay0, lay_ints r]
theorem dep_ints : ∀ ns : List Int, PyData.depthAll (ns.map PyData.int) = 0
  | [] => by simp [PyData.depthAll]
  | n :: r => by simp [PyData.depthAll, PyData.depth, dep_ints r]
theorem shaped_ints (ns : List Int) : SeqAt.shaped (.list (ns.map PyData.int)) = true := by
  unfold SeqAt.shaped
  rw [PyData.canLay0, lay_ints, PyData.depth, dep_ints]
  decide
abbrev sDraw : Stmt := top 20
theorem sc_draw : FnScope ["_law_pen_here", "_law_span", "_law_turn", "_law_cell", "_law_mixed", "_law_digit"] ["_law_pen_here", "_law_span"] (defScope sDraw) := ⟨rfl, rfl, rfl, by decide +kernel, rfl, by decide +kernel, by decide +kernel⟩
def spDraw (T : List NTab) : Sq := fun vs H Q => ∃ (G : Hp) (p : Addr) (n span : Nat), vs = [.ref p, .int span] ∧ Same G H ∧ Pen G H p n ∧ n ≤ 1000000 ∧ 1 ≤ span ∧ span ≤ 1000 ∧
  ∀ (m : Nat) (H' : Hp), m < span → Gx T [p] G H G H' → Pen G H' p (n + 1) → Q (.int m) H'
section
variable {P : Program} {w : World} {K : PySem.W.Frag} {mg : Str → Option Value} {base : Heap} {f : Addr} {fd : FuncData} {T : List NTab}
theorem ok_draw (B : Bn mg) (D : Dn K mg "_law_draw" sDraw ["_law_pen_here", "_law_span"] f fd) : Fn P w K mg base 1 f fd ["_law_pen_here", "_law_span"] (spDraw T) := by
  refine D.ok sc_draw (fun vs H Q h => ?_) (fun cdv A outer s H vs Q hg hr _ _ h => ?_)
  · obtain ⟨G, p, n, span, rfl, _⟩ := h
    rfl
  obtain ⟨G, p, n, span, rfl, hS, ⟨c, cs, t, l, h1, h2, h3, h4, h5, h6, h7⟩, hn, hs1, hs2, q⟩ := h
  refine ⟨_,
    (pss_cons (ps_if (pt_cmpR op_gt (pe_dget (hu_of hr) (pv 0) pe_str (fun _ _ => rfl)) pe_int (nomark _)) (pss_cons (ps_set (i := 5) sc_draw.nd rfl (Or.inl rfl) (pe_op op_mod (pe_callTy call_intI (by rfl) B.int b_int (pa_cons (pe_dget (hu_of hr) (pv 0) pe_str (fun _ _ => rfl)) pa_nil)) (pv 1)))
      (pss_cons (ps_dput (hu_of hr) (pv 0) pe_str (pe_op op_fdiv (pe_dget (hu_of hr) (pv 0) pe_str (fun _ _ => rfl)) (pv 1)) rfl)
      (pss_one (ps_ret (pv 5)))))
      pss_nil)
    (pss_cons (ps_set (i := 2) sc_draw.nd rfl (Or.inl rfl) (pe_dget (hu_of hr) (pv 0) pe_str (fun _ _ => rfl)))
    (pss_cons (ps_dput (hu_of hr) (pv 0) pe_str (pe_op op_add (pv 2) pe_int) rfl)
    (pss_cons (ps_set (i := 3) sc_draw.nd rfl (Or.inl rfl) (pe_op op_add (pe_op op_mul pe_int (pv 2)) pe_int))
    (C8.pss_cut (ps_if (pt_cmpR (op_neD hr.units) (pe_dget (hu_of hr) (pv 0) pe_str (fun _ _ => rfl)) (pe_lst pa_nil) (nomark _)) (pss_one (ps_set (i := 3) sc_draw.nd rfl (Or.inl rfl) (pe_ix ix_list (pe_dget (hu_of hr) (pv 0) pe_str (fun _ _ => rfl)) (pe_op op_mod (pe_callTy call_intI (by rfl) B.int b_int (pa_cons (pv 2) pa_nil)) (pe_callB call_len_seq (by rfl) B.len b_len (pa_cons (pe_dget (hu_of hr) (pv 0) pe_str (fun _ _ => rfl)) pa_nil))) (fun _ _ => rfl))))
      pss_nil)
    (C8.pss_cut (ps_if (PW.pt (pw_and (pt_cmpR op_lt (pv 2) (pe_callB call_len_seq (by rfl) B.len b_len (pa_cons (pe_dget (hu_of hr) (pv 0) pe_str (fun _ _ => rfl)) pa_nil)) (nomark _)) (pw_and1 (pt_cmpR op_ge (pe_callB call_abs (by rfl) B.abs b_abs (pa_cons (pv 3) pa_nil)) (pe_op op_pow pe_int pe_int) (nomark _))))) (pss_cons (ps_dput (hu_of hr) (pv 0) pe_str (pe_op op_fdiv (pe_op op_sub (pe_callB call_abs (by rfl) B.abs b_abs (pa_cons (pv 3) pa_nil)) (pe_op op_pow pe_int pe_int)) (pv 1)) rfl)
      (pss_one (ps_ret (pe_op op_mod (pe_callTy call_intI (by rfl) B.int b_int (pa_cons (pe_op op_sub (pe_callB call_abs (by rfl) B.abs b_abs (pa_cons (pv 3) pa_nil)) (pe_op op_pow pe_int pe_int)) pa_nil)) (pv 1)))))
      pss_nil)
    (pss_cons (ps_set (i := 4) sc_draw.nd rfl (Or.inl rfl) (pe_op op_mul (pe_op op_mod (pe_callTy call_intI (by rfl) B.int b_int (pa_cons (pv 3) pa_nil)) pe_int) pe_int))
    (pss_cons (ps_set (i := 4) sc_draw.nd rfl (Or.inl rfl) (pe_op op_mod (pe_callTy call_intI (by rfl) B.int b_int (pa_cons (pe_op op_add (pe_op op_add (pv 4) (pe_op op_mul (pv 2) (pe_op op_add (pe_op op_mul (pv 2) pe_int) pe_int))) pe_int) pa_nil)) pe_int))
    (pss_cons (ps_set (i := 4) sc_draw.nd rfl (Or.inl rfl) (pe_op op_mod (pe_callTy call_intI (by rfl) B.int b_int (pa_cons (pe_op op_mul (pv 4) (pe_op op_add (pv 4) pe_int)) pa_nil)) pe_int))
    (pss_cons (ps_set (i := 4) sc_draw.nd rfl (Or.inl rfl) (pe_op op_mod (pe_callTy call_intI (by rfl) B.int b_int (pa_cons (pe_op op_add (pe_op op_add (pe_op op_mul (pv 4) (pv 4)) (pe_op op_mul pe_int (pv 4))) (pe_op op_mul pe_int (pv 2))) pa_nil)) pe_int))
    (pss_one (ps_ret (pe_op op_mod (pe_callTy call_intI (by rfl) B.int b_int (pa_cons (pe_op op_fdiv (pe_op op_mod (pe_callTy call_intI (by rfl) B.int b_int (pa_cons (pe_op op_mul (pv 4) (pe_op op_add (pv 4) pe_int)) pa_nil)) pe_int) pe_int) pa_nil)) (pv 1)))))))))))))), ?_⟩
  have sp0 : (0 : Int) < (span : Int) := by omega
  have sp1 : (span : Int) < 1073741824 := by omega
  -- left > 0
  refine ⟨_, rfl, p, _, rfl, pg_l h2, _, _, rfl, rfl, _, rfl, ?_⟩
  refine ite2 (fun _ => ?_) (fun _ => ?_)
  · refine ⟨_, rfl, p, _, rfl, pg_l h2, _, rfl, _, rfl, _, _, rfl, rfl, sp0, ?_⟩
    refine ⟨_, rfl, p, _, rfl, pg_l h2, _, rfl, _, _, rfl, rfl, ⟨sp0, sp1⟩, _, rfl, p, _, rfl, pp_l _ h2, ?_⟩
    obtain ⟨k, hk, e⟩ := small_span (m := l) hs1
    refine ⟨_, rfl, ?_⟩
    show Q (.int (l % (span : Int))) _
    rw [e]
    exact q k _ hk (Pen.wrote hS h1 h2) ⟨c, cs, t, _, h1, upd_same, h3, h4, h5, by omega, Int.ediv_nonneg h7 (by omega)⟩
  · -- turn = pen["turn"]; pen["turn"] = turn + 1; cell = 61 * turn + 13
    refine ⟨_, rfl, p, _, rfl, pg_t h2, _, rfl, _, _, rfl, rfl, _, rfl, p, _, rfl, pp_t _ h2, ?_⟩
    have W1 : Gx T [p] G H G (upd H p (.dK (penL c (t + 1) l))) := Pen.wrote hS h1 h2
    generalize hH1 : upd H p (.dK (penL c (t + 1) l)) = H1 at W1
    have h2 : H1 p = some (.dK (penL c (t + 1) l)) := by rw [← hH1]; exact upd_same
    have h3' : H1 c = some (.lst (cs.map V.int)) := W1.s _ _ h3
    refine ⟨_, rfl, _, _, rfl, rfl, .inl ⟨by decide, by decide⟩, _, _, rfl, rfl, ?_⟩
    -- if pen["cells"] != []
    refine ⟨fun σ' H' => ∃ ce : Int, σ' = [some (.ref p), some (.int span), some (.int t), some (.int ce), none, none] ∧ Gx T [p] G H G H' ∧ H' p = some (.dK (penL c (t + 1) l)), ?_, ?_⟩
    · refine ⟨_, rfl, p, _, rfl, pg_c h2, Nat.zero_le _, fun e he => rd_neNil upd_same (Td.lst (upd_ne (ne_of_none h3' he) ▸ h3') (TdAll.ints cs)) (shaped_ints cs) ⟨_, rfl, ?_⟩⟩
      have W2 : Gx T [p] G H G (upd H1 e (.lst [])) := W1.trans (Gx.newM W1.s he _)
      have h4' : upd H1 e (.lst []) p = some (.dK (penL c (t + 1) l)) := by rw [upd_ne (ne_of_none h2 he)]; exact h2
      have h5' : upd H1 e (.lst []) c = some (.lst (cs.map V.int)) := W2.s _ _ h3
      generalize upd H1 e (.lst []) = H2 at W2 h4' h5'
      refine ite2 (fun ne => ?_) (fun _ => ?_)
      · have hl : 0 < cs.length := by
          cases cs with
          | nil => simp at ne
          | cons _ _ => exact Nat.succ_pos _
        have hl' : (0 : Int) < (((cs.map V.int).length : Nat) : Int) := by rw [List.length_map]; omega
        obtain ⟨j, hj, ej⟩ := small_span (m := t) (span := (cs.map V.int).length) (by omega)
        obtain ⟨x, hx⟩ : ∃ x : Int, (cs.map V.int)[j]? = some (.int x) := by
          rw [List.length_map] at hj
          exact ⟨cs[j], by rw [List.getElem?_map, List.getElem?_eq_getElem hj]; rfl⟩
        refine ⟨_, rfl, p, _, rfl, pg_c h4', _, rfl, _, rfl, _, rfl, p, _, rfl, pg_c h4', _, _, rfl, .inl (SqL.of h5'), _, _, rfl, rfl, hl', _, _, _, .int x, rfl, rfl, SqL.of h5', ?_, ?_⟩
        · show atI (cs.map V.int) (t % (((cs.map V.int).length : Nat) : Int)) = some (.int x)
          rw [ej]
          exact atI_nat hx
        · exact ⟨x, rfl, W2, h4'⟩
      · exact ⟨_, rfl, W2, h4'⟩
    · rintro _ H2 ⟨ce, rfl, W2, h4'⟩
      have h5' : H2 c = some (.lst (cs.map V.int)) := W2.s _ _ h3
      have t0 : t < 2 ^ 64 := by omega
      have pw : CPow 10 18 := ⟨by decide, by decide, by decide⟩
      have done : ∀ z : Int, Q (.int (z % (span : Int))) H2 := fun z => by
        obtain ⟨k, hk, e⟩ := small_span (m := z) hs1
        rw [e]
        exact q k _ hk W2 ⟨c, cs, _, l, h1, h4', h3, h4, by omega, by omega, h7⟩
      -- if turn < len(..) and abs(cell) >= 10 ** 18
      refine ⟨fun σ' H' => σ' = [some (.ref p), some (.int span), some (.int t), some (.int ce), none, none] ∧ H' = H2, ?_, ?_⟩
      · refine ⟨_, rfl, _, rfl, p, _, rfl, pg_c h4', _, _, rfl, .inl (SqL.of h5'), _, _, rfl, rfl, _, rfl, ?_⟩
        refine ite2 (fun _ => ?_) (fun _ => ?_)
        · refine ⟨_, rfl, _, rfl, _, _, rfl, rfl, pw, _, _, rfl, rfl, _, rfl, ?_⟩
          refine ite2 (fun big => ?_) (fun _ => ⟨rfl, rfl⟩)
          refine ⟨_, rfl, _, rfl, _, _, rfl, rfl, pw, _, _, rfl, rfl, _, rfl, _, _, rfl, rfl, ⟨sp0, sp1⟩, _, rfl, p, _, rfl, pp_l _ h4', ?_⟩
          refine ⟨_, rfl, _, rfl, _, _, rfl, rfl, pw, _, _, rfl, rfl, _, rfl, _, rfl, _, _, rfl, rfl, sp0, ?_⟩
          have big' := of_decide_eq_true big
          obtain ⟨k, hk, e⟩ := small_span (m := (if ce < 0 then -ce else ce) - 10 ^ (18 : Int).toNat) hs1
          show Q (.int (((if ce < 0 then -ce else ce) - 10 ^ (18 : Int).toNat) % (span : Int))) _
          rw [e]
          refine q k _ hk (W2.write (.inr (by simp)) h1 h4' True.intro) ⟨c, cs, _, _, h1, upd_same, h3, h4, by omega, by omega, Int.ediv_nonneg ?_ (by omega)⟩
          omega
        · exact ⟨rfl, rfl⟩
      · rintro _ _ ⟨rfl, rfl⟩
        -- the mixed cell
        have mods : ∀ (a m : Int), 0 < m → ∃ z, z = a % m ∧ 0 ≤ z ∧ z < m := fun a m hm => ⟨_, rfl, Int.emod_nonneg a (by omega), Int.emod_lt_of_pos a hm⟩
        obtain ⟨z1, e1, a1, b1⟩ := mods ce 4294967087 (by decide)
        dsimp only [tSeq]
        refine st_set (v := .int (z1 * 48611)) (fun R hR => ?_) ?_
        · rw [e1] at hR
          exact ⟨_, rfl, _, rfl, _, _, rfl, rfl, (show (0 : Int) < 4294967087 by decide), _, _, rfl, rfl, .inr ⟨by decide, by decide⟩, hR⟩
        obtain ⟨z2, e2, a2, b2⟩ := mods (z1 * 48611 + t * (t * 27919 + 10601) + 41) 4294967029 (by decide)
        dsimp only [tSeq]
        refine st_set (v := .int z2) (fun R hR => ?_) ?_
        · rw [e2] at hR
          exact ⟨_, rfl, _, rfl, _, rfl, _, _, rfl, rfl, .inr ⟨by decide, by decide⟩, _, _, rfl, rfl, _, _, rfl, rfl, .inl ⟨by omega, by omega⟩, _, _, rfl, rfl, _, _, rfl, rfl, _, rfl, _, _, rfl, rfl, (show (0 : Int) < 4294967029 by decide), hR⟩
        obtain ⟨z3, e3, a3, b3⟩ := mods (z2 * (z2 + 75013)) 4294966997 (by decide)
        dsimp only [tSeq]
        refine st_set (v := .int z3) (fun R hR => ?_) ?_
        · rw [e3] at hR
          exact ⟨_, rfl, _, rfl, _, _, rfl, rfl, _, _, rfl, rfl, .inl ⟨by omega, by omega⟩, _, rfl, _, _, rfl, rfl, (show (0 : Int) < 4294966997 by decide), hR⟩
        obtain ⟨z4, e4, a4, b4⟩ := mods (z3 * z3 + 30427 * z3 + 19 * t) 4294966981 (by decide)
        dsimp only [tSeq]
        refine st_set (v := .int z4) (fun R hR => ?_) ?_
        · rw [e4] at hR
          exact ⟨_, rfl, _, rfl, _, _, rfl, rfl, .inl ⟨by omega, by omega⟩, _, rfl, _, _, rfl, rfl, .inl ⟨by decide, by decide⟩, _, _, rfl, rfl, _, rfl, _, _, rfl, rfl, .inl ⟨by decide, by decide⟩, _, _, rfl, rfl, _, rfl, _, _, rfl, rfl, (show (0 : Int) < 4294966981 by decide), hR⟩
        exact ⟨_, rfl, _, rfl, _, _, rfl, rfl, _, _, rfl, rfl, .inl ⟨by omega, by omega⟩, _, rfl, _, _, rfl, rfl, (show (0 : Int) < 4294966943 by decide), _, _, rfl, rfl, ⟨by decide, by decide⟩, _, rfl, _, rfl, _, _, rfl, rfl, sp0, done _⟩
end
end W7
set_option maxRecDepth 100000
set_option maxHeartbeats 4000000
/-! WE: trees; _law_pen, _law_pick, _law_shuffled, _law_leaves, _law_bracketed -/
namespace W7
open PySem PySem.Spec PyProof.Rows L2 LamX NdefX
/-! ### trees -/
inductive Tr where
  | lf (n : Int)
  | nd (l r : Tr)
  deriving DecidableEq
namespace Tr
def d : Tr → PyData
  | lf n => .int n
  | nd l r => .tuple [l.d, r.d]
def lets : Tr → List Int
  | lf n => [n]
  | nd l r => l.lets ++ r.lets
def ht : Tr → Nat
  | lf _ => 0
  | nd l r => max l.ht r.ht + 1
def wt : Tr → Nat
  | lf _ => 1
  | nd l r => l.wt + r.wt + 1
end Tr
theorem lets_pos : ∀ t : Tr, 1 ≤ t.lets.length
  | .lf _ => Nat.le_refl _
  | .nd l r => by
    have := lets_pos l
    show 1 ≤ (l.lets ++ r.lets).length
    rw [List.length_append]
    omega
theorem ht_lt : ∀ t : Tr, t.ht + 1 ≤ t.lets.length
  | .lf _ => Nat.le_refl _
  | .nd l r => by
    have h1 := ht_lt l
    have h2 := ht_lt r
    show max l.ht r.ht + 1 + 1 ≤ (l.lets ++ r.lets).length
    rw [List.length_append]
    omega
theorem wt_eq : ∀ t : Tr, t.wt + 1 = 2 * t.lets.length
  | .lf _ => rfl
  | .nd l r => by
    have h1 := wt_eq l
    have h2 := wt_eq r
    show l.wt + r.wt + 1 + 1 = 2 * (l.lets ++ r.lets).length
    rw [List.length_append]
    omega
theorem d_lay : ∀ t : Tr, t.d.canLay0 = true
  | .lf _ => by simp [Tr.d, PyData.canLay0]
  | .nd l r => by simp [Tr.d, PyData.canLay0, PyData.canLayAll0, d_lay l, d_lay r]
theorem d_dep : ∀ t : Tr, t.d.depth = t.ht
  | .lf _ => by simp [Tr.d, PyData.depth, Tr.ht]
  | .nd l r => by simp [Tr.d, PyData.depth, PyData.depthAll, Tr.ht, d_dep l, d_dep r]
theorem ds_lay : ∀ ts : List Tr, PyData.canLayAll0 (ts.map Tr.d) = true
  | [] => by simp [PyData.canLayAll0]
  | t :: r => by simp [PyData.canLayAll0, d_lay t, ds_lay r]
theorem ds_dep : ∀ (ts : List Tr) (n : Nat), (∀ t ∈ ts, t.ht ≤ n) → PyData.depthAll (ts.map Tr.d) ≤ n
  | [], n, _ => by simp [PyData.depthAll]
  | t :: r, n, h => by
    have h1 := ds_dep r n fun u hu => h u (List.mem_cons_of_mem _ hu)
    have h2 := h t List.mem_cons_self
    simp only [List.map_cons, PyData.depthAll, d_dep]
    omega
theorem d_shaped {t : Tr} (h : t.ht ≤ 60) : SeqAt.shaped t.d = true := by
  unfold SeqAt.shaped
  rw [d_lay, d_dep, decide_eq_true (by omega)]
  rfl
theorem ds_shaped {ts : List Tr} (h : ∀ t ∈ ts, t.ht ≤ 60) : SeqAt.shaped (.list (ts.map Tr.d)) = true := by
  unfold SeqAt.shaped
  have := ds_dep ts 60 h
  rw [PyData.canLay0, ds_lay, PyData.depth, decide_eq_true (by omega)]
  rfl
theorem d_eqv : ∀ t u : Tr, PyData.eqv t.d u.d = decide (t = u)
  | .lf n, .lf m => by
    by_cases h : n = m
    · simp [Tr.d, PyData.eqv, h]
    · simp [Tr.d, PyData.eqv, h]
  | .lf n, .nd l r => by simp [Tr.d, PyData.eqv]
  | .nd l r, .lf n => by simp [Tr.d, PyData.eqv]
  | .nd l r, .nd l' r' => by
    have h1 := d_eqv l l'
    have h2 := d_eqv r r'
    show PyData.eqv (.tuple [l.d, r.d]) (.tuple [l'.d, r'.d]) = _
    rw [PyData.eqv, PyData.eqvAll, PyData.eqvAll, PyData.eqvAll, h1, h2]
    by_cases a : l = l'
    · by_cases b : r = r'
      · simp [a, b]
      · simp [a, b]
    · simp [a]
theorem lf_td {G : Hp} {v : V} {n : Int} (h : Td G v (Tr.lf n).d) : v = .int n := Td.int_inv h
theorem nd_td {G : Hp} {v : V} {l r : Tr} (h : Td G v (Tr.nd l r).d) : ∃ a x y, v = .ref a ∧ G a = some (.tup [x, y]) ∧ Td G x l.d ∧ Td G y r.d := by
  obtain ⟨a, xs, e, h1, h2⟩ := Td.tup_inv h
  obtain ⟨x, y, rfl, h3, h4⟩ := h2.two_inv
  exact ⟨a, x, y, e, h1, h3, h4⟩
theorem isTup_d : ∀ t : Tr, isTup t.d = match t with | .lf _ => false | .nd _ _ => true
  | .lf _ => rfl
  | .nd _ _ => rfl
theorem szL {n : Nat} (h : n ≤ 100000) : n ≤ sizeLine := Nat.le_trans h (by decide)
theorem szLt {n : Nat} (h : n < 100000) : n < sizeLine := Nat.lt_of_lt_of_le h (by decide)
theorem ix_in {n j : Nat} (hj : j < n) : ixN n (j : Int) = some j := by
  unfold ixN
  rw [if_pos (by omega), if_pos (by omega)]
  simp

abbrev sPen : Stmt := top 19
theorem sc_pen : FnScope ["_law_script"] ["_law_script"] (defScope sPen) := ⟨rfl, rfl, rfl, by decide +kernel, rfl, by decide +kernel, by decide +kernel⟩
def spPen (T : List NTab) (K : PySem.W.Frag) : Sq := fun vs H Q => ∃ (G : Hp) (a : Addr) (ns : List Int), vs = [.ref a] ∧ Same G H ∧ SqL K H a (ns.map V.int) ∧
  ∀ (p : Addr) (G' H' : Hp), Gx T [] G H G' H' → H p = none → Pen G' H' p 0 → Q (.ref p) H'
abbrev sPick : Stmt := top 21
theorem sc_pick : FnScope ["_law_pen_here", "_law_options"] ["_law_pen_here", "_law_options"] (defScope sPick) := ⟨rfl, rfl, rfl, by decide +kernel, rfl, by decide +kernel, by decide +kernel⟩
def spPick (T : List NTab) : Sq := fun vs H Q => ∃ (G : Hp) (p : Addr) (n : Nat), Same G H ∧ Pen G H p n ∧ n < 1000000 ∧
  ((∃ (a : Addr) (xs : List V), vs = [.ref p, .ref a] ∧ G a = some (.lst xs) ∧ 1 ≤ xs.length ∧ xs.length ≤ 1000 ∧ ∀ (j : Nat) (x : V) (H' : Hp), xs[j]? = some x → Gx T [p] G H G H' → Pen G H' p (n + 1) → Q x H') ∨
   (∃ z : Str, vs = [.ref p, .str z] ∧ 1 ≤ z.length ∧ z.length ≤ 1000 ∧ ∀ (j : Nat) (c : Nat) (H' : Hp), z.cps.toList[j]? = some c → Gx T [p] G H G H' → Pen G H' p (n + 1) → Q (.str ⟨#[c]⟩) H'))
abbrev sShuf : Stmt := top 22
theorem sc_shuffled : FnScope ["_law_pen_here", "_law_items", "_law_left", "_law_found"] ["_law_pen_here", "_law_items"] (defScope sShuf) := ⟨rfl, rfl, rfl, by decide +kernel, rfl, by decide +kernel, by decide +kernel⟩
def spShuf (T : List NTab) : Sq := fun vs H Q => ∃ (G : Hp) (p a : Addr) (n : Nat) (ns : List Int), vs = [.ref p, .ref a] ∧ Same G H ∧ Pen G H p n ∧ n + ns.length < 1000000 ∧ G a = some (.lst (ns.map V.int)) ∧ ns.length ≤ 100 ∧
  ∀ (l : Addr) (ms : List Int) (G' H' : Hp), ms.Perm ns → Gx T [p] G H G' H' → Pen G' H' p (n + ns.length) → G' l = some (.lst (ms.map V.int)) → Q (.ref l) H'
abbrev sLeaves : Stmt := top 23
theorem sc_leaves : FnScope ["_law_part", "_law_todo", "_law_found", "_law_one"] ["_law_part"] (defScope sLeaves) := ⟨rfl, rfl, rfl, by decide +kernel, rfl, by decide +kernel, by decide +kernel⟩
def spLeaves (T : List NTab) : Sq := fun vs H Q => ∃ (G : Hp) (v : V) (t : Tr), vs = [v] ∧ Same G H ∧ Td G v t.d ∧ t.lets.length ≤ 50 ∧
  ∀ (l : Addr) (G' H' : Hp), Gx T [] G H G' H' → G' l = some (.lst (t.lets.map V.int)) → Q (.ref l) H'
abbrev sBrac : Stmt := top 24
theorem sc_bracketed : FnScope ["_law_pen_here", "_law_words", "_law_row", "_law_at"] ["_law_pen_here", "_law_words"] (defScope sBrac) := ⟨rfl, rfl, rfl, by decide +kernel, rfl, by decide +kernel, by decide +kernel⟩
def spBrac (T : List NTab) : Sq := fun vs H Q => ∃ (G : Hp) (p a : Addr) (n : Nat) (ns : List Int), vs = [.ref p, .ref a] ∧ Same G H ∧ Pen G H p n ∧ n + ns.length < 1000000 ∧ G a = some (.lst (ns.map V.int)) ∧ 1 ≤ ns.length ∧ ns.length ≤ 20 ∧
  ∀ (v : V) (t : Tr) (G' H' : Hp), t.lets = ns → Gx T [p] G H G' H' → Pen G' H' p (n + ns.length) → Td G' v t.d → Q v H'
theorem cut63 (ns : List Int) : ∃ cs : List Int, cutV (ns.map V.int) none (some 63) = cs.map V.int ∧ cs.length ≤ 63 := by
  refine ⟨(ns.drop 0).take (min 63 ns.length - 0), ?_, ?_⟩
  · unfold cutV
    rw [HT.sIx_none, List.length_map, show (63 : Int) = ((63 : Nat) : Int) from rfl, HT.sIx_nat, List.map_take, List.map_drop]
  · rw [List.length_take]
    omega
section
variable {P : Program} {w : World} {K : PySem.W.Frag} {mg : Str → Option Value} {base : Heap} {f : Addr} {fd : FuncData} {T : List NTab}
theorem ok_pen (B : Bn mg) (D : Dn K mg "_law_pen" sPen ["_law_script"] f fd) : Fn P w K mg base 1 f fd ["_law_script"] (spPen T K) := by
  refine D.ok sc_pen (fun vs H Q h => ?_) (fun cdv A outer s H vs Q hg hr _ _ h => ?_)
  · obtain ⟨G, a, ns, rfl, _⟩ := h
    rfl
  obtain ⟨G, a, ns, rfl, hS, hL, q⟩ := h
  refine ⟨_,
    (pss_one (ps_ret (pe_disp (pps_cons pe_str (pe_callTy call_list_of (by rfl) B.list b_list (pa_cons (pe_slice sl_list (pv 0) po_none (po_some pe_int)) pa_nil)) (pps_cons pe_str pe_int (pps_cons pe_str pe_int pps_nil))) (by rfl) (by rfl) (fun z => by cases z) (by decide)))), ?_⟩
  intro p hp
  have W1 : Gx T [] G H G (upd H p (.dK [])) := Gx.newM hS hp _
  obtain ⟨cs, ec, lc⟩ := cut63 ns
  refine ⟨_, rfl, _, rfl, a, _, rfl, Same.seq (same_new hp _) hL, fun e he => ⟨e, _, rfl, .inl (SqL.of upd_same), fun c hc => ?_⟩⟩
  rw [ec] at hc ⊢
  have W2 := W1.trans (Gx.newM (T := T) (E := []) W1.s he (.lst (cs.map V.int)))
  have W3 := W2.trans (Gx.new (T := T) (E := []) W2.s hc (.lst (cs.map V.int)))
  have n1 : p ≠ e := fun z => by rw [z, upd_same] at he; cases he
  have n2 : p ≠ c := fun z => by rw [z, upd_ne (z ▸ n1), ← z, upd_same] at hc; cases hc
  have hp3 : upd (upd (upd H p (.dK [])) e (.lst (cs.map V.int))) c (.lst (cs.map V.int)) p = some (.dK []) := by rw [upd_ne n2, upd_ne n1, upd_same]
  refine ⟨hp3, [(.inr "cells", .ref c), (.inr "turn", .int 0), (.inr "left", .int 0)], rfl, (by show 3 ≤ 15; decide), ?_⟩
  have hm : mergeK [] [((Sum.inr "cells" : Key), V.ref c), (.inr "turn", .int 0), (.inr "left", .int 0)] = penL c 0 0 := by
    simp [mergeK, putK, penL, s_tc, s_tc.symm, s_lc, s_lc.symm, s_lt, s_lt.symm]
  rw [hm]
  have gp : G p = none := hS.free hp
  have gp2 : upd G c (.lst (cs.map V.int)) p = none := by rw [upd_ne n2]; exact gp
  exact q p _ _ (W3.write (.inl hp) gp2 hp3 True.intro) hp ⟨c, cs, 0, 0, gp2, upd_same, upd_same, lc, Int.le_refl 0, Int.le_refl 0, Int.le_refl 0⟩
theorem ok_pick (B : Bn mg) (D : Dn K mg "_law_pick" sPick ["_law_pen_here", "_law_options"] f fd) (h_draw : Has P w K mg base 1 "_law_draw" ["_law_pen_here", "_law_span"] (spDraw T)) : Fn P w K mg base 2 f fd ["_law_pen_here", "_law_options"] (spPick T) := by
  refine D.ok sc_pick (fun vs H Q h => ?_) (fun cdv A outer s H vs Q hg hr _ _ h => ?_)
  · obtain ⟨G, p, n, _, _, _, ⟨a, xs, rfl, _⟩ | ⟨z, rfl, _⟩⟩ := h
    · rfl
    · rfl
  obtain ⟨G, p, n, hS, pen, hn, h⟩ := h
  refine ⟨_,
    (pss_one (ps_ret (pe_ix ix_seq (pv 1) (pe_h h_draw hg hr (pa_cons (pv 0) (pa_cons (pe_callB call_len (by rfl) B.len b_len (pa_cons (pv 1) pa_nil)) pa_nil))) (fun _ _ => rfl)))), ?_⟩
  rcases h with ⟨a, xs, rfl, ha, l1, l2, q⟩ | ⟨z, rfl, l1, l2, q⟩
  · have ha' := hS _ _ ha
    refine ⟨_, rfl, _, rfl, _, rfl, _, xs.length, rfl, .inl ⟨xs, SqL.of ha', rfl⟩, G, p, n, xs.length, rfl, hS, pen, by omega, l1, l2, fun m H' hm W1 pen1 => ?_⟩
    exact .inl ⟨a, xs, m, xs[m], rfl, rfl, SqL.of (W1.s _ _ ha), atI_nat (List.getElem?_eq_getElem hm), q m _ H' (List.getElem?_eq_getElem hm) W1 pen1⟩
  · refine ⟨_, rfl, _, rfl, _, rfl, _, z.length, rfl, ⟨szL (by omega), rfl⟩, G, p, n, z.length, rfl, hS, pen, by omega, l1, l2, fun m H' hm W1 pen1 => ?_⟩
    have hm' : m < z.cps.toList.length := by
      have h : m < z.cps.size := hm
      simpa using h
    exact .inr (.inr ⟨z, m, z.cps.toList[m], rfl, rfl, szL (by omega), atI_nat (List.getElem?_eq_getElem hm'), q m _ H' (List.getElem?_eq_getElem hm') W1 pen1⟩)
theorem eraseIdx_map {α β : Type} (f : α → β) : ∀ (l : List α) (i : Nat), (l.map f).eraseIdx i = (l.eraseIdx i).map f
  | [], _ => rfl
  | _ :: _, 0 => rfl
  | a :: r, i + 1 => by
    show f a :: (r.map f).eraseIdx i = f a :: (r.eraseIdx i).map f
    rw [eraseIdx_map f r i]
theorem perm_erase {α : Type} : ∀ (l : List α) (i : Nat) (h : i < l.length), (l[i] :: l.eraseIdx i).Perm l
  | _ :: _, 0, _ => .refl _
  | a :: r, i + 1, h => by
    have h' : i < r.length := Nat.lt_of_succ_lt_succ h
    have ih := perm_erase r i h'
    exact (List.Perm.swap a r[i] (r.eraseIdx i)).trans (ih.cons a)
theorem ok_shuf (B : Bn mg) (D : Dn K mg "_law_shuffled" sShuf ["_law_pen_here", "_law_items"] f fd) (h_draw : Has P w K mg base 1 "_law_draw" ["_law_pen_here", "_law_span"] (spDraw T)) : Fn P w K mg base 2 f fd ["_law_pen_here", "_law_items"] (spShuf T) := by
  refine D.ok sc_shuffled (fun vs H Q h => ?_) (fun cdv A outer s H vs Q hg hr _ _ h => ?_)
  · obtain ⟨G, p, a, n, ns, rfl, _⟩ := h
    rfl
  obtain ⟨G, p, a, n, ns, rfl, hS, pen, hn, ha, hlen, q⟩ := h
  refine ⟨_,
    (pss_cons (ps_par (i := 2) (j := 3) rfl sc_shuffled.nd rfl rfl (by decide) rfl rfl (pa_cons (pe_callTy call_list_of (by rfl) B.list b_list (pa_cons (pv 1) pa_nil)) (pa_cons (pe_lst pa_nil) pa_nil)) (by rfl))
    (pss_cons (ps_while PassesOwn.never (pt_cmpR (op_neD hr.units) (pv 2) (pe_lst pa_nil) (nomark _))
      (pss_one (ps_expr (pe_bm PySem.F.plainAttrs_list PySem.F.slot_list_append PySem.F.type_list_append mt_append (pv 3) (pa_cons (pe_bm PySem.F.plainAttrs_list PySem.F.slot_list_pop PySem.F.type_list_pop mt_popAt (pv 2) (pa_cons (pe_h h_draw hg hr (pa_cons (pv 0) (pa_cons (pe_callB call_len_seq (by rfl) B.len b_len (pa_cons (pv 2) pa_nil)) pa_nil))) pa_nil)) pa_nil)))))
    (pss_one (ps_ret (pv 3))))), ?_⟩
  have ha' := hS _ _ ha
  refine ⟨_, rfl, a, _, rfl, .inl (SqL.of ha'), fun l hl => ⟨Nat.zero_le _, fun u hu => ⟨_, _, rfl, ?_⟩⟩⟩
  have nlu : l ≠ u := fun z => by rw [z, upd_same] at hu; cases hu
  have hu0 : H u = none := by rw [upd_ne nlu.symm] at hu; exact hu
  refine ⟨fun m σ' H' => ∃ (ls fs : List Int), m = ls.length ∧ σ' = [some (.ref p), some (.ref a), some (.ref l), some (.ref u)] ∧ (fs ++ ls).Perm ns ∧ Gx T [p] G H G H' ∧ Pen G H' p (n + fs.length) ∧ H' l = some (.lst (ls.map V.int)) ∧ H' u = some (.lst (fs.map V.int)), ⟨ns.length, ns, [], rfl, rfl, .refl _, ?_, ?_, ?_, upd_same⟩, ?_⟩
  · exact (Gx.newM hS hl _).trans (Gx.newM (Gx.newM (T := T) (E := [p]) hS hl _).s hu _)
  · exact pen.keep ((Gx.newM (T := T) (E := []) hS hl _).trans (Gx.newM (Gx.newM (T := T) (E := []) hS hl _).s hu _)) (by simp)
  · rw [upd_ne nlu]; exact upd_same
  · rintro m σ' H1 ⟨ls, fs, rfl, rfl, pm, W1, pen1, h1, h2⟩
    have gl : G l = none := hS.free hl
    have gu : G u = none := hS.free hu0
    have lsum : fs.length + ls.length = ns.length := by rw [← pm.length_eq, List.length_append]
    refine ⟨_, rfl, Nat.zero_le _, fun e he => rd_neNil upd_same (Td.lst (upd_ne (ne_of_none h1 he) ▸ h1) (TdAll.ints ls)) (shaped_ints ls) ⟨_, rfl, ?_⟩⟩
    have W2 : Gx T [p] G H G (upd H1 e (.lst [])) := W1.trans (Gx.newM W1.s he _)
    have h1' : upd H1 e (.lst []) l = some (.lst (ls.map V.int)) := by rw [upd_ne (ne_of_none h1 he)]; exact h1
    have h2' : upd H1 e (.lst []) u = some (.lst (fs.map V.int)) := by rw [upd_ne (ne_of_none h2 he)]; exact h2
    have pen2 : Pen G (upd H1 e (.lst [])) p (n + fs.length) := pen1.keep (Gx.newM (T := T) (E := []) W1.s he _) (by simp)
    generalize upd H1 e (.lst []) = H2 at W2 h1' h2' pen2
    refine ite2 (fun ne => ?_) (fun ne => ?_)
    · have hpos : 0 < ls.length := by
        cases ls with
        | nil => simp at ne
        | cons _ _ => exact Nat.succ_pos _
      have hml : (ls.map V.int).length = ls.length := List.length_map _
      refine ⟨_, fun _ _ h => h, ?_⟩
      refine ⟨_, rfl, .inl ⟨rfl, _, SqL.of h2'⟩, _, rfl, .inl ⟨rfl, _, SqL.of h1'⟩, _, rfl, _, rfl, l, _, rfl, .inl (SqL.of h1'), G, p, n + fs.length, (ls.map V.int).length, rfl, W2.s, pen2, by omega, by omega, by omega, fun k H3 hk W3 pen3 => ?_⟩
      have hk' : k < ls.length := by omega
      have hpl : p ≠ l := by
        obtain ⟨c, cs, t, lf, _, hp, _⟩ := pen2
        exact ne_of hp h1' (by intro z; cases z)
      have hpu : p ≠ u := by
        obtain ⟨c, cs, t, lf, _, hp, _⟩ := pen2
        exact ne_of hp h2' (by intro z; cases z)
      obtain ⟨_, h13⟩ := W3.keepM (by simpa using hpl.symm) gl h1' (fun _ z => by cases z)
      obtain ⟨_, h23⟩ := W3.keepM (by simpa using hpu.symm) gu h2' (fun _ z => by cases z)
      refine ⟨l, _, (k : Int), k, .int ls[k], rfl, rfl, h13, by omega, by omega, (ixN_seq (ix_in (by omega))).1, by rw [List.getElem?_map, List.getElem?_eq_getElem hk']; rfl, ?_⟩
      have W4 := (W2.trans W3).write (o' := .lst ((ls.map V.int).eraseIdx k)) (.inl hl) gl h13 True.intro
      have h24 : upd H3 l (.lst ((ls.map V.int).eraseIdx k)) u = some (.lst (fs.map V.int)) := by rw [upd_ne nlu.symm]; exact h23
      refine ⟨u, _, _, rfl, rfl, h24, szLt (by rw [List.length_map]; omega), ls.length - 1, by omega, ls.eraseIdx k, fs ++ [ls[k]], by rw [List.length_eraseIdx_of_lt hk'], rfl, ?_, W4.write (.inl hu0) gu h24 True.intro, ?_, ?_, ?_⟩
      · rw [List.append_assoc]
        exact ((perm_erase ls k hk').append_left fs).trans pm
      · obtain ⟨c, cs, t, lf, a1, a2, a3, a4, a5, a6, a7⟩ := pen3
        refine ⟨c, cs, t, lf, a1, by rw [upd_ne hpu, upd_ne hpl]; exact a2, a3, a4, a5, ?_, a7⟩
        rw [List.length_append, List.length_singleton]
        omega
      · rw [upd_ne nlu, upd_same, eraseIdx_map]
      · rw [upd_same, List.map_append]
        rfl
    · have hz : ls = [] := by
        cases ls with
        | nil => rfl
        | cons _ _ => simp at ne
      subst hz
      rw [List.append_nil] at pm
      have e2 : n + fs.length = n + ns.length := by rw [pm.length_eq]
      refine ⟨_, rfl, q u fs (upd G u (.lst (fs.map V.int))) H2 pm (Gx.freeze W2.s W2 hu0 h2') ?_ upd_same⟩
      rw [← e2]
      obtain ⟨c, cs, t, lf, a1, a2, a3, r⟩ := pen2
      exact ⟨c, cs, t, lf, by rw [upd_ne (ne_of a2 h2' (by intro z; cases z))]; exact a1, a2, by rw [upd_ne (ne_of_none a3 gu)]; exact a3, r⟩
theorem TdAll.snoc_inv {G : Hp} : ∀ {xs : List V} {ds : List PyData} {z : PyData}, TdAll G xs (ds ++ [z]) → ∃ ys x, xs = ys ++ [x] ∧ TdAll G ys ds ∧ Td G x z
  | _, [], _, .cons h .nil => ⟨[], _, rfl, .nil, h⟩
  | _, _ :: r, z, .cons h t => by
    obtain ⟨ys, x, rfl, a, b⟩ := TdAll.snoc_inv (ds := r) t
    exact ⟨_ :: ys, x, rfl, .cons h a, b⟩
theorem list_snoc {α : Type} : ∀ {l : List α}, l ≠ [] → ∃ r x, l = r ++ [x]
  | [], h => absurd rfl h
  | [x], _ => ⟨[], x, rfl⟩
  | x :: y :: r, _ => by
    obtain ⟨r', z, e⟩ := list_snoc (l := y :: r) (by simp)
    exact ⟨x :: r', z, by rw [e]; rfl⟩
theorem Gx.snoc {E : List Addr} {G H G1 H1 : Hp} (a : Gx T E G H G1 H1) {p : Addr} (hp : H1 p = none) (o : HO) : Gx T E G H (upd G1 p o) (upd H1 p o) := a.trans (Gx.new a.s hp o)
theorem Gx.snocM {E : List Addr} {G H G1 H1 : Hp} (a : Gx T E G H G1 H1) {p : Addr} (hp : H1 p = none) (o : HO) : Gx T E G H G1 (upd H1 p o) := a.trans (Gx.newM a.s hp o)
theorem Gx.al {E : List Addr} {G H G1 H1 : Hp} (a : Gx T E G H G1 H1) {p : Addr} (hp : H1 p = none) (o : HO) : ∃ G2, Gx T E G H G2 (upd H1 p o) ∧ Gx T [] G1 H1 G2 (upd H1 p o) ∧ G2 p = some o :=
  ⟨_, a.snoc hp o, Gx.new a.s hp o, upd_same⟩
theorem ok_leaves (B : Bn mg) (D : Dn K mg "_law_leaves" sLeaves ["_law_part"] f fd) : Fn P w K mg base 1 f fd ["_law_part"] (spLeaves T) := by
  refine D.ok sc_leaves (fun vs H Q h => ?_) (fun cdv A outer s H vs Q hg hr _ _ h => ?_)
  · obtain ⟨G, v, t, rfl, _⟩ := h
    rfl
  obtain ⟨G, v, t, rfl, hS, tv, hsz, q⟩ := h
  refine ⟨_,
    (pss_cons (ps_par (i := 1) (j := 2) rfl sc_leaves.nd rfl rfl (by decide) rfl rfl (pa_cons (pe_lst (pa_cons (pv 0) pa_nil)) (pa_cons (pe_lst pa_nil) pa_nil)) (by rfl))
    (pss_cons (ps_while PassesOwn.never (pt_cmpR (op_neD hr.units) (pv 1) (pe_lst pa_nil) (nomark _))
      (pss_cons (ps_set (i := 3) sc_leaves.nd rfl (Or.inl rfl) (pe_bm0 PySem.F.plainAttrs_list PySem.F.slot_list_pop PySem.F.type_list_pop mt_pop (pv 1)))
      (pss_one (ps_if (pt_val (pe_callB call_isTup (by rfl) B.isinstance b_isinstance (pa_cons (pv 3) (pa_cons (pe_bltn (v := .ty "tuple") (by rfl) B.tuple b_tuple rfl) pa_nil)))) (pss_one (ps_expr (pe_bm PySem.F.plainAttrs_list PySem.F.slot_list_extend PySem.F.type_list_extend mt_extend (pv 1) (pa_cons (pe_lst (pa_cons (pe_ix ix_tup (pv 3) pe_int (fun _ _ => rfl)) (pa_cons (pe_ix ix_tup (pv 3) pe_int (fun _ _ => rfl)) pa_nil))) pa_nil))))
        (pss_one (ps_expr (pe_bm PySem.F.plainAttrs_list PySem.F.slot_list_append PySem.F.type_list_append mt_append (pv 2) (pa_cons (pv 3) pa_nil))))))))
    (pss_one (ps_ret (pv 2))))), ?_⟩
  refine ⟨_, rfl, szL (Nat.le_add_left 1 99999), fun l hl => ⟨Nat.zero_le _, fun u hu => ⟨_, _, rfl, ?_⟩⟩⟩
  have nlu : l ≠ u := fun z => by rw [z, upd_same] at hu; cases hu
  have hu0 : H u = none := by rw [upd_ne nlu.symm] at hu; exact hu
  have gl : G l = none := hS.free hl
  have gu : G u = none := hS.free hu0
  have W0 : Gx T [] G H G (upd (upd H l (.lst [v])) u (.lst [])) := (Gx.newM hS hl _).snocM hu _
  refine ⟨fun m σ' H' => ∃ (ts : List Tr) (fs : List Int) (xs : List V) (o : Option V), m = (ts.map Tr.wt).sum ∧ σ' = [some v, some (.ref l), some (.ref u), o] ∧ Gx T [] G H G H' ∧ TdAll G xs (ts.map Tr.d) ∧ H' l = some (.lst xs) ∧ H' u = some (.lst (fs.map V.int)) ∧
      fs ++ (ts.reverse.map Tr.lets).flatten = t.lets ∧ ∀ z ∈ ts, z.lets.length ≤ 50, ⟨_, [t], [], [v], _, rfl, rfl, W0, .cons tv .nil, ?_, upd_same, ?_, ?_⟩, ?_⟩
  · rw [upd_ne nlu]; exact upd_same
  · simp
  · intro z hz
    rw [List.mem_singleton.mp hz]
    exact hsz
  · rintro m σ' H1 ⟨ts, fs, xs, o, rfl, rfl, W1, ta, h1, h2, el, hts⟩
    have lx : xs.length = ts.length := by rw [ta.length, List.length_map]
    have lsum : fs.length + ts.length ≤ 50 := by
      have e := congrArg List.length el
      have : ∀ us : List Tr, us.length ≤ (us.map Tr.lets).flatten.length := fun us => by
        induction us with
        | nil => exact Nat.le_refl _
        | cons a r ih =>
          have := lets_pos a
          rw [List.map_cons, List.flatten_cons, List.length_append, List.length_cons]
          omega
      have h3 := this ts.reverse
      rw [List.length_append] at e
      rw [List.length_reverse] at h3
      omega
    refine ⟨_, rfl, Nat.zero_le _, fun e he => rd_neNil upd_same (Td.lst (upd_ne (ne_of_none h1 he) ▸ h1) (ta.mono (W1.s.trans (same_new he _)))) (ds_shaped fun z hz => ?_) ⟨_, rfl, ?_⟩⟩
    · have := ht_lt z
      have := hts z hz
      omega
    have W2 : Gx T [] G H G (upd H1 e (.lst [])) := W1.snocM he _
    have h1' : upd H1 e (.lst []) l = some (.lst xs) := by rw [upd_ne (ne_of_none h1 he)]; exact h1
    have h2' : upd H1 e (.lst []) u = some (.lst (fs.map V.int)) := by rw [upd_ne (ne_of_none h2 he)]; exact h2
    generalize upd H1 e (.lst []) = H2 at W2 h1' h2'
    refine ite2 (fun ne => ?_) (fun ne => ?_)
    · obtain ⟨tr, z, rfl⟩ : ∃ tr z, ts = tr ++ [z] := list_snoc (by rintro rfl; simp at ne)
      rw [List.map_append] at ta
      obtain ⟨ys, x, rfl, ty, tx⟩ := ta.snoc_inv
      have W3 := W2.write (o' := .lst ys) (.inl hl) gl h1' True.intro
      refine ⟨_, fun _ _ h => h, ?_⟩
      refine ⟨_, rfl, .inl ⟨rfl, _, SqL.of h1'⟩, l, _, x, rfl, rfl, h1', by simp, ?_⟩
      rw [List.dropLast_concat]
      have h13 : upd H2 l (.lst ys) l = some (.lst ys) := upd_same
      have h23 : upd H2 l (.lst ys) u = some (.lst (fs.map V.int)) := by rw [upd_ne nlu.symm]; exact h2'
      generalize upd H2 l (.lst ys) = H3 at W3 h13 h23
      have hz50 := hts z (by simp)
      refine ⟨_, rfl, x, z.d, rfl, tx.mono W3.s, _, rfl, ?_⟩
      cases z with
      | lf n =>
        have ex := lf_td tx
        subst ex
        refine iteF ⟨_, rfl, .inl ⟨rfl, _, SqL.of h23⟩, _, rfl, u, _, _, rfl, rfl, h23, szLt (by rw [List.length_map]; omega), _, ?_, tr, fs ++ [n], ys, _, rfl, rfl, W3.write (.inl hu0) gu h23 True.intro, ty, ?_, ?_, ?_, fun z hz => hts z (by simp [hz])⟩
        · simp [Tr.wt]
        · rw [upd_ne nlu]; exact h13
        · rw [upd_same, List.map_append]; rfl
        · rw [← el]; simp [Tr.lets]
      | nd a b =>
        obtain ⟨k, x1, x2, rfl, hk, t1, t2⟩ := nd_td tx
        have hk3 := W3.s _ _ hk
        have aa : a.lets.length + b.lets.length ≤ 50 := by
          have : (a.lets ++ b.lets).length ≤ 50 := hz50
          rw [List.length_append] at this
          exact this
        have pa1 := lets_pos a
        have pb1 := lets_pos b
        refine iteT ⟨_, rfl, .inl ⟨rfl, _, SqL.of h13⟩, _, rfl, k, _, _, x2, rfl, rfl, SqT.of hk3, rfl, _, rfl, k, _, _, x1, rfl, rfl, SqT.of hk3, rfl, szL (Nat.le_add_left 2 99998), fun e2 he2 => ?_⟩
        have h14 : upd H3 e2 (.lst [x2, x1]) l = some (.lst ys) := by rw [upd_ne (ne_of_none h13 he2)]; exact h13
        have h24 : upd H3 e2 (.lst [x2, x1]) u = some (.lst (fs.map V.int)) := by rw [upd_ne (ne_of_none h23 he2)]; exact h23
        have ly : ys.length = tr.length := by rw [ty.length, List.length_map]
        refine ⟨l, e2, _, _, rfl, rfl, h14, upd_same, szL ?_, _, ?_, tr ++ [b, a], fs, ys ++ [x2, x1], _, rfl, rfl, (W3.snocM he2 _).write (.inl hl) gl h14 True.intro, ?_, upd_same, ?_, ?_, ?_⟩
        · rw [List.length_append] at lsum
          show ys.length + 2 ≤ 100000
          omega
        · simp [Tr.wt]
          omega
        · rw [List.map_append]
          exact ty.app (.cons t2 (.cons t1 .nil))
        · rw [upd_ne nlu.symm]; exact h24
        · rw [← el]; simp [Tr.lets]
        · intro z hz
          rcases List.mem_append.mp hz with hz | hz
          · exact hts z (by simp [hz])
          · rcases List.mem_cons.mp hz with rfl | hz
            · omega
            · rw [List.mem_singleton.mp hz]; omega
    · have hz : ts = [] := by
        cases ts with
        | nil => rfl
        | cons _ _ => simp at ne
      subst hz
      refine ⟨_, rfl, q u _ H2 (Gx.freeze W2.s W2 hu0 h2') ?_⟩
      rw [upd_same, ← el]
      simp
theorem cut_take (xs : List V) (k : Nat) : cutV xs none (some (k : Int)) = xs.take k := by
  unfold cutV
  rw [HT.sIx_none, HT.sIx_nat, List.drop_zero, Nat.sub_zero]
  by_cases h : k ≤ xs.length
  · rw [Nat.min_eq_left h]
  · rw [Nat.min_eq_right (by omega), List.take_of_length_le (Nat.le_refl _), List.take_of_length_le (by omega)]
theorem cut_drop (xs : List V) (k : Nat) : cutV xs (some (k : Int)) none = xs.drop k := by
  unfold cutV
  rw [HT.sIx_none, HT.sIx_nat]
  by_cases h : k ≤ xs.length
  · rw [Nat.min_eq_left h, List.take_of_length_le (by rw [List.length_drop]; exact Nat.le_refl _)]
  · rw [Nat.min_eq_right (by omega), List.drop_of_length_le (Nat.le_refl _), List.drop_of_length_le (by omega), List.take_nil]
theorem split2 {α : Type} (l : List α) (k : Nat) (h : k + 1 < l.length) : l = l.take k ++ (l[k] :: l[k + 1] :: l.drop (k + 2)) := by
  have e1 : l.drop k = l[k] :: l.drop (k + 1) := List.drop_eq_getElem_cons (by omega)
  have e2 : l.drop (k + 1) = l[k + 1] :: l.drop (k + 2) := List.drop_eq_getElem_cons h
  rw [← e2, ← e1, List.take_append_drop]
theorem flat_merge (A C : List Tr) (a b : Tr) : ((A ++ [Tr.nd a b] ++ C).map Tr.lets).flatten = ((A ++ (a :: b :: C)).map Tr.lets).flatten := by simp [Tr.lets]
theorem ok_brac (B : Bn mg) (D : Dn K mg "_law_bracketed" sBrac ["_law_pen_here", "_law_words"] f fd) (h_draw : Has P w K mg base 1 "_law_draw" ["_law_pen_here", "_law_span"] (spDraw T)) : Fn P w K mg base 2 f fd ["_law_pen_here", "_law_words"] (spBrac T) := by
  refine D.ok sc_bracketed (fun vs H Q h => ?_) (fun cdv A outer s H vs Q hg hr _ _ h => ?_)
  · obtain ⟨G, p, a, n, ns, rfl, _⟩ := h
    rfl
  obtain ⟨G, p, a, n, ns, rfl, hS, pen, hn, ha, hpos, hlen, q⟩ := h
  refine ⟨_,
    (pss_cons (ps_set (i := 2) sc_bracketed.nd rfl (Or.inl rfl) (pe_callTy call_list_of (by rfl) B.list b_list (pa_cons (pv 1) pa_nil)))
    (pss_cons (ps_while PassesOwn.never (pt_cmpR op_gt (pe_callB call_len_seq (by rfl) B.len b_len (pa_cons (pv 2) pa_nil)) pe_int (nomark _))
      (pss_cons (ps_set (i := 3) sc_bracketed.nd rfl (Or.inl rfl) (pe_h h_draw hg hr (pa_cons (pv 0) (pa_cons (pe_op op_sub (pe_callB call_len_seq (by rfl) B.len b_len (pa_cons (pv 2) pa_nil)) pe_int) pa_nil))))
      (pss_one (ps_set (i := 2) sc_bracketed.nd rfl (Or.inl rfl) (pe_op op_cat (pe_op op_cat (pe_slice sl_list (pv 2) po_none (po_some (pv 3))) (pe_lst (pa_cons (pe_tup (pa_cons (pe_ix ix_list (pv 2) (pv 3) (fun _ _ => rfl)) (pa_cons (pe_ix ix_list (pv 2) (pe_op op_add (pv 3) pe_int) (fun _ _ => rfl)) pa_nil))) pa_nil))) (pe_slice sl_list (pv 2) (po_some (pe_op op_add (pv 3) pe_int)) po_none))))))
    (pss_one (ps_ret (pe_ix ix_list (pv 2) pe_int (fun _ _ => rfl)))))), ?_⟩
  have ha' := hS _ _ ha
  refine ⟨_, rfl, a, _, rfl, .inl (SqL.of ha'), fun r0 hr0 => ?_⟩
  have W0 : Gx T [p] G H (upd G r0 (.lst (ns.map V.int))) (upd H r0 (.lst (ns.map V.int))) := Gx.new hS hr0 _
  refine ⟨fun m σ' H' => ∃ (ts : List Tr) (xs : List V) (r : Addr) (o : Option V) (G1 : Hp), m = ts.length ∧ σ' = [some (.ref p), some (.ref a), some (.ref r), o] ∧ 1 ≤ ts.length ∧ ts.length ≤ ns.length ∧ (ts.map Tr.lets).flatten = ns ∧ Gx T [p] G H G1 H' ∧ Pen G1 H' p (n + (ns.length - ts.length)) ∧
      G1 r = some (.lst xs) ∧ TdAll G1 xs (ts.map Tr.d), ⟨_, ns.map Tr.lf, ns.map V.int, r0, _, _, rfl, rfl, by rw [List.length_map]; exact hpos, by rw [List.length_map]; exact Nat.le_refl _, ?_, W0, ?_, upd_same, ?_⟩, ?_⟩
  · rw [List.map_map]
    clear q pen hn ha hpos hlen ha' hr0 W0
    induction ns with
    | nil => rfl
    | cons x xs ih =>
      rw [List.map_cons, List.flatten_cons, ih]
      rfl
  · rw [List.length_map, Nat.sub_self]
    exact pen.keep (Gx.new (T := T) (E := []) hS hr0 _) (by simp)
  · rw [List.map_map]
    exact TdAll.ints ns
  · rintro m σ' H1 ⟨ts, xs, r, o, G1, rfl, rfl, hp1, hle, el, W1, pen1, hx, ta⟩
    have lx : xs.length = ts.length := by rw [ta.length, List.length_map]
    have hx1 := W1.s _ _ hx
    refine ⟨_, rfl, r, _, rfl, .inl (SqL.of hx1), _, _, rfl, rfl, _, rfl, ?_⟩
    refine ite2 (fun gt => ?_) (fun gt => ?_)
    · have gt' : 1 < ts.length := by
        have := of_decide_eq_true gt
        omega
      refine ⟨_, fun _ _ h => h, ?_⟩
      refine ⟨_, rfl, _, rfl, r, _, rfl, .inl (SqL.of hx1), _, _, rfl, rfl, G1, p, _, ts.length - 1, ?_, W1.s, pen1, by omega, by omega, by omega, fun k H2 hk W2 pen2 => ?_⟩
      · show [V.ref p, V.int (((xs.length : Nat) : Int) - 1)] = [V.ref p, V.int ((ts.length - 1 : Nat) : Int)]
        rw [show ((xs.length : Nat) : Int) - 1 = ((ts.length - 1 : Nat) : Int) by omega]
      have W2' := W1.trans W2
      have hx2 := W2.s _ _ hx
      have hk1 : k + 1 < xs.length := by omega
      -- row[:at]
      refine ⟨_, rfl, _, rfl, _, rfl, r, _, rfl, SqL.of hx2, fun e1 he1 => ?_⟩
      rw [cut_take]
      obtain ⟨G3, W3, s3, ge1⟩ := W2'.al he1 (.lst (xs.take k))
      have hx3 := W3.s _ _ (s3.g _ _ hx)
      -- [(row[at], row[at + 1])]
      refine ⟨_, rfl, _, rfl, r, _, _, xs[k], rfl, rfl, SqL.of hx3, atI_nat (List.getElem?_eq_getElem (by omega)), _, rfl, _, rfl, _, _, rfl, rfl, r, _, _, xs[k + 1], rfl, rfl, SqL.of hx3, ?_, szL (Nat.le_add_left 2 99998), fun e2 he2 => ⟨szL (Nat.le_add_left 1 99999), fun e3 he3 => ?_⟩⟩
      · show atI xs ((k : Int) + 1) = _
        rw [show ((k : Int) + 1) = ((k + 1 : Nat) : Int) by omega]
        exact atI_nat (List.getElem?_eq_getElem hk1)
      obtain ⟨G4, W4, s4, ge2⟩ := W3.al he2 (.tup [xs[k], xs[k + 1]])
      obtain ⟨G5, W5, s5, ge3⟩ := W4.al he3 (.lst [.ref e2])
      refine ⟨e1, e3, _, _, rfl, rfl, W5.s _ _ (s5.g _ _ (s4.g _ _ ge1)), W5.s _ _ ge3, szL ?_, fun e4 he4 => ?_⟩
      · rw [List.length_take, List.length_singleton]; omega
      obtain ⟨G6, W6, s6, ge4⟩ := W5.al he4 (.lst (xs.take k ++ [.ref e2]))
      have s36 := s3.trans (s4.trans (s5.trans s6))
      -- row[at + 2:]
      refine ⟨_, rfl, _, rfl, _, _, rfl, rfl, _, rfl, r, _, rfl, SqL.of (W6.s _ _ (s36.g _ _ hx)), fun e5 he5 => ?_⟩
      have ek : ((k : Int) + 2) = ((k + 2 : Nat) : Int) := by omega
      rw [ek, cut_drop]
      obtain ⟨G7, W7', s7, ge5⟩ := W6.al he5 (.lst (xs.drop (k + 2)))
      refine ⟨e4, e5, _, _, rfl, rfl, W7'.s _ _ (s7.g _ _ ge4), W7'.s _ _ ge5, szL ?_, fun e6 he6 => ?_⟩
      · rw [List.length_append, List.length_take, List.length_singleton, List.length_drop]; omega
      obtain ⟨G8, W8, s8, ge6⟩ := W7'.al he6 (.lst ((xs.take k ++ [.ref e2]) ++ xs.drop (k + 2)))
      have s18 := s36.trans (s7.trans s8)
      have hk2 : k + 1 < ts.length := by omega
      have ets := split2 ts k hk2
      refine ⟨ts.length - 1, by omega, ts.take k ++ [Tr.nd ts[k] ts[k + 1]] ++ ts.drop (k + 2), (xs.take k ++ [.ref e2]) ++ xs.drop (k + 2), e6, _, G8, ?_, rfl, ?_, ?_, ?_, W8, ?_, ge6, ?_⟩
      · rw [List.length_append, List.length_append, List.length_take, List.length_singleton, List.length_drop]; omega
      · rw [List.length_append, List.length_append, List.length_singleton]; omega
      · rw [List.length_append, List.length_append, List.length_take, List.length_singleton, List.length_drop]; omega
      · rw [← el]
        refine Eq.trans ?_ (congrArg (fun l => (l.map Tr.lets).flatten) ets).symm
        exact flat_merge _ _ _ _
      · exact (pen2.keep s18 (by simp)).more (by rw [List.length_append, List.length_append, List.length_take, List.length_singleton, List.length_drop]; omega)
      · have t1 := ta.mono s18.g
        have e1 : (ts.take k ++ [Tr.nd ts[k] ts[k + 1]] ++ ts.drop (k + 2)).map Tr.d = (ts.map Tr.d).take k ++ [(Tr.nd ts[k] ts[k + 1]).d] ++ (ts.map Tr.d).drop (k + 2) := by
          rw [List.map_append, List.map_append, List.map_take, List.map_drop]; rfl
        rw [e1]
        refine ((t1.take k).app (.cons ?_ .nil)).app (t1.drop (k + 2))
        obtain ⟨z1, q1, q2⟩ := t1.get (i := k) (List.getElem?_eq_getElem (by omega))
        obtain ⟨z2, q3, q4⟩ := t1.get (i := k + 1) (List.getElem?_eq_getElem hk1)
        rw [List.getElem?_map, List.getElem?_eq_getElem (by omega)] at q1 q3
        cases q1
        cases q3
        exact .tup ((s5.trans (s6.trans (s7.trans s8))).g _ _ ge2) (.cons q2 (.cons q4 .nil))
    · have gt' : ts.length = 1 := by
        have : ¬ (1 : Int) < (xs.length : Nat) := fun z => gt (decide_eq_true z)
        omega
      obtain ⟨t, rfl⟩ : ∃ t, ts = [t] := List.length_eq_one_iff.mp gt'
      cases ta with
      | cons tv tn =>
        cases tn
        refine ⟨_, rfl, r, _, _, _, rfl, rfl, SqL.of hx1, rfl, q _ t G1 H1 ?_ W1 (pen1.more (by omega)) tv⟩
        simpa using el
end
end W7
set_option maxRecDepth 100000
set_option maxHeartbeats 4000000
/-! WF: letters, value_of, first_uses, last_uses, ascending, pair_of, without_sides -/
namespace W7
open PySem PySem.Spec PyProof.Rows L2 LamX NdefX
/-! ### an operation that is handed on -/
/-- exactly this object stands there -/
def Pin (a : Addr) (o : Obj) : HO := .ext fun h => h.get? a = some o
theorem pin_at {P : Program} {w : World} {H : Hp} {h : Heap} {a : Addr} {o : Obj} (hok : HOk P w H h) (e : H a = some (Pin a o)) : h.get? a = some o := (hok a _ e).1
theorem pin_ne {a : Addr} {o : Obj} (ps : Array Value) : Pin a o ≠ .tbl ps := fun z => by
  unfold Pin at z
  cases z
/-- calling f with a, b below n gives op a b, and leaves the heap -/
structure OpOk (P : Program) (w : World) (K : PySem.W.Frag) (mg : Str → Option Value) (base : Heap) (k : Nat) (f : Addr) (n : Nat) (op : Nat → Nat → Nat) (H : Hp) : Prop where
  at_ : ∃ (od : Option Addr) (fd : FuncData) (sl : Array (Option Value)), H f = some (Pin f ⟨.type "function", od, .func fd, sl⟩)
  go : ∀ (A : Around) (outer : List Env) (s : Shared) (H' : Hp) (us : List Value) (a b : Nat) (Q : VK), A.guards = some [] → Room k A → Env0 P w K mg base A outer s H' → Same H H' → a < n → b < n → Vals [V.int a, V.int b] us → Q (.int (op a b)) H' →
    codeAny (model P w) A (.call (.ref f) ⟨us, []⟩) (CR CX0 outer P w H' s Q E0) s
theorem OpOk.mono {P : Program} {w : World} {K : PySem.W.Frag} {mg : Str → Option Value} {base : Heap} {k : Nat} {f : Addr} {n : Nat} {op : Nat → Nat → Nat} {H H1 : Hp} (h : OpOk P w K mg base k f n op H) (e : Same H H1) : OpOk P w K mg base k f n op H1 :=
  ⟨let ⟨od, fd, sl, q⟩ := h.at_; ⟨od, fd, sl, e _ _ q⟩, fun A outer s H' us a b Q hg hr he hs => h.go A outer s H' us a b Q hg hr he (e.trans hs)⟩
def tOper (P : Program) (w : World) (K : PySem.W.Frag) (mg : Str → Option Value) (base : Heap) (k i : Nat) (t : TA) : TE := fun σ H Q => ∃ (f : Addr) (n : Nat) (op : Nat → Nat → Nat), σ[i]? = some (some (.ref f)) ∧ OpOk P w K mg base k f n op H ∧
  t σ H fun vs H1 => ∃ a b : Nat, vs = [.int a, .int b] ∧ OpOk P w K mg base k f n op H1 ∧ a < n ∧ b < n ∧ Q (.int (op a b)) H1
section
variable {X : Cx} {k j i : Nat} {x : Str} {p pos : Pos} {e : Expr} {es : List Expr} {t : TA}
theorem OpOk.fnAt {pins : List (Addr × Obj)} {σ : L2.St} {H : Hp} {s : Shared} {f : Addr} {n : Nat} {op : Nat → Nat → Nat} (h : OpOk X.prog X.w X.K X.mg X.base k f n op H) (I : Inv X pins σ H s) : PySem.W.FnAt f s.heap := by
  obtain ⟨od, fd, sl, q⟩ := h.at_
  exact ⟨_, _, _, _, pin_at I.hok q⟩
theorem pe_oper (hN : X.N[i]? = some x) (hv : Vis X.env.scope x) (hg : X.A.guards = some []) (hr : Room j X.A) (hkj : k ≤ j) (ha : PA X (e :: es) t) (hd : (x == ("__debug__" : Str)) = false := by decide) (hcd : (x == ("__classdict__" : Str)) = false := by decide)
    (he : starEach (e :: es) X.env = (false, eval e X.env) :: starEach es X.env := by rfl) (hpl : (backTo pos (starEach es X.env)).any (·.1) = false := by rfl) :
    PE X (.Call (.Name x p) (e :: es) [] pos) (tOper X.prog X.w X.K X.mg X.base k i t) := by
  refine ⟨fun pins s σ H Q I h => ?_⟩
  obtain ⟨f, n, op, hs, hop, ht⟩ := h
  refine wpAny_Call_Name_kw (thn ((pe_var (pos := p) (i := i) hN hv hd hcd).run pins s σ H (fun v H1 => v = .ref f ∧ H1 = H) I ⟨.ref f, hs, rfl, rfl⟩) fun u s1 ⟨v, H1, I1, r1, e1, e2⟩ => ?_)
  subst e1 e2
  obtain rfl : u = Value.ref f := r1
  refine PySem.W.callWith_F (first := []) (hop.fnAt I1) (thn (ha.run pos pins s1 σ _ _ I1 ht) fun us s2 ⟨vs, H2, I2, r, a, b, ev, hop2, la, lb, q⟩ => ⟨hop2.fnAt I2, ?_⟩) he hpl
  subst ev
  refine wpAny_call (codeAny_mono (hop2.go X.A X.stack s2 H2 us a b Q hg (hr.mono hkj) I2.env0 (Same.refl _) la lb r q) fun r s' hq => ?_)
  match r, hq with
  | .ok (.ret u), hq => exact I2.after hq
  | .ok .next, hq => exact False.elim hq
  | .ok .brk, hq => exact False.elim hq
  | .ok .cont, hq => exact False.elim hq
  | .error e, hq => exact False.elim hq
theorem pi_or {tg l : Expr} {w1 w2 : TI} (h1 : PI X tg l w1) (h2 : PI X tg l w2) : PI X tg l (fun σ H R => w1 σ H R ∨ w2 σ H R) :=
  ⟨fun pins s σ H R I h => h.elim (h1.run pins s σ H R I) (h2.run pins s σ H R I)⟩
end
/-! ### the texts of trees -/
def Ok4 (t : Tr) : Prop := ∀ x ∈ t.lets, 0 ≤ x ∧ x < 4
theorem Ok4.nd {l r : Tr} (h : Ok4 (.nd l r)) : Ok4 l ∧ Ok4 r := ⟨fun x hx => h x (List.mem_append_left _ hx), fun x hx => h x (List.mem_append_right _ hx)⟩
theorem Ok4.mk {l r : Tr} (h : Ok4 l) (h2 : Ok4 r) : Ok4 (.nd l r) := fun x hx => (List.mem_append.mp hx).elim (h x) (h2 x)
theorem int4 {n : Int} (h : 0 ≤ n ∧ n < 4) : n = 0 ∨ n = 1 ∨ n = 2 ∨ n = 3 := by omega
theorem sh_len : ∀ t : Tr, Ok4 t → t.d.shown.length + 4 = 5 * t.lets.length
  | .lf n, h => by
    have : 0 ≤ n ∧ n < 4 := h n (by simp [Tr.lets])
    show (PyData.shown (.int n)).length + 4 = 5
    rw [PyData.shown]
    rcases int4 this with rfl | rfl | rfl | rfl <;> decide +kernel
  | .nd l r, h => by
    have h1 := sh_len l h.nd.1
    have h2 := sh_len r h.nd.2
    have p1 := lets_pos l
    have p2 := lets_pos r
    show (PyData.shown (.tuple [l.d, r.d])).length + 4 = 5 * (l.lets ++ r.lets).length
    have e : (tupleText [l.d.shown, r.d.shown]).length = l.d.shown.length + r.d.shown.length + 4 := by
      have j := join_length_add [l.d.shown, r.d.shown] (by simp)
      have j2 : piled [l.d.shown, r.d.shown] = l.d.shown.length + 2 + (r.d.shown.length + 2) := by simp [piled]
      unfold tupleText
      rw [if_neg (by simp), Str.length_append, Str.length_append]
      have a1 : (("(" : Str)).length = 1 := rfl
      have a2 : ((")" : String) : Str).length = 1 := rfl
      rw [a1, a2]
      omega
    rw [PyData.shown, PyData.shownAll, PyData.shownAll, PyData.shownAll, e, List.length_append]
    omega
theorem sh_able : ∀ t : Tr, Ok4 t → t.d.showable = true
  | .lf n, h => by
    have : 0 ≤ n ∧ n < 4 := h n (by simp [Tr.lets])
    show PyData.showable (.int n) = true
    rw [PyData.showable]
    rcases int4 this with rfl | rfl | rfl | rfl <;> decide +kernel
  | .nd l r, h => by
    show PyData.showable (.tuple [l.d, r.d]) = true
    rw [PyData.showable, PyData.showableAll, PyData.showableAll, PyData.showableAll, sh_able l h.nd.1, sh_able r h.nd.2]
    rfl
theorem shw {t : Tr} (h : Ok4 t) (hl : t.lets.length ≤ 40) : Shw t.d := by
  refine ⟨?_, sh_able t h, PySem.PyData.hasDict_of_canLay _ (d_lay t), ?_, ?_⟩
  · cases t with
    | lf n => exact .inl ⟨n, rfl⟩
    | nd l r => exact .inr ⟨_, rfl⟩
  · have := sh_len t h
    exact szL (by omega)
  · have := ht_lt t
    rw [d_dep]
    omega
/-- the text's signs -/
def Tr.sh (t : Tr) : List Nat := t.d.shown.cps.toList
def pairT (l r : Tr) : Tr := if r.sh < l.sh then .nd r l else .nd l r
def Tr.ws : Tr → Tr
  | lf n => lf n
  | nd l r => pairT l.ws r.ws
theorem pair_or (l r : Tr) : pairT l r = .nd l r ∨ pairT l r = .nd r l := by
  unfold pairT
  split
  · exact .inr rfl
  · exact .inl rfl
theorem ws_perm : ∀ t : Tr, t.ws.lets.Perm t.lets
  | .lf _ => .refl _
  | .nd l r => by
    have h1 := ws_perm l
    have h2 := ws_perm r
    show (pairT l.ws r.ws).lets.Perm (l.lets ++ r.lets)
    rcases pair_or l.ws r.ws with e | e <;> rw [e]
    · exact h1.append h2
    · exact (h2.append h1).trans List.perm_append_comm
theorem ws_ok {t : Tr} (h : Ok4 t) : Ok4 t.ws := fun x hx => h x ((ws_perm t).mem_iff.mp hx)
theorem ws_len (t : Tr) : t.ws.lets.length = t.lets.length := (ws_perm t).length_eq
theorem ht_nd {l r : Tr} {n : Nat} (h : (Tr.nd l r).ht < n + 1) : l.ht < n ∧ r.ht < n := by
  have h : max l.ht r.ht + 1 < n + 1 := h
  omega
theorem len_nd (l r : Tr) : (Tr.nd l r).lets.length = l.lets.length + r.lets.length := List.length_append

/-! ### each letter once -/
def lu : List Int → List Int
  | [] => []
  | x :: r => if x ∈ r then lu r else x :: lu r
def fu (l : List Int) : List Int := (lu l.reverse).reverse
theorem lu_len : ∀ l : List Int, (lu l).length ≤ l.length
  | [] => Nat.le_refl _
  | x :: r => by
    have := lu_len r
    rw [lu]
    split
    · rw [List.length_cons]; omega
    · rw [List.length_cons, List.length_cons]; omega
theorem fu_len (l : List Int) : (fu l).length ≤ l.length := by
  have := lu_len l.reverse
  rw [List.length_reverse] at this
  unfold fu
  rw [List.length_reverse]
  exact this
theorem fu_snoc (l : List Int) (x : Int) : fu (l ++ [x]) = if x ∈ l then fu l else fu l ++ [x] := by
  unfold fu
  rw [List.reverse_append]
  show (lu (x :: l.reverse)).reverse = _
  rw [lu]
  simp only [List.mem_reverse]
  split
  · rfl
  · rw [List.reverse_cons]
abbrev sLetters : Stmt := top 9
abbrev sValueOf : Stmt := top 10
abbrev sFirst : Stmt := top 11
abbrev sLast : Stmt := top 12
abbrev sAsc : Stmt := top 13
abbrev sPair : Stmt := top 14
abbrev sWs : Stmt := top 15
theorem sc_letters : FnScope ["tree"] ["tree"] (defScope sLetters) := ⟨rfl, rfl, rfl, by decide +kernel, rfl, by decide +kernel, by decide +kernel⟩
theorem sc_value_of : FnScope ["tree", "values", "operation", "left"] ["tree", "values", "operation"] (defScope sValueOf) := ⟨rfl, rfl, rfl, by decide +kernel, rfl, by decide +kernel, by decide +kernel⟩
theorem sc_first_uses : FnScope ["row", "at", "letter"] ["row"] (defScope sFirst) := ⟨rfl, rfl, rfl, by decide +kernel, rfl, by decide +kernel, by decide +kernel⟩
theorem sc_last_uses : FnScope ["row", "at", "letter"] ["row"] (defScope sLast) := ⟨rfl, rfl, rfl, by decide +kernel, rfl, by decide +kernel, by decide +kernel⟩
theorem sc_ascending : FnScope ["row", "letter"] ["row"] (defScope sAsc) := ⟨rfl, rfl, rfl, by decide +kernel, rfl, by decide +kernel, by decide +kernel⟩
theorem sc_pair_of : FnScope ["left", "right"] ["left", "right"] (defScope sPair) := ⟨rfl, rfl, rfl, by decide +kernel, rfl, by decide +kernel, by decide +kernel⟩
theorem sc_without_sides : FnScope ["tree"] ["tree"] (defScope sWs) := ⟨rfl, rfl, rfl, by decide +kernel, rfl, by decide +kernel, by decide +kernel⟩
def spLetters (T : List NTab) (n : Nat) : Sq := fun vs H Q => ∃ (G : Hp) (v : V) (t : Tr), vs = [v] ∧ Same G H ∧ Td G v t.d ∧ t.ht < n ∧ t.lets.length ≤ 50 ∧ ∀ (l : Addr) (G' H' : Hp), Gx T [] G H G' H' → G' l = some (.lst (t.lets.map V.int)) → Q (.ref l) H'
/-- the value of a tree -/
def ev (op : Nat → Nat → Nat) (vals : List Nat) : Tr → Nat
  | .lf x => vals.getD x.toNat 0
  | .nd l r => op (ev op vals l) (ev op vals r)
theorem ev_lt {n : Nat} {op : Nat → Nat → Nat} {vals : List Nat} (ho : ∀ a b, a < n → b < n → op a b < n) (hv : ∀ v ∈ vals, v < n) (hl : vals.length = 4) : ∀ t : Tr, Ok4 t → ev op vals t < n
  | .lf x, h => by
    have hx : 0 ≤ x ∧ x < 4 := h x (by simp [Tr.lets])
    have : x.toNat < vals.length := by omega
    show vals.getD x.toNat 0 < n
    rw [List.getD_eq_getElem?_getD, List.getElem?_eq_getElem this]
    exact hv _ (List.getElem_mem this)
  | .nd l r, h => ho _ _ (ev_lt ho hv hl l h.nd.1) (ev_lt ho hv hl r h.nd.2)
def spValueOf (P : Program) (w : World) (K : PySem.W.Frag) (mg : Str → Option Value) (base : Heap) (k m : Nat) : Sq := fun vs H Q => ∃ (G : Hp) (v : V) (t : Tr) (a f : Addr) (vals : List Nat) (n : Nat) (op : Nat → Nat → Nat), vs = [v, .ref a, .ref f] ∧ Same G H ∧ Td G v t.d ∧ t.ht < m ∧ Ok4 t ∧
  G a = some (.lst (vals.map fun z => V.int (z : Nat))) ∧ vals.length = 4 ∧ (∀ z ∈ vals, z < n) ∧ (∀ a b, a < n → b < n → op a b < n) ∧ OpOk P w K mg base k f n op H ∧ Q (.int (ev op vals t)) H
def spFirst (T : List NTab) : Sq := fun vs H Q => ∃ (G : Hp) (a : Addr) (ns : List Int), vs = [.ref a] ∧ Same G H ∧ G a = some (.lst (ns.map V.int)) ∧ ns.length ≤ 50 ∧ ∀ (l : Addr) (G' H' : Hp), Gx T [] G H G' H' → G' l = some (.tup ((fu ns).map V.int)) → Q (.ref l) H'
def spLast (T : List NTab) : Sq := fun vs H Q => ∃ (G : Hp) (a : Addr) (ns : List Int), vs = [.ref a] ∧ Same G H ∧ G a = some (.lst (ns.map V.int)) ∧ ns.length ≤ 50 ∧ ∀ (l : Addr) (G' H' : Hp), Gx T [] G H G' H' → G' l = some (.tup ((lu ns).map V.int)) → Q (.ref l) H'
def spAsc (T : List NTab) : Sq := fun vs H Q => ∃ (G : Hp) (a : Addr) (ns : List Int), vs = [.ref a] ∧ Same G H ∧ (G a = some (.lst (ns.map V.int)) ∨ G a = some (.tup (ns.map V.int))) ∧ ns.length ≤ 50 ∧
  ∀ (ms : List Int) (l : Addr) (G' H' : Hp), ms.Perm ns → ms.Pairwise (· ≤ ·) → Gx T [] G H G' H' → G' l = some (.tup (ms.map V.int)) → Q (.ref l) H'
def spPair (T : List NTab) : Sq := fun vs H Q => ∃ (G : Hp) (v u : V) (l r : Tr), vs = [v, u] ∧ Same G H ∧ Td G v l.d ∧ Td G u r.d ∧ Ok4 l ∧ Ok4 r ∧ l.lets.length + r.lets.length ≤ 40 ∧ ∀ (a : V) (G' H' : Hp), Gx T [] G H G' H' → Td G' a (pairT l r).d → Q a H'
def spWs (T : List NTab) (n : Nat) : Sq := fun vs H Q => ∃ (G : Hp) (v : V) (t : Tr), vs = [v] ∧ Same G H ∧ Td G v t.d ∧ t.ht < n ∧ Ok4 t ∧ t.lets.length ≤ 40 ∧ ∀ (a : V) (G' H' : Hp), Gx T [] G H G' H' → Td G' a t.ws.d → Q a H'
section
variable {P : Program} {w : World} {K : PySem.W.Frag} {mg : Str → Option Value} {base : Heap} {f : Addr} {fd : FuncData} {T : List NTab}
/-- nothing can be asked with no call left -/
theorem fn_none {ps : List Str} {sp : Sq} (h : ∀ vs H Q, ¬ sp vs H Q) : Fn P w K mg base 0 f fd ps sp := ⟨fun vs H Q q => absurd q (h vs H Q), fun A outer s H args us vs Q _ _ _ _ _ q => absurd q (h vs H Q)⟩
theorem ok_letters (B : Bn mg) (D : Dn K mg "letters" sLetters ["tree"] f fd) : ∀ n : Nat, Fn P w K mg base n f fd ["tree"] (spLetters T n)
  | 0 => fn_none fun vs H Q h => by
    obtain ⟨_, _, _, _, _, _, h, _⟩ := h
    exact absurd h (Nat.not_lt_zero _)
  | n + 1 => by
    have h_letters := Has.mk' D (ok_letters B D n)
    refine D.ok sc_letters (fun vs H Q h => ?_) (fun cdv A outer s H vs Q hg hr _ _ h => ?_)
    · obtain ⟨G, v, t, rfl, _⟩ := h
      rfl
    obtain ⟨G, v, t, rfl, hS, tv, hh, hl, q⟩ := h
    refine ⟨_,
      (pss_cons (ps_if (pt_not (pt_val (pe_callB call_isTup (by rfl) B.isinstance b_isinstance (pa_cons (pv 0) (pa_cons (pe_bltn (v := .ty "tuple") (by rfl) B.tuple b_tuple rfl) pa_nil))))) (pss_one (ps_ret (pe_lst (pa_cons (pv 0) pa_nil))))
      pss_nil)
    (pss_one (ps_ret (pe_op op_cat (pe_h h_letters hg hr (pa_cons (pe_ix ix_tup (pv 0) pe_int (fun _ _ => rfl)) pa_nil)) (pe_h h_letters hg hr (pa_cons (pe_ix ix_tup (pv 0) pe_int (fun _ _ => rfl)) pa_nil)))))), ?_⟩
    refine ⟨_, rfl, v, t.d, rfl, tv.mono hS, _, rfl, ?_⟩
    cases t with
    | lf n =>
      cases lf_td tv
      refine iteT ⟨_, rfl, szL (Nat.le_add_left 1 99999), fun l hl => ?_⟩
      exact q l _ _ (Gx.new hS hl _) upd_same
    | nd a b =>
      obtain ⟨k, x, y, rfl, hk, tx, ty⟩ := nd_td tv
      have hk' := hS _ _ hk
      obtain ⟨ha, hb⟩ := ht_nd hh
      rw [len_nd] at hl
      refine iteF ⟨_, rfl, k, _, _, x, rfl, rfl, SqT.of hk', rfl, G, x, a, rfl, hS, tx, ha, by omega, fun l1 G1 H1 W1 e1 => ?_⟩
      refine ⟨_, rfl, k, _, _, y, rfl, rfl, SqT.of (W1.s _ _ (W1.g _ _ hk)), rfl, G1, y, b, rfl, W1.s, ty.mono W1.g, hb, by omega, fun l2 G2 H2 W2 e2 => ?_⟩
      refine ⟨l1, l2, _, _, rfl, rfl, W2.s _ _ (W2.g _ _ e1), W2.s _ _ e2, szL ?_, fun l hl => ?_⟩
      · rw [List.length_map, List.length_map]; omega
      refine q l _ _ ((W1.trans W2).snoc hl _) ?_
      rw [upd_same, ← List.map_append]
      rfl
theorem ok_value_of {k : Nat} (B : Bn mg) (D : Dn K mg "value_of" sValueOf ["tree", "values", "operation"] f fd) : ∀ m : Nat, Fn P w K mg base (k + m) f fd ["tree", "values", "operation"] (spValueOf P w K mg base k m)
  | 0 => (fn_none fun vs H Q h => by
    obtain ⟨_, _, _, _, _, _, _, _, _, _, _, h, _⟩ := h
    exact absurd h (Nat.not_lt_zero _)).mono (Nat.zero_le _)
  | m + 1 => by
    have h_value_of := Has.mk' D (ok_value_of (k := k) B D m)
    refine D.ok sc_value_of (fun vs H Q h => ?_) (fun cdv A outer s H vs Q hg hr _ _ h => ?_)
    · obtain ⟨G, v, t, a, g, vals, n, op, rfl, _⟩ := h
      rfl
    obtain ⟨G, v, t, a, g, vals, n, op, rfl, hS, tv, hh, ok, ha, hl4, hv, ho, hop, q⟩ := h
    refine ⟨_,
      (pss_cons (ps_if (pt_not (pt_val (pe_callB call_isTup (by rfl) B.isinstance b_isinstance (pa_cons (pv 0) (pa_cons (pe_bltn (v := .ty "tuple") (by rfl) B.tuple b_tuple rfl) pa_nil))))) (pss_one (ps_ret (pe_ix ix_list (pv 1) (pv 0) (fun _ _ => rfl))))
      pss_nil)
    (pss_cons (ps_set (i := 3) sc_value_of.nd rfl (Or.inl rfl) (pe_h h_value_of hg hr (pa_cons (pe_ix ix_tup (pv 0) pe_int (fun _ _ => rfl)) (pa_cons (pv 1) (pa_cons (pv 2) pa_nil)))))
    (pss_one (ps_ret (pe_oper (i := 2) (k := k) rfl (Or.inl rfl) hg hr (Nat.le_add_right k m) (pa_cons (pv 3) (pa_cons (pe_h h_value_of hg hr (pa_cons (pe_ix ix_tup (pv 0) pe_int (fun _ _ => rfl)) (pa_cons (pv 1) (pa_cons (pv 2) pa_nil)))) pa_nil))))))), ?_⟩
    refine ⟨_, rfl, v, t.d, rfl, tv.mono hS, _, rfl, ?_⟩
    cases t with
    | lf x =>
      cases lf_td tv
      have hx : 0 ≤ x ∧ x < 4 := ok x (by simp [Tr.lets])
      have hx' : x.toNat < vals.length := by omega
      refine iteT ⟨_, rfl, _, rfl, a, _, _, .int (vals[x.toNat] : Nat), rfl, rfl, SqL.of (hS _ _ ha), ?_, ?_⟩
      · have hx2 : (vals.map fun z => V.int (z : Nat))[x.toNat]? = some (V.int (vals[x.toNat] : Nat)) := by
          rw [List.getElem?_map, List.getElem?_eq_getElem hx']
          rfl
        have q := atI_nat hx2
        rw [Int.toNat_of_nonneg hx.1] at q
        exact q
      · have e : ev op vals (.lf x) = vals[x.toNat] := by
          show vals.getD x.toNat 0 = _
          rw [List.getD_eq_getElem?_getD, List.getElem?_eq_getElem hx']
          rfl
        rw [e] at q
        exact q
    | nd l r =>
      obtain ⟨c, x, y, rfl, hc, tx, ty⟩ := nd_td tv
      have hc' := hS _ _ hc
      obtain ⟨hhl, hhr⟩ := ht_nd hh
      refine iteF ⟨_, rfl, c, _, _, x, rfl, rfl, SqT.of hc', rfl, _, rfl, _, rfl, G, x, l, a, g, vals, n, op, rfl, hS, tx, hhl, ok.nd.1, ha, hl4, hv, ho, hop, ?_⟩
      refine ⟨g, n, op, rfl, hop, _, rfl, _, rfl, c, _, _, y, rfl, rfl, SqT.of hc', rfl, _, rfl, _, rfl, G, y, r, a, g, vals, n, op, rfl, hS, ty, hhr, ok.nd.2, ha, hl4, hv, ho, hop, ?_⟩
      exact ⟨_, _, rfl, hop, ev_lt ho hv hl4 l ok.nd.1, ev_lt ho hv hl4 r ok.nd.2, q⟩
theorem flat_ints (ns : List Int) : (ns.map V.int).all flatV = true := by
  rw [List.all_map]
  exact List.all_eq_true.mpr fun _ _ => rfl
theorem inV_ints (x : Int) (ns : List Int) : inV (.int x) (ns.map V.int) = decide (x ∈ ns) := by
  unfold inV
  rw [List.any_map]
  show (ns.any fun y => y == x) = _
  rw [List.any_beq', ← List.elem_eq_mem, List.elem_eq_contains]
theorem ok_first (B : Bn mg) (D : Dn K mg "first_uses" sFirst ["row"] f fd) : Fn P w K mg base 1 f fd ["row"] (spFirst T) := by
  refine D.ok sc_first_uses (fun vs H Q h => ?_) (fun cdv A outer s H vs Q hg hr _ _ h => ?_)
  · obtain ⟨G, a, ns, rfl, _⟩ := h
    rfl
  obtain ⟨G, a, ns, rfl, hS, ha, hl, q⟩ := h
  refine ⟨_,
    (pss_one (ps_ret (pe_callTy call_tuple_of (by rfl) B.tuple b_tuple (pa_cons (pe_lc (own := [("at", 1), ("letter", 2)]) rfl sc_first_uses.nd (pi_enum (by rfl) B.enumerate (pa_cons (pv 0) pa_nil)) (blkOk_by (by kernel_rfl)) (fun _ _ _ _ _ => (pg_tup' (K := K) (n := 2) (by rfl) (pgs_cons (pg_name (i := 1) sc_first_uses.nd rfl (Or.inl rfl)) (pgs_cons (pg_name (i := 2) sc_first_uses.nd rfl (Or.inl rfl)) pgs_nil)))) (fun _ _ _ _ _ => (pts_one (pt_cmpR (op_notIn_seq' (K := K)) (pv 2) (pe_slice (sl_list' (K := K)) (pv 0) po_none (po_some (pv 1))) (by rfl)))) (fun _ _ _ _ _ => (pv 2))) pa_nil)))), ?_⟩
  refine ⟨_, rfl, a, ns.map V.int, rfl, SqL.of (hS _ _ ha), fun l hl0 => ?_⟩
  have gl : G l = none := hS.free hl0
  refine lc_it walk_enum (fun i H' => Gx T [] G H G H' ∧ H' l = some (.lst ((fu (ns.take i)).map V.int))) ⟨Gx.newM hS hl0 _, upd_same⟩ (fun i H' _ ⟨W, _⟩ => SqL.of (W.s _ _ ha)) ?_ ?_
  · rintro i x H1 H2 hi ⟨W, e⟩ ⟨c, y, z, rfl, hc, rfl, hy, hz⟩
    cases hy
    rw [List.length_map] at hi
    have hz' : z = .int ns[i] := by
      have hz : (ns.map V.int)[i]? = some z := hz
      rw [List.getElem?_map, List.getElem?_eq_getElem hi] at hz
      exact (Option.some.inj hz).symm
    subst hz'
    have W2 := W.snocM hc (.tup [.int (i : Nat), .int ns[i]])
    refine ⟨c, _, rfl, SqT.of upd_same, rfl, _, _, rfl, _, _, rfl, ⟨rfl, rfl, ?_⟩⟩
    refine ⟨_, rfl, _, rfl, _, rfl, _, rfl, a, _, rfl, SqL.of (W2.s _ _ ha), fun b hb => ?_⟩
    rw [cut_take, ← List.map_take]
    have W3 := W2.snocM hb (.lst ((ns.take i).map V.int))
    have e2 := upd_ne (H := upd H1 c (.tup [.int (i : Nat), .int ns[i]])) (o := .lst ((ns.take i).map V.int)) (ne_of_none (show upd H1 c (.tup [.int (i : Nat), .int ns[i]]) l = some _ by rw [upd_ne (ne_of_none e hc)]; exact e) hb)
    rw [upd_ne (ne_of_none e hc), e] at e2
    have ex : ns.take (i + 1) = ns.take i ++ [ns[i]] := by rw [List.take_succ_eq_append_getElem hi]
    have il : (fu (ns.take i)).length ≤ 50 := Nat.le_trans (fu_len _) (by rw [List.length_take]; omega)
    refine ⟨b, _, rfl, .inl (SqL.of upd_same), rfl, flat_ints _, _, rfl, ?_⟩
    rw [inV_ints]
    refine ite2 (fun nm => ?_) (fun nm => ?_)
    · have nm' : ns[i] ∉ ns.take i := by
        rw [if_pos rfl, Bool.not_eq_true', decide_eq_false_iff_not] at nm
        exact nm
      refine ⟨_, rfl, _, e2, szLt (by rw [List.length_map]; omega), W3.write (.inl hl0) gl e2 True.intro, ?_⟩
      rw [upd_same, ex, fu_snoc, if_neg nm', List.map_append]
      rfl
    · have nm' : ns[i] ∈ ns.take i := by
        rw [if_pos rfl, Bool.not_eq_true', decide_eq_false_iff_not, Decidable.not_not] at nm
        exact nm
      refine ⟨W3, ?_⟩
      rw [ex, fu_snoc, if_pos nm']
      exact e2
  · rintro H1 ⟨W, e⟩
    rw [List.length_map, List.take_length] at e
    refine ⟨l, _, rfl, .inl ⟨SqL.of e, fun t ht => q t _ _ (W.snoc ht _) upd_same⟩⟩
theorem lu_split (ns : List Int) (i : Nat) (hi : i < ns.length) : lu (ns.drop i) = (if ns[i] ∈ ns.drop (i + 1) then [] else [ns[i]]) ++ lu (ns.drop (i + 1)) := by
  rw [List.drop_eq_getElem_cons hi, lu]
  split <;> rfl
theorem ok_last (B : Bn mg) (D : Dn K mg "last_uses" sLast ["row"] f fd) : Fn P w K mg base 1 f fd ["row"] (spLast T) := by
  refine D.ok sc_last_uses (fun vs H Q h => ?_) (fun cdv A outer s H vs Q hg hr _ _ h => ?_)
  · obtain ⟨G, a, ns, rfl, _⟩ := h
    rfl
  obtain ⟨G, a, ns, rfl, hS, ha, hl, q⟩ := h
  refine ⟨_,
    (pss_one (ps_ret (pe_callTy call_tuple_of (by rfl) B.tuple b_tuple (pa_cons (pe_lc (own := [("at", 1), ("letter", 2)]) rfl sc_last_uses.nd (pi_enum (by rfl) B.enumerate (pa_cons (pv 0) pa_nil)) (blkOk_by (by kernel_rfl)) (fun _ _ _ _ _ => (pg_tup' (K := K) (n := 2) (by rfl) (pgs_cons (pg_name (i := 1) sc_last_uses.nd rfl (Or.inl rfl)) (pgs_cons (pg_name (i := 2) sc_last_uses.nd rfl (Or.inl rfl)) pgs_nil)))) (fun _ _ _ _ _ => (pts_one (pt_cmpR (op_notIn_seq' (K := K)) (pv 2) (pe_slice (sl_list' (K := K)) (pv 0) (po_some (pe_op op_add (pv 1) pe_int)) po_none) (by rfl)))) (fun _ _ _ _ _ => (pv 2))) pa_nil)))), ?_⟩
  refine ⟨_, rfl, a, ns.map V.int, rfl, SqL.of (hS _ _ ha), fun l hl0 => ?_⟩
  have gl : G l = none := hS.free hl0
  refine lc_it walk_enum (fun i H' => Gx T [] G H G H' ∧ ∃ acc : List Int, H' l = some (.lst (acc.map V.int)) ∧ acc ++ lu (ns.drop i) = lu ns ∧ acc.length ≤ 50) ⟨Gx.newM hS hl0 _, [], upd_same, rfl, Nat.zero_le _⟩ (fun i H' _ ⟨W, _⟩ => SqL.of (W.s _ _ ha)) ?_ ?_
  · rintro i x H1 H2 hi ⟨W, acc, e, ea, la⟩ ⟨c, y, z, rfl, hc, rfl, hy, hz⟩
    cases hy
    rw [List.length_map] at hi
    have hz' : z = .int ns[i] := by
      have hz : (ns.map V.int)[i]? = some z := hz
      rw [List.getElem?_map, List.getElem?_eq_getElem hi] at hz
      exact (Option.some.inj hz).symm
    subst hz'
    have W2 := W.snocM hc (.tup [.int (i : Nat), .int ns[i]])
    refine ⟨c, _, rfl, SqT.of upd_same, rfl, _, _, rfl, _, _, rfl, ⟨rfl, rfl, ?_⟩⟩
    refine ⟨_, rfl, _, rfl, _, rfl, _, _, rfl, rfl, _, rfl, a, _, rfl, SqL.of (W2.s _ _ ha), fun b hb => ?_⟩
    have ei : ((i : Nat) : Int) + 1 = ((i + 1 : Nat) : Int) := by omega
    rw [ei, cut_drop, ← List.map_drop]
    have W3 := W2.snocM hb (.lst ((ns.drop (i + 1)).map V.int))
    have e2 := upd_ne (H := upd H1 c (.tup [.int (i : Nat), .int ns[i]])) (o := .lst ((ns.drop (i + 1)).map V.int)) (ne_of_none (show upd H1 c (.tup [.int (i : Nat), .int ns[i]]) l = some _ by rw [upd_ne (ne_of_none e hc)]; exact e) hb)
    rw [upd_ne (ne_of_none e hc), e] at e2
    refine ⟨b, _, rfl, .inl (SqL.of upd_same), rfl, flat_ints _, _, rfl, ?_⟩
    rw [inV_ints]
    rw [lu_split ns i hi] at ea
    have bound : (lu ns).length ≤ 50 := Nat.le_trans (lu_len ns) hl
    rw [← ea, List.length_append, List.length_append] at bound
    refine ite2 (fun nm => ?_) (fun nm => ?_)
    · have nm' : ns[i] ∉ ns.drop (i + 1) := by
        rw [if_pos rfl, Bool.not_eq_true', decide_eq_false_iff_not] at nm
        exact nm
      rw [if_neg nm'] at ea bound
      refine ⟨_, rfl, _, e2, szLt (by rw [List.length_map]; omega), W3.write (.inl hl0) gl e2 True.intro, acc ++ [ns[i]], ?_, by rw [List.append_assoc]; exact ea, ?_⟩
      · rw [upd_same, List.map_append]
        rfl
      · rw [List.length_append]
        rw [List.length_singleton] at bound ⊢
        omega
    · have nm' : ns[i] ∈ ns.drop (i + 1) := by
        rw [if_pos rfl, Bool.not_eq_true', decide_eq_false_iff_not, Decidable.not_not] at nm
        exact nm
      rw [if_pos nm'] at ea
      exact ⟨W3, acc, e2, ea, la⟩
  · rintro H1 ⟨W, acc, e, ea, _⟩
    rw [List.length_map, List.drop_length] at ea
    rw [show acc = lu ns by rw [← ea]; exact (List.append_nil _).symm] at e
    refine ⟨l, _, rfl, .inl ⟨SqL.of e, fun t ht => q t _ _ (W.snoc ht _) upd_same⟩⟩
theorem ok_asc (B : Bn mg) (D : Dn K mg "ascending" sAsc ["row"] f fd) : Fn P w K mg base 1 f fd ["row"] (spAsc T) := by
  refine D.ok sc_ascending (fun vs H Q h => ?_) (fun cdv A outer s H vs Q hg hr _ _ h => ?_)
  · obtain ⟨G, a, ns, rfl, _⟩ := h
    rfl
  obtain ⟨G, a, ns, rfl, hS, ha, hl, q⟩ := h
  refine ⟨_,
    (pss_one (ps_ret (pe_callTy call_tuple_of (by rfl) B.tuple b_tuple (pa_cons (pe_callB cr_sorted (by rfl) B.sorted b_sorted (pa_cons (pe_lc (own := [("letter", 1)]) rfl sc_ascending.nd (pi_or (pi_list (pv 0)) (pi_tup (pv 0))) (blkOk_by (by kernel_rfl)) (fun _ _ _ _ _ => (pg_name (i := 1) sc_ascending.nd rfl (Or.inl rfl))) (fun _ _ _ _ _ => pts_nil) (fun _ _ _ _ _ => (pe_callTy call_intI (by rfl) B.int b_int (pa_cons (pv 1) pa_nil)))) pa_nil)) pa_nil)))), ?_⟩
  have turn : ∀ (l : Addr), H l = none → ∀ (i : Nat) (x : V) (H1 : Hp), (ns.map V.int)[i]? = some x → (Gx T [] G H G H1 ∧ H1 l = some (.lst ((ns.take i).map V.int))) →
      ∃ j : Int, x = .int j ∧ ∃ acc, H1 l = some (.lst acc) ∧ acc.length < sizeLine ∧ (Gx T [] G H G (upd H1 l (.lst (acc ++ [V.int j]))) ∧ upd H1 l (.lst (acc ++ [V.int j])) l = some (.lst ((ns.take (i + 1)).map V.int))) := by
    intro l hl0 i x H1 hx ⟨W, e⟩
    have gl : G l = none := hS.free hl0
    rw [List.getElem?_map] at hx
    cases hn : ns[i]? with
    | none => rw [hn] at hx; cases hx
    | some j =>
      rw [hn] at hx
      cases hx
      obtain ⟨hi, ej⟩ := List.getElem?_eq_some_iff.mp hn
      refine ⟨j, rfl, _, e, szLt (by rw [List.length_map, List.length_take]; omega), W.write (.inl hl0) gl e True.intro, ?_⟩
      rw [upd_same, List.take_succ_eq_append_getElem hi, List.map_append, ej]
      rfl
  have fin : ∀ (l : Addr), H l = none → ∀ H1 : Hp, (Gx T [] G H G H1 ∧ H1 l = some (.lst ((ns.take (ns.map V.int).length).map V.int))) →
      rSorted K [.ref l] H1 fun x H2 => ∃ p ys, [x] = [V.ref p] ∧ ((SqL K H2 p ys ∧ ∀ l, H2 l = none → Q (.ref l) (upd H2 l (.tup ys))) ∨ (SqT K H2 p ys ∧ Q (.ref p) H2)) := by
    intro l hl0 H1 ⟨W, e⟩
    rw [List.length_map, List.take_length] at e
    refine ⟨l, ns, rfl, SqL.of e, by omega, fun ms b pm so hb => ⟨b, _, rfl, .inl ⟨SqL.of upd_same, fun t ht => ?_⟩⟩⟩
    exact q ms t _ _ pm so ((W.snocM hb _).snoc ht _) upd_same
  rcases ha with ha | ha
  · refine .inl ⟨_, rfl, a, rfl, ⟨_, SqL.of (hS _ _ ha)⟩, fun l hl0 => ?_⟩
    refine lc_list (xs := ns.map V.int) (fun i H' => Gx T [] G H G H' ∧ H' l = some (.lst ((ns.take i).map V.int))) ⟨Gx.newM hS hl0 _, upd_same⟩ (fun i H' _ ⟨W, _⟩ => SqL.of (W.s _ _ ha)) (fun i x H1 hx p => ?_) (fin l hl0)
    obtain ⟨j, rfl, r⟩ := turn l hl0 i x H1 hx p
    exact ⟨rfl, _, rfl, _, rfl, r⟩
  · refine .inr ⟨_, rfl, a, rfl, ⟨_, SqT.of (hS _ _ ha)⟩, fun l hl0 => ?_⟩
    refine lc_tup (xs := ns.map V.int) (fun i H' => Gx T [] G H G H' ∧ H' l = some (.lst ((ns.take i).map V.int))) ⟨Gx.newM hS hl0 _, upd_same⟩ (fun i H' _ ⟨W, _⟩ => SqT.of (W.s _ _ ha)) (fun i x H1 hx p => ?_) (fin l hl0)
    obtain ⟨j, rfl, r⟩ := turn l hl0 i x H1 hx p
    exact ⟨rfl, _, rfl, _, rfl, r⟩
theorem ok_pair (B : Bn mg) (D : Dn K mg "pair_of" sPair ["left", "right"] f fd) : Fn P w K mg base 1 f fd ["left", "right"] (spPair T) := by
  refine D.ok sc_pair_of (fun vs H Q h => ?_) (fun cdv A outer s H vs Q hg hr _ _ h => ?_)
  · obtain ⟨G, v, u, l, r, rfl, _⟩ := h
    rfl
  obtain ⟨G, v, u, l, r, rfl, hS, tv, tu, okl, okr, hl, q⟩ := h
  refine ⟨_,
    (pss_cons (ps_if (pt_cmpR op_lt_str (pe_callTy (call_strD hg hr.units) (by rfl) B.str b_str (pa_cons (pv 1) pa_nil)) (pe_callTy (call_strD hg hr.units) (by rfl) B.str b_str (pa_cons (pv 0) pa_nil)) (nomark _)) (pss_one (ps_ret (pe_tup (pa_cons (pv 1) (pa_cons (pv 0) pa_nil)))))
      pss_nil)
    (pss_one (ps_ret (pe_tup (pa_cons (pv 0) (pa_cons (pv 1) pa_nil)))))), ?_⟩
  refine ⟨_, rfl, u, r.d, rfl, tu.mono hS, shw okr (by omega), _, rfl, v, l.d, rfl, tv.mono hS, shw okl (by omega), _, _, rfl, rfl, _, rfl, ?_⟩
  unfold pairT at q
  refine ite2 (fun c => ?_) (fun c => ?_)
  · rw [if_pos (show r.sh < l.sh from of_decide_eq_true c)] at q
    refine ⟨_, rfl, _, rfl, szL (Nat.le_add_left 2 99998), fun p hp => ?_⟩
    exact q _ _ _ (Gx.new hS hp _) (.tup upd_same (.cons (tu.mono (same_new (hS.free hp) _)) (.cons (tv.mono (same_new (hS.free hp) _)) .nil)))
  · rw [if_neg (show ¬ r.sh < l.sh from fun z => c (decide_eq_true z))] at q
    refine ⟨_, rfl, _, rfl, szL (Nat.le_add_left 2 99998), fun p hp => ?_⟩
    exact q _ _ _ (Gx.new hS hp _) (.tup upd_same (.cons (tv.mono (same_new (hS.free hp) _)) (.cons (tu.mono (same_new (hS.free hp) _)) .nil)))
theorem ok_ws (B : Bn mg) (D : Dn K mg "without_sides" sWs ["tree"] f fd) (h_pair_of : Has P w K mg base 1 "pair_of" ["left", "right"] (spPair T)) : ∀ n : Nat, Fn P w K mg base (n + 1) f fd ["tree"] (spWs T n)
  | 0 => (fn_none fun vs H Q h => by
    obtain ⟨_, _, _, _, _, _, h, _⟩ := h
    exact absurd h (Nat.not_lt_zero _)).mono (Nat.zero_le _)
  | n + 1 => by
    have h_without_sides := Has.mk' D (ok_ws B D h_pair_of n)
    refine D.ok sc_without_sides (fun vs H Q h => ?_) (fun cdv A outer s H vs Q hg hr _ _ h => ?_)
    · obtain ⟨G, v, t, rfl, _⟩ := h
      rfl
    obtain ⟨G, v, t, rfl, hS, tv, hh, ok, hl, q⟩ := h
    refine ⟨_,
      (pss_cons (ps_if (pt_not (pt_val (pe_callB call_isTup (by rfl) B.isinstance b_isinstance (pa_cons (pv 0) (pa_cons (pe_bltn (v := .ty "tuple") (by rfl) B.tuple b_tuple rfl) pa_nil))))) (pss_one (ps_ret (pv 0)))
      pss_nil)
    (pss_one (ps_ret (pe_h h_pair_of hg hr (pa_cons (pe_h h_without_sides hg hr (pa_cons (pe_ix ix_tup (pv 0) pe_int (fun _ _ => rfl)) pa_nil)) (pa_cons (pe_h h_without_sides hg hr (pa_cons (pe_ix ix_tup (pv 0) pe_int (fun _ _ => rfl)) pa_nil)) pa_nil)))))), ?_⟩
    refine ⟨_, rfl, v, t.d, rfl, tv.mono hS, _, rfl, ?_⟩
    cases t with
    | lf n =>
      cases lf_td tv
      exact iteT ⟨_, rfl, q _ G H (Gx.refl hS) (.int n)⟩
    | nd a b =>
      obtain ⟨k, x, y, rfl, hk, tx, ty⟩ := nd_td tv
      have hk' := hS _ _ hk
      obtain ⟨ha, hb⟩ := ht_nd hh
      rw [len_nd] at hl
      refine iteF ⟨_, rfl, k, _, _, x, rfl, rfl, SqT.of hk', rfl, G, x, a, rfl, hS, tx, ha, ok.nd.1, by omega, fun v1 G1 H1 W1 e1 => ?_⟩
      refine ⟨_, rfl, k, _, _, y, rfl, rfl, SqT.of (W1.s _ _ (W1.g _ _ hk)), rfl, G1, y, b, rfl, W1.s, ty.mono W1.g, hb, ok.nd.2, by omega, fun v2 G2 H2 W2 e2 => ?_⟩
      refine ⟨G2, v1, v2, a.ws, b.ws, rfl, W2.s, e1.mono W2.g, e2, ws_ok ok.nd.1, ws_ok ok.nd.2, by rw [ws_len, ws_len]; exact hl, fun v3 G3 H3 W3 e3 => ?_⟩
      exact q v3 G3 H3 ((W1.trans W2).trans W3) e3
end
end W7
set_option maxRecDepth 100000
set_option maxHeartbeats 4000000
/-! WG: kinds, rules_of, sense, do_agree -/
namespace W7
open PySem PySem.Spec PyProof.Rows L2 LamX NdefX
inductive Kd where
  | trees | pairs | words | bags | parity | middles | heads | tails | sets | outer | lefts | rights | one
  deriving DecidableEq
def Kd.nm : Kd → Str
  | trees => "trees" | pairs => "pairs" | words => "words" | bags => "bags" | parity => "parity" | middles => "middles" | heads => "heads"
  | tails => "tails" | sets => "sets" | outer => "outer" | lefts => "lefts" | rights => "rights" | one => "one"
def Kd.all : List Kd := [.trees, .pairs, .words, .bags, .parity, .middles, .heads, .tails, .sets, .outer, .lefts, .rights, .one]
theorem kd_all (k : Kd) : k ∈ Kd.all := by cases k <;> decide
theorem nm_apart : ∀ k ∈ Kd.all, ∀ j ∈ Kd.all, k ≠ j → k.nm ≠ j.nm := by decide +kernel
theorem nm_inj {k j : Kd} (h : k.nm = j.nm) : k = j := Decidable.byContradiction fun n => nm_apart k (kd_all k) j (kd_all j) n h
theorem kd_of {k : Kd} (j : Kd) (c : decide (V.str k.nm = V.str j.nm) = true) : k = j := nm_inj (V.str.inj (of_decide_eq_true c))
theorem kd_not {k : Kd} (j : Kd) (c : ¬ decide (V.str k.nm = V.str j.nm) = true) : k ≠ j := fun z => c (decide_eq_true (by rw [z]))
theorem inr_nm (k j : Kd) : decide ((Sum.inr k.nm : Key) = Sum.inr j.nm) = decide (k = j) := by
  by_cases h : k = j
  · rw [h]; simp
  · rw [decide_eq_false h, decide_eq_false fun z => h (nm_inj (Sum.inr.inj z))]

/-! ### sorted -/
def ins (x : Int) : List Int → List Int
  | [] => [x]
  | y :: r => if x ≤ y then x :: y :: r else y :: ins x r
def asc : List Int → List Int
  | [] => []
  | x :: r => ins x (asc r)
theorem ins_perm (x : Int) : ∀ l : List Int, (ins x l).Perm (x :: l)
  | [] => .refl _
  | y :: r => by
    rw [ins]
    split
    · exact .refl _
    · exact ((ins_perm x r).cons y).trans (List.Perm.swap x y r)
theorem asc_perm : ∀ l : List Int, (asc l).Perm l
  | [] => .refl _
  | x :: r => (ins_perm x (asc r)).trans ((asc_perm r).cons x)
theorem ins_sorted (x : Int) : ∀ l : List Int, l.Pairwise (· ≤ ·) → (ins x l).Pairwise (· ≤ ·)
  | [], _ => List.pairwise_singleton _ _
  | y :: r, h => by
    obtain ⟨h1, h2⟩ := List.pairwise_cons.mp h
    rw [ins]
    split
    · rename_i c
      refine List.pairwise_cons.mpr ⟨fun z hz => ?_, h⟩
      rcases List.mem_cons.mp hz with rfl | hz
      · exact c
      · have := h1 z hz
        omega
    · rename_i c
      refine List.pairwise_cons.mpr ⟨fun z hz => ?_, ins_sorted x r h2⟩
      rcases List.mem_cons.mp ((ins_perm x r).mem_iff.mp hz) with rfl | hz
      · omega
      · exact h1 z hz
theorem asc_sorted : ∀ l : List Int, (asc l).Pairwise (· ≤ ·)
  | [] => .nil
  | x :: r => ins_sorted x _ (asc_sorted r)
theorem asc_eq {ms ns : List Int} (p : ms.Perm ns) (s : ms.Pairwise (· ≤ ·)) : ms = asc ns := PySem.W.ksm_same (p.trans (asc_perm ns).symm) s (asc_sorted ns)
theorem asc_iff {ms ns : List Int} : asc ms = asc ns ↔ ms.Perm ns :=
  ⟨fun h => (asc_perm ms).symm.trans (h ▸ asc_perm ns), fun h => asc_eq ((asc_perm ms).trans h) (asc_sorted ms)⟩

/-! ### what two trees have in common -/
def tI (ns : List Int) : PyData := .tuple (ns.map .int)
def odds (ns : List Int) : List Int := (fu ns).filter fun x => decide (ns.count x % 2 = 1)
def fin0 (ns : List Int) : Int := ns.headD 0
def fin1 (ns : List Int) : Int := ns.getLastD 0
def senseD (k : Kd) (t : Tr) : PyData := match k with
  | .trees => t.d
  | .pairs => t.ws.d
  | .words => tI t.lets
  | .bags => tI (asc t.lets)
  | .parity => tI (asc (odds t.lets))
  | .sets => tI (asc (fu t.lets))
  | .middles => .tuple [tI (fu t.lets), tI (lu t.lets)]
  | .heads => .tuple [tI (fu t.lets), .none]
  | .tails => .tuple [.none, tI (lu t.lets)]
  | .outer => .tuple [.int (fin0 t.lets), .int (fin1 t.lets)]
  | .lefts => .tuple [.int (fin0 t.lets), .none]
  | .rights => .tuple [.none, .int (fin1 t.lets)]
  | .one => .tuple [.none, .none]
def agr (k : Kd) (t u : Tr) : Bool := PyData.eqv (senseD k t) (senseD k u)
theorem tI_lay (ns : List Int) : (tI ns).canLay0 = true := by
  unfold tI
  rw [PyData.canLay0]
  exact lay_ints ns
theorem tI_dep (ns : List Int) : (tI ns).depth = 1 := by
  unfold tI
  rw [PyData.depth, dep_ints]
theorem sense_shaped (k : Kd) {t : Tr} (h : t.ht ≤ 60) (h2 : t.ws.ht ≤ 60) : SeqAt.shaped (senseD k t) = true := by
  have one : ∀ ns : List Int, SeqAt.shaped (tI ns) = true := fun ns => by
    unfold SeqAt.shaped
    rw [tI_lay, tI_dep]
    decide
  have two : ∀ d e : PyData, d.canLay0 = true → e.canLay0 = true → d.depth ≤ 1 → e.depth ≤ 1 → SeqAt.shaped (.tuple [d, e]) = true := fun d e h1 h2 h3 h4 => by
    unfold SeqAt.shaped
    simp only [PyData.canLay0, PyData.canLayAll0, h1, h2, PyData.depth, PyData.depthAll]
    simp
    omega
  have ni : ∀ i : Int, (PyData.int i).canLay0 = true ∧ (PyData.int i).depth ≤ 1 := fun i => ⟨by simp [PyData.canLay0], by simp [PyData.depth]⟩
  have nn : PyData.none.canLay0 = true ∧ PyData.none.depth ≤ 1 := ⟨by simp [PyData.canLay0], by simp [PyData.depth]⟩
  have ti : ∀ ns, (tI ns).canLay0 = true ∧ (tI ns).depth ≤ 1 := fun ns => ⟨tI_lay ns, by rw [tI_dep]; exact Nat.le_refl _⟩
  cases k with
  | trees => exact d_shaped h
  | pairs => exact d_shaped h2
  | words => exact one _
  | bags => exact one _
  | parity => exact one _
  | sets => exact one _
  | middles => exact two _ _ (ti _).1 (ti _).1 (ti _).2 (ti _).2
  | heads => exact two _ _ (ti _).1 nn.1 (ti _).2 nn.2
  | tails => exact two _ _ nn.1 (ti _).1 nn.2 (ti _).2
  | outer => exact two _ _ (ni _).1 (ni _).1 (ni _).2 (ni _).2
  | lefts => exact two _ _ (ni _).1 nn.1 (ni _).2 nn.2
  | rights => exact two _ _ nn.1 (ni _).1 nn.2 (ni _).2
  | one => exact two _ _ nn.1 nn.1 nn.2 nn.2
abbrev sRules : Stmt := top 7
abbrev sSense : Stmt := top 16
abbrev sAgree : Stmt := top 17
theorem sc_rules_of : FnScope ["kind"] ["kind"] (defScope sRules) := ⟨rfl, rfl, rfl, by decide +kernel, rfl, by decide +kernel, by decide +kernel⟩
theorem sc_sense : FnScope ["tree", "kind", "row", "front", "back", "letter"] ["tree", "kind"] (defScope sSense) := ⟨rfl, rfl, rfl, by decide +kernel, rfl, by decide +kernel, by decide +kernel⟩
theorem sc_do_agree : FnScope ["one", "two", "kind"] ["one", "two", "kind"] (defScope sAgree) := ⟨rfl, rfl, rfl, by decide +kernel, rfl, by decide +kernel, by decide +kernel⟩
/-- a tuple of the written part -/
def KTup (K : PySem.W.Frag) (a : Addr) (xs : List V) : Prop := ∃ (o : Obj) (its : Array Value) (n : Nat), K.lookup a = some o ∧ o.cls = .type "tuple" ∧ o.data = .seq its n ∧ its.size ≤ sizeLine ∧ Vals xs its.toList
/-- the module's two tables -/
structure Tabl (K : PySem.W.Frag) (w : World) (mg : Str → Option Value) (aK aC : Addr) : Prop where
  mK : mg "KINDS" = some (.ref aK)
  kK : KTup K aK (Kd.all.map fun k => V.str k.nm)
  mC : mg "CLOSED" = some (.ref aC)
  kC : ∀ k : Kd, ∃ (a : Addr) (xs : List V), KDct K w aC k.nm (.ref a) ∧ KTup K a xs
def spRules (T : List NTab) : Sq := fun vs H Q => ∃ (G : Hp) (k : Kd), vs = [.str k.nm] ∧ Same G H ∧ ∀ (l : Addr) (G' H' : Hp), Gx T [] G H G' H' → Q (.ref l) H'
def spSense (T : List NTab) : Sq := fun vs H Q => ∃ (G : Hp) (v : V) (t : Tr) (k : Kd), vs = [v, .str k.nm] ∧ Same G H ∧ Td G v t.d ∧ t.ht < 8 ∧ Ok4 t ∧ t.lets.length ≤ 40 ∧ ∀ (a : V) (G' H' : Hp), Gx T [] G H G' H' → Td G' a (senseD k t) → Q a H'
def spAgree (T : List NTab) : Sq := fun vs H Q => ∃ (G : Hp) (v u : V) (t s : Tr) (k : Kd), vs = [v, u, .str k.nm] ∧ Same G H ∧ Td G v t.d ∧ t.ht < 8 ∧ Ok4 t ∧ t.lets.length ≤ 40 ∧ Td G u s.d ∧ s.ht < 8 ∧ Ok4 s ∧ s.lets.length ≤ 40 ∧
  ∀ (G' H' : Hp), Gx T [] G H G' H' → Q (.bl (agr k t s)) H'
theorem inV_strs (x : Str) (ns : List Str) : inV (.str x) (ns.map V.str) = decide (x ∈ ns) := by
  unfold inV
  rw [List.any_map]
  show (ns.any fun y => y == x) = _
  rw [List.any_beq', ← List.elem_eq_mem, List.elem_eq_contains]
theorem flat_strs (ns : List Str) : (ns.map V.str).all flatV = true := by
  rw [List.all_map]
  exact List.all_eq_true.mpr fun _ _ => rfl
section
variable {P : Program} {w : World} {K : PySem.W.Frag} {mg : Str → Option Value} {base : Heap} {f : Addr} {fd : FuncData} {T : List NTab}
theorem ok_rules {aK aC : Addr} (B : Bn mg) (T2 : Tabl K w mg aK aC) (D : Dn K mg "rules_of" sRules ["kind"] f fd) : Fn P w K mg base 1 f fd ["kind"] (spRules T) := by
  refine D.ok sc_rules_of (fun vs H Q h => ?_) (fun cdv A outer s H vs Q hg hr _ _ h => ?_)
  · obtain ⟨G, k, rfl, _⟩ := h
    rfl
  obtain ⟨G, k, rfl, hS, q⟩ := h
  refine ⟨_, pss_cons (ps_if (pt_cmpR op_notIn_seq (pv 0) (pe_glob (v := .ref aK) (by rfl) T2.mK rfl) (by rfl)) (pss_one ps_never) pss_nil)
    (pss_one (ps_ret (pe_callTy call_list_of (by rfl) B.list b_list (pa_cons (pe_ix ix_kdict (pe_glob (v := .ref aC) (by rfl) T2.mC rfl) (pv 0) (fun _ _ => rfl)) pa_nil)))), ?_⟩
  have e : Kd.all.map (fun k => V.str k.nm) = (Kd.all.map Kd.nm).map V.str := by rw [List.map_map]; rfl
  refine ⟨_, rfl, aK, (Kd.all.map Kd.nm).map V.str, rfl, .inr (.inr (e ▸ T2.kK)), rfl, flat_strs _, _, rfl, ?_⟩
  rw [inV_strs, decide_eq_true (List.mem_map_of_mem (kd_all k))]
  obtain ⟨a, xs, h1, h2⟩ := T2.kC k
  exact iteF ⟨_, rfl, aC, k.nm, _, rfl, rfl, h1, a, xs, rfl, .inr (.inr h2), fun l hl => q l _ _ (Gx.new hS hl _)⟩
theorem front_val (k : Kd) (x1 x2 x3 x4 : V) : valV [((Sum.inr "middles" : Key), x1), (.inr "heads", x2), (.inr "outer", x3), (.inr "lefts", x4)] (.inr k.nm) =
    match k with | .middles => some x1 | .heads => some x2 | .outer => some x3 | .lefts => some x4 | _ => none := by
  show valV [((Sum.inr Kd.middles.nm : Key), x1), (.inr Kd.heads.nm, x2), (.inr Kd.outer.nm, x3), (.inr Kd.lefts.nm, x4)] (.inr k.nm) = _
  unfold valV
  simp only [List.find?_cons, inr_nm, List.find?_nil]
  cases k <;> rfl
theorem back_val (k : Kd) (x1 x2 x3 x4 : V) : valV [((Sum.inr "middles" : Key), x1), (.inr "tails", x2), (.inr "outer", x3), (.inr "rights", x4)] (.inr k.nm) =
    match k with | .middles => some x1 | .tails => some x2 | .outer => some x3 | .rights => some x4 | _ => none := by
  show valV [((Sum.inr Kd.middles.nm : Key), x1), (.inr Kd.tails.nm, x2), (.inr Kd.outer.nm, x3), (.inr Kd.rights.nm, x4)] (.inr k.nm) = _
  unfold valV
  simp only [List.find?_cons, inr_nm, List.find?_nil]
  cases k <;> rfl
theorem front_put (x1 x2 x3 x4 : V) : mergeK [] [((Sum.inr "middles" : Key), x1), (.inr "heads", x2), (.inr "outer", x3), (.inr "lefts", x4)] = [((Sum.inr "middles" : Key), x1), (.inr "heads", x2), (.inr "outer", x3), (.inr "lefts", x4)] := by
  show mergeK [] [((Sum.inr Kd.middles.nm : Key), x1), (.inr Kd.heads.nm, x2), (.inr Kd.outer.nm, x3), (.inr Kd.lefts.nm, x4)] = _
  simp only [mergeK, List.foldl_cons, List.foldl_nil, putK, List.any_nil, List.any_cons, inr_nm, List.nil_append, List.cons_append]
  rfl
theorem back_put (x1 x2 x3 x4 : V) : mergeK [] [((Sum.inr "middles" : Key), x1), (.inr "tails", x2), (.inr "outer", x3), (.inr "rights", x4)] = [((Sum.inr "middles" : Key), x1), (.inr "tails", x2), (.inr "outer", x3), (.inr "rights", x4)] := by
  show mergeK [] [((Sum.inr Kd.middles.nm : Key), x1), (.inr Kd.tails.nm, x2), (.inr Kd.outer.nm, x3), (.inr Kd.rights.nm, x4)] = _
  simp only [mergeK, List.foldl_cons, List.foldl_nil, putK, List.any_nil, List.any_cons, inr_nm, List.nil_append, List.cons_append]
  rfl
theorem ok_sense (B : Bn mg) (D : Dn K mg "sense" sSense ["tree", "kind"] f fd) (h_letters : Has P w K mg base 8 "letters" ["tree"] (spLetters T 8)) (h_without_sides : Has P w K mg base 9 "without_sides" ["tree"] (spWs T 8))
    (h_ascending : Has P w K mg base 1 "ascending" ["row"] (spAsc T)) (h_first_uses : Has P w K mg base 1 "first_uses" ["row"] (spFirst T)) (h_last_uses : Has P w K mg base 1 "last_uses" ["row"] (spLast T)) : Fn P w K mg base 10 f fd ["tree", "kind"] (spSense T) := by
  refine D.ok sc_sense (fun vs H Q h => ?_) (fun cdv A outer s H vs Q hg hr _ _ h => ?_)
  · obtain ⟨G, v, t, k, rfl, _⟩ := h
    rfl
  obtain ⟨G, v, t, k, rfl, hS, tv, hh, ok, hl, q⟩ := h
  refine ⟨_,
    (pss_cons (ps_if (pt_cmpR op_eq (pv 1) pe_str (nomark _)) (pss_one (ps_ret (pv 0)))
      pss_nil)
    (pss_cons (ps_if (pt_cmpR op_eq (pv 1) pe_str (nomark _)) (pss_one (ps_ret (pe_h h_without_sides hg hr (pa_cons (pv 0) pa_nil))))
      pss_nil)
    (pss_cons (ps_set (i := 2) sc_sense.nd rfl (Or.inr rfl) (pe_h h_letters hg hr (pa_cons (pv 0) pa_nil)))
    (pss_cons (ps_if (pt_cmpR op_eq (pv 1) pe_str (nomark _)) (pss_one (ps_ret (pe_callTy call_tuple_of (by rfl) B.tuple b_tuple (pa_cons (pv 2) pa_nil))))
      pss_nil)
    (pss_cons (ps_if (pt_cmpR op_eq (pv 1) pe_str (nomark _)) (pss_one (ps_ret (pe_h h_ascending hg hr (pa_cons (pv 2) pa_nil))))
      pss_nil)
    (pss_cons (ps_if (pt_cmpR op_eq (pv 1) pe_str (nomark _)) (pss_one (ps_ret (pe_h h_ascending hg hr (pa_cons (pe_lc (own := [("letter", 5)]) rfl sc_sense.nd (pi_tup (pe_h h_first_uses hg hr (pa_cons (pv 2) pa_nil))) (blkOk_by (by kernel_rfl)) (fun _ _ _ _ _ => (pg_name (i := 5) sc_sense.nd rfl (Or.inl rfl))) (fun _ _ _ _ _ => (pts_one (pt_cmpR op_eq (pe_op op_mod (pe_bm' (K := K) PySem.F.plainAttrs_list PySem.F.slot_list_count PySem.F.type_list_count (mt_lcount' (K := K)) (pv 2) (pa_cons (pv 5) pa_nil)) pe_int) pe_int (nomark _)))) (fun _ _ _ _ _ => (pv 5))) pa_nil))))
      pss_nil)
    (pss_cons (ps_if (pt_cmpR op_eq (pv 1) pe_str (nomark _)) (pss_one (ps_ret (pe_h h_ascending hg hr (pa_cons (pe_h h_first_uses hg hr (pa_cons (pv 2) pa_nil)) pa_nil))))
      pss_nil)
    (pss_cons (ps_set (i := 3) sc_sense.nd rfl (Or.inl rfl) (pe_disp (pps_cons pe_str (pe_h h_first_uses hg hr (pa_cons (pv 2) pa_nil)) (pps_cons pe_str (pe_h h_first_uses hg hr (pa_cons (pv 2) pa_nil)) (pps_cons pe_str (pe_ix ix_list (pv 2) pe_int (fun _ _ => rfl)) (pps_cons pe_str (pe_ix ix_list (pv 2) pe_int (fun _ _ => rfl)) pps_nil)))) (by rfl) (by rfl) (fun z => by cases z) (by decide)))
    (pss_cons (ps_set (i := 4) sc_sense.nd rfl (Or.inl rfl) (pe_disp (pps_cons pe_str (pe_h h_last_uses hg hr (pa_cons (pv 2) pa_nil)) (pps_cons pe_str (pe_h h_last_uses hg hr (pa_cons (pv 2) pa_nil)) (pps_cons pe_str (pe_ix ix_list (pv 2) (pe_un un_neg pe_int) (fun _ _ => rfl)) (pps_cons pe_str (pe_ix ix_list (pv 2) (pe_un un_neg pe_int) (fun _ _ => rfl)) pps_nil)))) (by rfl) (by rfl) (fun z => by cases z) (by decide)))
    (pss_one (ps_ret (pe_tup (pa_cons (pe_dget1 (hu_of hr) (pv 3) (pv 1) ⟨by rfl, by rfl, by rfl, by rfl⟩) (pa_cons (pe_dget1 (hu_of hr) (pv 4) (pv 1) ⟨by rfl, by rfl, by rfl, by rfl⟩) pa_nil)))))))))))))), ?_⟩
  refine ⟨_, rfl, rfl, _, rfl, ite2 (fun c => ?_) (fun n1 => ?_)⟩
  · cases kd_of .trees c
    exact ⟨_, rfl, q v G H (Gx.refl hS) tv⟩
  refine ⟨_, rfl, rfl, _, rfl, ite2 (fun c => ?_) (fun n2 => ?_)⟩
  · cases kd_of .pairs c
    exact ⟨_, rfl, G, v, t, rfl, hS, tv, hh, ok, hl, fun a G1 H1 W1 e1 => q a G1 H1 W1 e1⟩
  refine ⟨_, rfl, G, v, t, rfl, hS, tv, hh, by omega, fun l G1 H1 W1 e1 => ?_⟩
  refine ⟨_, rfl, rfl, _, rfl, ite2 (fun c => ?_) (fun n3 => ?_)⟩
  · cases kd_of .words c
    exact ⟨_, rfl, l, _, rfl, .inl ⟨SqL.of (W1.s _ _ e1), fun a ha => q _ _ _ (W1.snoc ha _) (.tup upd_same (TdAll.ints _))⟩⟩
  refine ⟨_, rfl, rfl, _, rfl, ite2 (fun c => ?_) (fun n4 => ?_)⟩
  · cases kd_of .bags c
    refine ⟨_, rfl, G1, l, t.lets, rfl, W1.s, .inl e1, by omega, fun ms a G2 H2 pm so W2 e2 => q _ _ _ (W1.trans W2) ?_⟩
    rw [asc_eq pm so] at e2
    exact .tup e2 (TdAll.ints _)
  refine ⟨_, rfl, rfl, _, rfl, ite2 (fun c => ?_) (fun n5 => ?_)⟩
  · cases kd_of .parity c
    refine ⟨_, rfl, G1, l, t.lets, rfl, W1.s, e1, by omega, fun u G2 H2 W2 e2 => ⟨u, rfl, ⟨_, SqT.of (W2.s _ _ e2)⟩, fun d hd => ?_⟩⟩
    have gd : G2 d = none := W2.s.free hd
    have hd0 : H d = none := W1.u d (W2.u d hd)
    refine lc_tup (xs := (fu t.lets).map V.int) (fun i H' => Gx T [] G H G2 H' ∧ H' d = some (.lst ((((fu t.lets).take i).filter fun x => decide (t.lets.count x % 2 = 1)).map V.int))) ⟨(W1.trans W2).snocM hd _, upd_same⟩
      (fun i H' _ ⟨W, _⟩ => SqT.of (W.s _ _ e2)) (fun i x H3 hx ⟨W, e3⟩ => ?_) (fun H3 ⟨W, e3⟩ => ?_)
    · rw [List.getElem?_map] at hx
      cases hn : (fu t.lets)[i]? with
      | none => rw [hn] at hx; cases hx
      | some j =>
        rw [hn] at hx
        cases hx
        obtain ⟨hi, ej⟩ := List.getElem?_eq_some_iff.mp hn
        have bl := fu_len t.lets
        refine ⟨rfl, _, rfl, .inl ⟨rfl, _, SqL.of (W.s _ _ (W2.g _ _ e1))⟩, _, rfl, l, t.lets, j, rfl, rfl, SqL.of (W.s _ _ (W2.g _ _ e1)), _, _, rfl, rfl, (show (0 : Int) < 2 by decide), rfl, _, rfl, ?_⟩
        have ec : decide (V.int (((t.lets.count j : Nat) : Int) % 2) = V.int 1) = decide (t.lets.count j % 2 = 1) := by
          rw [Bool.eq_iff_iff, decide_eq_true_iff, decide_eq_true_iff]
          refine ⟨fun z => ?_, fun z => ?_⟩
          · have := V.int.inj z
            omega
          · exact congrArg V.int (by omega)
        show if decide (V.int (((t.lets.count j : Nat) : Int) % 2) = V.int 1) = true then _ else _
        rw [ec]
        have et : (fu t.lets).take (i + 1) = (fu t.lets).take i ++ [j] := by rw [List.take_succ_eq_append_getElem hi, ej]
        have lb : (((fu t.lets).take i).filter fun x => decide (t.lets.count x % 2 = 1)).length ≤ 40 := Nat.le_trans (List.length_filter_le _ _) (by rw [List.length_take]; omega)
        refine ite2 (fun y => ?_) (fun y => ?_)
        · refine ⟨_, rfl, _, e3, szLt (by rw [List.length_map]; omega), W.write (.inl hd0) gd e3 True.intro, ?_⟩
          rw [upd_same, et, List.filter_append, List.filter_cons, if_pos y, List.map_append]
          rfl
        · refine ⟨W, ?_⟩
          rw [et, List.filter_append, List.filter_cons, if_neg y, List.filter_nil, List.append_nil]
          exact e3
    · rw [List.length_map, List.take_length] at e3
      refine ⟨upd G2 d (.lst ((odds t.lets).map V.int)), d, odds t.lets, rfl, ?_, .inl upd_same, ?_, fun ms a G4 H4 pm so W4 e4 => ?_⟩
      · exact (Gx.freeze W.s W hd0 e3).s
      · exact Nat.le_trans (List.length_filter_le _ _) (by have := fu_len t.lets; omega)
      · rw [asc_eq pm so] at e4
        exact q _ _ _ ((Gx.freeze W.s W hd0 e3).trans W4) (.tup e4 (TdAll.ints _))
  refine ⟨_, rfl, rfl, _, rfl, ite2 (fun c => ?_) (fun n6 => ?_)⟩
  · cases kd_of .sets c
    refine ⟨_, rfl, G1, l, t.lets, rfl, W1.s, e1, by omega, fun u G2 H2 W2 e2 => ?_⟩
    have bl := fu_len t.lets
    refine ⟨G2, u, fu t.lets, rfl, W2.s, .inr e2, by omega, fun ms a G4 H4 pm so W4 e4 => ?_⟩
    rw [asc_eq pm so] at e4
    exact q _ _ _ ((W1.trans W2).trans W4) (.tup e4 (TdAll.ints _))
  -- front
  have pos : 0 < t.lets.length := lets_pos t
  have a0 : atI (t.lets.map V.int) 0 = some (.int (fin0 t.lets)) := by
    refine atI_nat (j := 0) ?_
    cases e : t.lets with
    | nil => rw [e] at pos; cases pos
    | cons x r => rfl
  have a1 : atI (t.lets.map V.int) (-1) = some (.int (fin1 t.lets)) := by
    obtain ⟨r, x, e⟩ := list_snoc (l := t.lets) (by rintro z; rw [z] at pos; cases pos)
    rw [e, List.map_append]
    show atI (r.map V.int ++ [V.int x]) (-1) = some (.int (fin1 (r ++ [x])))
    rw [atI_last]
    unfold fin1
    rw [List.getLastD_concat]
  intro p hp
  have W2 := W1.snocM hp (.dK [])
  refine ⟨_, rfl, G1, l, t.lets, rfl, W2.s, e1, by omega, fun u1 G3 H3 W3 f1 => ?_⟩
  refine ⟨_, rfl, G3, l, t.lets, rfl, W3.s, W3.g _ _ e1, by omega, fun u2 G4 H4 W4 f2 => ?_⟩
  have l4 := W4.s _ _ ((W3.trans W4).g _ _ e1)
  refine ⟨_, rfl, l, _, _, _, rfl, rfl, SqL.of l4, a0, _, rfl, l, _, _, _, rfl, rfl, SqL.of l4, a0, ?_⟩
  have gp : G1 p = none := W1.s.free hp
  obtain ⟨gp4, hp4⟩ := (W3.trans W4).keepM (by simp) gp upd_same (fun _ z => by cases z)
  have hp0 : H p = none := W1.u p hp
  refine ⟨hp4, [(.inr "middles", .ref u1), (.inr "heads", .ref u2), (.inr "outer", .int (fin0 t.lets)), (.inr "lefts", .int (fin0 t.lets))], rfl, (by show 4 ≤ 15; decide), ?_⟩
  rw [front_put]
  have W5 := (W2.trans (W3.trans W4)).write (o' := .dK [(.inr "middles", .ref u1), (.inr "heads", .ref u2), (.inr "outer", .int (fin0 t.lets)), (.inr "lefts", .int (fin0 t.lets))]) (.inl hp0) gp4 hp4 True.intro
  have S5 : Same G4 _ := W5.s
  have F5 := Gx.freeze W5.s W5 hp0 upd_same
  have g45 : Same G4 (upd G4 p (.dK [(.inr "middles", .ref u1), (.inr "heads", .ref u2), (.inr "outer", .int (fin0 t.lets)), (.inr "lefts", .int (fin0 t.lets))])) := same_new gp4 _
  generalize hG5 : upd G4 p (.dK [(.inr "middles", .ref u1), (.inr "heads", .ref u2), (.inr "outer", .int (fin0 t.lets)), (.inr "lefts", .int (fin0 t.lets))]) = G5 at F5 g45
  have p5 : G5 p = some (.dK [(.inr "middles", .ref u1), (.inr "heads", .ref u2), (.inr "outer", .int (fin0 t.lets)), (.inr "lefts", .int (fin0 t.lets))]) := by rw [← hG5]; exact upd_same
  have l5 : G5 l = some (.lst (t.lets.map V.int)) := g45 _ _ ((W3.trans W4).g _ _ e1)
  have f15 := g45 _ _ (W4.g _ _ f1)
  have f25 := g45 _ _ f2
  -- back
  intro r hr0
  have W6 := F5.snocM hr0 (.dK [])
  refine ⟨_, rfl, G5, l, t.lets, rfl, W6.s, l5, by omega, fun u3 G7 H7 W7' f3 => ?_⟩
  refine ⟨_, rfl, G7, l, t.lets, rfl, W7'.s, W7'.g _ _ l5, by omega, fun u4 G8 H8 W8 f4 => ?_⟩
  have l8 := W8.s _ _ ((W7'.trans W8).g _ _ l5)
  refine ⟨_, rfl, 1, rfl, l, _, _, _, rfl, rfl, SqL.of l8, a1, _, rfl, 1, rfl, l, _, _, _, rfl, rfl, SqL.of l8, a1, ?_⟩
  have gr : G5 r = none := F5.s.free hr0
  obtain ⟨gr8, hr8⟩ := (W7'.trans W8).keepM (by simp) gr upd_same (fun _ z => by cases z)
  have hrr : H r = none := F5.u r hr0
  refine ⟨hr8, [(.inr "middles", .ref u3), (.inr "tails", .ref u4), (.inr "outer", .int (fin1 t.lets)), (.inr "rights", .int (fin1 t.lets))], rfl, (by show 4 ≤ 15; decide), ?_⟩
  rw [back_put]
  have W9 := (W6.trans (W7'.trans W8)).write (o' := .dK [(.inr "middles", .ref u3), (.inr "tails", .ref u4), (.inr "outer", .int (fin1 t.lets)), (.inr "rights", .int (fin1 t.lets))]) (.inl hrr) gr8 hr8 True.intro
  have F9 := Gx.freeze W9.s W9 hrr upd_same
  have g89 := same_new gr8 (.dK [(.inr "middles", .ref u3), (.inr "tails", .ref u4), (.inr "outer", .int (fin1 t.lets)), (.inr "rights", .int (fin1 t.lets))])
  have g59 := (W7'.trans W8).g.trans g89
  have p9 := F9.s _ _ (g59 _ _ p5)
  refine ⟨_, rfl, p, rfl, .inl ⟨_, .inl p9⟩, _, rfl, _, DGet.k (k := .inr k.nm) p9, _, rfl, r, rfl, .inl ⟨_, .inl upd_same⟩, _, rfl, _, DGet.k (k := .inr k.nm) upd_same, szL (Nat.le_add_left 2 99998), fun z hz => ?_⟩
  rw [front_val, back_val]
  obtain ⟨Gz, Wz, sz, ez⟩ := F9.al hz (.tup [(match k with | .middles => some (V.ref u1) | .heads => some (.ref u2) | .outer => some (.int (fin0 t.lets)) | .lefts => some (.int (fin0 t.lets)) | _ => none).getD .non, (match k with | .middles => some (V.ref u3) | .tails => some (.ref u4) | .outer => some (.int (fin1 t.lets)) | .rights => some (.int (fin1 t.lets)) | _ => none).getD .non])
  refine q _ _ _ Wz ?_
  have d1 : Td Gz (.ref u1) (tI (fu t.lets)) := .tup (sz.g _ _ (g59 _ _ f15)) (TdAll.ints _)
  have d2 : Td Gz (.ref u2) (tI (fu t.lets)) := .tup (sz.g _ _ (g59 _ _ f25)) (TdAll.ints _)
  have d3 : Td Gz (.ref u3) (tI (lu t.lets)) := .tup (sz.g _ _ (g89 _ _ (W8.g _ _ f3))) (TdAll.ints _)
  have d4 : Td Gz (.ref u4) (tI (lu t.lets)) := .tup (sz.g _ _ (g89 _ _ f4)) (TdAll.ints _)
  cases k with
  | trees => exact absurd rfl (kd_not .trees n1)
  | pairs => exact absurd rfl (kd_not .pairs n2)
  | words => exact absurd rfl (kd_not .words n3)
  | bags => exact absurd rfl (kd_not .bags n4)
  | parity => exact absurd rfl (kd_not .parity n5)
  | sets => exact absurd rfl (kd_not .sets n6)
  | middles => exact .tup ez (.cons d1 (.cons d3 .nil))
  | heads => exact .tup ez (.cons d2 (.cons .non .nil))
  | tails => exact .tup ez (.cons .non (.cons d4 .nil))
  | outer => exact .tup ez (.cons (.int _) (.cons (.int _) .nil))
  | lefts => exact .tup ez (.cons (.int _) (.cons .non .nil))
  | rights => exact .tup ez (.cons .non (.cons (.int _) .nil))
  | one => exact .tup ez (.cons .non (.cons .non .nil))
theorem ok_agree (B : Bn mg) (D : Dn K mg "do_agree" sAgree ["one", "two", "kind"] f fd) (h_rules_of : Has P w K mg base 1 "rules_of" ["kind"] (spRules T)) (h_sense : Has P w K mg base 10 "sense" ["tree", "kind"] (spSense T)) : Fn P w K mg base 11 f fd ["one", "two", "kind"] (spAgree T) := by
  refine D.ok sc_do_agree (fun vs H Q h => ?_) (fun cdv A outer s H vs Q hg hr _ _ h => ?_)
  · obtain ⟨G, v, u, t, s, k, rfl, _⟩ := h
    rfl
  obtain ⟨G, v, u, t, s, k, rfl, hS, tv, hh, ok, hl, tu, hhs, oks, hls, q⟩ := h
  refine ⟨_,
    (pss_cons (ps_expr (pe_h h_rules_of hg hr (pa_cons (pv 2) pa_nil)))
    (pss_one (ps_ret (pe_cmpR (op_eqD hr.units) (pe_h h_sense hg hr (pa_cons (pv 0) (pa_cons (pv 2) pa_nil))) (pe_h h_sense hg hr (pa_cons (pv 1) (pa_cons (pv 2) pa_nil))) (nomark _))))), ?_⟩
  refine ⟨_, rfl, G, k, rfl, hS, fun l G1 H1 W1 => ?_⟩
  refine ⟨_, rfl, _, rfl, G1, v, t, k, rfl, W1.s, tv.mono W1.g, hh, ok, hl, fun a G2 H2 W2 e2 => ?_⟩
  refine ⟨_, rfl, _, rfl, G2, u, s, k, rfl, W2.s, tu.mono (W1.trans W2).g, hhs, oks, hls, fun b G3 H3 W3 e3 => ?_⟩
  have h1 := ht_lt t.ws
  have h2 := ht_lt s.ws
  rw [ws_len] at h1 h2
  exact ⟨_, _, ((e2.mono W3.g).mono W3.s).dp, (e3.mono W3.s).dp, sense_shaped k (by omega) (by omega), sense_shaped k (by omega) (by omega), q _ _ ((W1.trans W2).trans W3)⟩
end
end W7
set_option maxRecDepth 100000
set_option maxHeartbeats 4000000
/-! WH: a lambda of two arguments that captures one cell, handed to a def; _law_differ -/
namespace W7
open PySem PySem.Spec PyProof.Rows L2 LamX NdefX
/-- the heap without what is told of c -/
def unt (H : Hp) (c : Addr) : Hp := fun b => if b = c then none else H b
theorem unt_ne {H : Hp} {b c : Addr} (h : b ≠ c) : unt H c b = H b := if_neg h
theorem unt_at {H : Hp} {c : Addr} : unt H c c = none := if_pos rfl
theorem unt_some {H : Hp} {b c : Addr} {o : HO} (h : unt H c b = some o) : b ≠ c ∧ H b = some o := by
  unfold unt at h
  split at h
  · cases h
  · rename_i q
    exact ⟨q, h⟩
theorem unt_none {H : Hp} {b c : Addr} (h : H b = none) : unt H c b = none := by
  unfold unt
  split
  · rfl
  · exact h
theorem upd_unt {H : Hp} {c : Addr} {o : HO} (h : H c = none) : unt (upd H c o) c = H := by
  funext b
  by_cases hb : b = c
  · rw [hb, unt_at, h]
  · rw [unt_ne hb, upd_ne hb]
theorem pin_not_own {c x : Addr} {o : Obj} : Pin c o ≠ .own x := fun z => by
  unfold Pin at z
  cases z
theorem pin_not_tup {c : Addr} {xs : List V} {o : Obj} : Pin c o ≠ .tup xs := fun z => by
  unfold Pin at z
  cases z
section
variable {P : Program} {w : World} {H : Hp} {h : Heap} {c : Addr} {oc : Obj}
theorem hok_unt (x : HOk P w H h) (hc : H c = some (Pin c oc)) : HOk P w (unt H c) h := fun b u e => by
  obtain ⟨nb, e⟩ := unt_some e
  refine (x b u e).stay (fun _ _ _ q => q) (fun d q => ?_) (fun d xs q => ?_)
  · rw [unt_ne fun z => ?_]
    · exact q
    · rw [z, hc] at q
      exact pin_not_own (Option.some.inj q)
  · rw [unt_ne fun z => ?_]
    · exact q
    · rw [z, hc] at q
      exact pin_not_tup (Option.some.inj q)
theorem pin_ok (e : h.get? c = some oc) : ObjOk P w H h c (Pin c oc) := ⟨e, ⟨_, e⟩, fun _ _ q st => st _ q⟩
/-- told again -/
theorem hok_re (x : HOk P w (unt H c) h) (hc : H c = some (Pin c oc)) (e : h.get? c = some oc) : HOk P w H h := fun b u q => by
  by_cases hb : b = c
  · subst hb
    rw [hc] at q
    cases q
    exact pin_ok e
  · have q' : unt H c b = some u := by rw [unt_ne hb]; exact q
    exact (x b u q').stay (fun _ _ _ r => r) (fun d r => (unt_some r).2) (fun d xs r => (unt_some r).2)
theorem hok_add (x : HOk P w H h) (hc : H c = none) (e : h.get? c = some oc) : HOk P w (upd H c (Pin c oc)) h := hok_re (by rw [upd_unt hc]; exact x) upd_same e
end
/-! ### the making -/
section
variable {X : Cx} {pins : List (Addr × Obj)} {σ : L2.St} {H : Hp} {s : Shared}
abbrev lamO (q : Str) (params : Arguments) (body : Expr) (scope : Scope) (cl : List (Str × Addr)) (pm : Value) (c' : Addr) (ctv : Value) : Obj := PySem.W.kla_obj "<lambda>" q params body scope cl pm c' ctv
theorem lam_mk {T : List NTab} {q : Str} {c P : Addr} {params : Arguments} {body : Expr} {scope : Scope} {pos : Pos} {E : Value → Shared → Prop} {Q : Value → Shared → Prop} (I : Inv X pins σ H s) (TB : TabB X.base X.mg c P) (hcode : X.env.code = .ref c)
    (hm : (P, fun _ _ => q) ∈ T) (hq : X.env.qual ++ "<lambda>" = q) (hu : ∀ p ∈ T, p.1 = P → p.2 = fun _ _ => q) (hT : TabsN T H) (hdef : defaultsOf params X.env = ([], [])) (hfree : ∀ y ∈ scope.names, y.2 = .free → ∃ c, X.env.cells.lookup y.1 = some c)
    (h : ∀ (f c' : Addr) (pm ctv : Value) (H1 : Hp) (s' : Shared), Inv X pins σ H1 s' → (∀ b o, b ≠ P → H b = some o → H1 b = some o) → (∀ b, H1 b = none → H b = none) → TabsN T H1 → H f = none →
      H1 f = some (Pin f (lamO q params body scope (cloFrom X.env.cells scope.names []) pm c' ctv)) → H1 c' = some (CodeO c' q) → Q (.ref f) s') :
    wpAny (model X.prog X.w) X.A (eval (.Lambda params body scope pos) X.env) Q E s := by
  obtain ⟨ps, hP, ht, ha⟩ := (show TabN H P fun _ _ => q from hT _ hm)
  have bP : s.heap.BuiltinsAt X.mg P := TB.bm.keeps I.bk
  have hP' : s.heap.get? P = some { cls := .none, data := .fields ps } := I.hok P _ hP
  have hclo := closure_ok hfree
  have hns := I.mod.glob.keeps I.bk
  have hcd := TB.code.keeps I.bk
  refine PySem.W.kla_eval hdef ?_
  rw [hq]
  cases hc : codeAmong pos ps.toList with
  | some cv =>
    obtain ⟨c', e, hco⟩ := ha pos cv hc
    subst e
    refine PySem.W.kla_makeFunctionHit hclo I.ok.glob hns hcode hcd hP' ht hc bP fun ctv h' tk hx hsz => ?_
    have I1 : Inv X pins σ H { s with heap := h', toks := tk } := I.kept hx
    have nF : H h'.objs.size = none := I1.hok.fresh (Nat.le_refl _)
    have I2 := I1.laid (t' := tk) (o := Pin h'.objs.size (lamO q params body scope (cloFrom X.env.cells scope.names []) ((X.mg "__name__").getD .none) c' ctv)) (h' := h'.push (lamO q params body scope (cloFrom X.env.cells scope.names []) ((X.mg "__name__").getD .none) c' ctv))
      (fun b u e => Heap.get?_push_of_some _ e) (Nat.le_refl _) (pin_ok (Heap.get?_push_size _ rfl))
    exact h h'.objs.size c' _ ctv _ _ I2 (fun b o _ => same_new nF _ b o) (fun b e => (upd_none_ne e).2) (hT.ext (same_new nF _)) nF upd_same (same_new nF _ _ _ hco)
  | none =>
    refine PySem.W.kla_makeFunction hclo I.ok.glob hns hcode hcd hP' ht hc TB.gP bP fun c' ctv h' tk hx hge hlt hrec htb => ?_
    obtain ⟨c2, oc, vs, t, e2, hoc, hd, hv⟩ := hrec
    cases e2
    have nC : H c' = none := I.hok.fresh hge
    have I1 := inv_table (t' := tk) (more := #[rawInt pos.line, rawInt pos.col, .ref c']) (h' := h') I hP (fun b o hb e => hx b o hb e) htb hge ⟨oc, vs, t, hoc, hd, hv⟩
    generalize hH1 : upd (upd H P (.tbl (ps ++ #[rawInt pos.line, rawInt pos.col, .ref c']))) c' (CodeO c' q) = H1 at I1
    have hE : ExtN H H1 := fun b o e n => by
      rw [← hH1, upd_ne (ne_of_none e nC), upd_ne fun z => n ps (Option.some.inj (e.symm.trans (by rw [z]; exact hP)))]
      exact e
    have hP1 : ∀ b o, b ≠ P → H b = some o → H1 b = some o := fun b o nb e => by
      rw [← hH1, upd_ne (ne_of_none e nC), upd_ne nb]
      exact e
    have hN : ∀ b, H1 b = none → H b = none := fun b e => by
      rw [← hH1] at e
      exact (upd_none_ne (upd_none_ne e).2).2
    have c1 : H1 c' = some (CodeO c' q) := by rw [← hH1]; exact upd_same
    have eL : (ps ++ #[rawInt pos.line, rawInt pos.col, .ref c']).toList = ps.toList ++ [rawInt pos.line, rawInt pos.col, .ref c'] := by simp
    have T1 : TabsN T H1 := fun p hp => by
      by_cases hb : p.1 = P
      · rw [hu p hp hb, hb]
        refine ⟨ps ++ #[rawInt pos.line, rawInt pos.col, .ref c'], by rw [← hH1, upd_ne (ne_of_none hP nC), upd_same], by rw [eL]; exact PySem.TriplesOk_snoc _ _ _ _ ht, fun p' cv hcv => ?_⟩
        rw [eL] at hcv
        rcases among_app2 _ ht hcv with z | ⟨z, _, _⟩
        · obtain ⟨c0, e1, e2⟩ := ha p' cv z
          exact ⟨c0, e1, hE _ _ e2 codeO_ne⟩
        · exact ⟨c', z, c1⟩
      · obtain ⟨ps', a1, a2, a3⟩ := hT p hp
        refine ⟨ps', by rw [← hH1, upd_ne (ne_of_none a1 nC), upd_ne hb]; exact a1, a2, fun p' cv hcv => ?_⟩
        obtain ⟨c0, e1, e2⟩ := a3 p' cv hcv
        exact ⟨c0, e1, hE _ _ e2 codeO_ne⟩
    have nF : H1 h'.objs.size = none := I1.hok.fresh (Nat.le_refl _)
    have I2 := I1.laid (t' := tk) (o := Pin h'.objs.size (lamO q params body scope (cloFrom X.env.cells scope.names []) ((X.mg "__name__").getD .none) c' ctv)) (h' := h'.push (lamO q params body scope (cloFrom X.env.cells scope.names []) ((X.mg "__name__").getD .none) c' ctv))
      (fun b u e => Heap.get?_push_of_some _ e) (Nat.le_refl _) (pin_ok (Heap.get?_push_size _ rfl))
    exact h h'.objs.size c' _ ctv _ _ I2 (fun b o nb e => same_new nF _ b o (hP1 b o nb e)) (fun b e => hN b (upd_none_ne e).2) (T1.ext (same_new nF _)) (hN _ nF) upd_same (same_new nF _ _ _ c1)
end
/-- a lambda's reading: it stands at f, its code object at c' -/
def tLam7 (T : List NTab) (P : Addr) (mk : Value → Addr → Value → Obj) (q : Str) : TE := fun _ H Q => TabsN T H ∧ ∀ (f c' : Addr) (pm ctv : Value) (H1 : Hp), (∀ b o, b ≠ P → H b = some o → H1 b = some o) → (∀ b, H1 b = none → H b = none) → TabsN T H1 → H f = none → H1 f = some (Pin f (mk pm c' ctv)) → H1 c' = some (CodeO c' q) → Q (.ref f) H1
section
variable {X : Cx}
theorem pe_lam7 {T : List NTab} {q : Str} {c P : Addr} {params : Arguments} {body : Expr} {scope : Scope} {pos : Pos} (TB : TabB X.base X.mg c P) (hcode : X.env.code = .ref c) (hm : (P, fun _ _ => q) ∈ T) (hq : X.env.qual ++ "<lambda>" = q) (hu : ∀ p ∈ T, p.1 = P → p.2 = fun _ _ => q)
    (hdef : defaultsOf params X.env = ([], [])) (hfree : ∀ y ∈ scope.names, y.2 = .free → X.env.scope.names.lookup y.1 = some .cell) :
    PE X (.Lambda params body scope pos) (tLam7 T P (lamO q params body scope (cloFrom X.env.cells scope.names [])) q) := by
  refine ⟨fun pins s σ H Q I h => ?_⟩
  obtain ⟨hT, h⟩ := h
  refine lam_mk I TB hcode hm hq hu hT hdef (fun y hy e => I.ok.has _ (.inl (hfree y hy e))) fun f c' pm ctv H1 s' I1 eN nn T1 f0 f1 c1 => ?_
  exact ⟨.ref f, H1, I1, rfl, h f c' pm ctv H1 eN nn T1 f0 f1 c1⟩
end
/-! ### the lambda's work: rows[a][b] -/
/-- the rows of an operation below n -/
def opRow (n : Nat) (op : Nat → Nat → Nat) (a : Nat) : List V := (List.range n).map fun b => V.int (op a b : Nat)
def dRow (n : Nat) (op : Nat → Nat → Nat) (a : Nat) : PyData := .list ((List.range n).map fun b => .int (op a b : Nat))
def dRows (n : Nat) (op : Nat → Nat → Nat) : PyData := .list ((List.range n).map (dRow n op))
theorem rows_row {G : Hp} {v : V} {n : Nat} {op : Nat → Nat → Nat} (h : Td G v (dRows n op)) : ∃ (r : Addr) (xs : List V), v = .ref r ∧ G r = some (.lst xs) ∧ xs.length = n ∧ ∀ a, a < n → ∃ p, xs[a]? = some (.ref p) ∧ G p = some (.lst (opRow n op a)) := by
  obtain ⟨r, xs, rfl, h1, h2⟩ := Td.list_inv h
  refine ⟨r, xs, rfl, h1, by rw [h2.length, List.length_map, List.length_range], fun a ha => ?_⟩
  have e : ((List.range n).map (dRow n op))[a]? = some (dRow n op a) := by rw [List.getElem?_map, List.getElem?_range ha]; rfl
  obtain ⟨x, hx, tx⟩ := h2.getd e
  obtain ⟨p, ys, rfl, h3, h4⟩ := Td.list_inv tx
  refine ⟨p, hx, ?_⟩
  have e2 : (List.range n).map (fun b => PyData.int (op a b : Nat)) = ((List.range n).map fun b => ((op a b : Nat) : Int)).map PyData.int := by rw [List.map_map]; rfl
  rw [e2] at h4
  rw [h3, h4.ints_inv, List.map_map]
  rfl
theorem row_at {n : Nat} {op : Nat → Nat → Nat} {a b : Nat} (hb : b < n) : (opRow n op a)[b]? = some (.int (op a b : Nat)) := by
  unfold opRow
  rw [List.getElem?_map, List.getElem?_range hb]
  rfl
section
variable {P : Program} {w : World} {K : PySem.W.Frag} {mg : Str → Option Value} {base : Heap}
/-- what the words of the lambda must be -/
structure LamOk (a b x : Str) (params : Arguments) (scope : Scope) : Prop where
  sc : NScope [a, b, x] [a, b] [x] scope
  nm : a ≠ b
  bind : ∀ (q : Str) (body : Expr) (cl : List (Str × Addr)) (pm cdv ctv : Value) (us : List Value), us.length = 2 → bindArgs (PySem.W.kla_fn "<lambda>" q params body scope cl pm cdv ctv) ⟨us, []⟩ = pure ([a, b].zip us)
  da : (a == ("__debug__" : Str)) = false
  db : (b == ("__debug__" : Str)) = false
  dx : (x == ("__debug__" : Str)) = false
  ca : (a == ("__classdict__" : Str)) = false
  cb : (b == ("__classdict__" : Str)) = false
  cx : (x == ("__classdict__" : Str)) = false
theorem lam_op {a b x q : Str} {params : Arguments} {scope : Scope} {p1 p2 p3 p4 p5 : Pos} {f c c' : Addr} {pm ctv : Value} {oc : Obj} {v : V} {uv : Value} {G H : Hp} {n : Nat} {op : Nat → Nat → Nat} (L : LamOk a b x params scope)
    (hf : H f = some (Pin f (lamO q params (.Subscript (.Subscript (.Name x p1) (.Name a p2) p3) (.Name b p4) p5) scope [(x, c)] pm c' ctv))) (hc' : H c' = some (CodeO c' q)) (hc : H c = some (Pin c oc)) (hoc : oc.data = .cell (some uv)) (rv : L2.RelV v uv)
    (hS : Same G H) (gc : G c = none) (hv : Td G v (dRows n op)) : OpOk P w K mg base 1 f n op H := by
  refine ⟨⟨_, _, _, hf⟩, fun A outer s H' us i j Q hg hr e0 hs hi hj r hq => ?_⟩
  have lim : s.heap.NoLimit := e0.mod.nolimit.keeps fun b o e => (e0.bs b o e).1
  have of := pin_at e0.hok (hs _ _ hf)
  have hcc := hs _ _ hc
  have ocell := pin_at e0.hok hcc
  have lu2 : us.length = 2 := by rw [← r.length]; rfl
  refine PySem.W.kla_callFunE hr.depth of rfl L.sc.co L.sc.gen rfl (codeO_at e0.hok (hs _ _ hc')) ?_
  rw [L.bind _ _ _ _ _ _ us lu2]
  refine wpAny_pure (wpAny_newFunctionEnv L.sc.nocell (fun ⟨y, _⟩ hy => L.sc.par y (List.of_mem_zip hy).1) (fun h₁ hns hsb => ⟨lim.fresh _ hsb, ?_⟩) L.sc.kind)
  have kp : ∀ b o, s.heap.get? b = some o → h₁.get? b = some o := fun b o e => hsb.extBut b o (Nat.ne_of_lt (Heap.lt_size e)) (Heap.get?_push_of_some _ e)
  -- the context: the cell is the frame's again
  have hokU := hok_unt e0.hok hcc
  have eU : Env0 P w K mg base A outer s (unt H' c) := ⟨e0.frames, e0.mod, fun b o e => ⟨(e0.bs b o e).1, unt_none (e0.bs b o e).2⟩, e0.bsz, e0.funs, fun b hb => unt_none (e0.frf b hb), hokU, e0.bare⟩
  have C : CellsAt [(x, c)] [x] [some v] s.heap (unt H' c) := by
    have only : ∀ y d, ([(x, c)] : List (Str × Addr)).lookup y = some d → y = x ∧ d = c := fun y d e => by
      rw [List.lookup_cons] at e
      split at e
      · rename_i z
        exact ⟨by simpa using z, (Option.some.inj e).symm⟩
      · cases e
    refine ⟨rfl, fun y d e => ?_, fun y z d e1 e2 => (only y d e1).1.trans (only z d e2).1.symm, fun i y e => ?_⟩
    · rw [(only y d e).2]
      exact ⟨unt_at, _, oc, ocell, hoc⟩
    · cases i with
      | zero =>
        cases e
        refine ⟨c, by rw [List.lookup_cons]; simp, fun v' ev => ?_⟩
        cases ev
        exact ⟨uv, rv, oc, ocell, hoc⟩
      | succ i => cases e
  have J := inv_startN (CX := CX0) (F := ⟨"<lambda>", q, params, [], scope, [(x, c)], c'⟩) (f := f) (E := E0) (tk := s.toks + ([a, b].zip us).length) L.sc hr.hd eU rfl r C hns kp
  have body : PE (ncx CX0 P w K mg base [a, b, x] ⟨"<lambda>", q, params, [], scope, [(x, c)], c'⟩ f A outer s (unt H' c) E0) (.Subscript (.Subscript (.Name x p1) (.Name a p2) p3) (.Name b p4) p5)
      (tOp (rIxL K) (tOp (rIxL K) (tVar 2) (tVar 0)) (tVar 1)) :=
    pe_ix ix_list (pe_ix ix_list (pe_var (i := 2) rfl (.inr (.inr (L.sc.frk x (by simp)))) L.dx L.cx) (pe_var (i := 0) rfl (.inl (L.sc.par a (by simp))) L.da L.ca) (fun _ _ => rfl)) (pe_var (i := 1) rfl (.inl (L.sc.par b (by simp))) L.db L.cb) (fun _ _ => rfl)
  obtain ⟨rr, xs, rfl, gr, lx, rows⟩ := rows_row hv
  obtain ⟨pr, hpr, gpr⟩ := rows i hi
  have keepU : ∀ {d : Addr} {o : HO}, G d = some o → unt H' c d = some o := fun {d o} e => by
    rw [unt_ne fun z => by rw [z, gc] at e; cases e]
    exact hs _ _ (hS _ _ e)
  refine PySem.W.kla_codeExpr (wpAny_mono (body.run [] _ _ (unt H' c) (fun u H2 => u = .int (op i j : Nat) ∧ H2 = unt H' c) J ?_) (fun u s' hq' => ?_) fun e s' hq' => hq')
  · exact ⟨_, rfl, _, rfl, rr, xs, (i : Int), _, rfl, rfl, SqL.of (keepU gr), atI_nat hpr, _, rfl, pr, _, (j : Int), _, rfl, rfl, SqL.of (keepU gpr), atI_nat (row_at hj), rfl, rfl⟩
  · obtain ⟨u', H2, J2, ru, e1, e2⟩ := hq'
    subst e1 e2
    have cfr : c ∉ frs outer := fun z => by
      have := e0.frf c z
      rw [hcc] at this
      cases this
    have un : Un (frs outer) [] (unt H' c) (unt H' c) s.heap s'.heap := J2.base
    have keptC : s'.heap.get? c = some oc := un.keep c oc ocell unt_at cfr (by simp)
    refine ⟨_, H', J2.os, J2.bare, ⟨fun b o e nb hb hx => ?_, fun b o e nb hb hx => ?_, fun b o e nb _ => nb, fun b o e hx => un.there b o e hx, fun b ys e => e, fun b o u e => e, fun b ps e => ⟨#[], by rw [e]; simp⟩⟩, hok_re J2.hok hcc keptC, ru, hq⟩
    · exact un.keep b o e (unt_none nb) hb hx
    · exact un.slot b o e (unt_none nb) hb hx
end
/-! ### the call of a def that is handed such a function: the captured cell is told to it -/
def tHid (cells : List (Str × Addr)) (x : Str) (i : Nat) (sp : Sq) (t : TA) : TE := fun σ H Q => t σ H fun vs H1 => ∃ v, σ[i]? = some (some v) ∧ ∀ (c : Addr) (oc : Obj) (u : Value), cells.lookup x = some c → H1 c = none → oc.data = .cell (some u) → L2.RelV v u →
  sp vs (upd H1 c (Pin c oc)) (fun r H2 => H2 = upd H1 c (Pin c oc) ∧ Q r H1)
section
variable {X : Cx} {k j i : Nat} {ps : List Str} {sp : Sq} {x y : Str} {p pos : Pos} {e : Expr} {es : List Expr} {t : TA}
theorem pe_hid (F : Has X.prog X.w X.K X.mg X.base k y ps sp) (hg : X.A.guards = some []) (hr : Room j X.A) (hN : X.N[i]? = some x) (hc : X.env.scope.names.lookup x = some .cell) (hfn : X.fn x = true) (ha : PA X (e :: es) t) (hkj : k ≤ j := by first | exact Nat.le_refl _ | decide | omega) (hgl : Gl X y := by rfl)
    (hdb : (y == ("__debug__" : Str)) = false := by decide) (he : starEach (e :: es) X.env = (false, eval e X.env) :: starEach es X.env := by rfl) (hpl : (backTo pos (starEach es X.env)).any (·.1) = false := by rfl) :
    PE X (.Call (.Name y p) (e :: es) [] pos) (tHid X.env.cells x i sp t) := by
  obtain ⟨f, fd, F, hm, kp, hb⟩ := F.ex
  refine ⟨fun pins s σ H Q I h => wpAny_Call_Name_kw (ld_glob I hgl hm ?_ hdb)⟩
  refine PySem.W.callWith_K (h₀ := X.base) I.ok.mod.kin kp (thn (ha.run pos pins s σ H _ I h) fun us s1 ⟨vs, H1, I1, r, v, hv, q⟩ => ⟨I1.kIn, ?_⟩) he hpl
  obtain ⟨m, hn, hl⟩ := I1.loc
  obtain ⟨u, ru, look⟩ := hl i x v hN hv (.inr (.inl hc))
  rcases look with ⟨kl, _⟩ | ⟨_, c, hcl, oc, ho, hd⟩
  · have kl : X.env.scope.names.lookup x = some .local := kl
    rw [hc] at kl
    cases kl
  have n1 := I1.freeC x c hcl
  have cge : X.s_0.heap.objs.size ≤ c := I1.ok.cab x c hfn hcl
  have e0 := I1.env0
  have nfr : c ∉ frs X.stack := fun z => by
    rcases List.mem_cons.mp (I1.stkSub c z) with q | q
    · exact I1.cne x c hcl q
    · obtain ⟨_, o, ho, _⟩ := I1.ok.funs.mem q
      exact Nat.lt_irrefl _ (Nat.lt_of_lt_of_le (Heap.lt_size ho) cge)
  have e1 : Env0 X.prog X.w X.K X.mg X.base X.A X.stack s1 (upd H1 c (Pin c oc)) := by
    refine ⟨e0.frames, e0.mod, fun b o e => ⟨(e0.bs b o e).1, ?_⟩, e0.bsz, e0.funs, fun b hb => ?_, hok_add I1.hok n1 ho, e0.bare⟩
    · rw [upd_ne fun z => ?_]
      · exact (e0.bs b o e).2
      · rw [z] at e
        exact Nat.lt_irrefl _ (Nat.lt_of_lt_of_le (Heap.lt_size e) (Nat.le_trans I1.ok.bsz cge))
    · rw [upd_ne (fun z => nfr (by rw [← z]; exact hb) : b ≠ c)]
      exact e0.frf b hb
  have q1 := q c oc u hcl n1 hd ru
  have hl : us.length = ps.length := by rw [← r.length]; exact F.len _ _ _ q1
  have hb' := hb s1 us I1.kIn (by rw [List.append_nil]; exact hl)
  rw [List.append_nil] at hb'
  refine wpAny_call (codeAny_mono (F.go X.A X.stack s1 _ ⟨us, []⟩ us vs _ hg (hr.mono hkj) e1 hb' r q1) fun r s' hq => ?_)
  match r, hq with
  | .ok (.ret u), ⟨v', H2, os, bare, un, hok, rv, e2, qq⟩ =>
    subst e2
    have keptC := pin_at hok upd_same
    refine I1.after ⟨v', H1, os, bare, ⟨fun b o e nb hb hx => ?_, fun b o e nb hb hx => ?_, fun b o e nb _ => nb, fun b o e hx => un.there b o e hx, fun b ys e => e, fun b o u e => e, fun b ps e => ⟨#[], by rw [e]; simp⟩⟩, ?_, rv, qq⟩
    · by_cases z : b = c
      · rw [z] at e ⊢
        rw [ho] at e
        rw [keptC]
        exact e
      · exact un.keep b o e (by rw [upd_ne z]; exact nb) hb hx
    · by_cases z : b = c
      · exact absurd (by rw [← z]; exact hb) nfr
      · exact un.slot b o e (by rw [upd_ne z]; exact nb) hb hx
    · have := hok_unt hok upd_same
      rw [upd_unt n1] at this
      exact this
  | .ok .next, hq => exact False.elim hq
  | .ok .brk, hq => exact False.elim hq
  | .ok .cont, hq => exact False.elim hq
  | .error e, hq => exact False.elim hq
end
abbrev sDiffer : Stmt := top 33
theorem sc_differ : FnScope ["_law_rows", "_law_values", "_law_one", "_law_two"] ["_law_rows", "_law_values", "_law_one", "_law_two"] (defScope sDiffer) := ⟨rfl, rfl, rfl, by decide +kernel, rfl, by decide +kernel, by decide +kernel⟩
def qLam : Str := "_law_differ.<locals>.<lambda>"
theorem qLam_eq : ("_law_differ" : Str) ++ ".<locals>." ++ "<lambda>" = qLam := by decide +kernel
theorem free_of {names sc : List (Str × NameKind)} (h : (names.all fun y => !decide (y.2 = .free) || decide (sc.lookup y.1 = some .cell)) = true) : ∀ y ∈ names, y.2 = .free → sc.lookup y.1 = some .cell := fun y hy e => by
  have q := List.all_eq_true.mp h y hy
  simp only [e, decide_true, Bool.not_true, Bool.false_or, decide_eq_true_eq] at q
  exact q
def spDiffer (T : List NTab) (P : Addr) : Sq := fun vs H Q => ∃ (G : Hp) (v0 v1 v2 : V) (a : Addr) (t s : Tr) (n : Nat) (op : Nat → Nat → Nat) (vals : List Nat), vs = [v0, .ref a, v1, v2] ∧ Same G H ∧ G P = none ∧ TabsN T H ∧ Td G v0 (dRows n op) ∧ (∀ a b, a < n → b < n → op a b < n) ∧
  G a = some (.lst (vals.map fun z => V.int (z : Nat))) ∧ vals.length = 4 ∧ (∀ z ∈ vals, z < n) ∧ Td G v1 t.d ∧ t.ht < 8 ∧ Ok4 t ∧ Td G v2 s.d ∧ s.ht < 8 ∧ Ok4 s ∧
  ∀ H' : Hp, Gx T [] G H G H' → Q (.bl (decide (ev op vals t ≠ ev op vals s))) H'
section
variable {P : Program} {w : World} {K : PySem.W.Frag} {mg : Str → Option Value} {base : Heap} {f : Addr} {fd : FuncData} {T : List NTab}
theorem lamG {H H1 G : Hp} {Pt : Addr} (hS : Same G H) (gP : G Pt = none) (hP : ∃ ps, H Pt = some (.tbl ps)) (a : ∀ b o, b ≠ Pt → H b = some o → H1 b = some o) (b : ∀ b, H1 b = none → H b = none) (c : TabsN T H1) : Gx T [] G H G H1 where
  g := Same.refl G
  s := fun d o e => a d o (fun z => by rw [z, gP] at e; cases e) (hS d o e)
  n := fun _ _ e => .inl e
  h := fun d o _ e n => a d o (fun z => by
    obtain ⟨ps, hp⟩ := hP
    rw [z, hp] at e
    exact n ps (Option.some.inj e).symm) e
  u := b
  t := fun _ => c
theorem ok_differ {c Pt : Addr} (D : Dn K mg "_law_differ" sDiffer ["_law_rows", "_law_values", "_law_one", "_law_two"] f fd) (hfc : fd.code = .ref c) (TB : TabB base mg c Pt) (hm : (Pt, fun _ _ => qLam) ∈ T) (hu : ∀ p ∈ T, p.1 = Pt → p.2 = fun _ _ => qLam)
    (h_value_of : Has P w K mg base 9 "value_of" ["tree", "values", "operation"] (spValueOf P w K mg base 1 8)) : Fn P w K mg base 10 f fd ["_law_rows", "_law_values", "_law_one", "_law_two"] (spDiffer T Pt) := by
  refine D.ok sc_differ (fun vs H Q h => ?_) (fun cdv A outer s H vs Q hg hr _ hcv h => ?_)
  · obtain ⟨G, v0, v1, v2, a, t, s, n, op, vals, rfl, _⟩ := h
    rfl
  obtain ⟨G, v0, v1, v2, a, t, s, n, op, vals, rfl, hS, gP, hT, t0, hop, ga, l4, hv, t1, hh1, ok1, t2, hh2, ok2, q⟩ := h
  have hcode : cdv = .ref c := hcv.symm.trans hfc
  refine ⟨_, pss_one (ps_ret (pe_cmpR op_ne
      (pe_hid (i := 0) h_value_of hg hr rfl rfl rfl (pa_cons (pv 2) (pa_cons (pv 1) (pa_cons (pe_lam7 (T := T) (q := qLam) TB hcode hm qLam_eq hu rfl (free_of (by kernel_rfl))) pa_nil))))
      (pe_hid (i := 0) h_value_of hg hr rfl rfl rfl (pa_cons (pv 3) (pa_cons (pv 1) (pa_cons (pe_lam7 (T := T) (q := qLam) TB hcode hm qLam_eq hu rfl (free_of (by kernel_rfl))) pa_nil)))) (nomark _))), ?_⟩
  have hP : ∀ {H1 : Hp}, TabsN T H1 → ∃ ps, H1 Pt = some (.tbl ps) := fun h => by
    obtain ⟨ps, e, _⟩ := h _ hm
    exact ⟨ps, e⟩
  have cl1 : ∀ (cells : List (Str × Addr)) (a b : Str) (cc : Addr), cells.lookup ("_law_rows" : Str) = some cc → cloFrom cells [(a, .local), (b, .local), (("_law_rows" : Str), .free)] [] = [(("_law_rows" : Str), cc)] := fun cells a b cc e => by
    show [(("_law_rows" : Str), (cells.lookup ("_law_rows" : Str)).getD 0)] = _
    rw [e]
    rfl
  refine ⟨_, rfl, _, rfl, hT, fun f1 c1 pm1 ct1 H1 x1 y1 T1 f10 f11 c11 => ⟨v0, rfl, fun cc oc u hcl hcn hoc ru => ?_⟩⟩
  have W1 : Gx T [] G H G H1 := lamG hS gP (hP hT) x1 y1 T1
  have gc : G cc = none := W1.s.free hcn
  have S1 := W1.s.trans (same_new hcn (Pin cc oc))
  dsimp only at f11
  rw [cl1 _ _ _ cc hcl] at f11
  refine ⟨G, v1, t, a, f1, vals, n, op, rfl, S1, t1, hh1, ok1, ga, l4, hv, hop, lam_op (a := "_law_a") (b := "_law_b") (x := "_law_rows") ⟨nscope_by (by decide +kernel), by decide +kernel, fun _ _ _ _ _ _ us h => match us, h with | [_, _], _ => rfl, by decide, by decide, by decide, by decide, by decide, by decide⟩
    (same_new hcn _ _ _ f11) (same_new hcn _ _ _ c11) upd_same hoc ru S1 gc t0, rfl, ?_⟩
  refine ⟨_, rfl, _, rfl, T1, fun f2 c2 pm2 ct2 H2 x2 y2 T2 f20 f21 c21 => ⟨v0, rfl, fun cc oc u hcl hcn hoc ru => ?_⟩⟩
  have W2 : Gx T [] G H G H2 := W1.trans (lamG W1.s gP (hP T1) x2 y2 T2)
  have gc : G cc = none := W2.s.free hcn
  have S2 := W2.s.trans (same_new hcn (Pin cc oc))
  dsimp only at f21
  rw [cl1 _ _ _ cc hcl] at f21
  refine ⟨G, v2, s, a, f2, vals, n, op, rfl, S2, t2, hh2, ok2, ga, l4, hv, hop, lam_op (a := "_law_c") (b := "_law_d") (x := "_law_rows") ⟨nscope_by (by decide +kernel), by decide +kernel, fun _ _ _ _ _ _ us h => match us, h with | [_, _], _ => rfl, by decide, by decide, by decide, by decide, by decide, by decide⟩
    (same_new hcn _ _ _ f21) (same_new hcn _ _ _ c21) upd_same hoc ru S2 gc t0, rfl, rfl, ?_⟩
  have e : (!decide (V.int (ev op vals t : Nat) = V.int (ev op vals s : Nat))) = decide (ev op vals t ≠ ev op vals s) := by
    rw [Bool.eq_iff_iff, Bool.not_eq_true', decide_eq_false_iff_not, decide_eq_true_iff]
    refine ⟨fun h z => h (by rw [z]), fun h z => h ?_⟩
    have := V.int.inj z
    omega
  show Q (.bl (!decide (V.int (ev op vals t : Nat) = V.int (ev op vals s : Nat)))) H2
  rw [e]
  exact q H2 W2
end
end W7
set_option maxRecDepth 100000
set_option maxHeartbeats 4000000
/-! WI: comprehensions that make data; _law_shortened, _law_word_rows, _law_sides_turned, _law_ordered, _law_nine, _law_thirteen -/
namespace W7
open PySem PySem.Spec PyProof.Rows L2 LamX NdefX
section
variable {T : List NTab} {E : List Addr}
theorem Pen.wr {G H : Hp} {p D : Addr} {n : Nat} {o : HO} (h : Pen G H p n) (hp : p ≠ D) : Pen G (upd H D o) p n := by
  obtain ⟨c, cs, t, l, a, b, r⟩ := h
  exact ⟨c, cs, t, l, a, by rw [upd_ne hp]; exact b, r⟩
theorem Pen.there {G H : Hp} {p : Addr} {n : Nat} (h : Pen G H p n) : H p ≠ none := by
  obtain ⟨c, cs, t, l, a, b, r⟩ := h
  rw [b]
  exact fun z => nomatch z
theorem Pen.froze {G H : Hp} {p D : Addr} {n : Nat} {o : HO} (h : Pen G H p n) (hp : p ≠ D) (gD : G D = none) : Pen (upd G D o) H p n := by
  obtain ⟨c, cs, t, l, a, b, d, r⟩ := h
  exact ⟨c, cs, t, l, by rw [upd_ne hp]; exact a, b, by rw [upd_ne (ne_of_none d gD)]; exact d, r⟩
/-- the pens in E have turned at most n times -/
def Pens (E : List Addr) (G H : Hp) (n : Nat) : Prop := ∀ p ∈ E, Pen G H p n
theorem Pens.nil {G H : Hp} {n : Nat} : Pens [] G H n := fun _ h => absurd h (by simp)
theorem Pens.one {G H : Hp} {p : Addr} {n : Nat} (h : Pen G H p n) : Pens [p] G H n := fun q hq => by rw [List.mem_singleton.mp hq]; exact h
theorem Pens.get {G H : Hp} {p : Addr} {n : Nat} (h : Pens [p] G H n) : Pen G H p n := h p (by simp)
/-- a comprehension without a test, each turn makes a datum -/
theorem lcW {J : It} {n : Nat} {Gd : Hp → Prop} {Y : Nat → Hp → V → Hp → Prop} {g : TG} {te : TE} {vs : List Nat} {σ : L2.St} {G H : Hp} {Q : Addr → Hp → Prop} (w : Walk J n Gd Y) (R : Nat → V → Prop) (d : Nat → PyData) (n0 c : Nat) (hS : Same G H) (hn : n ≤ 50000)
    (hY : ∀ i H x H', Y i H x H' → H' = H ∧ R i x) (hGd : ∀ G1 H1, Gx T E G H G1 H1 → Gd H1) (p0 : Pens E G H n0)
    (hs : ∀ i x G1 H1, i < n → R i x → Gx T E G H G1 H1 → Pens E G1 H1 (n0 + c * i) → ∀ Q : VK, (∀ y G2 H2, Gx T E G1 H1 G2 H2 → Pens E G2 H2 (n0 + c * (i + 1)) → Td G2 y (d i) → Q y H2) → g x (wipe σ vs) H1 fun σ2 H2 => wipe σ2 vs = wipe σ vs ∧ te σ2 H2 Q)
    (hd : ∀ D G1 H1, Gx T E G H G1 H1 → Pens E G1 H1 (n0 + c * n) → Td G1 (.ref D) (.list ((List.range n).map d)) → Q D H1) :
    ∀ D, H D = none → ∃ W : Nat → Nat → Hp → Prop, (∃ m, W 0 m (upd H D (.lst []))) ∧ ∀ i m H, W i m H → (J.stop i H ∧ Q D H) ∨ (J.go i H ∧ ∃ Nx : Hp → Prop, (∀ H', Nx H' → ∃ m', m' < m ∧ W (i + 1) m' H') ∧ ∀ x H', J.yld i H x H' → g x (wipe σ vs) H' fun σ2 H2 => wipe σ2 vs = wipe σ vs ∧ tYes σ2 H2 fun b H3 =>
      if b = true then te σ2 H3 fun y H4 => ∃ acc, H4 D = some (.lst acc) ∧ acc.length < sizeLine ∧ Nx (upd H4 D (.lst (acc ++ [y]))) else Nx H3) := by
  intro D hD
  have gD0 : G D = none := hS.free hD
  have pD : ∀ p ∈ E, p ≠ D := fun p hp z => (p0 p hp).there (z ▸ hD)
  have nE : D ∉ E := fun z => pD D z rfl
  refine lc_it w (fun i H' => ∃ (G1 : Hp) (acc : List V), Gx T E G H G1 H' ∧ G1 D = none ∧ H' D = some (.lst acc) ∧ TdAll G1 acc ((List.range i).map d) ∧ Pens E G1 H' (n0 + c * i)) ⟨G, [], Gx.newM hS hD _, gD0, upd_same, .nil, fun p hp => (p0 p hp).wr (pD p hp)⟩
    (fun i H' _ ⟨G1, _, W, _⟩ => hGd G1 H' W) (fun i x H1 H2 hi ⟨G1, acc, W, gD, e, ta, pp⟩ y => ?_) (fun H1 ⟨G1, acc, W, gD, e, ta, pp⟩ => ?_)
  · obtain ⟨rfl, hR⟩ := hY i H1 x H2 y
    refine hs i x G1 H2 hi hR W pp _ fun z G2 H3 W2 pp2 tz => ?_
    obtain ⟨gD2, e2⟩ := W2.keepM nE gD e (fun _ z => by cases z)
    refine ⟨acc, e2, szLt (by rw [ta.length, List.length_map, List.length_range]; omega), G2, acc ++ [z], (W.trans W2).write (.inl hD) gD2 e2 True.intro, gD2, upd_same, ?_, fun p hp => (pp2 p hp).wr (pD p hp)⟩
    rw [List.range_succ, List.map_append]
    exact (ta.mono W2.g).app (.cons tz .nil)
  · refine hd D (upd G1 D (.lst acc)) H1 (Gx.freeze W.s W hD e) (fun p hp => (pp p hp).froze (pD p hp) gD) (.lst upd_same (ta.mono (same_new gD _)))
end
section
variable {T : List NTab} {E : List Addr}
/-- items of a list -/
theorem Td.items {G : Hp} {v : V} {ds : List PyData} (h : Td G v (.list ds)) : ∃ a xs, v = .ref a ∧ G a = some (.lst xs) ∧ xs.length = ds.length ∧ ∀ (i : Nat) (x : V), xs[i]? = some x → ∃ z, ds[i]? = some z ∧ Td G x z := by
  obtain ⟨a, xs, e, h1, h2⟩ := Td.list_inv h
  exact ⟨a, xs, e, h1, h2.length, fun i x q => h2.get q⟩
end
/-! ### words -/
abbrev S7 (l : List Nat) : Str := ⟨l.toArray⟩
theorem S7_cat (a b : List Nat) : S7 a ++ S7 b = S7 (a ++ b) := SX.S_cat a b
theorem S7_len (a : List Nat) : (S7 a).length = a.length := SX.S_len a
theorem S7_inj {a b : List Nat} (h : S7 a = S7 b) : a = b := SX.S_inj h
theorem S7_nil : Str.ofString "" = S7 [] := by decide +kernel
theorem S7_eqv (a b : List Nat) : PyData.eqv (.str (S7 a)) (.str (S7 b)) = decide (a = b) := by
  rw [PyData.eqv]
  exact SX.S_beq_eq
def luN : List Nat → List Nat
  | [] => []
  | x :: r => if x ∈ r then luN r else x :: luN r
def fuN (l : List Nat) : List Nat := (luN l.reverse).reverse
theorem luN_len : ∀ l : List Nat, (luN l).length ≤ l.length
  | [] => Nat.le_refl _
  | x :: r => by
    have := luN_len r
    rw [luN]
    split
    · rw [List.length_cons]; omega
    · rw [List.length_cons, List.length_cons]; omega
theorem fuN_len (l : List Nat) : (fuN l).length ≤ l.length := by
  have := luN_len l.reverse
  rw [List.length_reverse] at this
  unfold fuN
  rw [List.length_reverse]
  exact this
theorem fuN_snoc (l : List Nat) (x : Nat) : fuN (l ++ [x]) = if x ∈ l then fuN l else fuN l ++ [x] := by
  unfold fuN
  rw [List.reverse_append]
  show (luN (x :: l.reverse)).reverse = _
  rw [luN]
  simp only [List.mem_reverse]
  split
  · rfl
  · rw [List.reverse_cons]
theorem luN_mem (x : Nat) : ∀ l : List Nat, x ∈ luN l ↔ x ∈ l
  | [] => Iff.rfl
  | y :: r => by
    rw [luN]
    split
    · rename_i h
      rw [luN_mem x r, List.mem_cons]
      exact ⟨.inr, fun z => z.elim (fun e => e ▸ h) id⟩
    · rw [List.mem_cons, List.mem_cons, luN_mem x r]
theorem fuN_mem (x : Nat) (l : List Nat) : x ∈ fuN l ↔ x ∈ l := by
  unfold fuN
  rw [List.mem_reverse, luN_mem, List.mem_reverse]
/-- a word of signs with each once: way 0, where it stands first; 1, last -/
def shr (way : Int) (w : List Nat) : List Nat := if way = 0 then fuN w else luN w
abbrev sShort : Stmt := top 29
theorem sc_shortened : FnScope ["_law_word", "_law_way", "_law_found", "_law_row", "_law_sign"] ["_law_word", "_law_way"] (defScope sShort) := ⟨rfl, rfl, rfl, by decide +kernel, rfl, by decide +kernel, by decide +kernel⟩
def spShort : Sq := fun vs H Q => ∃ (w : List Nat) (way : Int), vs = [.str (S7 w), .int way] ∧ w.length ≤ 1000 ∧ Q (.str (S7 (shr way w))) H
section
variable {P : Program} {w : World} {K : PySem.W.Frag} {mg : Str → Option Value} {base : Heap} {f : Addr} {fd : FuncData} {T : List NTab}
theorem revS7 (l : List Nat) : revS (S7 l) = S7 l.reverse := rfl
theorem ok_short (B : Bn mg) (D : Dn K mg "_law_shortened" sShort ["_law_word", "_law_way"] f fd) : Fn P w K mg base 1 f fd ["_law_word", "_law_way"] spShort := by
  refine D.ok sc_shortened (fun vs H Q h => ?_) (fun cdv A outer s H vs Q hg hr _ _ h => ?_)
  · obtain ⟨u, way, rfl, _⟩ := h
    rfl
  obtain ⟨u, way, rfl, hl, q⟩ := h
  refine ⟨_,
    (pss_cons (ps_set (i := 2) sc_shortened.nd rfl (Or.inl rfl) pe_str)
    (pss_cons (ps_set (i := 3) sc_shortened.nd rfl (Or.inl rfl) (pe_ifExp (pt_cmpR op_eq (pv 1) pe_int (nomark _)) (pv 0) (pe_revS (pv 0))))
    (pss_cons (ps_for PassesOwn.never rfl (pi_str (pv 3)) (pg_name (i := 4) sc_shortened.nd rfl (Or.inl rfl))
      (pss_one (ps_set (i := 2) sc_shortened.nd rfl (Or.inl rfl) (pe_op op_add_str (pv 2) (pe_op op_repS (pv 4) (pe_callTy call_intB (by rfl) B.int b_int (pa_cons (pe_cmpR op_notIn_sign (pv 4) (pv 2) (by rfl)) pa_nil)))))))
    (pss_one (ps_ret (pe_ifExp (pt_cmpR op_eq (pv 1) pe_int (nomark _)) (pv 2) (pe_revS (pv 2)))))))), ?_⟩
  have e0 : decide (V.int way = V.int 0) = decide (way = 0) := by
    by_cases h : way = 0
    · rw [h]; rfl
    · rw [decide_eq_false h, decide_eq_false fun z => h (V.int.inj z)]
  -- the row, in either order
  have key : ∀ (r : List Nat), r.length ≤ 1000 → (∀ res : V, ((way = 0 → res = .str (S7 (fuN r))) ∧ (way ≠ 0 → res = .str (S7 (fuN r).reverse)) → Q res H)) →
      ∀ z : Str, z = S7 r → ∃ W : Nat → Nat → L2.St → Hp → Prop, (∃ m, W 0 m [some (.str (S7 u)), some (.int way), some (.str (Str.ofString "")), some (.str z), none] H) ∧ ∀ i m σ H1, W i m σ H1 →
        ((Its z).stop i H1 ∧ tRet (tIf (tTest (tOp rEq (tVar 1) (tC (.int 0)))) (tVar 2) (tRevS (tVar 2))) { nx := fun _ H' => Q .non H', rt := Q } σ H1) ∨ ((Its z).go i H1 ∧ ∃ N : L2.St → Hp → Prop, (∀ σ' H', N σ' H' → ∃ m', m' < m ∧ W (i + 1) m' σ' H') ∧ ∀ x H', (Its z).yld i H1 x H' → gName 4 x σ H' fun σ2 H2 =>
          tAsg (tOp (fun x y H Q => ∃ i j, x = .str i ∧ y = .str j ∧ i.length + j.length ≤ sizeLine ∧ Q (.str (i ++ j)) H) (tVar 2) (tOp rRepS (tVar 4) (tCB (fun xs H Q => ∃ k, xs = [.bl k] ∧ Q (.int (if k then 1 else 0)) H) (tCons (tOp rNotInS (tVar 4) (tVar 2)) tNil)))) (gName 2) { nx := N, rt := Q, ct := N, bk := tRet (tIf (tTest (tOp rEq (tVar 1) (tC (.int 0)))) (tVar 2) (tRevS (tVar 2))) { nx := fun _ H' => Q .non H', rt := Q } } σ2 H2) := by
    intro r hr' hq z hz
    subst hz
    refine for_it (D := { nx := tRet (tIf (tTest (tOp rEq (tVar 1) (tC (.int 0)))) (tVar 2) (tRevS (tVar 2))) { nx := fun _ H' => Q .non H', rt := Q }, rt := Q }) walk_str (fun i σ H' => H' = H ∧ ∃ o, σ = [some (.str (S7 u)), some (.int way), some (.str (S7 (fuN (r.take i)))), some (.str (S7 r)), o]) ⟨rfl, none, by rw [S7_nil]; rfl⟩ (fun _ _ _ _ _ => True.intro) ?_ ?_
    · rintro i x σ H1 H2 hi ⟨rfl, o, rfl⟩ ⟨rfl, c, hc, rfl⟩
      have hi' : i < r.length := by simpa using hi
      have ec : r[i] = c := by simpa [hi'] using hc
      have lt := fuN_len (r.take i)
      rw [List.length_take] at lt
      refine ⟨_, rfl, _, rfl, _, rfl, _, rfl, c, S7 (fuN (r.take i)), rfl, rfl, _, rfl, ⟨#[c]⟩, (!decide (c ∈ (S7 (fuN (r.take i))).cps.toList)), rfl, rfl, _, _, rfl, rfl, szL ?_, rfl, some (.str ⟨#[c]⟩), ?_⟩
      · rw [S7_len]
        split
        · show _ + 1 ≤ 100000
          omega
        · show _ + 0 ≤ 100000
          omega
      · have em : (decide (c ∈ (S7 (fuN (r.take i))).cps.toList)) = decide (c ∈ r.take i) := by
          rw [Bool.eq_iff_iff, decide_eq_true_iff, decide_eq_true_iff]
          exact fuN_mem c _
        rw [em, List.take_succ_eq_append_getElem hi', ec, fuN_snoc]
        by_cases hm : c ∈ r.take i
        · rw [decide_eq_true hm, if_pos hm]
          show [_, _, some (V.str (S7 (fuN (r.take i)) ++ S7 [])), _, _] = _
          rw [S7_cat, List.append_nil]
        · rw [decide_eq_false hm, if_neg hm]
          show [_, _, some (V.str (S7 (fuN (r.take i)) ++ S7 [c])), _, _] = _
          rw [S7_cat]
    · rintro σ H1 ⟨rfl, o, rfl⟩
      have el : (S7 r).cps.size = r.length := by simp
      rw [el, List.take_length]
      refine ⟨_, rfl, rfl, _, rfl, ?_⟩
      rw [e0]
      have lt := fuN_len r
      refine ite2 (fun c => ⟨_, rfl, hq _ ⟨fun _ => rfl, fun n => absurd (of_decide_eq_true c) n⟩⟩) (fun c => ⟨_, rfl, _, rfl, by rw [S7_len]; exact szL (by omega), hq _ ⟨fun y => absurd (decide_eq_true y) c, fun _ => rfl⟩⟩)
  refine ⟨_, rfl, rfl, _, rfl, ?_⟩
  rw [e0]
  refine ite2 (fun c => ?_) (fun c => ?_)
  · have c' := of_decide_eq_true c
    refine ⟨_, rfl, _, rfl, S7 u, rfl, key u hl (fun res h => ?_) _ rfl⟩
    rw [h.1 c']
    unfold shr at q
    rw [if_pos c'] at q
    exact q
  · have c' : way ≠ 0 := fun z => c (decide_eq_true z)
    refine ⟨_, rfl, _, rfl, by rw [S7_len]; exact szL (by omega), _, rfl, S7 u.reverse, rfl, key u.reverse (by rw [List.length_reverse]; exact hl) (fun res h => ?_) _ rfl⟩
    rw [h.2 c']
    unfold shr at q
    rw [if_neg c'] at q
    unfold fuN
    rw [List.reverse_reverse, List.reverse_reverse]
    exact q
end
end W7
set_option maxRecDepth 100000
set_option maxHeartbeats 4000000
/-! WJ: _law_word_rows, _law_sides_turned, _law_ordered, _law_nine, _law_thirteen -/
namespace W7
open PySem PySem.Spec PyProof.Rows L2 LamX NdefX
/-! ### the first place -/
def idx {α : Type} [DecidableEq α] (x : α) : List α → Nat
  | [] => 0
  | y :: r => if y = x then 0 else idx x r + 1
theorem idx_lt {α : Type} [DecidableEq α] {x : α} : ∀ {l : List α}, x ∈ l → idx x l < l.length
  | y :: r, h => by
    rw [idx]
    split
    · exact Nat.succ_pos _
    · rename_i n
      rcases List.mem_cons.mp h with e | e
      · exact absurd e.symm n
      · exact Nat.succ_lt_succ (idx_lt e)
theorem idx_at {α : Type} [DecidableEq α] {x : α} : ∀ {l : List α}, x ∈ l → l[idx x l]? = some x
  | y :: r, h => by
    rw [idx]
    split
    · rename_i e
      rw [e]; rfl
    · rename_i n
      rcases List.mem_cons.mp h with e | e
      · exact absurd e.symm n
      · exact idx_at e
theorem idx_first {α : Type} [DecidableEq α] {x : α} : ∀ {l : List α} {m : Nat} {y : α}, m < idx x l → l[m]? = some y → y ≠ x
  | [], m, y, _, e => by simp at e
  | z :: r, m, y, h, e => by
    rw [idx] at h
    split at h
    · exact absurd h (Nat.not_lt_zero _)
    · rename_i n
      cases m with
      | zero =>
        cases e
        exact n
      | succ m => exact idx_first (Nat.lt_of_succ_lt_succ h) e
theorem range_map {α β : Type} (f : α → β) (l : List α) (d : α) : (List.range l.length).map (fun i => f (l.getD i d)) = l.map f := by
  apply List.ext_getElem?
  intro i
  rw [List.getElem?_map, List.getElem?_map]
  by_cases h : i < l.length
  · rw [List.getElem?_range h, List.getElem?_eq_getElem h]
    show some (f (l.getD i d)) = some (f l[i])
    rw [List.getD_eq_getElem?_getD, List.getElem?_eq_getElem h]
    rfl
  · rw [List.getElem?_eq_none (by rw [List.length_range]; omega), List.getElem?_eq_none (by omega)]
    rfl
theorem getD_at {α : Type} {l : List α} {i : Nat} {d x : α} (h : l[i]? = some x) : l.getD i d = x := by
  rw [List.getD_eq_getElem?_getD, h]
  rfl
/-! ### marks of words -/
def mark (ways : List Int) (w : List Nat) : List (List Nat) := ways.map fun y => shr y w
def dM (m : List (List Nat)) : PyData := .list (m.map fun w => .str (S7 w))
theorem dM_eqvAll : ∀ a b : List (List Nat), PyData.eqvAll (a.map fun w => .str (S7 w)) (b.map fun w => .str (S7 w)) = decide (a = b)
  | [], [] => by simp [PyData.eqvAll]
  | [], _ :: _ => by simp [PyData.eqvAll]
  | _ :: _, [] => by simp [PyData.eqvAll]
  | x :: a, y :: b => by
    rw [List.map_cons, List.map_cons, PyData.eqvAll, S7_eqv, dM_eqvAll a b]
    by_cases h : x = y
    · by_cases h2 : a = b
      · simp [h, h2]
      · simp [h2]
    · simp [h]
theorem dM_eqv (a b : List (List Nat)) : PyData.eqv (dM a) (dM b) = decide (a = b) := by
  unfold dM
  rw [PyData.eqv]
  exact dM_eqvAll a b
def Lo (w : List Nat) : Prop := ∀ c ∈ w, c < 1000
theorem shr_lo {y : Int} {w : List Nat} (h : Lo w) : Lo (shr y w) := fun c hc => by
  unfold shr at hc
  split at hc
  · exact h c ((fuN_mem c w).mp hc)
  · exact h c ((luN_mem c w).mp hc)
theorem strOk7 {w : List Nat} (h : Lo w) : PyData.strOk (S7 w) = true := by
  unfold PyData.strOk
  rw [Array.all_eq_true']
  intro c hc
  have := h c (by simpa using hc)
  simp
  omega
theorem lay_strs : ∀ a : List (List Nat), (∀ w ∈ a, Lo w) → PyData.canLayAll0 (a.map fun w => .str (S7 w)) = true
  | [], _ => by simp [PyData.canLayAll0]
  | x :: a, h => by
    have h1 := strOk7 (h x (by simp))
    have h2 := lay_strs a fun w hw => h w (by simp [hw])
    rw [List.map_cons, PyData.canLayAll0, PyData.canLay0, h1, h2]
    rfl
theorem dep_strs : ∀ a : List (List Nat), PyData.depthAll (a.map fun w => .str (S7 w)) = 0
  | [] => by simp [PyData.depthAll]
  | x :: a => by simp [PyData.depthAll, PyData.depth, dep_strs a]
theorem dM_shaped {a : List (List Nat)} (h : ∀ w ∈ a, Lo w) : SeqAt.shaped (dM a) = true := by
  unfold SeqAt.shaped dM
  rw [PyData.canLay0, lay_strs a h, PyData.depth, dep_strs]
  decide
theorem lay_dMs : ∀ ms : List (List (List Nat)), (∀ a ∈ ms, ∀ w ∈ a, Lo w) → PyData.canLayAll0 (ms.map dM) = true
  | [], _ => by simp [PyData.canLayAll0]
  | x :: a, h => by
    have h1 : (dM x).canLay0 = true := by unfold dM; rw [PyData.canLay0, lay_strs x (h x (by simp))]
    have h2 := lay_dMs a fun w hw => h w (by simp [hw])
    rw [List.map_cons, PyData.canLayAll0, h1, h2]
    rfl
theorem dep_dMs : ∀ ms : List (List (List Nat)), PyData.depthAll (ms.map dM) ≤ 1
  | [] => by simp [PyData.depthAll]
  | x :: a => by
    have h : (dM x).depth = 1 := by unfold dM; rw [PyData.depth, dep_strs]
    have := dep_dMs a
    simp only [List.map_cons, PyData.depthAll, h]
    omega
theorem dMs_shaped {ms : List (List (List Nat))} (h : ∀ a ∈ ms, ∀ w ∈ a, Lo w) : SeqAt.shaped (.list (ms.map dM)) = true := by
  unfold SeqAt.shaped
  have := dep_dMs ms
  rw [PyData.canLay0, lay_dMs ms h, PyData.depth, decide_eq_true (by omega)]
  rfl
theorem mark_lo {ways : List Int} {w : List Nat} (h : Lo w) : ∀ u ∈ mark ways w, Lo u := fun u hu => by
  obtain ⟨y, _, rfl⟩ := List.mem_map.mp hu
  exact shr_lo h
theorem Lo.app {a b : List Nat} (h : Lo a) (k : Lo b) : Lo (a ++ b) := fun c hc => (List.mem_append.mp hc).elim (h c) (k c)
/-- the operation of putting words together, by their marks -/
def opW (ways : List Int) (ws : List (List Nat)) (i j : Nat) : Nat := idx (mark ways (ws.getD i [] ++ ws.getD j [])) (ws.map (mark ways))
abbrev sWordRows : Stmt := top 30
theorem sc_word_rows : FnScope ["_law_words", "_law_ways", "_law_marks", "_law_found", "_law_one", "_law_word", "_law_way", "_law_two"] ["_law_words", "_law_ways"] (defScope sWordRows) := ⟨rfl, rfl, rfl, by decide +kernel, rfl, by decide +kernel, by decide +kernel⟩
def spWordRows (T : List NTab) : Sq := fun vs H Q => ∃ (G : Hp) (a b : Addr) (ws : List (List Nat)) (ways : List Int), vs = [.ref a, .ref b] ∧ Same G H ∧ G a = some (.lst (ws.map fun w => V.str (S7 w))) ∧ G b = some (.lst (ways.map V.int)) ∧ ws.length ≤ 20 ∧ ways.length ≤ 5 ∧ (∀ w ∈ ws, w.length ≤ 20 ∧ Lo w) ∧
  (∀ i j, i < ws.length → j < ws.length → mark ways (ws.getD i [] ++ ws.getD j []) ∈ ws.map (mark ways)) ∧
  ∀ (v : V) (G' H' : Hp), Gx T [] G H G' H' → Td G' v (dRows ws.length (opW ways ws)) → Q v H'
section
variable {P : Program} {w : World} {K : PySem.W.Frag} {mg : Str → Option Value} {base : Heap} {f : Addr} {fd : FuncData} {T : List NTab}
theorem word_at {ws : List (List Nat)} {i : Nat} {x : V} (h : (ws.map fun w => V.str (S7 w))[i]? = some x) : i < ws.length ∧ x = .str (S7 (ws.getD i [])) ∧ ws.getD i [] ∈ ws := by
  rw [List.getElem?_map] at h
  cases e : ws[i]? with
  | none => rw [e] at h; cases h
  | some u =>
    rw [e] at h
    cases h
    rw [getD_at e]
    exact ⟨(List.getElem?_eq_some_iff.mp e).1, rfl, List.mem_of_getElem? e⟩
theorem int_at {ns : List Int} {i : Nat} {x : V} (h : (ns.map V.int)[i]? = some x) : i < ns.length ∧ x = .int (ns.getD i 0) := by
  rw [List.getElem?_map] at h
  cases e : ns[i]? with
  | none => rw [e] at h; cases h
  | some u =>
    rw [e] at h
    cases h
    rw [getD_at e]
    exact ⟨(List.getElem?_eq_some_iff.mp e).1, rfl⟩
theorem ok_word_rows (B : Bn mg) (D : Dn K mg "_law_word_rows" sWordRows ["_law_words", "_law_ways"] f fd) (h_shortened : Has P w K mg base 1 "_law_shortened" ["_law_word", "_law_way"] spShort) : Fn P w K mg base 2 f fd ["_law_words", "_law_ways"] (spWordRows T) := by
  refine D.ok sc_word_rows (fun vs H Q h => ?_) (fun cdv A outer s H vs Q hg hr _ _ h => ?_)
  · obtain ⟨G, a, b, ws, ways, rfl, _⟩ := h
    rfl
  obtain ⟨G, a, b, ws, ways, rfl, hS, ga, gb, lw, ly, lws, clo, q⟩ := h
  refine ⟨_,
    (pss_cons (ps_asg (pe_tup (pa_cons (pe_lc (own := [("_law_word", 5)]) rfl sc_word_rows.nd (pi_list (pv 0)) (blkOk_by (by kernel_rfl)) (fun _ _ _ _ _ => (pg_name (i := 5) sc_word_rows.nd rfl (Or.inr rfl))) (fun _ _ _ _ _ => pts_nil) (fun _ _ _ _ _ => (pe_lc (own := [("_law_way", 6)]) rfl sc_word_rows.nd (pi_list' (K := K) (pv 1)) (blkOk_by (by kernel_rfl)) (fun _ _ _ _ _ => (pg_name (i := 6) sc_word_rows.nd rfl (Or.inl rfl))) (fun _ _ _ _ _ => pts_nil) (fun _ _ _ _ _ => (pe_h h_shortened hg hr (pa_cons (pv 5) (pa_cons (pv 6) pa_nil))))))) (pa_cons (pe_lst pa_nil) pa_nil))) (pg_tup (by rfl) (pgs_cons (pg_name (i := 2) sc_word_rows.nd rfl (Or.inr rfl)) (pgs_cons (pg_name (i := 3) sc_word_rows.nd rfl (Or.inl rfl)) pgs_nil))))
    (pss_cons (ps_for PassesOwn.never rfl (pi_list (pv 0)) (pg_name (i := 4) sc_word_rows.nd rfl (Or.inr rfl))
      (pss_one (ps_expr (pe_bm PySem.F.plainAttrs_list PySem.F.slot_list_append PySem.F.type_list_append mt_append (pv 3) (pa_cons (pe_lc (own := [("_law_two", 7)]) rfl sc_word_rows.nd (pi_list (pv 0)) (blkOk_by (by kernel_rfl)) (fun _ _ _ _ _ => (pg_name (i := 7) sc_word_rows.nd rfl (Or.inr rfl))) (fun _ _ _ _ _ => pts_nil) (fun _ _ _ _ _ => (pe_bm' (K := K) PySem.F.plainAttrs_list PySem.F.slot_list_index PySem.F.type_list_index (mt_indexD' (hu65 hr) (K := K)) (pv 2) (pa_cons (pe_lc (own := [("_law_way", 6)]) rfl sc_word_rows.nd (pi_list' (K := K) (pv 1)) (blkOk_by (by kernel_rfl)) (fun _ _ _ _ _ => (pg_name (i := 6) sc_word_rows.nd rfl (Or.inl rfl))) (fun _ _ _ _ _ => pts_nil) (fun _ _ _ _ _ => (pe_h h_shortened hg hr (pa_cons (pe_op op_add_str (pv 4) (pv 7)) (pa_cons (pv 6) pa_nil))))) pa_nil)))) pa_nil)))))
    (pss_one (ps_ret (pv 3))))), ?_⟩
  have lxs : (ws.map fun w => V.str (S7 w)).length = ws.length := List.length_map _
  have lys : (ways.map V.int).length = ways.length := List.length_map _
  -- the marks
  refine ⟨_, rfl, a, rfl, ⟨_, SqL.of (hS _ _ ga)⟩, lcW (T := T) (E := []) walk_list _ (fun i => dM (mark ways (ws.getD i []))) 0 0 hS (by rw [lxs]; omega) (fun _ _ _ _ h => h) (fun G1 H1 W => SqL.of (W.s _ _ (W.g _ _ ga))) Pens.nil
    (fun i x G1 H1 hi hx W _ Q1 q1 => ?_) (fun M G1 H1 W1 _ tM => ?_)⟩
  · obtain ⟨hi', rfl, hw⟩ := word_at hx
    refine ⟨rfl, _, rfl, b, rfl, ⟨_, SqL.of (W.s _ _ (W.g _ _ gb))⟩, lcW (T := T) (E := []) walk_list _ (fun j => .str (S7 (shr (ways.getD j 0) (ws.getD i [])))) 0 0 W.s (by rw [lys]; omega) (fun _ _ _ _ h => h) (fun G2 H2 W2 => SqL.of (W2.s _ _ ((W.trans W2).g _ _ gb))) Pens.nil
      (fun j y G2 H2 hj hy W2 _ Q2 q2 => ?_) (fun D2 G2 H2 W2 _ t2 => ?_)⟩
    · obtain ⟨hj', rfl⟩ := int_at hy
      exact ⟨rfl, _, rfl, _, rfl, _, _, rfl, Nat.le_trans (lws _ hw).1 (by omega), q2 _ G2 H2 (Gx.refl W2.s) Pens.nil (.str _)⟩
    · refine q1 _ G2 H2 W2 Pens.nil ?_
      rw [lys, range_map (fun y => PyData.str (S7 (shr y (ws.getD i []))))] at t2
      unfold dM mark
      rw [List.map_map]
      exact t2
  rw [lxs, range_map (fun w => dM (mark ways w))] at tM
  refine ⟨Nat.zero_le _, fun F hF => ⟨szL (Nat.le_add_left 2 99998), fun t ht => ⟨t, _, rfl, SqT.of upd_same, rfl, _, _, rfl, _, _, rfl, rfl, ?_⟩⟩⟩
  have W2 : Gx T [] G H G1 (upd (upd H1 F (.lst [])) t (.tup [.ref M, .ref F])) := (W1.snocM hF _).snocM ht _
  have ntF : t ≠ F := fun z => by rw [z, upd_same] at ht; cases ht
  have hF2 : upd (upd H1 F (.lst [])) t (.tup [.ref M, .ref F]) F = some (.lst []) := by rw [upd_ne ntF.symm, upd_same]
  have gF : G1 F = none := W1.s.free hF
  have hF0 : H F = none := W1.u F hF
  generalize upd (upd H1 F (.lst [])) t (.tup [.ref M, .ref F]) = H2 at W2 hF2
  refine ⟨_, rfl, a, rfl, ⟨_, SqL.of (W2.s _ _ (W2.g _ _ ga))⟩, for_list (K := K) (xs := ws.map fun w => V.str (S7 w)) (fun i σ' H' => ∃ (o : Option V) (G3 : Hp) (acc : List V), σ' = [some (.ref a), some (.ref b), some (.ref M), some (.ref F), o, none, none, none] ∧ Gx T [] G H G3 H' ∧ Same G1 G3 ∧ G3 F = none ∧ H' F = some (.lst acc) ∧ TdAll G3 acc ((List.range i).map (dRow ws.length (opW ways ws))))
    ⟨none, G1, [], rfl, W2, Same.refl _, gF, hF2, .nil⟩ (fun i σ' H' _ ⟨o, G3, acc, _, W, _⟩ => SqL.of (W.s _ _ (W.g _ _ ga))) ?_ ?_⟩
  · rintro i x σ' H3 hx ⟨o, G3, acc, rfl, W3, s13, gF3, hF3, ta⟩
    obtain ⟨hi', rfl, hw⟩ := word_at hx
    refine ⟨_, rfl, .inl ⟨rfl, _, SqL.of hF3⟩, _, rfl, a, rfl, ⟨_, SqL.of (W3.s _ _ (W3.g _ _ ga))⟩, lcW (T := T) (E := []) walk_list _ (fun j => .int (opW ways ws i j : Nat)) 0 0 W3.s (by rw [lxs]; omega) (fun _ _ _ _ h => h) (fun G4 H4 W4 => SqL.of (W4.s _ _ ((W3.trans W4).g _ _ ga))) Pens.nil
      (fun j y G4 H4 hj hy W4 _ Q4 q4 => ?_) (fun R G4 H4 W4 _ t4 => ?_)⟩
    · obtain ⟨hj', rfl, hw2⟩ := word_at hy
      have tM4 := tM.mono (s13.trans W4.g)
      obtain ⟨M', xs, eM, hM, _⟩ := Td.list_inv tM4
      cases eM
      refine ⟨rfl, _, rfl, .inl ⟨rfl, _, SqL.of (W4.s _ _ hM)⟩, _, rfl, b, rfl, ⟨_, SqL.of (W4.s _ _ ((W3.trans W4).g _ _ gb))⟩, lcW (T := T) (E := []) walk_list _ (fun k => .str (S7 (shr (ways.getD k 0) (ws.getD i [] ++ ws.getD j [])))) 0 0 W4.s (by rw [lys]; omega) (fun _ _ _ _ h => h) (fun G5 H5 W5 => SqL.of (W5.s _ _ (((W3.trans W4).trans W5).g _ _ gb))) Pens.nil
        (fun k z G5 H5 hk hz W5 _ Q5 q5 => ?_) (fun D5 G5 H5 W5 _ t5 => ?_)⟩
      · obtain ⟨hk', rfl⟩ := int_at hz
        have l1 := (lws _ hw).1
        have l2 := (lws _ hw2).1
        exact ⟨rfl, _, rfl, _, rfl, _, _, rfl, rfl, szL (by rw [S7_len, S7_len]; omega), _, rfl, _, _, by rw [S7_cat], by rw [List.length_append]; omega, q5 _ G5 H5 (Gx.refl W5.s) Pens.nil (.str _)⟩
      · rw [lys, range_map (fun y => PyData.str (S7 (shr y (ws.getD i [] ++ ws.getD j []))))] at t5
        have t5' : Td G5 (.ref D5) (dM (mark ways (ws.getD i [] ++ ws.getD j []))) := by
          unfold dM mark
          rw [List.map_map]
          exact t5
        have hmem := clo i j hi' hj'
        have e1 : ws.map (fun w => dM (mark ways w)) = (ws.map (mark ways)).map dM := by rw [List.map_map]; rfl
        have tM5 := (tM4.mono W5.g).mono W5.s
        rw [e1] at tM5
        refine ⟨M, .ref D5, dM (mark ways (ws.getD i [] ++ ws.getD j [])), (ws.map (mark ways)).map dM, opW ways ws i j, dM (mark ways (ws.getD i [] ++ ws.getD j [])), rfl, rfl, tM5.dp, (t5'.mono W5.s).dp, dMs_shaped ?_, dM_shaped (mark_lo ((lws _ hw).2.app (lws _ hw2).2)), ?_, ?_, fun m z' hm hz' => ?_, q4 _ G5 H5 W5 Pens.nil (.int _)⟩
        · intro b hb
          obtain ⟨w2, hw2', rfl⟩ := List.mem_map.mp hb
          exact mark_lo (lws _ hw2').2
        · rw [List.getElem?_map]
          show Option.map dM (ws.map (mark ways))[idx (mark ways (ws.getD i [] ++ ws.getD j [])) (ws.map (mark ways))]? = _
          rw [idx_at hmem]
          rfl
        · rw [dM_eqv]; simp
        · rw [List.getElem?_map] at hz'
          cases e : (ws.map (mark ways))[m]? with
          | none => rw [e] at hz'; cases hz'
          | some u =>
            rw [e] at hz'
            cases hz'
            rw [dM_eqv, decide_eq_false (idx_first hm e)]
    · obtain ⟨gF4, hF4⟩ := W4.keepM (by simp) gF3 hF3 (fun _ z => by cases z)
      rw [lxs] at t4
      refine ⟨F, _, _, rfl, rfl, hF4, szLt (by rw [ta.length, List.length_map, List.length_range]; omega), _, G4, acc ++ [.ref R], rfl, (W3.trans W4).write (.inl hF0) gF4 hF4 True.intro, s13.trans W4.g, gF4, upd_same, ?_⟩
      rw [List.range_succ, List.map_append]
      exact (ta.mono W4.g).app (.cons t4 .nil)
  · rintro σ' H3 ⟨o, G3, acc, rfl, W3, s13, gF3, hF3, ta⟩
    rw [lxs] at ta
    exact ⟨_, rfl, q _ _ H3 (Gx.freeze W3.s W3 hF0 hF3) (.lst upd_same (ta.mono (same_new gF3 _)))⟩
end
abbrev sSides : Stmt := top 32
abbrev sOrdered : Stmt := top 35
theorem sc_sides_turned : FnScope ["_law_pen_here", "_law_part", "_law_left", "_law_right"] ["_law_pen_here", "_law_part"] (defScope sSides) := ⟨rfl, rfl, rfl, by decide +kernel, rfl, by decide +kernel, by decide +kernel⟩
theorem sc_ordered : FnScope ["_law_tree", "_law_left", "_law_right"] ["_law_tree"] (defScope sOrdered) := ⟨rfl, rfl, rfl, by decide +kernel, rfl, by decide +kernel, by decide +kernel⟩
def spSides (T : List NTab) (m : Nat) : Sq := fun vs H Q => ∃ (G : Hp) (p : Addr) (n : Nat) (v : V) (t : Tr), vs = [.ref p, v] ∧ Same G H ∧ Pen G H p n ∧ n + t.wt < 1000000 ∧ Td G v t.d ∧ t.ht < m ∧
  ∀ (a : V) (u : Tr) (G' H' : Hp), u.lets.Perm t.lets → Gx T [p] G H G' H' → Pen G' H' p (n + t.wt) → Td G' a u.d → Q a H'
def spOrdered (T : List NTab) (n : Nat) : Sq := spWs T n
section
variable {P : Program} {w : World} {K : PySem.W.Frag} {mg : Str → Option Value} {base : Heap} {f : Addr} {fd : FuncData} {T : List NTab}
theorem ok_sides (B : Bn mg) (D : Dn K mg "_law_sides_turned" sSides ["_law_pen_here", "_law_part"] f fd) (h_draw : Has P w K mg base 1 "_law_draw" ["_law_pen_here", "_law_span"] (spDraw T)) : ∀ m : Nat, Fn P w K mg base (m + 1) f fd ["_law_pen_here", "_law_part"] (spSides T m)
  | 0 => (fn_none fun vs H Q h => by
    obtain ⟨_, _, _, _, _, _, _, _, _, _, h, _⟩ := h
    exact absurd h (Nat.not_lt_zero _)).mono (Nat.zero_le _)
  | m + 1 => by
    have h_sides_turned := Has.mk' D (ok_sides B D h_draw m)
    refine D.ok sc_sides_turned (fun vs H Q h => ?_) (fun cdv A outer s H vs Q hg hr _ _ h => ?_)
    · obtain ⟨G, p, n, v, t, rfl, _⟩ := h
      rfl
    obtain ⟨G, p, n, v, t, rfl, hS, pen, hn, tv, hh, q⟩ := h
    refine ⟨_,
      (pss_cons (ps_if (pt_not (pt_val (pe_callB call_isTup (by rfl) B.isinstance b_isinstance (pa_cons (pv 1) (pa_cons (pe_bltn (v := .ty "tuple") (by rfl) B.tuple b_tuple rfl) pa_nil))))) (pss_one (ps_ret (pv 1)))
      pss_nil)
    (pss_cons (ps_par (i := 2) (j := 3) rfl sc_sides_turned.nd rfl rfl (by decide) rfl rfl (pa_cons (pe_h h_sides_turned hg hr (pa_cons (pv 0) (pa_cons (pe_ix ix_tup (pv 1) pe_int (fun _ _ => rfl)) pa_nil))) (pa_cons (pe_h h_sides_turned hg hr (pa_cons (pv 0) (pa_cons (pe_ix ix_tup (pv 1) pe_int (fun _ _ => rfl)) pa_nil))) pa_nil)) (by rfl))
    (pss_one (ps_ret (pe_ifExp (pt_cmpR op_eq (pe_h h_draw hg hr (pa_cons (pv 0) (pa_cons pe_int pa_nil))) pe_int (nomark _)) (pe_tup (pa_cons (pv 2) (pa_cons (pv 3) pa_nil))) (pe_tup (pa_cons (pv 3) (pa_cons (pv 2) pa_nil)))))))), ?_⟩
    refine ⟨_, rfl, v, t.d, rfl, tv.mono hS, _, rfl, ?_⟩
    cases t with
    | lf x =>
      cases lf_td tv
      exact iteT ⟨_, rfl, q _ (.lf x) G H (.refl _) (Gx.refl hS) (pen.more (Nat.le_add_right _ _)) (.int x)⟩
    | nd a b =>
      obtain ⟨k, x, y, rfl, hk, tx, ty⟩ := nd_td tv
      have hk' := hS _ _ hk
      obtain ⟨ha, hb⟩ := ht_nd hh
      have hn : n + (a.wt + b.wt + 1) < 1000000 := hn
      refine iteF ⟨_, rfl, _, rfl, k, _, _, x, rfl, rfl, SqT.of hk', rfl, G, p, n, x, a, rfl, hS, pen, by omega, tx, ha, fun v1 u1 G1 H1 pm1 W1 pen1 e1 => ?_⟩
      refine ⟨_, rfl, _, rfl, k, _, _, y, rfl, rfl, SqT.of (W1.s _ _ (W1.g _ _ hk)), rfl, G1, p, n + a.wt, y, b, rfl, W1.s, pen1, by omega, ty.mono W1.g, hb, fun v2 u2 G2 H2 pm2 W2 pen2 e2 => ?_⟩
      refine ⟨_, _, rfl, ?_⟩
      refine ⟨_, rfl, G2, p, _, 2, rfl, W2.s, pen2, by omega, by omega, by omega, fun j H3 hj W3 pen3 => ⟨rfl, _, rfl, ?_⟩⟩
      have W13 := (W1.trans W2).trans W3
      have hn' : n + a.wt + b.wt + 1 = n + (Tr.nd a b).wt := by show _ = n + (a.wt + b.wt + 1); omega
      rw [hn'] at pen3
      refine ite2 (fun _ => ?_) (fun _ => ?_)
      · refine ⟨_, rfl, _, rfl, szL (Nat.le_add_left 2 99998), fun z hz => ?_⟩
        obtain ⟨G4, W4, s4, g4⟩ := W13.al hz (.tup [v1, v2])
        exact q _ (.nd u1 u2) G4 _ (pm1.append pm2) W4 (pen3.keep s4 (by simp)) (.tup g4 (.cons (e1.mono (W2.g.trans s4.g)) (.cons (e2.mono s4.g) .nil)))
      · refine ⟨_, rfl, _, rfl, szL (Nat.le_add_left 2 99998), fun z hz => ?_⟩
        obtain ⟨G4, W4, s4, g4⟩ := W13.al hz (.tup [v2, v1])
        exact q _ (.nd u2 u1) G4 _ ((pm2.append pm1).trans List.perm_append_comm) W4 (pen3.keep s4 (by simp)) (.tup g4 (.cons (e2.mono s4.g) (.cons (e1.mono (W2.g.trans s4.g)) .nil)))
theorem ok_ordered (B : Bn mg) (D : Dn K mg "_law_ordered" sOrdered ["_law_tree"] f fd) : ∀ n : Nat, Fn P w K mg base (n + 1) f fd ["_law_tree"] (spWs T n)
  | 0 => (fn_none fun vs H Q h => by
    obtain ⟨_, _, _, _, _, _, h, _⟩ := h
    exact absurd h (Nat.not_lt_zero _)).mono (Nat.zero_le _)
  | n + 1 => by
    have h_ordered := Has.mk' D (ok_ordered B D n)
    refine D.ok sc_ordered (fun vs H Q h => ?_) (fun cdv A outer s H vs Q hg hr _ _ h => ?_)
    · obtain ⟨G, v, t, rfl, _⟩ := h
      rfl
    obtain ⟨G, v, t, rfl, hS, tv, hh, ok, hl, q⟩ := h
    refine ⟨_,
      (pss_cons (ps_if (pt_not (pt_val (pe_callB call_isTup (by rfl) B.isinstance b_isinstance (pa_cons (pv 0) (pa_cons (pe_bltn (v := .ty "tuple") (by rfl) B.tuple b_tuple rfl) pa_nil))))) (pss_one (ps_ret (pv 0)))
      pss_nil)
    (pss_cons (ps_par (i := 1) (j := 2) rfl sc_ordered.nd rfl rfl (by decide) rfl rfl (pa_cons (pe_h h_ordered hg hr (pa_cons (pe_ix ix_tup (pv 0) pe_int (fun _ _ => rfl)) pa_nil)) (pa_cons (pe_h h_ordered hg hr (pa_cons (pe_ix ix_tup (pv 0) pe_int (fun _ _ => rfl)) pa_nil)) pa_nil)) (by rfl))
    (pss_one (ps_ret (pe_ifExp (pt_cmpR op_le_str (pe_callB (call_reprD hg hr.units) (by rfl) B.repr b_repr (pa_cons (pv 1) pa_nil)) (pe_callB (call_reprD hg hr.units) (by rfl) B.repr b_repr (pa_cons (pv 2) pa_nil)) (nomark _)) (pe_tup (pa_cons (pv 1) (pa_cons (pv 2) pa_nil))) (pe_tup (pa_cons (pv 2) (pa_cons (pv 1) pa_nil)))))))), ?_⟩
    refine ⟨_, rfl, v, t.d, rfl, tv.mono hS, _, rfl, ?_⟩
    cases t with
    | lf n =>
      cases lf_td tv
      exact iteT ⟨_, rfl, q _ G H (Gx.refl hS) (.int n)⟩
    | nd a b =>
      obtain ⟨k, x, y, rfl, hk, tx, ty⟩ := nd_td tv
      have hk' := hS _ _ hk
      obtain ⟨ha, hb⟩ := ht_nd hh
      rw [len_nd] at hl
      refine iteF ⟨_, rfl, k, _, _, x, rfl, rfl, SqT.of hk', rfl, G, x, a, rfl, hS, tx, ha, ok.nd.1, by omega, fun v1 G1 H1 W1 e1 => ?_⟩
      refine ⟨_, rfl, k, _, _, y, rfl, rfl, SqT.of (W1.s _ _ (W1.g _ _ hk)), rfl, G1, y, b, rfl, W1.s, ty.mono W1.g, hb, ok.nd.2, by omega, fun v2 G2 H2 W2 e2 => ?_⟩
      refine ⟨_, _, rfl, ?_⟩
      have oa := ws_ok ok.nd.1
      have ob := ws_ok ok.nd.2
      have la := ws_len a
      have lb := ws_len b
      have e1' := (e1.mono W2.g).mono W2.s
      have e2' := e2.mono W2.s
      have W := W1.trans W2
      refine ⟨_, rfl, v1, a.ws.d, rfl, e1', shw oa (by omega), _, rfl, v2, b.ws.d, rfl, e2', shw ob (by omega), _, _, rfl, rfl, _, rfl, ?_⟩
      have q : ∀ (v : V) (G' H' : Hp), Gx T [] G H G' H' → Td G' v (pairT a.ws b.ws).d → Q v H' := q
      unfold pairT at q
      refine ite2 (fun c => ?_) (fun c => ?_)
      · rw [if_neg (show ¬ b.ws.sh < a.ws.sh from fun z => by
          have c' : (!decide (b.ws.sh < a.ws.sh)) = true := c
          rw [decide_eq_true z] at c'
          cases c')] at q
        refine ⟨_, rfl, _, rfl, szL (Nat.le_add_left 2 99998), fun z hz => ?_⟩
        obtain ⟨G4, W4, s4, g4⟩ := W.al hz (.tup [v1, v2])
        exact q _ _ _ W4 (.tup g4 (.cons (e1.mono (W2.g.trans s4.g)) (.cons (e2.mono s4.g) .nil)))
      · rw [if_pos (show b.ws.sh < a.ws.sh from Classical.byContradiction fun z => c (by
          show (!decide (b.ws.sh < a.ws.sh)) = true
          rw [decide_eq_false z]; rfl))] at q
        refine ⟨_, rfl, _, rfl, szL (Nat.le_add_left 2 99998), fun z hz => ?_⟩
        obtain ⟨G4, W4, s4, g4⟩ := W.al hz (.tup [v2, v1])
        exact q _ _ _ W4 (.tup g4 (.cons (e2.mono s4.g) (.cons (e1.mono (W2.g.trans s4.g)) .nil)))
end
end W7
set_option maxRecDepth 100000
set_option maxHeartbeats 4000000
/-! WK: pure parts by their value; data made of parts; _law_nine, _law_thirteen, _law_values_all, _law_twisted_rows -/
namespace W7
open PySem PySem.Spec PyProof.Rows L2 LamX NdefX
/-- o[i] = v where o is a dict -/
def rSetDK : V → V → V → Hp → (Hp → Prop) → Prop := fun o i v H Q => ∃ (a : Addr) (H4 : Hp), o = .ref a ∧ DPut H a i v H4 ∧ Q H4
theorem set_dK {X : Cx} (hu : X.A.units + 1 < cLine) : PSet X rSetDK := by
  intro pins s σ H o i v ov iv u Q I ro ri rv h
  obtain ⟨a, H4, rfl, g, q⟩ := h
  obtain rfl : ov = Value.ref a := ro
  exact d_setItem hu I g ri rv fun s4 I4 => ⟨H4, I4, q⟩
/-- a part that leaves the heap, by its value -/
def tVal (te : TE) : TE := fun σ H Q => ∃ v : V, te σ H (fun x H' => x = v ∧ H' = H) ∧ Q v H
theorem pe_val {X : Cx} {e : Expr} {te : TE} (h : PE X e te) : PE X e (tVal te) := by
  refine ⟨fun pins s σ H Q I ⟨v, h1, q⟩ => ?_⟩
  refine thn (h.run pins s σ H _ I h1) fun u s1 ⟨x, H1, I1, r1, e1, e2⟩ => ?_
  subst e1 e2
  exact ⟨x, H1, I1, r1, q⟩
/-! ### data made of parts -/
def Mk (T : List NTab) (G0 : Hp) (σ : L2.St) (te : TE) (d : PyData) : Prop := ∀ (G H : Hp), Same G H → Same G0 G → ∀ Q : VK, (∀ v G' H', Gx T [] G H G' H' → Td G' v d → Q v H') → te σ H Q
def Mks (T : List NTab) (G0 : Hp) (σ : L2.St) (ta : TA) (ds : List PyData) : Prop := ∀ (G H : Hp), Same G H → Same G0 G → ∀ Q : List V → Hp → Prop, (∀ vs G' H', Gx T [] G H G' H' → TdAll G' vs ds → Q vs H') → ta σ H Q
section
variable {T : List NTab} {G0 : Hp} {σ : L2.St} {te tf : TE} {ta : TA} {d : PyData} {ds es : List PyData}
theorem Mk.s {x : Str} : Mk T G0 σ (tC (.str x)) (.str x) := fun G H hS _ Q q => q _ G H (Gx.refl hS) (.str x)
theorem Mk.i {x : Int} : Mk T G0 σ (tC (.int x)) (.int x) := fun G H hS _ Q q => q _ G H (Gx.refl hS) (.int x)
theorem Mk.v {i : Nat} {v : V} (e : σ[i]? = some (some v)) (t : Td G0 v d) : Mk T G0 σ (tVar i) d := fun G H hS h0 Q q => ⟨v, e, q _ G H (Gx.refl hS) (t.mono h0)⟩
theorem Mks.n : Mks T G0 σ tNil [] := fun G H hS _ Q q => q _ G H (Gx.refl hS) .nil
theorem Mks.c (h : Mk T G0 σ te d) (k : Mks T G0 σ ta ds) : Mks T G0 σ (tCons te ta) (d :: ds) := fun G H hS h0 Q q =>
  h G H hS h0 _ fun v G1 H1 W1 t1 => k G1 H1 W1.s (h0.trans W1.g) _ fun vs G2 H2 W2 t2 => q (v :: vs) G2 H2 (W1.trans W2) (.cons (t1.mono W2.g) t2)
theorem Mk.l (k : Mks T G0 σ ta ds) (hl : ds.length ≤ 100000) : Mk T G0 σ (tLst ta) (.list ds) := fun G H hS h0 Q q =>
  k G H hS h0 _ fun vs G1 H1 W1 t1 => ⟨szL (by rw [t1.length]; exact hl), fun p hp => by
    obtain ⟨G2, W2, s2, g2⟩ := W1.al hp (.lst vs)
    exact q _ G2 _ W2 (.lst g2 (t1.mono s2.g))⟩
theorem Mk.t (k : Mks T G0 σ ta ds) (hl : ds.length ≤ 100000) : Mk T G0 σ (tTup ta) (.tuple ds) := fun G H hS h0 Q q =>
  k G H hS h0 _ fun vs G1 H1 W1 t1 => ⟨szL (by rw [t1.length]; exact hl), fun p hp => by
    obtain ⟨G2, W2, s2, g2⟩ := W1.al hp (.tup vs)
    exact q _ G2 _ W2 (.tup g2 (t1.mono s2.g))⟩
theorem Mk.a (h : Mk T G0 σ te (.list ds)) (k : Mk T G0 σ tf (.list es)) (hl : ds.length + es.length ≤ 100000) : Mk T G0 σ (tOp rCat te tf) (.list (ds ++ es)) := fun G H hS h0 Q q =>
  h G H hS h0 _ fun v G1 H1 W1 t1 => k G1 H1 W1.s (h0.trans W1.g) _ fun u G2 H2 W2 t2 => by
    obtain ⟨a, xs, rfl, ha, tx⟩ := t1.list_inv
    obtain ⟨b, ys, rfl, hb, ty⟩ := t2.list_inv
    refine ⟨a, b, xs, ys, rfl, rfl, W2.s _ _ (W2.g _ _ ha), W2.s _ _ hb, szL (by rw [tx.length, ty.length]; exact hl), fun p hp => ?_⟩
    obtain ⟨G3, W3, s3, g3⟩ := (W1.trans W2).al hp (.lst (xs ++ ys))
    exact q _ G3 _ W3 (.lst g3 (((tx.mono W2.g).mono s3.g).app (ty.mono s3.g)))
theorem as_mk {b : TS} {D : Ends} {i : Nat} {G H : Hp} (m : Mk T G0 σ te d) (hS : Same G H) (h0 : Same G0 G) (h : ∀ v G' H', Gx T [] G H G' H' → Td G' v d → b D (σ.set i (some v)) H') : tSeq (tAsg te (gName i)) b D σ H := m G H hS h0 _ h
theorem rt_mk {D : Ends} {G H : Hp} (m : Mk T G0 σ te d) (hS : Same G H) (h0 : Same G0 G) (h : ∀ v G' H', Gx T [] G H G' H' → Td G' v d → D.rt v H') : tRet te D σ H := m G H hS h0 _ h
end
abbrev sNine : Stmt := top 27
abbrev sThirteen : Stmt := top 28
theorem sc_nine : FnScope [] [] (defScope sNine) := ⟨rfl, rfl, rfl, by decide +kernel, rfl, by decide +kernel, by decide +kernel⟩
theorem sc_thirteen : FnScope ["_law_high", "_law_found"] [] (defScope sThirteen) := ⟨rfl, rfl, rfl, by decide +kernel, rfl, by decide +kernel, by decide +kernel⟩
def dStrs (l : List Str) : PyData := .list (l.map .str)
def nine : List Str := ["grouping", "order", "middle", "first", "last", "ends", "keep", "take", "vanish"]
def spNine (T : List NTab) : Sq := fun vs H Q => ∃ G : Hp, vs = [] ∧ Same G H ∧ ∀ (v : V) (G' H' : Hp), Gx T [] G H G' H' → Td G' v (dStrs nine) → Q v H'
/-- a kind and its rules -/
def dKind (rs : Kd → PyData) (k : Kd) : PyData := .tuple [.str k.nm, rs k]
def spThirteen (T : List NTab) : Sq := fun vs H Q => ∃ G : Hp, vs = [] ∧ Same G H ∧ ∀ (v : V) (rs : Kd → PyData) (G' H' : Hp), Gx T [] G H G' H' → Td G' v (.list (Kd.all.map (dKind rs))) → Q v H'
def ruls : Kd → PyData
  | .trees => dStrs [] | .pairs => dStrs ["order"] | .words => dStrs ["grouping"] | .bags => dStrs ["grouping", "order"] | .parity => dStrs ["grouping", "order", "vanish"]
  | .middles => dStrs ["grouping", "middle"] | .heads => dStrs ["grouping", "middle", "first"] | .tails => dStrs ["grouping", "middle", "last"] | .sets => dStrs ["grouping", "order", "middle", "first", "last"]
  | .outer => dStrs ["grouping", "middle", "ends"] | .lefts => dStrs ["grouping", "middle", "first", "ends", "keep"] | .rights => dStrs ["grouping", "middle", "last", "ends", "take"] | .one => dStrs nine
section
variable {P : Program} {w : World} {K : PySem.W.Frag} {mg : Str → Option Value} {base : Heap} {f : Addr} {fd : FuncData} {T : List NTab}
theorem mk_strs {G0 : Hp} {σ : L2.St} {ta : TA} {l : List Str} (h : Mks T G0 σ ta (l.map .str)) (hl : l.length ≤ 100000) : Mk T G0 σ (tLst ta) (dStrs l) := Mk.l h (by rw [List.length_map]; exact hl)
theorem ok_nine (B : Bn mg) (D : Dn K mg "_law_nine" sNine [] f fd) : Fn P w K mg base 1 f fd [] (spNine T) := by
  refine D.ok sc_nine (fun vs H Q h => ?_) (fun cdv A outer s H vs Q hg hr _ _ h => ?_)
  · obtain ⟨G, rfl, _⟩ := h
    rfl
  obtain ⟨G, rfl, hS, q⟩ := h
  refine ⟨_,
    (pss_one (ps_ret (pe_lst (pa_cons pe_str (pa_cons pe_str (pa_cons pe_str (pa_cons pe_str (pa_cons pe_str (pa_cons pe_str (pa_cons pe_str (pa_cons pe_str (pa_cons pe_str pa_nil)))))))))))), ?_⟩
  exact rt_mk (T := T) (G0 := G) (mk_strs (l := nine) (.c .s (.c .s (.c .s (.c .s (.c .s (.c .s (.c .s (.c .s (.c .s .n))))))))) (by decide)) hS (Same.refl G) fun v G1 H1 W t => q v G1 H1 W t
theorem ok_thirteen (B : Bn mg) (D : Dn K mg "_law_thirteen" sThirteen [] f fd) (h_nine : Has P w K mg base 1 "_law_nine" [] (spNine T)) : Fn P w K mg base 2 f fd [] (spThirteen T) := by
  refine D.ok sc_thirteen (fun vs H Q h => ?_) (fun cdv A outer s H vs Q hg hr _ _ h => ?_)
  · obtain ⟨G, rfl, _⟩ := h
    rfl
  obtain ⟨G, rfl, hS, q⟩ := h
  refine ⟨_,
    (pss_cons (ps_set (i := 0) sc_thirteen.nd rfl (Or.inl rfl) (pe_lst (pa_cons pe_str (pa_cons pe_str pa_nil))))
    (pss_cons (ps_set (i := 1) sc_thirteen.nd rfl (Or.inl rfl) (pe_lst (pa_cons (pe_tup (pa_cons pe_str (pa_cons (pe_lst pa_nil) pa_nil))) (pa_cons (pe_tup (pa_cons pe_str (pa_cons (pe_lst (pa_cons pe_str pa_nil)) pa_nil))) (pa_cons (pe_tup (pa_cons pe_str (pa_cons (pe_lst (pa_cons pe_str pa_nil)) pa_nil))) (pa_cons (pe_tup (pa_cons pe_str (pa_cons (pe_lst (pa_cons pe_str (pa_cons pe_str pa_nil))) pa_nil))) pa_nil))))))
    (pss_cons (ps_set (i := 1) sc_thirteen.nd rfl (Or.inl rfl) (pe_op op_cat (pv 1) (pe_lst (pa_cons (pe_tup (pa_cons pe_str (pa_cons (pe_lst (pa_cons pe_str (pa_cons pe_str (pa_cons pe_str pa_nil)))) pa_nil))) (pa_cons (pe_tup (pa_cons pe_str (pa_cons (pv 0) pa_nil))) (pa_cons (pe_tup (pa_cons pe_str (pa_cons (pe_op op_cat (pv 0) (pe_lst (pa_cons pe_str pa_nil))) pa_nil))) pa_nil))))))
    (pss_cons (ps_set (i := 1) sc_thirteen.nd rfl (Or.inl rfl) (pe_op op_cat (pv 1) (pe_lst (pa_cons (pe_tup (pa_cons pe_str (pa_cons (pe_op op_cat (pv 0) (pe_lst (pa_cons pe_str pa_nil))) pa_nil))) (pa_cons (pe_tup (pa_cons pe_str (pa_cons (pe_lst (pa_cons pe_str (pa_cons pe_str (pa_cons pe_str (pa_cons pe_str (pa_cons pe_str pa_nil)))))) pa_nil))) pa_nil)))))
    (pss_cons (ps_set (i := 1) sc_thirteen.nd rfl (Or.inl rfl) (pe_op op_cat (pv 1) (pe_lst (pa_cons (pe_tup (pa_cons pe_str (pa_cons (pe_op op_cat (pv 0) (pe_lst (pa_cons pe_str pa_nil))) pa_nil))) (pa_cons (pe_tup (pa_cons pe_str (pa_cons (pe_op op_cat (pv 0) (pe_lst (pa_cons pe_str (pa_cons pe_str (pa_cons pe_str pa_nil))))) pa_nil))) pa_nil)))))
    (pss_one (ps_ret (pe_op op_cat (pv 1) (pe_lst (pa_cons (pe_tup (pa_cons pe_str (pa_cons (pe_op op_cat (pv 0) (pe_lst (pa_cons pe_str (pa_cons pe_str (pa_cons pe_str pa_nil))))) pa_nil))) (pa_cons (pe_tup (pa_cons pe_str (pa_cons (pe_h0 h_nine hg hr) pa_nil))) pa_nil))))))))))), ?_⟩
  refine as_mk (T := T) (G0 := G) (mk_strs (l := ["grouping", "middle"]) (.c .s (.c .s .n)) (by decide)) hS (Same.refl G) fun v0 G1 H1 W1 t0 => ?_
  refine as_mk (Mk.l (G0 := G) (T := T) (ds := [dKind ruls .trees, dKind ruls .pairs, dKind ruls .words, dKind ruls .bags]) (.c (.t (.c .s (.c (mk_strs (l := []) .n (by decide)) .n)) (by decide)) (.c (.t (.c .s (.c (mk_strs (l := ["order"]) (.c .s .n) (by decide)) .n)) (by decide))
    (.c (.t (.c .s (.c (mk_strs (l := ["grouping"]) (.c .s .n) (by decide)) .n)) (by decide)) (.c (.t (.c .s (.c (mk_strs (l := ["grouping", "order"]) (.c .s (.c .s .n)) (by decide)) .n)) (by decide)) .n)))) (by simp)) W1.s W1.g fun v1 G2 H2 W2 t1 => ?_
  refine as_mk (Mk.a (G0 := G2) (T := T) (ds := [dKind ruls .trees, dKind ruls .pairs, dKind ruls .words, dKind ruls .bags]) (es := [dKind ruls .parity, dKind ruls .middles, dKind ruls .heads]) (.v rfl t1) (.l (.c (.t (.c .s (.c (mk_strs (l := ["grouping", "order", "vanish"]) (.c .s (.c .s (.c .s .n))) (by decide)) .n)) (by decide))
    (.c (.t (.c .s (.c (.v rfl (t0.mono W2.g)) .n)) (by decide)) (.c (.t (.c .s (.c (.a (.v rfl (t0.mono W2.g)) (mk_strs (l := ["first"]) (.c .s .n) (by decide)) (by decide)) .n)) (by decide)) .n))) (by simp)) (by simp)) W2.s (Same.refl _) fun v2 G3 H3 W3 t2 => ?_
  refine as_mk (Mk.a (G0 := G3) (T := T) (ds := [dKind ruls .trees, dKind ruls .pairs, dKind ruls .words, dKind ruls .bags] ++ [dKind ruls .parity, dKind ruls .middles, dKind ruls .heads]) (es := [dKind ruls .tails, dKind ruls .sets]) (.v rfl t2) (.l (.c (.t (.c .s (.c (.a (.v rfl (t0.mono (W2.g.trans W3.g))) (mk_strs (l := ["last"]) (.c .s .n) (by decide)) (by decide)) .n)) (by decide))
    (.c (.t (.c .s (.c (mk_strs (l := ["grouping", "order", "middle", "first", "last"]) (.c .s (.c .s (.c .s (.c .s (.c .s .n))))) (by decide)) .n)) (by decide)) .n)) (by simp)) (by simp)) W3.s (Same.refl _) fun v3 G4 H4 W4 t3 => ?_
  have t04 := t0.mono ((W2.g.trans W3.g).trans W4.g)
  refine as_mk (Mk.a (G0 := G4) (T := T) (ds := [dKind ruls .trees, dKind ruls .pairs, dKind ruls .words, dKind ruls .bags] ++ [dKind ruls .parity, dKind ruls .middles, dKind ruls .heads] ++ [dKind ruls .tails, dKind ruls .sets]) (es := [dKind ruls .outer, dKind ruls .lefts]) (.v rfl t3) (.l (.c (.t (.c .s (.c (.a (.v rfl t04) (mk_strs (l := ["ends"]) (.c .s .n) (by decide)) (by decide)) .n)) (by decide))
    (.c (.t (.c .s (.c (.a (.v rfl t04) (mk_strs (l := ["first", "ends", "keep"]) (.c .s (.c .s (.c .s .n))) (by decide)) (by decide)) .n)) (by decide)) .n)) (by simp)) (by simp)) W4.s (Same.refl _) fun v4 G5 H5 W5 t4 => ?_
  have t05 := t04.mono W5.g
  have mk9 : ∀ σ, Mk T G5 σ (tFn (spNine T) tNil) (dStrs nine) := fun σ G H hS _ Q q => ⟨G, rfl, hS, fun v G' H' W t => q v G' H' W t⟩
  refine rt_mk (Mk.a (G0 := G5) (T := T) (ds := [dKind ruls .trees, dKind ruls .pairs, dKind ruls .words, dKind ruls .bags] ++ [dKind ruls .parity, dKind ruls .middles, dKind ruls .heads] ++ [dKind ruls .tails, dKind ruls .sets] ++ [dKind ruls .outer, dKind ruls .lefts]) (es := [dKind ruls .rights, dKind ruls .one]) (.v rfl t4) (.l (.c (.t (.c .s (.c (.a (.v rfl t05) (mk_strs (l := ["last", "ends", "take"]) (.c .s (.c .s (.c .s .n))) (by decide)) (by decide)) .n)) (by decide))
    (.c (.t (.c .s (.c (mk9 _) .n)) (by decide)) .n)) (by simp)) (by simp)) W5.s (Same.refl _) fun v5 G6 H6 W6 t5 => ?_
  exact q v5 ruls G6 H6 (((((W1.trans W2).trans W3).trans W4).trans W5).trans W6) t5
end
end W7
set_option maxRecDepth 100000
set_option maxHeartbeats 4000000
/-! WL: _law_values_all, _law_twisted_rows -/
namespace W7
open PySem PySem.Spec PyProof.Rows L2 LamX NdefX
/-- more objects of ours stand still from now on -/
theorem Gx.freezeL {T : List NTab} {E : List Addr} {G1 H1 G H : Hp} (a : Gx T E G1 H1 G H) (S : Addr → Bool) (h1 : ∀ b, S b = true → H1 b = none) : Gx T E G1 H1 (fun b => if S b = true then H b else G b) H where
  g := fun b u q => by
    show (if S b = true then H b else G b) = some u
    split
    · exact a.s b u (a.g b u q)
    · exact a.g b u q
  s := fun b u q => by
    have q : (if S b = true then H b else G b) = some u := q
    split at q
    · exact q
    · exact a.s b u q
  n := fun b u q => by
    have q : (if S b = true then H b else G b) = some u := q
    split at q
    · rename_i c
      exact .inr (h1 b c)
    · exact a.n b u q
  h := a.h
  u := a.u
  t := a.t
theorem same_freezeL {G H : Hp} (hS : Same G H) (S : Addr → Bool) : Same G fun b => if S b = true then H b else G b := fun b u q => by
  show (if S b = true then H b else G b) = some u
  split
  · exact hS b u q
  · exact q
/-! ### all values -/
def rad (size : Nat) (used : List Int) (k : Nat) : Nat := if (k : Int) ∈ used then size else 1
def valsN (size : Nat) (used : List Int) : Nat → List (List Nat)
  | 0 => [[]]
  | k + 1 => (valsN size used k).flatMap fun s => (List.range (rad size used k)).map fun v => s ++ [v]
def dV (l : List Nat) : PyData := .list (l.map fun z => .int (z : Nat))
theorem flatMap_le {α β : Type} (f : α → List β) (c : Nat) : ∀ l : List α, (∀ x ∈ l, (f x).length ≤ c) → (l.flatMap f).length ≤ l.length * c
  | [], _ => by simp
  | x :: r, h => by
    have h1 := h x (by simp)
    have h2 := flatMap_le f c r fun y hy => h y (by simp [hy])
    rw [List.flatMap_cons, List.length_append, List.length_cons, Nat.add_mul, Nat.one_mul]
    omega
theorem rad_le {size : Nat} {used : List Int} {k : Nat} (h : 1 ≤ size) : rad size used k ≤ size := by
  unfold rad
  split <;> omega
theorem valsN_len {size : Nat} {used : List Int} (h1 : 1 ≤ size) (h : size ≤ 8) : ∀ k, (valsN size used k).length ≤ 8 ^ k
  | 0 => Nat.le_refl _
  | k + 1 => by
    have ih := valsN_len (used := used) h1 h k
    have := flatMap_le (fun s : List Nat => (List.range (rad size used k)).map fun v => s ++ [v]) 8 (valsN size used k) fun x _ => by
      have := rad_le (used := used) (k := k) h1
      rw [List.length_map, List.length_range]
      omega
    rw [Nat.pow_succ]
    show (List.flatMap _ _).length ≤ _
    omega
theorem valsN_mem {size : Nat} {used : List Int} (h1 : 1 ≤ size) : ∀ {k : Nat} {s : List Nat}, s ∈ valsN size used k → s.length = k ∧ ∀ v ∈ s, v < size
  | 0, s, h => by
    have : s = [] := by simpa [valsN] using h
    subst this
    exact ⟨rfl, fun _ h => absurd h (by simp)⟩
  | k + 1, s, h => by
    obtain ⟨r, hr, hs⟩ := List.mem_flatMap.mp h
    obtain ⟨v, hv, rfl⟩ := List.mem_map.mp hs
    obtain ⟨e1, e2⟩ := valsN_mem h1 hr
    have hv' := List.mem_range.mp hv
    have := rad_le (used := used) (k := k) h1
    refine ⟨by rw [List.length_append, e1]; rfl, fun z hz => ?_⟩
    rcases List.mem_append.mp hz with hz | hz
    · exact e2 z hz
    · rw [List.mem_singleton.mp hz]; omega
abbrev sVals : Stmt := top 34
theorem sc_values_all : FnScope ["_law_size", "_law_one", "_law_two", "_law_found", "_law_used", "_law_k", "_law_more", "_law_some", "_law_value"] ["_law_size", "_law_one", "_law_two"] (defScope sVals) := ⟨rfl, rfl, rfl, by decide +kernel, rfl, by decide +kernel, by decide +kernel⟩
def spVals (T : List NTab) : Sq := fun vs H Q => ∃ (G : Hp) (size : Nat) (v u : V) (t s : Tr), vs = [.int (size : Nat), v, u] ∧ Same G H ∧ 1 ≤ size ∧ size ≤ 8 ∧ Td G v t.d ∧ Td G u s.d ∧ t.lets.length + s.lets.length ≤ 50 ∧
  ∀ (x : V) (G' H' : Hp), Gx T [] G H G' H' → Td G' x (.list ((valsN size (t.lets ++ s.lets) 4).map dV)) → Q x H'
section
variable {P : Program} {w : World} {K : PySem.W.Frag} {mg : Str → Option Value} {base : Heap} {f : Addr} {fd : FuncData} {T : List NTab}
theorem ok_values_all (B : Bn mg) (D : Dn K mg "_law_values_all" sVals ["_law_size", "_law_one", "_law_two"] f fd) (h_leaves : Has P w K mg base 1 "_law_leaves" ["_law_part"] (spLeaves T)) : Fn P w K mg base 2 f fd ["_law_size", "_law_one", "_law_two"] (spVals T) := by
  refine D.ok sc_values_all (fun vs H Q h => ?_) (fun cdv A outer s H vs Q hg hr _ _ h => ?_)
  · obtain ⟨G, size, v, u, t, s, rfl, _⟩ := h
    rfl
  obtain ⟨G, size, v, u, t, s, rfl, hS, hs1, hs8, tv, tu, hl, q⟩ := h
  refine ⟨_,
    (pss_cons (ps_par (i := 3) (j := 4) rfl sc_values_all.nd rfl rfl (by decide) rfl rfl (pa_cons (pe_lst (pa_cons (pe_lst pa_nil) pa_nil)) (pa_cons (pe_h h_leaves hg hr (pa_cons (pe_tup (pa_cons (pv 1) (pa_cons (pv 2) pa_nil))) pa_nil)) pa_nil)) (by rfl))
    (pss_cons (ps_for PassesOwn.never rfl (pi_range1 (by rfl) B.range (pa_cons pe_int pa_nil)) (pg_name (i := 5) sc_values_all.nd rfl (Or.inl rfl))
      (pss_cons (ps_set (i := 6) sc_values_all.nd rfl (Or.inl rfl) (pe_lst pa_nil))
      (pss_cons (ps_for PassesOwn.never rfl (pi_list (pv 3)) (pg_name (i := 7) sc_values_all.nd rfl (Or.inr rfl))
        (pss_one (ps_expr (pe_bm PySem.F.plainAttrs_list PySem.F.slot_list_extend PySem.F.type_list_extend mt_extend (pv 6) (pa_cons (pe_lc (own := [("_law_value", 8)]) rfl sc_values_all.nd (pi_range1 (by rfl) B.range (pa_cons (pe_val (pe_ifExp (pt_cmpR op_in_seq (pv 5) (pv 4) (by rfl)) (pv 0) pe_int)) pa_nil)) (blkOk_by (by kernel_rfl)) (fun _ _ _ _ _ => (pg_name (i := 8) sc_values_all.nd rfl (Or.inl rfl))) (fun _ _ _ _ _ => pts_nil) (fun _ _ _ _ _ => (pe_op op_cat (pv 7) (pe_lst (pa_cons (pv 8) pa_nil))))) pa_nil)))))
      (pss_one (ps_set (i := 3) sc_values_all.nd rfl (Or.inl rfl) (pv 6))))))
    (pss_one (ps_ret (pv 3))))), ?_⟩
  refine ⟨Nat.zero_le _, fun e0 he0 => ⟨szL (Nat.le_add_left 1 99999), fun l0 hl0 => ⟨_, rfl, _, rfl, szL (Nat.le_add_left 2 99998), fun p0 hp0 => ?_⟩⟩⟩
  obtain ⟨Ga, Wa, sa, ga⟩ := (Gx.refl (T := T) (E := []) hS).al he0 (.lst [])
  obtain ⟨Gb, Wb, sb, gb⟩ := Wa.al hl0 (.lst [.ref e0])
  obtain ⟨Gc, Wc, sc, gc⟩ := Wb.al hp0 (.tup [v, u])
  have gg := (sa.g.trans sb.g).trans sc.g
  refine ⟨Gc, .ref p0, .nd t s, rfl, Wc.s, .tup gc (.cons (tv.mono gg) (.cons (tu.mono gg) .nil)), by rw [len_nd]; exact hl, fun U G1 H1 W1 g1 => ⟨_, _, rfl, ?_⟩⟩
  have W1' := Wc.trans W1
  have t0 : Td G1 (.ref l0) (.list ((valsN size (t.lets ++ s.lets) 0).map dV)) := .lst (W1.g _ _ (sc.g _ _ gb)) (.cons (.lst (W1.g _ _ ((sb.g.trans sc.g) _ _ ga)) .nil) .nil)
  have g1 : G1 U = some (.lst ((t.lets ++ s.lets).map V.int)) := g1
  generalize t.lets ++ s.lets = used at g1 t0 q
  refine ⟨_, rfl, by decide, by decide, for_it walk_range (fun i σ' H' => ∃ (F : V) (o5 o6 o7 o8 : Option V) (G2 : Hp), σ' = [some (.int (size : Nat)), some v, some u, some F, some (.ref U), o5, o6, o7, o8] ∧ Gx T [] G H G2 H' ∧ Same G1 G2 ∧ Td G2 F (.list ((valsN size used i).map dV)))
    ⟨.ref l0, none, none, none, none, G1, rfl, W1', Same.refl _, t0⟩ (fun _ _ _ _ _ => True.intro) ?_ ?_⟩
  · rintro i x σ' H2 H2' hi ⟨F, o5, o6, o7, o8, G2, rfl, W2, s12, t2⟩ ⟨rfl, rfl⟩
    have hi4 : i < 4 := hi
    refine ⟨Nat.zero_le _, fun M hM => ?_⟩
    obtain ⟨a, xs, rfl, ha, txs⟩ := t2.list_inv
    have gM : G2 M = none := W2.s.free hM
    have hM0 : H M = none := W2.u M hM
    have W3 := W2.snocM hM (.lst [])
    refine ⟨_, rfl, a, rfl, ⟨_, SqL.of (W3.s _ _ ha)⟩, for_list (K := K) (xs := xs) (fun j σ' H' => ∃ (o7 o8 : Option V) (G3 : Hp) (acc : List V), σ' = [some (.int (size : Nat)), some v, some u, some (.ref a), some (.ref U), some (.int (0 + (i : Nat))), some (.ref M), o7, o8] ∧ Gx T [] G H G3 H' ∧ Same G2 G3 ∧ G3 M = none ∧ H' M = some (.lst acc) ∧
        TdAll G3 acc ((((valsN size used i).take j).flatMap fun s => (List.range (rad size used i)).map fun v => s ++ [v]).map dV))
      ⟨_, _, G2, [], rfl, W3, Same.refl _, gM, upd_same, .nil⟩ (fun j σ' H' _ ⟨_, _, G3, acc, _, W, s23, _⟩ => SqL.of (W.s _ _ (s23 _ _ ha))) ?_ ?_⟩
    · rintro j x σ' H3 hx ⟨o7, o8, G3, acc, rfl, W3, s23, gM3, hM3, tacc⟩
      obtain ⟨z, hz, tz⟩ := txs.get hx
      rw [List.getElem?_map] at hz
      obtain ⟨sv, hsv, rfl⟩ := Option.map_eq_some_iff.mp hz
      obtain ⟨b, ys, rfl, hb, tys⟩ := tz.list_inv
      have hjl : j < (valsN size used i).length := (List.getElem?_eq_some_iff.mp hsv).1
      refine ⟨_, rfl, .inl ⟨rfl, _, SqL.of hM3⟩, .int (rad size used i : Nat), ⟨_, rfl, _, rfl, U, _, rfl, .inl (SqL.of (W3.s _ _ (s23 _ _ (s12 _ _ g1)))), rfl, flat_ints _, _, rfl, ?_⟩, ?_⟩
      · rw [inV_ints]
        have e0 : (0 : Int) + (i : Nat) = (i : Nat) := Int.zero_add _
        rw [e0]
        unfold rad
        refine ite2 (fun c => ?_) (fun c => ?_)
        · rw [if_pos (of_decide_eq_true c)]
          exact ⟨_, rfl, rfl, rfl⟩
        · rw [if_neg fun z => c (decide_eq_true z)]
          exact ⟨rfl, rfl⟩
      have hr8 : rad size used i ≤ 8 := Nat.le_trans (rad_le hs1) hs8
      refine ⟨_, rfl, by omega, by omega, lcW (T := T) (E := []) (n := rad size used i) walk_range (fun m x => x = .int (m : Nat)) (fun m => dV (sv ++ [m])) 0 0 W3.s (by omega) (fun m H x H' y => ⟨y.1, by rw [y.2]; exact congrArg V.int (Int.zero_add _)⟩) (fun _ _ _ => True.intro) Pens.nil (fun m x G4 H4 hm hx W4 _ Q4 q4 => ?_) (fun R G4 H4 W4 _ t4 => ?_)⟩
      · subst hx
        refine ⟨rfl, _, rfl, _, rfl, szL (Nat.le_add_left 1 99999), fun c hc => ?_⟩
        obtain ⟨G5, W5, s5, g5⟩ := (Gx.refl (T := T) (E := []) W4.s).al hc (.lst [.int (m : Nat)])
        have ly : ys.length = sv.length := by rw [tys.length, List.length_map]
        have hb5 : G5 b = some (.lst ys) := s5.g _ _ (W4.g _ _ (s23 _ _ hb))
        refine ⟨b, c, _, _, rfl, rfl, W5.s _ _ hb5, W5.s _ _ g5, ?_, fun d hd => ?_⟩
        · have := (valsN_mem (size := size) hs1 (List.mem_of_getElem? hsv)).1
          refine szL ?_
          show ys.length + 1 ≤ 100000
          omega
        obtain ⟨G6, W6, s6, g6⟩ := W5.al hd (.lst (ys ++ [.int (m : Nat)]))
        refine q4 _ G6 _ W6 Pens.nil (.lst g6 ?_)
        rw [List.map_append]
        exact (((tys.mono s23).mono W4.g).mono (s5.g.trans s6.g)).app (.cons (.int m) .nil)
      · obtain ⟨gM4, hM4⟩ := W4.keepM (by simp) gM3 hM3 (fun _ z => by cases z)
        obtain ⟨R', zs, eR, hR, tzs⟩ := t4.list_inv
        cases eR
        refine ⟨M, R, acc, zs, rfl, rfl, hM4, W4.s _ _ hR, szL ?_, _, _, G4, acc ++ zs, rfl, (W3.trans W4).write (.inl hM0) gM4 hM4 True.intro, s23.trans W4.g, gM4, upd_same, ?_⟩
        · rw [tacc.length, tzs.length, List.length_map, List.length_map, List.length_range]
          have h1 := flatMap_le (fun s : List Nat => (List.range (rad size used i)).map fun v => s ++ [v]) 8 ((valsN size used i).take j) fun x _ => by
            rw [List.length_map, List.length_range]
            omega
          have h2 := valsN_len (used := used) hs1 hs8 i
          have h3 : 8 ^ i ≤ 8 ^ 3 := Nat.pow_le_pow_right (by decide) (by omega)
          rw [List.length_take] at h1
          have h4 : (8 : Nat) ^ 3 = 512 := by decide
          omega
        · rw [List.take_succ_eq_append_getElem hjl, List.flatMap_append, List.map_append]
          refine (tacc.mono W4.g).app ?_
          have e1 : (valsN size used i)[j] = sv := by
            have := (List.getElem?_eq_some_iff.mp hsv).2
            exact this
          rw [e1, List.flatMap_singleton, List.map_map]
          exact tzs
    · rintro σ' H3 ⟨o7, o8, G3, acc, rfl, W3, s23, gM3, hM3, tacc⟩
      have lx : xs.length = (valsN size used i).length := by rw [txs.length, List.length_map]
      rw [lx, List.take_length] at tacc
      exact ⟨_, rfl, .ref M, _, _, _, _, upd G3 M (.lst acc), rfl, Gx.freeze W3.s W3 hM0 hM3, (s12.trans s23).trans (same_new gM3 _), .lst upd_same (tacc.mono (same_new gM3 _))⟩
  · rintro σ' H2 ⟨F, o5, o6, o7, o8, G2, rfl, W2, s12, t2⟩
    exact ⟨_, rfl, q F G2 H2 W2 t2⟩
end
/-! ### rows by another order -/
abbrev sTwist : Stmt := top 31
theorem sc_twisted_rows : FnScope ["_law_pen_here", "_law_rows", "_law_order", "_law_found", "_law_a", "_law_b", "_law_line"] ["_law_pen_here", "_law_rows"] (defScope sTwist) := ⟨rfl, rfl, rfl, by decide +kernel, rfl, by decide +kernel, by decide +kernel⟩
def spTwist (T : List NTab) : Sq := fun vs H Q => ∃ (G : Hp) (p : Addr) (n0 : Nat) (v : V) (n : Nat) (op : Nat → Nat → Nat), vs = [.ref p, v] ∧ Same G H ∧ Pen G H p n0 ∧ n0 + n < 1000000 ∧ Td G v (dRows n op) ∧ n ≤ 40 ∧ (∀ a b, a < n → b < n → op a b < n) ∧
  ∀ (od : List Nat) (M : Nat → Nat → Nat) (u : V) (G' H' : Hp), od.Perm (List.range n) → (∀ a b, a < n → b < n → M (od.getD a 0) (od.getD b 0) = od.getD (op a b) 0) → Gx T [p] G H G' H' → Pen G' H' p (n0 + n) → Td G' u (dRows n M) → Q u H'
theorem perm_nat {ms : List Int} {n : Nat} (h : ms.Perm ((List.range n).map fun i : Nat => (i : Int))) : ∃ od : List Nat, od.Perm (List.range n) ∧ ms = od.map fun i : Nat => (i : Int) := by
  refine ⟨ms.map Int.toNat, ?_, ?_⟩
  · have := h.map Int.toNat
    rw [List.map_map] at this
    have e : (Int.toNat ∘ fun i : Nat => (i : Int)) = id := by funext i; simp
    rw [e, List.map_id] at this
    exact this
  · rw [List.map_map]
    have : ∀ x ∈ ms, ((x.toNat : Nat) : Int) = x := fun x hx => by
      obtain ⟨i, _, rfl⟩ := List.mem_map.mp (h.mem_iff.mp hx)
      simp
    conv => lhs; rw [← List.map_id ms]
    exact List.map_congr_left fun x hx => (this x hx).symm
theorem od_lt {od : List Nat} {n : Nat} (h : od.Perm (List.range n)) {a : Nat} (ha : a < n) : od.getD a 0 < n ∧ od[a]? = some (od.getD a 0) := by
  have hl : od.length = n := by rw [h.length_eq, List.length_range]
  have e : od[a]? = some od[a] := List.getElem?_eq_getElem (by omega)
  rw [List.getD_eq_getElem?_getD, e]
  exact ⟨List.mem_range.mp (h.mem_iff.mp (List.getElem_mem _)), rfl⟩
theorem od_inj {od : List Nat} {n : Nat} (h : od.Perm (List.range n)) {a b : Nat} (ha : a < n) (hb : b < n) (e : od.getD a 0 = od.getD b 0) : a = b := by
  have hl : od.length = n := by rw [h.length_eq, List.length_range]
  have nd : od.Nodup := h.nodup_iff.mpr List.nodup_range
  have h1 := (od_lt h ha).2
  have h2 := (od_lt h hb).2
  rw [e, ← h2] at h1
  exact (List.getElem?_inj (by omega) nd).mp h1
theorem int_atN {ns : List Nat} {i : Nat} {z : Nat} (h : ns[i]? = some z) : atI (ns.map fun i : Nat => V.int (i : Int)) (i : Nat) = some (.int (z : Nat)) := atI_nat (by rw [List.getElem?_map, h]; rfl)
section
variable {P : Program} {w : World} {K : PySem.W.Frag} {mg : Str → Option Value} {base : Heap} {f : Addr} {fd : FuncData} {T : List NTab}
theorem TdAll.mk {G : Hp} : ∀ {vs : List V} {ds : List PyData}, vs.length = ds.length → (∀ (i : Nat) (x : V) (d : PyData), vs[i]? = some x → ds[i]? = some d → Td G x d) → TdAll G vs ds
  | [], [], _, _ => .nil
  | [], _ :: _, h, _ => by cases h
  | _ :: _, [], h, _ => by cases h
  | v :: vs, d :: ds, h, k => .cons (k 0 v d rfl rfl) (TdAll.mk (Nat.succ.inj h) fun i x e h1 h2 => k (i + 1) x e h1 h2)
theorem dRow_td {G : Hp} {b : Addr} {n a : Nat} {M : Nat → Nat → Nat} (h : G b = some (.lst ((List.range n).map fun j => V.int (M a j : Nat)))) : Td G (.ref b) (dRow n M a) := by
  refine .lst h ?_
  have e1 : (List.range n).map (fun j => V.int (M a j : Nat)) = ((List.range n).map fun j => ((M a j : Nat) : Int)).map V.int := by rw [List.map_map]; rfl
  have e2 : (List.range n).map (fun j => PyData.int (M a j : Nat)) = ((List.range n).map fun j => ((M a j : Nat) : Int)).map PyData.int := by rw [List.map_map]; rfl
  rw [e1, e2]
  exact .ints _
theorem ixN_nat {n j : Nat} (h : j < n) : ixN n (j : Int) = some j := by
  unfold ixN
  rw [if_pos (by omega), if_pos (by omega), Int.toNat_natCast]
theorem rows_len {G : Hp} {v : V} {n : Nat} {op : Nat → Nat → Nat} (h : Td G v (dRows n op)) : ∃ (r : Addr) (xs : List V), v = .ref r ∧ G r = some (.lst xs) ∧ xs.length = n := by
  obtain ⟨r, xs, a, b, c, _⟩ := rows_row h
  exact ⟨r, xs, a, b, c⟩
theorem ok_twisted_rows (B : Bn mg) (D : Dn K mg "_law_twisted_rows" sTwist ["_law_pen_here", "_law_rows"] f fd) (h_shuffled : Has P w K mg base 2 "_law_shuffled" ["_law_pen_here", "_law_items"] (spShuf T)) : Fn P w K mg base 3 f fd ["_law_pen_here", "_law_rows"] (spTwist T) := by
  refine D.ok sc_twisted_rows (fun vs H Q h => ?_) (fun cdv A outer s H vs Q hg hr _ _ h => ?_)
  · obtain ⟨G, p, n0, v, n, op, rfl, _⟩ := h
    rfl
  obtain ⟨G, p, n0, v, n, op, rfl, hS, pen, hn0, tv, hn, clo, q⟩ := h
  refine ⟨_,
    (pss_cons (ps_set (i := 2) sc_twisted_rows.nd rfl (Or.inr rfl) (pe_h h_shuffled hg hr (pa_cons (pv 0) (pa_cons (pe_listRg rfl (by rfl) B.list (prg_1 (by rfl) B.range (pe_callB call_len_seq (by rfl) B.len b_len (pa_cons (pv 1) pa_nil)))) pa_nil))))
    (pss_cons (ps_setLc (i := 3) (own := [("_law_a", 4)]) rfl sc_twisted_rows.nd rfl rfl (sw_true rfl rfl rfl (by decide +kernel)) (pi_list (pv 2)) (blkOk_by (by kernel_rfl)) (fun _ _ _ _ _ => (pg_name (i := 4) sc_twisted_rows.nd rfl (Or.inl rfl))) (fun _ _ _ _ _ => pts_nil) (fun _ _ _ _ _ => (pe_lc (own := [("_law_b", 5)]) rfl sc_twisted_rows.nd (pi_list' (K := K) (pv 2)) (blkOk_by (by kernel_rfl)) (fun _ _ _ _ _ => (pg_name (i := 5) sc_twisted_rows.nd rfl (Or.inl rfl))) (fun _ _ _ _ _ => pts_nil) (fun _ _ _ _ _ => pe_int))))
    (pss_cons (ps_for PassesOwn.never rfl (pi_range1 (by rfl) B.range (pa_cons (pe_callB call_len_seq (by rfl) B.len b_len (pa_cons (pv 1) pa_nil)) pa_nil)) (pg_name (i := 4) sc_twisted_rows.nd rfl (Or.inl rfl))
      (pss_one (ps_for PassesOwn.never rfl (pi_range1 (by rfl) B.range (pa_cons (pe_callB call_len_seq (by rfl) B.len b_len (pa_cons (pv 1) pa_nil)) pa_nil)) (pg_name (i := 5) sc_twisted_rows.nd rfl (Or.inl rfl))
        (pss_cons (ps_set (i := 6) sc_twisted_rows.nd rfl (Or.inl rfl) (pe_ix ix_list (pv 3) (pe_ix ix_list (pv 2) (pv 4) (fun _ _ => rfl)) (fun _ _ => rfl)))
        (pss_one (ps_asg (pe_ix ix_list (pv 2) (pe_ix ix_list (pe_ix ix_list (pv 1) (pv 4) (fun _ _ => rfl)) (pv 5) (fun _ _ => rfl)) (fun _ _ => rfl)) (pg_sub (pv 6) (pe_ix ix_list (pv 2) (pv 5) (fun _ _ => rfl)) set_list)))))))
    (pss_one (ps_ret (pv 3)))))), ?_⟩
  obtain ⟨r, xs, rfl, hr0, lx, hrow⟩ := rows_row tv
  have hr1 := hS _ _ hr0
  refine ⟨_, rfl, _, rfl, r, _, rfl, .inl (SqL.of hr1), _, rfl, ?_⟩
  rw [lx]
  refine ⟨RgOk.of_le (by decide) (by omega) (by decide) (by omega), fun q0 hq0 => ?_⟩
  have eRg : rgV 0 ((n : Nat) : Int) = ((List.range n).map fun i : Nat => (i : Int)).map V.int := by
    unfold rgV
    rw [Int.sub_zero, Int.toNat_natCast, List.map_map]
    exact List.map_congr_left fun i _ => congrArg V.int (Int.zero_add _)
  rw [eRg]
  obtain ⟨Ga, Wa, sa, ga⟩ := (Gx.refl (T := T) (E := [p]) hS).al hq0 (.lst (((List.range n).map fun i : Nat => (i : Int)).map V.int))
  refine ⟨Ga, p, q0, n0, _, rfl, Wa.s, pen.keep sa (by simp), by rw [List.length_map, List.length_range]; omega, ga, by rw [List.length_map, List.length_range]; omega, fun o ms G1 H1 pm W1 pen1 g1 => ?_⟩
  rw [List.length_map, List.length_range] at pen1
  obtain ⟨od, hod, rfl⟩ := perm_nat pm
  rw [List.map_map] at g1
  have g1 : G1 o = some (.lst (od.map fun i : Nat => V.int (i : Int))) := g1
  have W1' := Wa.trans W1
  have lod : od.length = n := by rw [hod.length_eq, List.length_range]
  have lods : (od.map fun i : Nat => V.int (i : Int)).length = n := by rw [List.length_map, lod]
  -- found: rows of zeros, ours
  refine ⟨_, rfl, o, rfl, ⟨_, SqL.of (W1.s _ _ g1)⟩, fun F hF => ?_⟩
  have gF1 : G1 F = none := W1.s.free hF
  have nFo : o ≠ F := fun z => by rw [z] at g1; rw [g1] at gF1; cases gF1
  refine lc_it (walk_list (K := K) (a := o) (xs := od.map fun i : Nat => V.int (i : Int))) (fun i H' => ∃ rs : List Addr, rs.length = i ∧ Gx T [] G1 H1 G1 H' ∧ H' F = some (.lst (rs.map V.ref)) ∧ (F :: rs).Nodup ∧ ∀ b ∈ rs, H1 b = none ∧ H' b = some (.lst (List.replicate n (.int 0))))
    ⟨[], rfl, Gx.newM W1.s hF _, upd_same, by simp, fun _ h => absurd h (by simp)⟩ (fun i H' _ ⟨_, _, W, _⟩ => SqL.of (W.s _ _ g1)) (fun i x H2 H2' hi ⟨rs, hl, W2, hF2, nd, hrs⟩ ⟨e, hx⟩ => ?_) (fun H2 ⟨rs, hl, W2, hF2, nd, hrs⟩ => ?_)
  · subst e
    refine ⟨rfl, _, rfl, o, rfl, ⟨_, SqL.of (W2.s _ _ g1)⟩, fun R hR => ?_⟩
    have nRF : R ≠ F := fun z => by rw [z, hF2] at hR; cases hR
    refine lc_it (walk_list (K := K) (a := o) (xs := od.map fun i : Nat => V.int (i : Int))) (fun j H' => Gx T [] G1 H1 G1 H' ∧ H' R = some (.lst (List.replicate j (.int 0))) ∧ H' F = some (.lst (rs.map V.ref)) ∧ ∀ b ∈ rs, H' b = some (.lst (List.replicate n (.int 0))))
      ⟨W2.snocM hR _, upd_same, by rw [upd_ne nRF.symm]; exact hF2, fun b hb => by rw [upd_ne (ne_of_none (hrs b hb).2 hR)]; exact (hrs b hb).2⟩ (fun j H' _ ⟨W, _⟩ => SqL.of (W.s _ _ g1)) (fun j y H3 H3' hj ⟨W3, hR3, hF3, hrs3⟩ ⟨e, hy⟩ => ?_) (fun H3 ⟨W3, hR3, hF3, hrs3⟩ => ?_)
    · subst e
      have hR1 : H1 R = none := W2.u R hR
      refine ⟨rfl, _, hR3, szLt (by rw [List.length_replicate]; omega), W3.write (.inl hR1) (W1.s.free hR1) hR3 True.intro, ?_, ?_, fun b hb => ?_⟩
      · rw [upd_same, List.replicate_succ']
      · rw [upd_ne nRF.symm]; exact hF3
      · rw [upd_ne fun z => ?_]
        · exact hrs3 b hb
        · rw [z] at hb; rw [(hrs R hb).2] at hR; cases hR
    · rw [lods] at hR3
      have hR1 : H1 R = none := W2.u R hR
      have nRs : R ∉ rs := fun hb => by rw [(hrs R hb).2] at hR; cases hR
      have nd' := List.nodup_cons.mp nd
      refine ⟨_, hF3, szLt (by rw [List.length_map]; omega), rs ++ [R], by rw [List.length_append, hl]; rfl, W3.write (.inl hF) gF1 hF3 True.intro, by rw [upd_same, List.map_append]; rfl, ?_, fun b hb => ?_⟩
      · refine List.nodup_cons.mpr ⟨fun z => ?_, List.nodup_append.mpr ⟨nd'.2, by simp, fun a ha b hb => ?_⟩⟩
        · rcases List.mem_append.mp z with z | z
          · exact nd'.1 z
          · exact nRF (List.mem_singleton.mp z).symm
        · rw [List.mem_singleton.mp hb]
          exact fun z => nRs (z ▸ ha)
      · rcases List.mem_append.mp hb with hb | hb
        · refine ⟨(hrs b hb).1, ?_⟩
          rw [upd_ne (show b ≠ F from fun z => nd'.1 (by rw [← z]; exact hb))]
          exact hrs3 b hb
        · rw [List.mem_singleton.mp hb]
          refine ⟨hR1, ?_⟩
          rw [upd_ne nRF]
          exact hR3
  · rw [lods] at hl
    -- the two loops
    have nd' := List.nodup_cons.mp nd
    have hFs : ∀ b ∈ rs, b ≠ F := fun b hb z => nd'.1 (z ▸ hb)
    let Inv2 : (Nat → Nat → Nat) → Hp → Prop := fun M H' => Gx T [] G1 H1 G1 H' ∧ H' F = some (.lst (rs.map V.ref)) ∧ ∀ i, i < n → ∃ b, rs[i]? = some b ∧ H' b = some (.lst ((List.range n).map fun j => V.int (M i j : Nat)))
    refine ⟨_, rfl, r, _, rfl, .inl (SqL.of (W2.s _ _ (W1'.g _ _ hr0))), _, rfl, ?_⟩
    rw [lx]
    refine ⟨by omega, by omega, ?_⟩
    rw [Int.toNat_natCast]
    refine for_it walk_range (fun a σ' H' => ∃ (M : Nat → Nat → Nat) (o4 o5 o6 : Option V), σ' = [some (.ref p), some (.ref r), some (.ref o), some (.ref F), o4, o5, o6] ∧ Inv2 M H' ∧ ∀ a' b', a' < a → b' < n → M (od.getD a' 0) (od.getD b' 0) = od.getD (op a' b') 0)
      ⟨fun _ _ => 0, none, none, none, rfl, ⟨W2, hF2, fun i hi => ?_⟩, fun _ _ h => absurd h (Nat.not_lt_zero _)⟩ (fun _ _ _ _ _ => True.intro) ?_ ?_
    · have e : rs[i]? = some rs[i] := List.getElem?_eq_getElem (by omega)
      refine ⟨rs[i], e, ?_⟩
      rw [(hrs _ (List.getElem_mem _)).2]
      congr 2
      rw [List.map_const', List.length_range]
      rfl
    · rintro a x σ' H3 H3' ha ⟨M, o4, o5, o6, rfl, ⟨W3, hF3, hrows⟩, dn⟩ ⟨rfl, hx⟩
      obtain rfl : x = V.int (a : Nat) := hx.trans (congrArg V.int (Int.zero_add _))
      refine ⟨_, rfl, r, _, rfl, .inl (SqL.of (W3.s _ _ (W1'.g _ _ hr0))), _, rfl, ?_⟩
      rw [lx]
      refine ⟨by omega, by omega, ?_⟩
      rw [Int.toNat_natCast]
      refine for_it walk_range (fun b σ' H' => ∃ (M : Nat → Nat → Nat) (o5 o6 : Option V), σ' = [some (.ref p), some (.ref r), some (.ref o), some (.ref F), some (.int (a : Nat)), o5, o6] ∧ Inv2 M H' ∧ (∀ a' b', a' < a → b' < n → M (od.getD a' 0) (od.getD b' 0) = od.getD (op a' b') 0) ∧ ∀ b', b' < b → M (od.getD a 0) (od.getD b' 0) = od.getD (op a b') 0)
        ⟨M, o5, o6, rfl, ⟨W3, hF3, hrows⟩, dn, fun _ h => absurd h (Nat.not_lt_zero _)⟩ (fun _ _ _ _ _ => True.intro) ?_ ?_
      · rintro b x σ' H4 H4' hb ⟨M, o5, o6, rfl, ⟨W4, hF4, hrows⟩, dn, dn2⟩ ⟨rfl, hx⟩
        obtain rfl : x = V.int (b : Nat) := hx.trans (congrArg V.int (Int.zero_add _))
        obtain ⟨la, ea⟩ := od_lt hod ha
        obtain ⟨lb, eb⟩ := od_lt hod hb
        obtain ⟨lab, eab⟩ := od_lt hod (clo a b ha hb)
        obtain ⟨b1, hb1, hrb⟩ := hrows _ la
        have g4 := W4.s _ _ g1
        have hrs1 : (rs.map V.ref)[od.getD a 0]? = some (.ref b1) := by rw [List.getElem?_map, hb1]; rfl
        obtain ⟨pr, hpr, gpr⟩ := hrow a ha
        have hmem1 : b1 ∈ rs := List.mem_of_getElem? hb1
        refine ⟨_, rfl, _, rfl, _, rfl, o, _, _, .int (od.getD a 0 : Nat), rfl, rfl, SqL.of g4, int_atN ea, F, _, _, .ref b1, rfl, rfl, SqL.of hF4, atI_nat hrs1, ?_⟩
        refine ⟨_, rfl, _, rfl, _, rfl, r, _, _, .ref pr, rfl, rfl, SqL.of (W4.s _ _ (W1'.g _ _ hr0)), atI_nat hpr, _, rfl, pr, _, _, .int (op a b : Nat), rfl, rfl, SqL.of (W4.s _ _ (W1'.g _ _ gpr)), atI_nat (row_at hb), o, _, _, .int (od.getD (op a b) 0 : Nat), rfl, rfl, SqL.of g4, int_atN eab, ?_⟩
        refine ⟨_, rfl, _, rfl, _, rfl, o, _, _, .int (od.getD b 0 : Nat), rfl, rfl, SqL.of g4, int_atN eb, b1, _, _, od.getD b 0, rfl, rfl, hrb, ixN_nat (by rw [List.length_map, List.length_range]; exact lb), ?_⟩
        refine ⟨fun i j => if i = od.getD a 0 ∧ j = od.getD b 0 then od.getD (op a b) 0 else M i j, _, _, rfl, ⟨W4.write (.inl (hrs b1 hmem1).1) (W1.s.free (hrs b1 hmem1).1) hrb True.intro, by rw [upd_ne (hFs b1 hmem1).symm]; exact hF4, fun i hi => ?_⟩, fun a' b' ha' hb' => ?_, fun b' hb' => ?_⟩
        · obtain ⟨c, hc, hrc⟩ := hrows i hi
          refine ⟨c, hc, ?_⟩
          by_cases hic : i = od.getD a 0
          · subst hic
            rw [hb1] at hc
            cases hc
            rw [upd_same]
            congr 2
            apply List.ext_getElem?
            intro j
            rw [List.getElem?_set, List.getElem?_map, List.getElem?_map]
            by_cases hj : j < n
            · rw [List.getElem?_range hj]
              by_cases hjb : od.getD b 0 = j
              · subst hjb
                rw [if_pos rfl, if_pos (by rw [List.length_map, List.length_range]; exact lb)]
                simp
              · rw [if_neg hjb]
                show some (V.int (M (od.getD a 0) j : Nat)) = some (V.int ((if _ ∧ _ then _ else _ : Nat)))
                rw [if_neg fun z => hjb z.2.symm]
            · have e : (List.range n)[j]? = none := List.getElem?_eq_none (by rw [List.length_range]; omega)
              rw [e, if_neg (by omega)]
              rfl
          · have ncb : c ≠ b1 := fun z => by
              have h1 : rs[i]? = rs[od.getD a 0]? := by rw [hc, hb1, z]
              exact hic ((List.getElem?_inj (by omega) nd'.2).mp h1)
            rw [upd_ne ncb, hrc]
            congr 2
            refine List.map_congr_left fun j _ => ?_
            show V.int (M i j : Nat) = V.int ((if _ ∧ _ then _ else _ : Nat))
            rw [if_neg fun z => hic z.1]
        · show (if _ ∧ _ then _ else _) = _
          rw [if_neg fun z => ?_]
          · exact dn a' b' ha' hb'
          · have := od_inj hod (by omega) ha z.1
            omega
        · show (if _ ∧ _ then _ else _) = _
          by_cases hbb : b' = b
          · rw [hbb, if_pos ⟨rfl, rfl⟩]
          · rw [if_neg fun z => hbb (od_inj hod (by omega) hb z.2)]
            exact dn2 b' (by omega)
      · rintro σ' H4 ⟨M, o5, o6, rfl, inv, dn, dn2⟩
        refine ⟨M, _, _, _, rfl, inv, fun a' b' ha' hb' => ?_⟩
        by_cases haa : a' = a
        · rw [haa]
          exact dn2 b' hb'
        · exact dn a' b' (by omega) hb'
    · rintro σ' H3 ⟨M, o4, o5, o6, rfl, ⟨W3, hF3, hrows⟩, dn⟩
      let S : Addr → Bool := fun b => decide (b = F ∨ b ∈ rs)
      have hS1 : ∀ b, S b = true → H1 b = none := fun b hb => by
        rcases of_decide_eq_true hb with rfl | hb
        · exact hF
        · exact (hrs b hb).1
      have WS := W3.freezeL S hS1
      have at1 : ∀ b, S b = true → (fun b => if S b = true then H3 b else G1 b) b = H3 b := fun b hb => if_pos hb
      refine ⟨_, rfl, q od M (.ref F) _ H3 hod (fun a b ha hb => dn a b ha hb) (W1'.trans WS.none0) (pen1.keep WS (by simp)) (.lst ((at1 F (decide_eq_true (.inl rfl))).trans hF3) (TdAll.mk (by rw [List.length_map, List.length_map, List.length_range]; exact hl) fun i x d hx hd => ?_))⟩
      rw [List.getElem?_map] at hx hd
      obtain ⟨b, hb, rfl⟩ := Option.map_eq_some_iff.mp hx
      obtain ⟨k, hk, rfl⟩ := Option.map_eq_some_iff.mp hd
      obtain ⟨hk1, hk2⟩ := List.getElem?_eq_some_iff.mp hk
      rw [List.length_range] at hk1
      rw [List.getElem_range] at hk2
      subst hk2
      obtain ⟨c, hc, hrc⟩ := hrows i hk1
      rw [hb] at hc
      cases hc
      exact dRow_td ((at1 b (decide_eq_true (.inr (List.mem_of_getElem? hb)))).trans hrc)
end
end W7
set_option maxRecDepth 100000
set_option maxHeartbeats 4000000
/-! WM: operations on parts; _law_factor_rows, _law_word_operation -/
namespace W7
open PySem PySem.Spec PyProof.Rows L2 LamX NdefX
/-! ### parts put together -/
theorem idx_le {α : Type} [DecidableEq α] (x : α) : ∀ l : List α, idx x l ≤ l.length
  | [] => Nat.le_refl _
  | y :: r => by
    rw [idx]
    split
    · exact Nat.zero_le _
    · exact Nat.succ_le_succ (idx_le x r)
theorem idx_none {α : Type} [DecidableEq α] {x : α} : ∀ {l : List α}, x ∉ l → idx x l = l.length
  | [], _ => rfl
  | y :: r, h => by
    rw [idx, if_neg fun z => h (by simp [z]), idx_none fun z => h (by simp [z])]
    rfl
/-- the operation of putting parts together; n for what is no part -/
def opP {α : Type} [DecidableEq α] (parts : List α) (comb : α → α → α) (d : α) (i j : Nat) : Nat := if i < parts.length ∧ j < parts.length then idx (comb (parts.getD i d) (parts.getD j d)) parts else parts.length
theorem opP_le {α : Type} [DecidableEq α] (parts : List α) (comb : α → α → α) (d : α) (i j : Nat) : opP parts comb d i j < parts.length + 1 := by
  unfold opP
  split
  · exact Nat.lt_succ_of_le (idx_le _ _)
  · exact Nat.lt_succ_self _
theorem opP_row {α : Type} [DecidableEq α] {parts : List α} {comb : α → α → α} {d : α} {i : Nat} (h : i < parts.length) : dRow (parts.length + 1) (opP parts comb d) i = .list (((List.range parts.length).map fun j => .int (idx (comb (parts.getD i d) (parts.getD j d)) parts : Nat)) ++ [.int (parts.length : Nat)]) := by
  unfold dRow
  rw [List.range_succ, List.map_append]
  congr 2
  · refine List.map_congr_left fun j hj => ?_
    have hj' := List.mem_range.mp hj
    unfold opP
    rw [if_pos ⟨h, hj'⟩]
  · show [PyData.int (opP parts comb d i parts.length : Nat)] = _
    unfold opP
    rw [if_neg (by omega)]
theorem opP_last {α : Type} [DecidableEq α] {parts : List α} {comb : α → α → α} {d : α} : dRow (parts.length + 1) (opP parts comb d) parts.length = .list (List.replicate (parts.length + 1) (.int (parts.length : Nat))) := by
  unfold dRow
  rw [show (List.range (parts.length + 1)).map (fun b => PyData.int (opP parts comb d parts.length b : Nat)) = (List.range (parts.length + 1)).map fun _ => PyData.int (parts.length : Nat) from List.map_congr_left fun j _ => by
    unfold opP
    rw [if_neg (by omega)]]
  rw [List.map_const', List.length_range]
theorem opP_rows {α : Type} [DecidableEq α] {parts : List α} {comb : α → α → α} {d : α} : dRows (parts.length + 1) (opP parts comb d) = .list (((List.range parts.length).map (dRow (parts.length + 1) (opP parts comb d))) ++ [.list (List.replicate (parts.length + 1) (.int (parts.length : Nat)))]) := by
  unfold dRows
  rw [List.range_succ, List.map_append]
  show PyData.list (_ ++ [dRow _ _ _]) = _
  rw [opP_last]
theorem td_rep {G : Hp} (n : Nat) (i : Int) : TdAll G (List.replicate n (.int i)) (List.replicate n (.int i)) := by
  induction n with
  | zero => exact .nil
  | succ n ih => exact .cons (.int i) ih
theorem flat_rep (n : Nat) (v : V) : (List.replicate n [v]).flatten = List.replicate n v := by
  induction n with
  | zero => rfl
  | succ n ih => rw [List.replicate_succ, List.flatten_cons, ih]; rfl
/-! ### words in lists -/
def vW (w : List Nat) : V := .str (S7 w)
def dW (w : List Nat) : PyData := .str (S7 w)
theorem vW_map (ps : List (List Nat)) : ps.map vW = (ps.map fun w => S7 w).map V.str := by rw [List.map_map]; rfl
theorem eqV_S7 (a b : List Nat) : eqV (vW a) (vW b) = decide (a = b) := by
  show (S7 a == S7 b) = _
  exact SX.S_beq_eq
theorem inV_S7 (x : List Nat) (ps : List (List Nat)) : inV (vW x) (ps.map vW) = decide (x ∈ ps) := by
  rw [vW_map]
  show inV (.str (S7 x)) _ = _
  rw [inV_strs, Bool.eq_iff_iff, decide_eq_true_iff, decide_eq_true_iff]
  refine ⟨fun h => ?_, fun h => List.mem_map.mpr ⟨x, h, rfl⟩⟩
  obtain ⟨y, hy, e⟩ := List.mem_map.mp h
  rw [← S7_inj e]
  exact hy
theorem flat_S7 (ps : List (List Nat)) : (ps.map vW).all flatV = true := by
  rw [vW_map]
  exact flat_strs _
theorem TdAll.words {G : Hp} : ∀ ps : List (List Nat), TdAll G (ps.map vW) (ps.map dW)
  | [] => .nil
  | x :: r => .cons (.str _) (TdAll.words r)
theorem TdAll.words_inv {G : Hp} : ∀ {xs : List V} {ps : List (List Nat)}, TdAll G xs (ps.map dW) → xs = ps.map vW
  | _, [], .nil => rfl
  | _, _ :: r, .cons h t => by rw [h.str_inv, t.words_inv]; rfl
/-- list.index of a word that is there -/
theorem rd_index {K : PySem.W.Frag} {H : Hp} {a : Addr} {ps : List (List Nat)} {x : List Nat} {Q : VK} (h : SqL K H a (ps.map vW)) (m : x ∈ ps) (q : Q (.int (idx x ps : Nat)) H) : rIndex K (.ref a) [vW x] H Q := by
  refine ⟨a, ps.map vW, vW x, idx x ps, vW x, rfl, rfl, h, rfl, flat_S7 _, ?_, by rw [eqV_S7]; simp, fun j z hj hz => ?_, q⟩
  · rw [List.getElem?_map, idx_at m]
    rfl
  · rw [List.getElem?_map] at hz
    obtain ⟨y, hy, rfl⟩ := Option.map_eq_some_iff.mp hz
    rw [eqV_S7, decide_eq_false (idx_first hj hy)]
theorem cutS7 {w : List Nat} {a b : Nat} (h1 : a ≤ b) (h2 : b ≤ w.length) : cutS (S7 w) (some (a : Int)) (some (b : Int)) = S7 ((w.drop a).take (b - a)) := by
  unfold cutS
  rw [HT.sIx_nat, HT.sIx_nat, S7_len, Nat.min_eq_left h2, Nat.min_eq_left (by omega)]
/-! ### the factors of a word -/
def addN {α : Type} [DecidableEq α] (ps : List α) (x : α) : List α := if x ∈ ps then ps else ps ++ [x]
def FN (w : List Nat) (s : Nat) (ps : List (List Nat)) : Nat → List (List Nat)
  | 0 => ps
  | j + 1 => addN (FN w s ps j) ((w.drop s).take (j + 1))
def facsN (w : List Nat) : Nat → List (List Nat)
  | 0 => [[]]
  | s + 1 => FN w s (facsN w s) (w.length - s)
def facs (w : List Nat) : List (List Nat) := facsN w w.length
theorem addN_mem {α : Type} [DecidableEq α] {ps : List α} {x y : α} : y ∈ addN ps x ↔ y ∈ ps ∨ y = x := by
  unfold addN
  split
  · rename_i h
    exact ⟨.inl, fun z => z.elim id fun e => e ▸ h⟩
  · rw [List.mem_append, List.mem_singleton]
theorem addN_len {α : Type} [DecidableEq α] (ps : List α) (x : α) : (addN ps x).length ≤ ps.length + 1 := by
  unfold addN
  split
  · omega
  · rw [List.length_append]; exact Nat.le_refl _
theorem FN_len (w : List Nat) (s : Nat) (ps : List (List Nat)) : ∀ j, (FN w s ps j).length ≤ ps.length + j
  | 0 => Nat.le_refl _
  | j + 1 => by
    have := FN_len w s ps j
    have := addN_len (FN w s ps j) ((w.drop s).take (j + 1))
    show (addN _ _).length ≤ _
    omega
theorem facsN_len (w : List Nat) : ∀ s, (facsN w s).length ≤ 1 + s * w.length
  | 0 => by simp [facsN]
  | s + 1 => by
    have h1 := facsN_len w s
    have h2 := FN_len w s (facsN w s) (w.length - s)
    rw [Nat.add_mul, Nat.one_mul]
    show (FN _ _ _ _).length ≤ _
    omega
theorem FN_mem {w : List Nat} {s : Nat} {ps : List (List Nat)} {x : List Nat} : ∀ {j}, x ∈ FN w s ps j ↔ x ∈ ps ∨ ∃ i, i < j ∧ x = (w.drop s).take (i + 1)
  | 0 => ⟨.inl, fun h => h.elim id fun ⟨i, h, _⟩ => absurd h (Nat.not_lt_zero _)⟩
  | j + 1 => by
    rw [FN, addN_mem, FN_mem]
    constructor
    · rintro ((h | ⟨i, hi, e⟩) | h)
      · exact .inl h
      · exact .inr ⟨i, by omega, e⟩
      · exact .inr ⟨j, by omega, h⟩
    · rintro (h | ⟨i, hi, e⟩)
      · exact .inl (.inl h)
      · by_cases hij : i = j
        · subst hij
          exact .inr e
        · exact .inl (.inr ⟨i, by omega, e⟩)
theorem facsN_mem {w : List Nat} {x : List Nat} : ∀ {s}, x ∈ facsN w s ↔ x = [] ∨ ∃ a i, a < s ∧ i < w.length - a ∧ x = (w.drop a).take (i + 1)
  | 0 => by
    rw [facsN, List.mem_singleton]
    exact ⟨.inl, fun h => h.elim id fun ⟨a, _, h, _⟩ => absurd h (Nat.not_lt_zero _)⟩
  | s + 1 => by
    rw [facsN, FN_mem, facsN_mem]
    constructor
    · rintro ((h | ⟨a, i, ha, hi, e⟩) | ⟨i, hi, e⟩)
      · exact .inl h
      · exact .inr ⟨a, i, by omega, hi, e⟩
      · exact .inr ⟨s, i, by omega, hi, e⟩
    · rintro (h | ⟨a, i, ha, hi, e⟩)
      · exact .inl (.inl h)
      · by_cases has : a = s
        · subst has
          exact .inr ⟨i, hi, e⟩
        · exact .inl (.inr ⟨a, i, by omega, hi, e⟩)
theorem facs_mem {w x : List Nat} : x ∈ facs w ↔ ∃ a b, w = a ++ x ++ b := by
  unfold facs
  rw [facsN_mem]
  constructor
  · rintro (rfl | ⟨a, i, ha, hi, rfl⟩)
    · exact ⟨[], w, rfl⟩
    · refine ⟨w.take a, (w.drop a).drop (i + 1), ?_⟩
      rw [List.append_assoc, List.take_append_drop, List.take_append_drop]
  · rintro ⟨a, b, e⟩
    by_cases hx : x = []
    · exact .inl hx
    · have hx1 : 1 ≤ x.length := by
        cases x with
        | nil => exact absurd rfl hx
        | cons _ _ => exact Nat.succ_le_succ (Nat.zero_le _)
      have hl : w.length = a.length + x.length + b.length := by rw [e, List.length_append, List.length_append]
      refine .inr ⟨a.length, x.length - 1, by omega, by omega, ?_⟩
      rw [show x.length - 1 + 1 = x.length by omega]
      subst e
      rw [List.append_assoc, List.drop_left, List.take_left]
theorem facs_cut {w x y : List Nat} (h : x ++ y ∈ facs w) : x ∈ facs w ∧ y ∈ facs w := by
  obtain ⟨a, b, e⟩ := facs_mem.mp h
  exact ⟨facs_mem.mpr ⟨a, y ++ b, by rw [e]; simp⟩, facs_mem.mpr ⟨a ++ x, b, by rw [e]; simp⟩⟩
theorem facs_self (w : List Nat) : w ∈ facs w := facs_mem.mpr ⟨[], [], by simp⟩
theorem facs_len (w : List Nat) : (facs w).length ≤ 1 + w.length * w.length := facsN_len w w.length
theorem FN_sz {w : List Nat} {s : Nat} (h : s < w.length) (hw : w.length ≤ 7) {j : Nat} (hj : j ≤ w.length - s) : (FN w s (facsN w s) j).length ≤ 100 := by
  have h1 := facsN_len w s
  have h2 := FN_len w s (facsN w s) j
  have h3 : s * w.length ≤ 7 * 7 := Nat.mul_le_mul (by omega) hw
  omega
theorem facsN_sz {w : List Nat} {s : Nat} (h : s ≤ w.length) (hw : w.length ≤ 7) : (facsN w s).length ≤ 100 := by
  have h1 := facsN_len w s
  have h3 : s * w.length ≤ 7 * 7 := Nat.mul_le_mul (by omega) hw
  omega
abbrev sFactor : Stmt := top 25
abbrev sWordOp : Stmt := top 37
theorem sc_factor_rows : FnScope ["_law_word", "_law_parts", "_law_start", "_law_n", "_law_found", "_law_one", "_law_stop", "_law_two"] ["_law_word"] (defScope sFactor) := ⟨rfl, rfl, rfl, by decide +kernel, rfl, by decide +kernel, by decide +kernel⟩
theorem sc_word_operation : FnScope ["_law_tree", "_law_word", "_law_rows", "_law_seen", "_law_start", "_law_stop", "_law_part", "_law_letter", "_law_sign"] ["_law_tree"] (defScope sWordOp) := ⟨rfl, rfl, rfl, by decide +kernel, rfl, by decide +kernel, by decide +kernel⟩
def opF (w : List Nat) : Nat → Nat → Nat := opP (facs w) (· ++ ·) []
def spFactor (T : List NTab) : Sq := fun vs H Q => ∃ (G : Hp) (w : List Nat), vs = [vW w] ∧ Same G H ∧ w.length ≤ 7 ∧ ∀ (v : V) (G' H' : Hp), Gx T [] G H G' H' → Td G' v (dRows ((facs w).length + 1) (opF w)) → Q v H'
section
variable {P : Program} {w : World} {K : PySem.W.Frag} {mg : Str → Option Value} {base : Heap} {f : Addr} {fd : FuncData} {T : List NTab}
theorem wordv {ps : List (List Nat)} {i : Nat} {x : V} (h : (ps.map vW)[i]? = some x) : i < ps.length ∧ x = vW (ps.getD i []) ∧ ps.getD i [] ∈ ps := by
  rw [List.getElem?_map] at h
  obtain ⟨y, hy, rfl⟩ := Option.map_eq_some_iff.mp h
  rw [getD_at hy]
  exact ⟨(List.getElem?_eq_some_iff.mp hy).1, rfl, List.mem_of_getElem? hy⟩
theorem ok_factor_rows (B : Bn mg) (D : Dn K mg "_law_factor_rows" sFactor ["_law_word"] f fd) : Fn P w K mg base 1 f fd ["_law_word"] (spFactor T) := by
  refine D.ok sc_factor_rows (fun vs H Q h => ?_) (fun cdv A outer s H vs Q hg hr _ _ h => ?_)
  · obtain ⟨G, u, rfl, _⟩ := h
    rfl
  obtain ⟨G, u, rfl, hS, hu, q⟩ := h
  refine ⟨_,
    (pss_cons (ps_set (i := 1) sc_factor_rows.nd rfl (Or.inr rfl) (pe_lst (pa_cons pe_str pa_nil)))
    (pss_cons (ps_for PassesOwn.never rfl (pi_range1 (by rfl) B.range (pa_cons (pe_callB call_len_str (by rfl) B.len b_len (pa_cons (pv 0) pa_nil)) pa_nil)) (pg_name (i := 2) sc_factor_rows.nd rfl (Or.inl rfl))
      (pss_one (ps_for PassesOwn.never rfl (pi_range2 (by rfl) B.range (pa_cons (pe_op op_add (pv 2) pe_int) (pa_cons (pe_op op_add (pe_callB call_len_str (by rfl) B.len b_len (pa_cons (pv 0) pa_nil)) pe_int) pa_nil))) (pg_name (i := 6) sc_factor_rows.nd rfl (Or.inl rfl))
        (pss_one (ps_if (pt_cmpR op_notIn_seq (pe_slice sl_str (pv 0) (po_some (pv 2)) (po_some (pv 6))) (pv 1) (by rfl)) (pss_one (ps_expr (pe_bm PySem.F.plainAttrs_list PySem.F.slot_list_append PySem.F.type_list_append mt_append (pv 1) (pa_cons (pe_slice sl_str (pv 0) (po_some (pv 2)) (po_some (pv 6))) pa_nil))))
          pss_nil)))))
    (pss_cons (ps_asg (pe_tup (pa_cons (pe_callB call_len_seq (by rfl) B.len b_len (pa_cons (pv 1) pa_nil)) (pa_cons (pe_lst pa_nil) pa_nil))) (pg_tup (by rfl) (pgs_cons (pg_name (i := 3) sc_factor_rows.nd rfl (Or.inr rfl)) (pgs_cons (pg_name (i := 4) sc_factor_rows.nd rfl (Or.inl rfl)) pgs_nil))))
    (pss_cons (ps_for PassesOwn.never rfl (pi_list (pv 1)) (pg_name (i := 5) sc_factor_rows.nd rfl (Or.inr rfl))
      (pss_one (ps_expr (pe_bm PySem.F.plainAttrs_list PySem.F.slot_list_append PySem.F.type_list_append mt_append (pv 4) (pa_cons (pe_op op_cat (pe_lc (own := [("_law_two", 7)]) rfl sc_factor_rows.nd (pi_list (pv 1)) (blkOk_by (by kernel_rfl)) (fun _ _ _ _ _ => (pg_name (i := 7) sc_factor_rows.nd rfl (Or.inl rfl))) (fun _ _ _ _ _ => pts_nil) (fun _ _ _ _ _ => (pe_val (pe_ifExp (pt_cmpR (op_in_seq' (K := K)) (pe_op op_add_str (pv 5) (pv 7)) (pv 1) (by rfl)) (pe_bm' (K := K) PySem.F.plainAttrs_list PySem.F.slot_list_index PySem.F.type_list_index (mt_index' (K := K)) (pv 1) (pa_cons (pe_op op_add_str (pv 5) (pv 7)) pa_nil)) (pv 3))))) (pe_lst (pa_cons (pv 3) pa_nil))) pa_nil)))))
    (pss_one (ps_ret (pe_op op_cat (pv 4) (pe_lst (pa_cons (pe_op op_rep (pe_lst (pa_cons (pv 3) pa_nil)) (pe_op op_add (pv 3) pe_int)) pa_nil))))))))), ?_⟩
  have hsl : (S7 u).length ≤ sizeLine := by rw [S7_len]; exact szL (by omega)
  refine ⟨szL (Nat.le_add_left 1 99999), fun L hL => ?_⟩
  have gL : G L = none := hS.free hL
  refine ⟨_, rfl, _, rfl, hsl, _, rfl, by rw [S7_len]; omega, by rw [S7_len]; omega, ?_⟩
  rw [S7_len, Int.toNat_natCast]
  refine for_it walk_range (fun s' σ' H' => ∃ (o2 o3 o4 o5 o6 o7 : Option V), σ' = [some (vW u), some (.ref L), o2, o3, o4, o5, o6, o7] ∧ Gx T [] G H G H' ∧ H' L = some (.lst ((facsN u s').map vW)))
    ⟨none, none, none, none, none, none, rfl, Gx.newM hS hL _, upd_same⟩ (fun _ _ _ _ _ => True.intro) ?_ ?_
  · rintro a x σ' H1 H1' ha ⟨o2, o3, o4, o5, o6, o7, rfl, W1, h1⟩ ⟨rfl, hx⟩
    obtain rfl : x = V.int (a : Nat) := hx.trans (congrArg V.int (Int.zero_add _))
    refine ⟨_, rfl, _, _, rfl, rfl, _, rfl, _, rfl, hsl, _, _, rfl, rfl, _, _, rfl, ⟨by omega, by omega, by rw [S7_len]; omega, by rw [S7_len]; omega⟩, ?_⟩
    rw [S7_len, show (((u.length : Nat) : Int) + 1 - ((a : Int) + 1)).toNat = u.length - a by omega]
    refine for_it walk_range (fun j σ' H' => ∃ (o3 o4 o5 o6 o7 : Option V), σ' = [some (vW u), some (.ref L), some (.int (a : Nat)), o3, o4, o5, o6, o7] ∧ Gx T [] G H G H' ∧ H' L = some (.lst ((FN u a (facsN u a) j).map vW)))
      ⟨o3, o4, o5, o6, o7, rfl, W1, h1⟩ (fun _ _ _ _ _ => True.intro) ?_ ?_
    · rintro j x σ' H2 H2' hj ⟨o3, o4, o5, o6, o7, rfl, W2, h2⟩ ⟨rfl, hx⟩
      obtain rfl : x = V.int ((a + (j + 1) : Nat) : Int) := hx.trans (congrArg V.int (by omega))
      have hcut : cutS (S7 u) (some ((a : Nat) : Int)) (some ((a + (j + 1) : Nat) : Int)) = S7 ((u.drop a).take (j + 1)) := by
        rw [cutS7 (by omega) (by omega), show a + (j + 1) - a = j + 1 by omega]
      have hsz := FN_sz ha hu (j := j) (by omega)
      refine ⟨_, rfl, _, rfl, _, rfl, _, rfl, _, rfl, S7 u, rfl, hsl, _, rfl, ?_⟩
      rw [hcut]
      refine ⟨L, (FN u a (facsN u a) j).map vW, rfl, .inl (SqL.of h2), rfl, flat_S7 _, _, rfl, ?_⟩
      have ein : inV (V.str (S7 ((u.drop a).take (j + 1)))) ((FN u a (facsN u a) j).map vW) = decide ((u.drop a).take (j + 1) ∈ FN u a (facsN u a) j) := inV_S7 _ _
      show if (!inV _ _) = true then _ else _
      rw [ein]
      refine ite2 (fun c => ?_) (fun c => ?_)
      · have c' : (u.drop a).take (j + 1) ∉ FN u a (facsN u a) j := fun z => by
          rw [decide_eq_true z] at c
          cases c
        refine ⟨_, rfl, .inl ⟨rfl, _, SqL.of h2⟩, _, rfl, _, rfl, _, rfl, _, rfl, _, rfl, S7 u, rfl, hsl, ?_⟩
        rw [hcut]
        refine ⟨L, _, _, rfl, rfl, h2, szLt (by rw [List.length_map]; omega), o3, o4, o5, _, o7, rfl, W2.write (.inl hL) gL h2 True.intro, ?_⟩
        rw [upd_same, FN]
        unfold addN
        rw [if_neg c', List.map_append]
        rfl
      · have c' : (u.drop a).take (j + 1) ∈ FN u a (facsN u a) j := Classical.byContradiction fun z => c (by rw [decide_eq_false z]; rfl)
        refine ⟨o3, o4, o5, _, o7, rfl, W2, ?_⟩
        rw [FN]
        unfold addN
        rw [if_pos c']
        exact h2
    · rintro σ' H2 ⟨o3, o4, o5, o6, o7, rfl, W2, h2⟩
      exact ⟨_, _, _, _, _, _, rfl, W2, h2⟩
  · rintro σ' H1 ⟨o2, o3, o4, o5, o6, o7, rfl, W1, h1⟩
    have hps : (facsN u u.length) = facs u := rfl
    rw [hps] at h1
    have hsz : (facs u).length ≤ 100 := facsN_sz (Nat.le_refl _) hu
    have n1 : ((facs u).map vW).length = (facs u).length := List.length_map _
    -- n, found = len(parts), []
    refine ⟨_, rfl, L, _, rfl, .inl (SqL.of h1), Nat.zero_le _, fun F hF => ⟨szL (Nat.le_add_left 2 99998), fun t ht => ⟨t, _, rfl, SqT.of upd_same, rfl, _, _, rfl, _, _, rfl, rfl, ?_⟩⟩⟩
    rw [n1]
    have W0 := Gx.freeze W1.s W1 hL h1
    have gL2 : upd G L (.lst ((facs u).map vW)) L = some (.lst ((facs u).map vW)) := upd_same
    generalize upd G L (.lst ((facs u).map vW)) = G1 at W0 gL2
    have W2 : Gx T [] G H G1 (upd (upd H1 F (.lst [])) t (.tup [.int ((facs u).length : Nat), .ref F])) := (W0.snocM hF _).snocM ht _
    have ntF : t ≠ F := fun z => by rw [z, upd_same] at ht; cases ht
    have hF2 : upd (upd H1 F (.lst [])) t (.tup [.int ((facs u).length : Nat), .ref F]) F = some (.lst []) := by rw [upd_ne ntF.symm, upd_same]
    have gF : G1 F = none := W0.s.free hF
    have hF0 : H F = none := W0.u F hF
    generalize upd (upd H1 F (.lst [])) t (.tup [.int ((facs u).length : Nat), .ref F]) = H2 at W2 hF2
    refine ⟨_, rfl, L, rfl, ⟨_, SqL.of (W2.s _ _ gL2)⟩, for_list (K := K) (xs := (facs u).map vW) (fun i σ' H' => ∃ (o2 o5 o6 o7 : Option V) (G3 : Hp) (acc : List V), σ' = [some (vW u), some (.ref L), o2, some (.int ((facs u).length : Nat)), some (.ref F), o5, o6, o7] ∧ Gx T [] G H G3 H' ∧ Same G1 G3 ∧ G3 F = none ∧ H' F = some (.lst acc) ∧ TdAll G3 acc ((List.range i).map (dRow ((facs u).length + 1) (opF u))))
      ⟨_, _, _, _, G1, [], rfl, W2, Same.refl _, gF, hF2, .nil⟩ (fun i σ' H' _ ⟨_, _, _, _, G3, acc, _, W, s13, _⟩ => SqL.of (W.s _ _ (s13 _ _ gL2))) ?_ ?_⟩
    · rintro i x σ' H3 hx ⟨o2, o5, o6, o7, G3, acc, rfl, W3, s13, gF3, hF3, ta⟩
      obtain ⟨hi', rfl, hw⟩ := wordv hx
      have l1 : ((facs u).getD i []).length ≤ 7 := by
        obtain ⟨a, b, e⟩ := facs_mem.mp hw
        have := congrArg List.length e
        rw [List.length_append, List.length_append] at this
        omega
      refine ⟨_, rfl, .inl ⟨rfl, _, SqL.of hF3⟩, _, rfl, L, rfl, ⟨_, SqL.of (W3.s _ _ (s13 _ _ gL2))⟩, lcW (T := T) (E := []) walk_list _ (fun j => .int (idx ((facs u).getD i [] ++ (facs u).getD j []) (facs u) : Nat)) 0 0 W3.s (by rw [n1]; omega) (fun _ _ _ _ h => h) (fun G4 H4 W4 => SqL.of (W4.s _ _ (W4.g _ _ (s13 _ _ gL2)))) Pens.nil
        (fun j y G4 H4 hj hy W4 _ Q4 q4 => ?_) (fun R G4 H4 W4 _ t4 => ?_)⟩
      · obtain ⟨hj', rfl, hw2⟩ := wordv hy
        have l2 : ((facs u).getD j []).length ≤ 7 := by
          obtain ⟨a, b, e⟩ := facs_mem.mp hw2
          have := congrArg List.length e
          rw [List.length_append, List.length_append] at this
          omega
        have hL4 := SqL.of (K := K) (W4.s _ _ (W4.g _ _ (s13 _ _ gL2)))
        have hcat : (S7 ((facs u).getD i [])).length + (S7 ((facs u).getD j [])).length ≤ sizeLine := by rw [S7_len, S7_len]; exact szL (by omega)
        refine ⟨rfl, .int (idx ((facs u).getD i [] ++ (facs u).getD j []) (facs u) : Nat), ⟨_, rfl, _, rfl, _, _, rfl, rfl, hcat, _, rfl, L, _, rfl, .inl hL4, rfl, flat_S7 _, _, rfl, ?_⟩, q4 _ G4 H4 (Gx.refl W4.s) Pens.nil (.int _)⟩
        rw [S7_cat]
        have ein : inV (V.str (S7 ((facs u).getD i [] ++ (facs u).getD j []))) ((facs u).map vW) = decide ((facs u).getD i [] ++ (facs u).getD j [] ∈ facs u) := inV_S7 _ _
        show if inV _ _ = true then _ else _
        rw [ein]
        refine ite2 (fun c => ?_) (fun c => ?_)
        · refine ⟨_, rfl, .inl ⟨rfl, _, hL4⟩, _, rfl, _, rfl, _, _, rfl, rfl, hcat, ?_⟩
          rw [S7_cat]
          exact rd_index (Q := fun x H' => x = V.int (idx ((facs u).getD i [] ++ (facs u).getD j []) (facs u) : Nat) ∧ H' = H4) hL4 (of_decide_eq_true c) ⟨rfl, rfl⟩
        · rw [idx_none fun z => c (decide_eq_true z)]
          exact ⟨_, rfl, rfl, rfl⟩
      · rw [n1] at t4
        obtain ⟨R', zs, eR, hR, tzs⟩ := t4.list_inv
        cases eR
        refine ⟨_, rfl, szL (Nat.le_add_left 1 99999), fun c hc => ?_⟩
        obtain ⟨G5, W5, s5, g5⟩ := W4.al hc (.lst [.int ((facs u).length : Nat)])
        have lz : zs.length = (facs u).length := by rw [tzs.length, List.length_map, List.length_range]
        refine ⟨R, c, _, _, rfl, rfl, W5.s _ _ (s5.g _ _ hR), W5.s _ _ g5, szL (by rw [lz]; show _ + 1 ≤ _; omega), fun d hd => ?_⟩
        obtain ⟨G6, W6, s6, g6⟩ := W5.al hd (.lst (zs ++ [.int ((facs u).length : Nat)]))
        obtain ⟨gF6, hF6⟩ := W6.keepM (by simp) gF3 hF3 (fun _ z => by cases z)
        refine ⟨F, _, _, rfl, rfl, hF6, szLt (by rw [ta.length, List.length_map, List.length_range]; omega), _, _, _, _, G6, acc ++ [.ref d], rfl, (W3.trans W6).write (.inl hF0) gF6 hF6 True.intro, s13.trans W6.g, gF6, upd_same, ?_⟩
        rw [List.range_succ, List.map_append]
        refine (ta.mono W6.g).app (.cons ?_ .nil)
        unfold opF
        rw [opP_row hi']
        exact .lst g6 ((tzs.mono (s5.g.trans s6.g)).app (.cons (.int _) .nil))
    · rintro σ' H3 ⟨o2, o5, o6, o7, G3, acc, rfl, W3, s13, gF3, hF3, ta⟩
      rw [n1] at ta
      have W4 := Gx.freeze W3.s W3 hF0 hF3
      have ta4 := ta.mono (same_new gF3 (.lst acc))
      have gF4 : upd G3 F (.lst acc) F = some (.lst acc) := upd_same
      generalize upd G3 F (.lst acc) = G4 at W4 ta4 gF4
      refine ⟨_, rfl, _, rfl, szL (Nat.le_add_left 1 99999), fun c hc => ?_⟩
      obtain ⟨G5, W5, s5, g5⟩ := W4.al hc (.lst [.int ((facs u).length : Nat)])
      refine ⟨_, rfl, _, _, rfl, rfl, c, _, _, rfl, rfl, W5.s _ _ g5, by omega, by omega, szL (by show 1 * _ ≤ _; omega), fun d hd => ?_⟩
      rw [flat_rep, show (((facs u).length : Nat) : Int) + 1 = (((facs u).length + 1 : Nat) : Int) by omega, Int.toNat_natCast]
      obtain ⟨G6, W6, s6, g6⟩ := W5.al hd (.lst (List.replicate ((facs u).length + 1) (.int ((facs u).length : Nat))))
      refine ⟨szL (Nat.le_add_left 1 99999), fun e he => ?_⟩
      obtain ⟨G7, W7', s7, g7⟩ := W6.al he (.lst [.ref d])
      have la : acc.length = (facs u).length := by rw [ta.length, List.length_map, List.length_range]
      refine ⟨F, e, _, _, rfl, rfl, W7'.s _ _ (((s5.g.trans s6.g).trans s7.g) _ _ gF4), W7'.s _ _ g7, szL (by rw [la]; show _ + 1 ≤ _; omega), fun x hx => ?_⟩
      obtain ⟨G8, W8, s8, g8⟩ := W7'.al hx (.lst (acc ++ [.ref d]))
      refine q _ G8 _ W8 ?_
      unfold opF
      rw [opP_rows]
      exact .lst g8 ((ta4.mono (((s5.g.trans s6.g).trans s7.g).trans s8.g)).app (.cons (.lst ((s7.g.trans s8.g) _ _ g6) (td_rep _ _)) .nil))
/-- the letters of a tree as a word -/
def wd (ns : List Int) : List Nat := ns.map fun x => 97 + x.toNat
def spWordOp (T : List NTab) : Sq := fun vs H Q => ∃ (G : Hp) (v : V) (t : Tr), vs = [v] ∧ Same G H ∧ Td G v t.d ∧ Ok4 t ∧ t.lets.length ≤ 7 ∧ ∀ (v : V) (G' H' : Hp), Gx T [] G H G' H' → Td G' v (.tuple [dRows ((facs (wd t.lets)).length + 1) (opF (wd t.lets)), dV ((List.range 4).map fun k => idx [97 + k] (facs (wd t.lets)))]) → Q v H'
theorem abcd_S7 : Str.ofString "abcd" = S7 [97, 98, 99, 100] := by decide +kernel
theorem join_nil : ∀ ws : List (List Nat), TL.joinL [] ws = ws.flatten
  | [] => rfl
  | [p] => by simp [TL.joinL]
  | p :: q :: r => by
    show p ++ ([] ++ TL.joinL [] (q :: r)) = _
    rw [join_nil (q :: r)]
    rfl
theorem word_addR {ps : List (List Nat)} {x : List Nat} : (ps.map vW) ++ List.replicate (if (!decide (x ∈ ps)) = true then (1 : Nat) else 0) (vW x) = (addN ps x).map vW := by
  unfold addN
  by_cases h : x ∈ ps
  · rw [if_pos h, decide_eq_true h]
    simp
  · rw [if_neg h, decide_eq_false h, List.map_append]
    rfl
theorem ok_word_operation (B : Bn mg) (D : Dn K mg "_law_word_operation" sWordOp ["_law_tree"] f fd) (h_leaves : Has P w K mg base 1 "_law_leaves" ["_law_part"] (spLeaves T)) (h_factor_rows : Has P w K mg base 1 "_law_factor_rows" ["_law_word"] (spFactor T)) : Fn P w K mg base 2 f fd ["_law_tree"] (spWordOp T) := by
  refine D.ok sc_word_operation (fun vs H Q h => ?_) (fun cdv A outer s H vs Q hg hr _ _ h => ?_)
  · obtain ⟨G, v, t, rfl, _⟩ := h
    rfl
  obtain ⟨G, v, t, rfl, hS, tv, ok, hl, q⟩ := h
  refine ⟨_,
    (pss_cons (ps_set (i := 1) sc_word_operation.nd rfl (Or.inl rfl) (pe_join pe_str (pe_lc (own := [("_law_letter", 7)]) rfl sc_word_operation.nd (pi_list (pe_h h_leaves hg hr (pa_cons (pv 0) pa_nil))) (blkOk_by (by kernel_rfl)) (fun _ _ _ _ _ => (pg_name (i := 7) sc_word_operation.nd rfl (Or.inl rfl))) (fun _ _ _ _ _ => pts_nil) (fun _ _ _ _ _ => (pe_ix ix_str pe_str (pv 7) (fun _ _ => rfl))))))
    (pss_cons (ps_asg (pe_tup (pa_cons (pe_h h_factor_rows hg hr (pa_cons (pv 1) pa_nil)) (pa_cons (pe_lst (pa_cons pe_str pa_nil)) pa_nil))) (pg_tup (by rfl) (pgs_cons (pg_name (i := 2) sc_word_operation.nd rfl (Or.inl rfl)) (pgs_cons (pg_name (i := 3) sc_word_operation.nd rfl (Or.inr rfl)) pgs_nil))))
    (pss_cons (ps_for PassesOwn.never rfl (pi_range1 (by rfl) B.range (pa_cons (pe_callB call_len_str (by rfl) B.len b_len (pa_cons (pv 1) pa_nil)) pa_nil)) (pg_name (i := 4) sc_word_operation.nd rfl (Or.inl rfl))
      (pss_one (ps_for PassesOwn.never rfl (pi_range2 (by rfl) B.range (pa_cons (pe_op op_add (pv 4) pe_int) (pa_cons (pe_op op_add (pe_callB call_len_str (by rfl) B.len b_len (pa_cons (pv 1) pa_nil)) pe_int) pa_nil))) (pg_name (i := 5) sc_word_operation.nd rfl (Or.inl rfl))
        (pss_cons (ps_set (i := 6) sc_word_operation.nd rfl (Or.inl rfl) (pe_slice sl_str (pv 1) (po_some (pv 4)) (po_some (pv 5))))
        (pss_one (ps_set (i := 3) sc_word_operation.nd rfl (Or.inr rfl) (pe_op op_cat (pv 3) (pe_op op_rep (pe_lst (pa_cons (pv 6) pa_nil)) (pe_callTy call_intB (by rfl) B.int b_int (pa_cons (pe_cmpR op_notIn_seq (pv 6) (pv 3) (by rfl)) pa_nil))))))))))
    (pss_one (ps_ret (pe_tup (pa_cons (pv 2) (pa_cons (pe_lc (own := [("_law_sign", 8)]) rfl sc_word_operation.nd (pi_str pe_str) (blkOk_by (by kernel_rfl)) (fun _ _ _ _ _ => (pg_name (i := 8) sc_word_operation.nd rfl (Or.inl rfl))) (fun _ _ _ _ _ => pts_nil) (fun _ _ _ _ _ => (pe_val (pe_ifExp (pt_cmpR (op_in_seq' (K := K)) (pv 8) (pv 3) (by rfl)) (pe_bm' (K := K) PySem.F.plainAttrs_list PySem.F.slot_list_index PySem.F.type_list_index (mt_index' (K := K)) (pv 3) (pa_cons (pv 8) pa_nil)) (pe_callB (call_len_seq' (K := K)) (by rfl) B.len b_len (pa_cons (pv 3) pa_nil)))))) pa_nil)))))))), ?_⟩
  -- the word
  refine ⟨⟨_, rfl⟩, _, rfl, G, v, t, rfl, hS, tv, by omega, fun L0 G1 H1 W1 g1 => ⟨L0, rfl, ⟨_, SqL.of (W1.s _ _ g1)⟩, ?_⟩⟩
  have lns : (t.lets.map V.int).length = t.lets.length := List.length_map _
  refine lcW (T := T) (E := []) walk_list _ (fun i => dW [97 + (t.lets.getD i 0).toNat]) 0 0 W1.s (by rw [lns]; omega) (fun _ _ _ _ h => h) (fun G2 H2 W2 => SqL.of (W2.s _ _ (W2.g _ _ g1))) Pens.nil
    (fun i x G2 H2 hi hx W2 _ Q2 q2 => ?_) (fun L G2 H2 W2 _ t2 => ?_)
  · obtain ⟨hi', rfl⟩ := int_at hx
    have hb : 0 ≤ t.lets.getD i 0 ∧ t.lets.getD i 0 < 4 := by
      rw [List.getD_eq_getElem?_getD, List.getElem?_eq_getElem hi']
      exact ok _ (List.getElem_mem _)
    refine ⟨rfl, _, rfl, Str.ofString "abcd", _, 97 + (t.lets.getD i 0).toNat, rfl, rfl, szL (Nat.le_add_left 4 99996), ?_, q2 _ G2 H2 (Gx.refl W2.s) Pens.nil (.str _)⟩
    rcases int4 hb with e | e | e | e <;> rw [e] <;> decide +kernel
  rw [lns, range_map (fun x : Int => dW [97 + x.toNat])] at t2
  obtain ⟨L', xs, eL, hL, txs⟩ := t2.list_inv
  cases eL
  have e1 : t.lets.map (fun x : Int => dW [97 + x.toNat]) = (t.lets.map fun x : Int => [97 + x.toNat]).map dW := by rw [List.map_map]; rfl
  rw [e1] at txs
  rw [txs.words_inv, vW_map] at hL
  refine ⟨_, _, _, rfl, rfl, .inl (SqL.of (W2.s _ _ hL)), ?_, ?_⟩
  · have hsum : ∀ l : List Int, (((l.map fun x : Int => [97 + x.toNat]).map fun w => S7 w).map fun x => x.length).sum = l.length := fun l => by
      induction l with
      | nil => rfl
      | cons x r ih =>
        rw [List.map_cons, List.map_cons, List.map_cons, List.sum_cons, ih, List.length_cons]
        show 1 + r.length = _
        omega
    rw [hsum]
    show t.lets.length + _ * 0 ≤ _
    omega
  have ejoin : Txt.join (Str.ofString "") ((t.lets.map fun x : Int => [97 + x.toNat]).map fun w => S7 w) = S7 (wd t.lets) := by
    rw [S7_nil]
    refine (SX.join_S [] _).trans ?_
    rw [join_nil]
    congr 1
    unfold wd
    clear q hl ok tv
    induction t.lets with
    | nil => rfl
    | cons x r ih =>
      rw [List.map_cons, List.flatten_cons, ih]
      rfl
  rw [ejoin]
  have hu : (wd t.lets).length ≤ 7 := by unfold wd; rw [List.length_map]; exact hl
  generalize wd t.lets = u at hu q
  have hsl : (S7 u).length ≤ sizeLine := by rw [S7_len]; exact szL (by omega)
  have W2' := W1.trans W2
  refine ⟨_, rfl, G2, u, rfl, W2.s, hu, fun v1 G3 H3 W3 t3 => ⟨szL (Nat.le_add_left 1 99999), fun S0 hS0 => ?_⟩⟩
  obtain ⟨Ga, Wa, sa, ga⟩ := (W2'.trans W3).al hS0 (.lst [.str (Str.ofString "")])
  refine ⟨szL (Nat.le_add_left 2 99998), fun tt htt => ⟨tt, _, rfl, SqT.of upd_same, rfl, _, _, rfl, _, _, rfl, rfl, ?_⟩⟩
  have Wb := Wa.snocM htt (.tup [v1, .ref S0])
  have ta := t3.mono sa.g
  refine ⟨_, rfl, _, rfl, hsl, _, rfl, by rw [S7_len]; omega, by rw [S7_len]; omega, ?_⟩
  rw [S7_len, Int.toNat_natCast]
  refine for_it walk_range (fun s' σ' H' => ∃ (L : Addr) (o4 o5 o6 o7 o8 : Option V) (G4 : Hp), σ' = [some v, some (vW u), some v1, some (.ref L), o4, o5, o6, o7, o8] ∧ Gx T [] G H G4 H' ∧ Same Ga G4 ∧ G4 L = some (.lst ((facsN u s').map vW)))
    ⟨S0, none, none, none, none, none, Ga, rfl, Wb, Same.refl _, ga⟩ (fun _ _ _ _ _ => True.intro) ?_ ?_
  · rintro a x σ' H4 H4' ha ⟨L, o4, o5, o6, o7, o8, G4, rfl, W4, s4, h4⟩ ⟨rfl, hx⟩
    obtain rfl : x = V.int (a : Nat) := hx.trans (congrArg V.int (Int.zero_add _))
    refine ⟨_, rfl, _, _, rfl, rfl, _, rfl, _, rfl, hsl, _, _, rfl, rfl, _, _, rfl, ⟨by omega, by omega, by rw [S7_len]; omega, by rw [S7_len]; omega⟩, ?_⟩
    rw [S7_len, show (((u.length : Nat) : Int) + 1 - ((a : Int) + 1)).toNat = u.length - a by omega]
    refine for_it walk_range (fun j σ' H' => ∃ (L : Addr) (o5 o6 o7 o8 : Option V) (G4 : Hp), σ' = [some v, some (vW u), some v1, some (.ref L), some (.int (a : Nat)), o5, o6, o7, o8] ∧ Gx T [] G H G4 H' ∧ Same Ga G4 ∧ G4 L = some (.lst ((FN u a (facsN u a) j).map vW)))
      ⟨L, o5, o6, o7, o8, G4, rfl, W4, s4, h4⟩ (fun _ _ _ _ _ => True.intro) ?_ ?_
    · rintro j x σ' H5 H5' hj ⟨L, o5, o6, o7, o8, G5, rfl, W5, s5, h5⟩ ⟨rfl, hx⟩
      obtain rfl : x = V.int ((a + (j + 1) : Nat) : Int) := hx.trans (congrArg V.int (by omega))
      have hcut : cutS (S7 u) (some ((a : Nat) : Int)) (some ((a + (j + 1) : Nat) : Int)) = S7 ((u.drop a).take (j + 1)) := by
        rw [cutS7 (by omega) (by omega), show a + (j + 1) - a = j + 1 by omega]
      have hsz := FN_sz ha hu (j := j) (by omega)
      refine ⟨_, rfl, _, rfl, _, rfl, _, rfl, _, rfl, S7 u, rfl, hsl, ?_⟩
      rw [hcut]
      generalize hX : (u.drop a).take (j + 1) = X
      refine ⟨_, rfl, _, rfl, szL (Nat.le_add_left 1 99999), fun c hc => ?_⟩
      obtain ⟨G6, W6, s6, g6⟩ := W5.al hc (.lst [vW X])
      have h6 := W6.s _ _ (s6.g _ _ h5)
      refine ⟨_, rfl, _, rfl, L, (FN u a (facsN u a) j).map vW, rfl, .inl (SqL.of h6), rfl, flat_S7 _, ?_⟩
      have ein : inV (V.str (S7 X)) ((FN u a (facsN u a) j).map vW) = decide (X ∈ FN u a (facsN u a) j) := inV_S7 _ _
      refine ⟨(!inV (V.str (S7 X)) ((FN u a (facsN u a) j).map vW)), rfl, ?_⟩
      rw [ein]
      have ek : (if (!decide (X ∈ FN u a (facsN u a) j)) = true then (1 : Int) else 0) = ((if (!decide (X ∈ FN u a (facsN u a) j)) = true then (1 : Nat) else 0 : Nat) : Int) := by split <;> rfl
      have kb : (if (!decide (X ∈ FN u a (facsN u a) j)) = true then (1 : Nat) else 0) ≤ 1 := by split <;> omega
      have ea := word_addR (ps := FN u a (facsN u a) j) (x := X)
      rw [ek]
      generalize (if (!decide (X ∈ FN u a (facsN u a) j)) = true then (1 : Nat) else 0) = kk at kb ea
      refine ⟨c, _, _, rfl, rfl, W6.s _ _ g6, by omega, by omega, szL (by rw [Int.toNat_natCast]; show 1 * kk ≤ _; omega), fun d hd => ?_⟩
      rw [Int.toNat_natCast, flat_rep]
      obtain ⟨G7, W7', s7, g7⟩ := W6.al hd (.lst (List.replicate kk (vW X)))
      refine ⟨L, d, _, _, rfl, rfl, W7'.s _ _ (s7.g _ _ (s6.g _ _ h5)), W7'.s _ _ g7, szL (by rw [List.length_map, List.length_replicate]; omega), fun e he => ?_⟩
      rw [ea]
      obtain ⟨G8, W8, s8, g8⟩ := W7'.al he (.lst ((addN (FN u a (facsN u a) j) X).map vW))
      refine ⟨e, _, _, o7, o8, G8, rfl, W8, ((s5.trans s6.g).trans s7.g).trans s8.g, ?_⟩
      rw [g8, FN, hX]
    · rintro σ' H5 ⟨L, o5, o6, o7, o8, G5, rfl, W5, s5, h5⟩
      exact ⟨L, _, _, _, _, _, G5, rfl, W5, s5, h5⟩
  · rintro σ' H4 ⟨L, o4, o5, o6, o7, o8, G4, rfl, W4, s4, h4⟩
    have h4 : G4 L = some (.lst ((facs u).map vW)) := h4
    have hsz : (facs u).length ≤ 100 := facsN_sz (Nat.le_refl _) hu
    refine ⟨_, rfl, S7 [97, 98, 99, 100], congrArg V.str abcd_S7, ?_⟩
    refine lcW (T := T) (E := []) walk_str (fun i x => i < 4 ∧ x = vW [97 + i]) (fun k => .int (idx [97 + k] (facs u) : Nat)) 0 0 W4.s (by decide) (fun i H x H' y => ⟨y.1, ?_⟩) (fun _ _ _ => True.intro) Pens.nil (fun i x G5 H5 hi hx W5 _ Q5 q5 => ?_) (fun R G5 H5 W5 _ t5 => ?_)
    · obtain ⟨_, c, hc, rfl⟩ := y
      match i, hc with
      | 0, hc => cases hc; exact ⟨by decide, rfl⟩
      | 1, hc => cases hc; exact ⟨by decide, rfl⟩
      | 2, hc => cases hc; exact ⟨by decide, rfl⟩
      | 3, hc => cases hc; exact ⟨by decide, rfl⟩
      | i + 4, hc => simp at hc
    · obtain ⟨hi4, rfl⟩ := hx
      have hL5 := SqL.of (K := K) (W5.s _ _ (W5.g _ _ h4))
      refine ⟨rfl, .int (idx [97 + i] (facs u) : Nat), ⟨_, rfl, _, rfl, L, _, rfl, .inl hL5, rfl, flat_S7 _, _, rfl, ?_⟩, q5 _ G5 H5 (Gx.refl W5.s) Pens.nil (.int _)⟩
      show if inV (vW [97 + i]) _ = true then _ else _
      rw [inV_S7]
      refine ite2 (fun c => ?_) (fun c => ?_)
      · refine ⟨_, rfl, .inl ⟨rfl, _, hL5⟩, _, rfl, ?_⟩
        exact rd_index (Q := fun x H' => x = V.int (idx [97 + i] (facs u) : Nat) ∧ H' = H5) hL5 (of_decide_eq_true c) ⟨rfl, rfl⟩
      · rw [idx_none fun z => c (decide_eq_true z)]
        exact ⟨_, rfl, L, _, rfl, .inl hL5, by rw [List.length_map], rfl⟩
    · refine ⟨szL (Nat.le_add_left 2 99998), fun z hz => ?_⟩
      obtain ⟨G6, W6, s6, g6⟩ := (W4.trans W5).al hz (.tup [v1, .ref R])
      refine q _ G6 _ W6 (.tup g6 (.cons (ta.mono ((s4.trans W5.g).trans s6.g)) (.cons ?_ .nil)))
      unfold dV
      rw [List.map_map]
      exact t5.mono s6.g
end
end W7
set_option maxRecDepth 100000
set_option maxHeartbeats 4000000
/-! WN: _law_tree_rows -/
namespace W7
open PySem PySem.Spec PyProof.Rows L2 LamX NdefX
/-- a part by what holds behind it -/
def tCutE (te : TE) : TE := fun σ H Q => ∃ R : VK, te σ H R ∧ ∀ x H', R x H' → Q x H'
theorem pe_cutE {X : Cx} {e : Expr} {te : TE} (h : PE X e te) : PE X e (tCutE te) := by
  refine ⟨fun pins s σ H Q I ⟨R, h1, q⟩ => ?_⟩
  exact thn (h.run pins s σ H _ I h1) fun u s1 ⟨x, H1, I1, r1, e1⟩ => ⟨x, H1, I1, r1, q x H1 e1⟩
def Gd (t : Tr) : Prop := Ok4 t ∧ t.lets.length ≤ 7
theorem Gd.ht {t : Tr} (h : Gd t) : t.ht ≤ 6 := by
  have := ht_lt t
  have := h.2
  omega
theorem Gd.nd {l r : Tr} (h : Gd (.nd l r)) : Gd l ∧ Gd r := by
  have h2 := h.2
  rw [len_nd] at h2
  exact ⟨⟨h.1.nd.1, by omega⟩, h.1.nd.2, by omega⟩
theorem Gd.ws {t : Tr} (h : Gd t) : Gd t.ws := ⟨ws_ok h.1, by rw [ws_len]; exact h.2⟩
def comb (tn : Bool) (l r : Tr) : Tr := if tn = true then (Tr.nd l r).ws else .nd l r
def whole (tn : Bool) (t : Tr) : Tr := if tn = true then t.ws else t
theorem Gd.whole {t : Tr} {tn : Bool} (h : Gd t) : Gd (whole tn t) := by
  unfold W7.whole
  split
  · exact h.ws
  · exact h
theorem whole_wt {t : Tr} {tn : Bool} : (whole tn t).wt = t.wt := by
  have h1 := wt_eq t
  have h2 := wt_eq t.ws
  rw [ws_len] at h2
  unfold whole
  split <;> omega
theorem comb_ht {tn : Bool} {l r : Tr} (hl : Gd l) (hr : Gd r) : (comb tn l r).ht ≤ 20 := by
  have h1 := ht_lt (comb tn l r)
  have h2 : (comb tn l r).lets.length = l.lets.length + r.lets.length := by
    unfold comb
    split
    · rw [ws_len, len_nd]
    · rw [len_nd]
  have := hl.2
  have := hr.2
  omega
theorem any_d (z : Tr) (ps : List Tr) : ((ps.map Tr.d).any fun y => PyData.eqv y z.d) = decide (z ∈ ps) := by
  rw [List.any_map, Bool.eq_iff_iff, List.any_eq_true, decide_eq_true_iff]
  constructor
  · rintro ⟨y, hy, e⟩
    have e : PyData.eqv y.d z.d = true := e
    rw [d_eqv, decide_eq_true_iff] at e
    exact e ▸ hy
  · exact fun h => ⟨z, h, by show PyData.eqv z.d z.d = true; rw [d_eqv]; simp⟩
def kids : Tr → List Tr
  | .lf _ => []
  | .nd l r => [l, r]
theorem kids_wt (t : Tr) : ((kids t).map Tr.wt).sum + 1 = t.wt := by
  cases t with
  | lf n => rfl
  | nd l r => simp [kids, Tr.wt]
theorem td_repV {G : Hp} {v : V} {d : PyData} (h : Td G v d) : ∀ n : Nat, TdAll G (List.replicate n v) (List.replicate n d)
  | 0 => .nil
  | n + 1 => .cons h (td_repV h n)
theorem tree_addR {ps : List Tr} {z : Tr} : ps.map Tr.d ++ List.replicate (if (!decide (z ∈ ps)) = true then (1 : Nat) else 0) z.d = (addN ps z).map Tr.d := by
  unfold addN
  by_cases h : z ∈ ps
  · rw [if_pos h, decide_eq_true h]
    simp
  · rw [if_neg h, decide_eq_false h, List.map_append]
    rfl
section
variable {K : PySem.W.Frag} {H : Hp} {ps : List Tr} {z : Tr} {y : V} {a : V} {Q : VK}
theorem rd_inT (ha : Td H a (.list (ps.map Tr.d))) (hy : Td H y z.d) (g : ∀ t ∈ ps, Gd t) (hz : z.ht ≤ 60) (q : Q (.bl (decide (z ∈ ps))) H) : rInD K y a H Q :=
  ⟨z.d, ps.map Tr.d, hy.dp, ha.dp, d_shaped hz, ds_shaped fun t ht => Nat.le_trans (g t ht).ht (by decide), by rw [any_d]; exact q⟩
theorem rd_notInT (ha : Td H a (.list (ps.map Tr.d))) (hy : Td H y z.d) (g : ∀ t ∈ ps, Gd t) (hz : z.ht ≤ 60) (q : Q (.bl (!decide (z ∈ ps))) H) : rNotInD K y a H Q :=
  ⟨z.d, ps.map Tr.d, hy.dp, ha.dp, d_shaped hz, ds_shaped fun t ht => Nat.le_trans (g t ht).ht (by decide), by rw [any_d]; exact q⟩
theorem rd_indexT {b : Addr} (ha : Td H (.ref b) (.list (ps.map Tr.d))) (hy : Td H y z.d) (g : ∀ t ∈ ps, Gd t) (hz : z.ht ≤ 60) (m : z ∈ ps) (q : Q (.int (idx z ps : Nat)) H) : rIndexD K (.ref b) [y] H Q := by
  refine ⟨b, y, z.d, ps.map Tr.d, idx z ps, z.d, rfl, rfl, ha.dp, hy.dp, ds_shaped fun t ht => Nat.le_trans (g t ht).ht (by decide), d_shaped hz, ?_, by rw [d_eqv]; simp, fun j u hj hu => ?_, q⟩
  · rw [List.getElem?_map, idx_at m]
    rfl
  · rw [List.getElem?_map] at hu
    obtain ⟨w, hw, rfl⟩ := Option.map_eq_some_iff.mp hu
    rw [d_eqv, decide_eq_false (idx_first hj hw)]
end
abbrev sTreeRows : Stmt := top 36
theorem sc_tree_rows : FnScope ["_law_tree", "_law_turned", "_law_whole", "_law_parts", "_law_todo", "_law_found", "_law_n", "_law_left", "_law_one", "_law_both", "_law_right", "_law_k"] ["_law_tree", "_law_turned"] (defScope sTreeRows) := ⟨rfl, rfl, rfl, by decide +kernel, rfl, by decide +kernel, by decide +kernel⟩
def spTreeRows (T : List NTab) : Sq := fun vs H Q => ∃ (G : Hp) (v : V) (t : Tr) (tn : Bool), vs = [v, .bl tn] ∧ Same G H ∧ Td G v t.d ∧ Gd t ∧ ∀ (ps : List Tr) (v : V) (G' H' : Hp), whole tn t ∈ ps → (∀ l r, Tr.nd l r ∈ ps → l ∈ ps ∧ r ∈ ps) → Gx T [] G H G' H' →
  Td G' v (.tuple [dRows (ps.length + 1) (opP ps (comb tn) (.lf 0)), dV ((List.range 4).map fun k => idx (.lf (k : Nat)) ps)]) → Q v H'
section
variable {P : Program} {w : World} {K : PySem.W.Frag} {mg : Str → Option Value} {base : Heap} {f : Addr} {fd : FuncData} {T : List NTab}
theorem ok_tree_rows (B : Bn mg) (D : Dn K mg "_law_tree_rows" sTreeRows ["_law_tree", "_law_turned"] f fd) (h_ordered : Has P w K mg base 9 "_law_ordered" ["_law_tree"] (spWs T 8)) : Fn P w K mg base 10 f fd ["_law_tree", "_law_turned"] (spTreeRows T) := by
  refine D.ok sc_tree_rows (fun vs H Q h => ?_) (fun cdv A outer s H vs Q hg hr _ _ h => ?_)
  · obtain ⟨G, v, t, tn, rfl, _⟩ := h
    rfl
  obtain ⟨G, v, t, tn, rfl, hS, tv, gd, q⟩ := h
  refine ⟨_,
    (pss_cons (ps_set (i := 2) sc_tree_rows.nd rfl (Or.inl rfl) (pe_cutE (pe_ifExp (pt_val (pv 1)) (pe_h h_ordered hg hr (pa_cons (pv 0) pa_nil)) (pv 0))))
    (pss_cons (ps_asg (pe_tup (pa_cons (pe_lst pa_nil) (pa_cons (pe_lst (pa_cons (pv 2) pa_nil)) (pa_cons (pe_lst pa_nil) pa_nil)))) (pg_tup (by rfl) (pgs_cons (pg_name (i := 3) sc_tree_rows.nd rfl (Or.inr rfl)) (pgs_cons (pg_name (i := 4) sc_tree_rows.nd rfl (Or.inl rfl)) (pgs_cons (pg_name (i := 5) sc_tree_rows.nd rfl (Or.inl rfl)) pgs_nil)))))
    (pss_cons (ps_while PassesOwn.never (pt_cmpR (op_neD hr.units) (pv 4) (pe_lst pa_nil) (nomark _))
      (pss_cons (ps_set (i := 8) sc_tree_rows.nd rfl (Or.inl rfl) (pe_bm0 PySem.F.plainAttrs_list PySem.F.slot_list_pop PySem.F.type_list_pop mt_pop (pv 4)))
      (pss_cons (ps_set (i := 3) sc_tree_rows.nd rfl (Or.inr rfl) (pe_op op_cat (pv 3) (pe_op op_rep (pe_lst (pa_cons (pv 8) pa_nil)) (pe_callTy call_intB (by rfl) B.int b_int (pa_cons (pe_cmpR (op_notInD (hu65 hr)) (pv 8) (pv 3) (by rfl)) pa_nil)))))
      (pss_one (ps_set (i := 4) sc_tree_rows.nd rfl (Or.inl rfl) (pe_op op_cat (pv 4) (pe_cutE (pe_ifExp (pt_val (pe_callB call_isTup (by rfl) B.isinstance b_isinstance (pa_cons (pv 8) (pa_cons (pe_bltn (v := .ty "tuple") (by rfl) B.tuple b_tuple rfl) pa_nil)))) (pe_callTy call_list_of (by rfl) B.list b_list (pa_cons (pv 8) pa_nil)) (pe_lst pa_nil)))))))))
    (pss_cons (ps_set (i := 6) sc_tree_rows.nd rfl (Or.inr rfl) (pe_callB call_len_seq (by rfl) B.len b_len (pa_cons (pv 3) pa_nil)))
    (pss_cons (ps_for PassesOwn.never rfl (pi_list (pv 3)) (pg_name (i := 7) sc_tree_rows.nd rfl (Or.inr rfl))
      (pss_cons (ps_setLc (i := 9) (own := [("_law_right", 10)]) rfl sc_tree_rows.nd rfl rfl (sw_true rfl rfl rfl (by decide +kernel)) (pi_list (pv 3)) (blkOk_by (by kernel_rfl)) (fun _ _ _ _ _ => (pg_name (i := 10) sc_tree_rows.nd rfl (Or.inl rfl))) (fun _ _ _ _ _ => pts_nil) (fun _ _ _ _ _ => (pe_ifExp (pt_val (pv 1)) (pe_h h_ordered hg hr (pa_cons (pe_tup (pa_cons (pv 7) (pa_cons (pv 10) pa_nil))) pa_nil)) (pe_tup (pa_cons (pv 7) (pa_cons (pv 10) pa_nil))))))
      (pss_one (ps_expr (pe_bm PySem.F.plainAttrs_list PySem.F.slot_list_append PySem.F.type_list_append mt_append (pv 5) (pa_cons (pe_op op_cat (pe_lc (own := [("_law_one", 8)]) rfl sc_tree_rows.nd (pi_list (pv 9)) (blkOk_by (by kernel_rfl)) (fun _ _ _ _ _ => (pg_name (i := 8) sc_tree_rows.nd rfl (Or.inl rfl))) (fun _ _ _ _ _ => pts_nil) (fun _ _ _ _ _ => (pe_val (pe_ifExp (pt_cmpR (op_inD' (hu65 hr) (K := K)) (pv 8) (pv 3) (by rfl)) (pe_bm' (K := K) PySem.F.plainAttrs_list PySem.F.slot_list_index PySem.F.type_list_index (mt_indexD' (hu65 hr) (K := K)) (pv 3) (pa_cons (pv 8) pa_nil)) (pv 6))))) (pe_lst (pa_cons (pv 6) pa_nil))) pa_nil))))))
    (pss_one (ps_ret (pe_tup (pa_cons (pe_op op_cat (pv 5) (pe_lst (pa_cons (pe_op op_rep (pe_lst (pa_cons (pv 6) pa_nil)) (pe_op op_add (pv 6) pe_int)) pa_nil))) (pa_cons (pe_lc (own := [("_law_k", 11)]) rfl sc_tree_rows.nd (pi_range1 (by rfl) B.range (pa_cons pe_int pa_nil)) (blkOk_by (by kernel_rfl)) (fun _ _ _ _ _ => (pg_name (i := 11) sc_tree_rows.nd rfl (Or.inl rfl))) (fun _ _ _ _ _ => pts_nil) (fun _ _ _ _ _ => (pe_val (pe_ifExp (pt_cmpR (op_inD' (hu65 hr) (K := K)) (pv 11) (pv 3) (by rfl)) (pe_bm' (K := K) PySem.F.plainAttrs_list PySem.F.slot_list_index PySem.F.type_list_index (mt_indexD' (hu65 hr) (K := K)) (pv 3) (pa_cons (pv 11) pa_nil)) (pv 6))))) pa_nil)))))))))), ?_⟩
  refine ⟨fun x H' => ∃ G', Gx T [] G H G' H' ∧ Td G' x (whole tn t).d, ⟨_, rfl, _, rfl, ?_⟩, fun wv H1 ⟨G1, W1, tw⟩ => ?_⟩
  · refine ite2 (fun c => ?_) (fun c => ?_)
    · refine ⟨_, rfl, G, v, t, rfl, hS, tv, by have := gd.ht; omega, gd.1, by have := gd.2; omega, fun a G' H' W e => ⟨G', W, ?_⟩⟩
      unfold whole
      rw [if_pos c]
      exact e
    · refine ⟨_, rfl, G, Gx.refl hS, ?_⟩
      unfold whole
      rw [if_neg c]
      exact tv
  have gw : Gd (whole tn t) := gd.whole
  have ww : (whole tn t).wt ≤ 13 := by
    have h1 := wt_eq t
    have h2 := gd.2
    rw [whole_wt]
    omega
  generalize whole tn t = wh at *
  refine ⟨Nat.zero_le _, fun A0 hA0 => ?_⟩
  obtain ⟨G2, W2, s2, g2⟩ := W1.al hA0 (.lst [])
  refine ⟨_, rfl, szL (Nat.le_add_left 1 99999), fun D0 hD0 => ⟨Nat.zero_le _, fun F hF => ⟨szL (Nat.le_add_left 3 99997), fun tt htt => ⟨tt, _, rfl, SqT.of upd_same, rfl, _, _, rfl, _, _, rfl, _, _, rfl, rfl, ?_⟩⟩⟩⟩
  have nDF : D0 ≠ F := fun z => by rw [← z, upd_same] at hF; cases hF
  have W3 := ((W2.snocM hD0 (.lst [wv])).snocM hF (.lst [])).snocM htt (.tup [.ref A0, .ref D0, .ref F])
  have hD3 : upd (upd (upd (upd H1 A0 (.lst [])) D0 (.lst [wv])) F (.lst [])) tt (.tup [.ref A0, .ref D0, .ref F]) D0 = some (.lst [wv]) := by
    have h1 : upd (upd (upd H1 A0 (.lst [])) D0 (.lst [wv])) F (.lst []) D0 = some (.lst [wv]) := by rw [upd_ne nDF, upd_same]
    rw [upd_ne (ne_of_none h1 htt)]; exact h1
  have hF3 : upd (upd (upd (upd H1 A0 (.lst [])) D0 (.lst [wv])) F (.lst [])) tt (.tup [.ref A0, .ref D0, .ref F]) F = some (.lst []) := by
    have h1 : upd (upd (upd H1 A0 (.lst [])) D0 (.lst [wv])) F (.lst []) F = some (.lst []) := upd_same
    rw [upd_ne (ne_of_none h1 htt)]; exact h1
  have gD2 : G2 D0 = none := W2.s.free hD0
  have hF' : upd H1 A0 (.lst []) F = none := (upd_none_ne hF).2
  have gF2 : G2 F = none := W2.s.free hF'
  have hD00 : H D0 = none := W2.u _ hD0
  have hF00 : H F = none := W2.u _ hF'
  generalize upd (upd (upd (upd H1 A0 (.lst [])) D0 (.lst [wv])) F (.lst [])) tt (.tup [.ref A0, .ref D0, .ref F]) = H3 at W3 hD3 hF3
  refine ⟨fun m σ' H' => ∃ (ps ts : List Tr) (xs : List V) (A D : Addr) (o6 o7 o8 o9 o10 o11 : Option V) (G4 : Hp), m = (ts.map Tr.wt).sum ∧ σ' = [some v, some (.bl tn), some wv, some (.ref A), some (.ref D), some (.ref F), o6, o7, o8, o9, o10, o11] ∧ Gx T [] G H G4 H' ∧ Td G4 (.ref A) (.list (ps.map Tr.d)) ∧ TdAll G4 xs (ts.map Tr.d) ∧ H' D = some (.lst xs) ∧
      G4 D = none ∧ H D = none ∧ D ≠ F ∧ H' F = some (.lst []) ∧ G4 F = none ∧ (wh ∈ ps ∨ wh ∈ ts) ∧ (∀ l r, Tr.nd l r ∈ ps → (l ∈ ps ∨ l ∈ ts) ∧ (r ∈ ps ∨ r ∈ ts)) ∧ ps.length + (ts.map Tr.wt).sum ≤ wh.wt ∧ (∀ z ∈ ps, Gd z) ∧ ∀ z ∈ ts, Gd z,
    ⟨_, [], [wh], [wv], A0, D0, none, none, none, none, none, none, G2, rfl, rfl, W3, .lst g2 .nil, .cons (tw.mono s2.g) .nil, hD3, gD2, hD00, nDF, hF3, gF2, .inr (by simp), fun _ _ h => absurd h (by simp), by simp, fun _ h => absurd h (by simp), fun z hz => by rw [List.mem_singleton.mp hz]; exact gw⟩, ?_⟩
  rintro m σ' H4 ⟨ps, ts, xs, A, D, o6, o7, o8, o9, o10, o11, G4, rfl, rfl, W4, tA, tx, hD4, gD4, hD0', nDF, hF4, gF4, hwh, clo, hsz, gps, gts⟩
  have lx : xs.length = ts.length := by rw [tx.length, List.length_map]
  have lts : ts.length ≤ 13 := by
    have : ∀ us : List Tr, us.length ≤ (us.map Tr.wt).sum := fun us => by
      induction us with
      | nil => exact Nat.le_refl _
      | cons a r ih =>
        have := kids_wt a
        rw [List.map_cons, List.sum_cons, List.length_cons]
        omega
    have := this ts
    omega
  refine ⟨_, rfl, Nat.zero_le _, fun e he => rd_neNil upd_same (Td.lst (upd_ne (ne_of_none hD4 he) ▸ hD4) (tx.mono (W4.s.trans (same_new he _)))) (ds_shaped fun z hz => Nat.le_trans (gts z hz).ht (by decide)) ⟨_, rfl, ?_⟩⟩
  have W5 : Gx T [] G H G4 (upd H4 e (.lst [])) := W4.snocM he _
  have hD5 : upd H4 e (.lst []) D = some (.lst xs) := by rw [upd_ne (ne_of_none hD4 he)]; exact hD4
  have hF5 : upd H4 e (.lst []) F = some (.lst []) := by rw [upd_ne (ne_of_none hF4 he)]; exact hF4
  generalize upd H4 e (.lst []) = H5 at W5 hD5 hF5
  refine ite2 (fun ne => ?_) (fun ne => ?_)
  · obtain ⟨tr, z, rfl⟩ : ∃ tr z, ts = tr ++ [z] := list_snoc (by rintro rfl; simp at ne)
    rw [List.map_append] at tx
    obtain ⟨ys, x, rfl, ty, tz⟩ := tx.snoc_inv
    have W6 := W5.write (o' := .lst ys) (.inl hD0') gD4 hD5 True.intro
    refine ⟨_, fun _ _ h => h, ?_⟩
    refine ⟨_, rfl, .inl ⟨rfl, _, SqL.of hD5⟩, D, _, x, rfl, rfl, hD5, by simp, ?_⟩
    rw [List.dropLast_concat]
    have hD6 : upd H5 D (.lst ys) D = some (.lst ys) := upd_same
    have hF6 : upd H5 D (.lst ys) F = some (.lst []) := by rw [upd_ne nDF.symm]; exact hF5
    generalize upd H5 D (.lst ys) = H6 at W6 hD6 hF6
    have gz : Gd z := gts z (by simp)
    have zht : z.ht ≤ 60 := Nat.le_trans gz.ht (by decide)
    -- parts
    refine ⟨_, rfl, _, rfl, szL (Nat.le_add_left 1 99999), fun c hc => ?_⟩
    obtain ⟨G7, W7', s7, g7⟩ := W6.al hc (.lst [x])
    have tA7 := (tA.mono s7.g).mono W7'.s
    have tz7 := (tz.mono s7.g).mono W7'.s
    refine ⟨_, rfl, _, rfl, rd_notInT tA7 tz7 gps zht ⟨_, rfl, ?_⟩⟩
    have ek : (if (!decide (z ∈ ps)) = true then (1 : Int) else 0) = ((if (!decide (z ∈ ps)) = true then (1 : Nat) else 0 : Nat) : Int) := by split <;> rfl
    have kb : (if (!decide (z ∈ ps)) = true then (1 : Nat) else 0) ≤ 1 := by split <;> omega
    have ea := tree_addR (ps := ps) (z := z)
    rw [ek]
    generalize (if (!decide (z ∈ ps)) = true then (1 : Nat) else 0) = kk at kb ea
    obtain ⟨A', us, eA, hA, tus⟩ := tA.list_inv
    cases eA
    have lus : us.length ≤ 13 := by rw [tus.length, List.length_map]; omega
    refine ⟨c, _, _, rfl, rfl, W7'.s _ _ g7, by omega, by omega, szL (by rw [Int.toNat_natCast]; show 1 * kk ≤ _; omega), fun d hd => ?_⟩
    rw [Int.toNat_natCast, flat_rep]
    obtain ⟨G8, W8, s8, g8⟩ := W7'.al hd (.lst (List.replicate kk x))
    refine ⟨A, d, _, _, rfl, rfl, W8.s _ _ (s8.g _ _ (s7.g _ _ hA)), W8.s _ _ g8, szL (by rw [List.length_replicate]; omega), fun e1 he1 => ?_⟩
    obtain ⟨G9, W9, s9, g9⟩ := W8.al he1 (.lst (us ++ List.replicate kk x))
    have s69 := (s7.trans s8).trans s9
    have tA9 : Td G9 (.ref e1) (.list ((addN ps z).map Tr.d)) := by
      rw [← ea]
      exact .lst g9 ((tus.mono s69.g).app (td_repV (tz.mono s69.g) kk))
    have hD9 := s69.keepM (by simp) gD4 hD6 (fun _ z => by cases z)
    have hF9 := s69.keepM (by simp) gF4 hF6 (fun _ z => by cases z)
    have tz9 := tz.mono s69.g
    have ty9 := ty.mono s69.g
    generalize upd (upd (upd H6 c (.lst [x])) d (.lst (List.replicate kk x))) e1 (.lst (us ++ List.replicate kk x)) = H9 at *
    -- todo
    refine ⟨_, rfl, fun y H' => ∃ (l : Addr) (zs : List V) (G' : Hp), y = .ref l ∧ Gx T [] G9 H9 G' H' ∧ G' l = some (.lst zs) ∧ TdAll G' zs ((kids z).map Tr.d), ⟨_, rfl, x, z.d, rfl, tz9.mono W9.s, _, rfl, ?_⟩, ?_⟩
    · cases z with
      | lf n => exact iteF ⟨Nat.zero_le _, fun l hl => ⟨l, [], _, rfl, Gx.new W9.s hl _, upd_same, .nil⟩⟩
      | nd a b =>
        obtain ⟨k, x1, x2, rfl, hk, t1, t2⟩ := nd_td tz9
        refine iteT ⟨_, rfl, k, _, rfl, .inr (SqT.of (W9.s _ _ hk)), fun l hl => ?_⟩
        obtain ⟨Ga, Wa, sa, ga⟩ := (Gx.refl (T := T) (E := []) W9.s).al hl (.lst [x1, x2])
        exact ⟨l, _, Ga, rfl, Wa, ga, .cons (t1.mono sa.g) (.cons (t2.mono sa.g) .nil)⟩
    · rintro y H10 ⟨l, zs, G10, rfl, W10, hl, tzs⟩
      have hD10 := W10.keepM (by simp) hD9.1 hD9.2 (fun _ z => by cases z)
      have hF10 := W10.keepM (by simp) hF9.1 hF9.2 (fun _ z => by cases z)
      have lz : zs.length ≤ 2 := by rw [tzs.length, List.length_map]; cases z <;> simp [kids]
      have ly : ys.length + 1 = (tr ++ [z]).length := by rw [ty.length, List.length_map, List.length_append]; rfl
      refine ⟨D, l, _, _, rfl, rfl, hD10.2, W10.s _ _ hl, szL (by omega), fun D' hD' => ?_⟩
      have nDF' : D' ≠ F := fun z => by rw [z, hF10.2] at hD'; cases hD'
      have W11 := (W9.trans W10).snocM hD' (.lst (ys ++ zs))
      have kw := kids_wt z
      have al := addN_len ps z
      rw [List.map_append, List.sum_append] at hsz
      have hsz : ps.length + ((tr.map Tr.wt).sum + (z.wt + 0)) ≤ wh.wt := hsz
      refine ⟨((tr ++ kids z).map Tr.wt).sum, ?_, addN ps z, tr ++ kids z, ys ++ zs, e1, D', o6, o7, _, o9, o10, o11, G10, rfl, rfl, W11, tA9.mono W10.g, ?_, upd_same, W10.s.free hD', (W9.trans W10).u _ hD', nDF', by rw [upd_ne nDF'.symm]; exact hF10.2, hF10.1, ?_, fun l r hlr => ?_, ?_, fun u hu => ?_, fun u hu => ?_⟩
      · rw [List.map_append, List.sum_append, List.map_append, List.sum_append]
        show _ < _ + (z.wt + 0)
        omega
      · rw [List.map_append]
        exact (ty9.mono W10.g).app tzs
      · rcases hwh with h | h
        · exact .inl (addN_mem.mpr (.inl h))
        · rcases List.mem_append.mp h with h | h
          · exact .inr (List.mem_append_left _ h)
          · exact .inl (addN_mem.mpr (.inr (List.mem_singleton.mp h)))
      · have up : ∀ u, (u ∈ ps ∨ u ∈ tr ++ [z]) → u ∈ addN ps z ∨ u ∈ tr ++ kids z := fun u h => by
          rcases h with h | h
          · exact .inl (addN_mem.mpr (.inl h))
          · rcases List.mem_append.mp h with h | h
            · exact .inr (List.mem_append_left _ h)
            · exact .inl (addN_mem.mpr (.inr (List.mem_singleton.mp h)))
        rcases addN_mem.mp hlr with h | h
        · exact ⟨up _ (clo l r h).1, up _ (clo l r h).2⟩
        · subst h
          exact ⟨.inr (List.mem_append_right _ (by simp [kids])), .inr (List.mem_append_right _ (by simp [kids]))⟩
      · rw [List.map_append, List.sum_append]
        omega
      · rcases addN_mem.mp hu with h | h
        · exact gps u h
        · exact h ▸ gz
      · rcases List.mem_append.mp hu with h | h
        · exact gts u (List.mem_append_left _ h)
        · cases z with
          | lf n => simp [kids] at h
          | nd a b =>
            rcases List.mem_cons.mp h with rfl | h
            · exact gz.nd.1
            · rw [List.mem_singleton.mp h]
              exact gz.nd.2
  · have hz : ts = [] := by
      cases ts with
      | nil => rfl
      | cons _ _ => simp at ne
    subst hz
    have hwh : wh ∈ ps := hwh.elim id fun h => absurd h (by simp)
    have clo : ∀ l r, Tr.nd l r ∈ ps → l ∈ ps ∧ r ∈ ps := fun l r h => ⟨(clo l r h).1.elim id fun h => absurd h (by simp), (clo l r h).2.elim id fun h => absurd h (by simp)⟩
    have lps : ps.length ≤ 13 := by simp at hsz; omega
    clear hsz gts lts lx ne
    obtain ⟨A', us, eA, hA, tus⟩ := tA.list_inv
    cases eA
    have lus : us.length = ps.length := by rw [tus.length, List.length_map]
    have treev : ∀ {i : Nat} {x : V}, us[i]? = some x → i < ps.length ∧ Td G4 x (ps.getD i (.lf 0)).d ∧ ps.getD i (.lf 0) ∈ ps := fun {i x} h => by
      obtain ⟨z, hz, tz⟩ := tus.get h
      rw [List.getElem?_map] at hz
      obtain ⟨y, hy, rfl⟩ := Option.map_eq_some_iff.mp hz
      rw [getD_at hy]
      exact ⟨(List.getElem?_eq_some_iff.mp hy).1, tz, List.mem_of_getElem? hy⟩
    -- n = len(parts)
    refine ⟨_, rfl, A, _, rfl, .inl (SqL.of (W5.s _ _ hA)), ?_⟩
    rw [lus]
    refine ⟨_, rfl, A, rfl, ⟨_, SqL.of (W5.s _ _ hA)⟩, for_list (K := K) (xs := us) (fun i σ' H' => ∃ (o7 o8 o9 o10 o11 : Option V) (G5 : Hp) (acc : List V), σ' = [some v, some (.bl tn), some wv, some (.ref A), some (.ref D), some (.ref F), some (.int (ps.length : Nat)), o7, o8, o9, o10, o11] ∧ Gx T [] G H G5 H' ∧ Same G4 G5 ∧ G5 F = none ∧ H' F = some (.lst acc) ∧ TdAll G5 acc ((List.range i).map (dRow (ps.length + 1) (opP ps (comb tn) (.lf 0)))))
      ⟨_, _, _, _, _, G4, [], rfl, W5, Same.refl _, gF4, hF5, .nil⟩ (fun i σ' H' _ ⟨_, _, _, _, _, G5, acc, _, W, s45, _⟩ => SqL.of (W.s _ _ (s45 _ _ hA))) ?_ ?_⟩
    · rintro i x σ' H6 hx ⟨o7, o8, o9, o10, o11, G6, acc, rfl, W6, s46, gF6, hF6, ta⟩
      obtain ⟨hi', tx, hm⟩ := treev hx
      have gi := gps _ hm
      -- both
      refine ⟨_, rfl, A, rfl, ⟨_, SqL.of (W6.s _ _ (s46 _ _ hA))⟩, lcW (T := T) (E := []) walk_list _ (fun j => (comb tn (ps.getD i (.lf 0)) (ps.getD j (.lf 0))).d) 0 0 W6.s (by omega) (fun _ _ _ _ h => h) (fun G7 H7 W7' => SqL.of (W7'.s _ _ (W7'.g _ _ (s46 _ _ hA)))) Pens.nil
        (fun j y G7 H7 hj hy W7' _ Q7 q7 => ?_) (fun Bo G7 H7 W7' _ t7 => ?_)⟩
      · obtain ⟨hj', ty, hm2⟩ := treev hy
        have gj := gps _ hm2
        have gi2 := gi.2
        have gj2 := gj.2
        have tx7 := (tx.mono s46).mono W7'.g
        have ty7 := (ty.mono s46).mono W7'.g
        have mk : ∀ (c : Addr), H7 c = none → ∃ G8, Gx T [] G7 H7 G8 (upd H7 c (.tup [x, y])) ∧ Td G8 (.ref c) (Tr.nd (ps.getD i (.lf 0)) (ps.getD j (.lf 0))).d := fun c hc => by
          obtain ⟨G8, W8, s8, g8⟩ := (Gx.refl (T := T) (E := []) W7'.s).al hc (.tup [x, y])
          exact ⟨G8, W8, .tup g8 (.cons (tx7.mono s8.g) (.cons (ty7.mono s8.g) .nil))⟩
        refine ⟨rfl, _, rfl, _, rfl, ite2 (fun c => ?_) (fun c => ?_)⟩
        · refine ⟨_, rfl, _, rfl, szL (Nat.le_add_left 2 99998), fun c1 hc1 => ?_⟩
          obtain ⟨G8, W8, t8⟩ := mk c1 hc1
          refine ⟨G8, .ref c1, _, rfl, W8.s, t8, ?_, gi.1.mk gj.1, by rw [len_nd]; omega, fun a G9 H9 W9 t9 => q7 a G9 H9 (W8.trans W9) Pens.nil ?_⟩
          · have h1 := gi.ht
            have h2 := gj.ht
            show max _ _ + 1 < 8
            omega
          · unfold comb
            rw [if_pos c]
            exact t9
        · refine ⟨_, rfl, _, rfl, szL (Nat.le_add_left 2 99998), fun c1 hc1 => ?_⟩
          obtain ⟨G8, W8, t8⟩ := mk c1 hc1
          refine q7 _ G8 _ W8 Pens.nil ?_
          unfold comb
          rw [if_neg c]
          exact t8
      · obtain ⟨Bo', ws, eB, hB, tws⟩ := t7.list_inv
        cases eB
        have lws : ws.length = ps.length := by rw [tws.length, List.length_map, List.length_range, lus]
        have W67 := W6.trans W7'
        have hF7 := W7'.keepM (by simp) gF6 hF6 (fun _ z => by cases z)
        have tA7 := (tA.mono s46).mono W7'.g
        refine ⟨_, rfl, .inl ⟨rfl, _, SqL.of hF7.2⟩, _, rfl, Bo, rfl, ⟨_, SqL.of (W7'.s _ _ hB)⟩, lcW (T := T) (E := []) walk_list _ (fun j => .int (idx (comb tn (ps.getD i (.lf 0)) (ps.getD j (.lf 0))) ps : Nat)) 0 0 W7'.s (by omega) (fun _ _ _ _ h => h) (fun G8 H8 W8 => SqL.of (W8.s _ _ (W8.g _ _ hB))) Pens.nil
          (fun j y G8 H8 hj hy W8 _ Q8 q8 => ?_) (fun R G8 H8 W8 _ t8 => ?_)⟩
        · obtain ⟨z, hz, tz⟩ := tws.get hy
          have hj' : j < ps.length := by omega
          rw [List.getElem?_map, List.getElem?_range (by omega)] at hz
          cases hz
          have hm2 : ps.getD j (.lf 0) ∈ ps := by
            rw [List.getD_eq_getElem?_getD, List.getElem?_eq_getElem hj']
            exact List.getElem_mem _
          have hc60 : (comb tn (ps.getD i (.lf 0)) (ps.getD j (.lf 0))).ht ≤ 60 := Nat.le_trans (comb_ht gi (gps _ hm2)) (by decide)
          have tA8 := (tA7.mono W8.g).mono W8.s
          have tz8 := (tz.mono W8.g).mono W8.s
          refine ⟨rfl, .int (idx (comb tn (ps.getD i (.lf 0)) (ps.getD j (.lf 0))) ps : Nat), ⟨_, rfl, _, rfl, rd_inT tA8 tz8 gps hc60 ⟨_, rfl, ite2 (fun c => ?_) (fun c => ?_)⟩⟩, q8 _ G8 H8 (Gx.refl W8.s) Pens.nil (.int _)⟩
          · refine ⟨_, rfl, .inl ⟨rfl, _, SqL.of (W8.s _ _ (W8.g _ _ (W7'.g _ _ (s46 _ _ hA))))⟩, _, rfl, ?_⟩
            exact rd_indexT (Q := fun x H' => x = V.int (idx (comb tn (ps.getD i (.lf 0)) (ps.getD j (.lf 0))) ps : Nat) ∧ H' = H8) tA8 tz8 gps hc60 (of_decide_eq_true c) ⟨rfl, rfl⟩
          · rw [idx_none fun z => c (decide_eq_true z)]
            exact ⟨_, rfl, rfl, rfl⟩
        · rw [lws] at t8
          obtain ⟨R', zs, eR, hR, tzs⟩ := t8.list_inv
          cases eR
          refine ⟨_, rfl, szL (Nat.le_add_left 1 99999), fun c hc => ?_⟩
          obtain ⟨G9, W9, s9, g9⟩ := W8.al hc (.lst [.int (ps.length : Nat)])
          have lz : zs.length = ps.length := by rw [tzs.length, List.length_map, List.length_range]
          refine ⟨R, c, _, _, rfl, rfl, W9.s _ _ (s9.g _ _ hR), W9.s _ _ g9, szL (by rw [lz]; show _ + 1 ≤ _; omega), fun d hd => ?_⟩
          obtain ⟨Ga, Wa, sa, ga⟩ := W9.al hd (.lst (zs ++ [.int (ps.length : Nat)]))
          obtain ⟨gFa, hFa⟩ := Wa.keepM (by simp) hF7.1 hF7.2 (fun _ z => by cases z)
          refine ⟨F, _, _, rfl, rfl, hFa, szLt (by rw [ta.length, List.length_map, List.length_range]; omega), _, _, _, _, _, Ga, acc ++ [.ref d], rfl, (W67.trans Wa).write (.inl hF00) gFa hFa True.intro, (s46.trans W7'.g).trans Wa.g, gFa, upd_same, ?_⟩
          rw [List.range_succ, List.map_append]
          refine (ta.mono (W7'.g.trans Wa.g)).app (.cons ?_ .nil)
          rw [opP_row hi']
          exact .lst ga ((tzs.mono (s9.g.trans sa.g)).app (.cons (.int _) .nil))
    · rintro σ' H6 ⟨o7, o8, o9, o10, o11, G6, acc, rfl, W6, s46, gF6, hF6, ta⟩
      rw [lus] at ta
      have W7' := Gx.freeze W6.s W6 hF00 hF6
      have sF := same_new gF6 (.lst acc)
      have ta7 := ta.mono sF
      have hA7 := sF _ _ (s46 _ _ hA)
      have tA7 := (tA.mono s46).mono sF
      have gF7 : upd G6 F (.lst acc) F = some (.lst acc) := upd_same
      generalize upd G6 F (.lst acc) = G7 at W7' ta7 gF7 hA7 tA7
      refine ⟨_, rfl, _, rfl, szL (Nat.le_add_left 1 99999), fun c hc => ?_⟩
      obtain ⟨G8, W8, s8, g8⟩ := W7'.al hc (.lst [.int (ps.length : Nat)])
      refine ⟨_, rfl, _, _, rfl, rfl, c, _, _, rfl, rfl, W8.s _ _ g8, by omega, by omega, szL (by show 1 * _ ≤ _; omega), fun d hd => ?_⟩
      rw [flat_rep, show ((ps.length : Nat) : Int) + 1 = ((ps.length + 1 : Nat) : Int) by omega, Int.toNat_natCast]
      obtain ⟨G9, W9, s9, g9⟩ := W8.al hd (.lst (List.replicate (ps.length + 1) (.int (ps.length : Nat))))
      refine ⟨szL (Nat.le_add_left 1 99999), fun e1 he1 => ?_⟩
      obtain ⟨Ga, Wa, sa, ga⟩ := W9.al he1 (.lst [.ref d])
      have la : acc.length = ps.length := by rw [ta.length, List.length_map, List.length_range]
      refine ⟨F, e1, _, _, rfl, rfl, Wa.s _ _ (((s8.g.trans s9.g).trans sa.g) _ _ gF7), Wa.s _ _ ga, szL (by rw [la]; show _ + 1 ≤ _; omega), fun x1 hx1 => ?_⟩
      obtain ⟨Gb, Wb, sb, gb⟩ := Wa.al hx1 (.lst (acc ++ [.ref d]))
      have s7b := ((s8.g.trans s9.g).trans sa.g).trans sb.g
      have tA' : Td Gb (.ref x1) (dRows (ps.length + 1) (opP ps (comb tn) (.lf 0))) := by
        rw [opP_rows]
        exact .lst gb ((ta7.mono s7b).app (.cons (.lst ((sa.g.trans sb.g) _ _ g9) (td_rep _ _)) .nil))
      refine ⟨_, rfl, by decide, by decide, ?_⟩
      refine lcW (T := T) (E := []) walk_range (fun i x => x = .int (i : Nat)) (fun k => .int (idx (.lf (k : Nat)) ps : Nat)) 0 0 Wb.s (by decide) (fun i H x H' y => ⟨y.1, by rw [y.2]; exact congrArg V.int (Int.zero_add _)⟩) (fun _ _ _ => True.intro) Pens.nil (fun k x Gc Hc hk hx Wc _ Qc qc => ?_) (fun R Gc Hc Wc _ tc => ?_)
      · subst hx
        have tAc := ((tA7.mono s7b).mono Wc.g).mono Wc.s
        have tk : Td Hc (.int (k : Nat)) (Tr.lf (k : Nat)).d := .int _
        refine ⟨rfl, .int (idx (.lf (k : Nat)) ps : Nat), ⟨_, rfl, _, rfl, rd_inT tAc tk gps (Nat.zero_le _) ⟨_, rfl, ite2 (fun c => ?_) (fun c => ?_)⟩⟩, qc _ Gc Hc (Gx.refl Wc.s) Pens.nil (.int _)⟩
        · refine ⟨_, rfl, .inl ⟨rfl, _, SqL.of (Wc.s _ _ (Wc.g _ _ (s7b _ _ hA7)))⟩, _, rfl, ?_⟩
          exact rd_indexT (Q := fun x H' => x = V.int (idx (.lf (k : Nat)) ps : Nat) ∧ H' = Hc) tAc tk gps (Nat.zero_le _) (of_decide_eq_true c) ⟨rfl, rfl⟩
        · rw [idx_none fun z => c (decide_eq_true z)]
          exact ⟨_, rfl, rfl, rfl⟩
      · refine ⟨szL (Nat.le_add_left 2 99998), fun z hz => ?_⟩
        obtain ⟨Gd', Wd, sd, gd'⟩ := (Wb.trans Wc).al hz (.tup [.ref x1, .ref R])
        refine q ps _ Gd' _ hwh clo Wd (.tup gd' (.cons (tA'.mono (Wc.g.trans sd.g)) (.cons ?_ .nil)))
        unfold dV
        rw [List.map_map]
        exact tc.mono sd.g
end
end W7
set_option maxRecDepth 100000
set_option maxHeartbeats 4000000
/-! WO: _law_kind_rows -/
namespace W7
open PySem PySem.Spec PyProof.Rows L2 LamX NdefX
section
variable {T : List NTab} {E : List Addr}
/-- a comprehension without a test, each turn makes a datum that D tells of -/
theorem lcX {J : It} {n : Nat} {Gd : Hp → Prop} {Y : Nat → Hp → V → Hp → Prop} {g : TG} {te : TE} {vs : List Nat} {σ : L2.St} {G H : Hp} {Q : Addr → Hp → Prop} (w : Walk J n Gd Y) (R : Nat → V → Prop) (D : Nat → PyData → Prop) (n0 c : Nat) (hS : Same G H) (hn : n ≤ 50000)
    (hY : ∀ i H x H', Y i H x H' → H' = H ∧ R i x) (hGd : ∀ G1 H1, Gx T E G H G1 H1 → Gd H1) (p0 : Pens E G H n0)
    (hs : ∀ i x G1 H1, i < n → R i x → Gx T E G H G1 H1 → Pens E G1 H1 (n0 + c * i) → ∀ Q : VK, (∀ y d G2 H2, Gx T E G1 H1 G2 H2 → Pens E G2 H2 (n0 + c * (i + 1)) → Td G2 y d → D i d → Q y H2) → g x (wipe σ vs) H1 fun σ2 H2 => wipe σ2 vs = wipe σ vs ∧ te σ2 H2 Q)
    (hd : ∀ A ds G1 H1, Gx T E G H G1 H1 → Pens E G1 H1 (n0 + c * n) → Td G1 (.ref A) (.list ds) → ds.length = n → (∀ i d, ds[i]? = some d → D i d) → Q A H1) :
    ∀ D, H D = none → ∃ W : Nat → Nat → Hp → Prop, (∃ m, W 0 m (upd H D (.lst []))) ∧ ∀ i m H, W i m H → (J.stop i H ∧ Q D H) ∨ (J.go i H ∧ ∃ Nx : Hp → Prop, (∀ H', Nx H' → ∃ m', m' < m ∧ W (i + 1) m' H') ∧ ∀ x H', J.yld i H x H' → g x (wipe σ vs) H' fun σ2 H2 => wipe σ2 vs = wipe σ vs ∧ tYes σ2 H2 fun b H3 =>
      if b = true then te σ2 H3 fun y H4 => ∃ acc, H4 D = some (.lst acc) ∧ acc.length < sizeLine ∧ Nx (upd H4 D (.lst (acc ++ [y]))) else Nx H3) := by
  intro A hA
  have gA0 : G A = none := hS.free hA
  have pA : ∀ p ∈ E, p ≠ A := fun p hp z => (p0 p hp).there (z ▸ hA)
  have nE : A ∉ E := fun z => pA A z rfl
  refine lc_it w (fun i H' => ∃ (G1 : Hp) (acc : List V) (ds : List PyData), Gx T E G H G1 H' ∧ G1 A = none ∧ H' A = some (.lst acc) ∧ TdAll G1 acc ds ∧ ds.length = i ∧ (∀ i d, ds[i]? = some d → D i d) ∧ Pens E G1 H' (n0 + c * i)) ⟨G, [], [], Gx.newM hS hA _, gA0, upd_same, .nil, rfl, fun i d h => by simp at h, fun p hp => (p0 p hp).wr (pA p hp)⟩
    (fun i H' _ ⟨G1, _, _, W, _⟩ => hGd G1 H' W) (fun i x H1 H2 hi ⟨G1, acc, ds, W, gD, e, ta, ld, hds, pp⟩ y => ?_) (fun H1 ⟨G1, acc, ds, W, gD, e, ta, ld, hds, pp⟩ => ?_)
  · obtain ⟨rfl, hR⟩ := hY i H1 x H2 y
    refine hs i x G1 H2 hi hR W pp _ fun z d G2 H3 W2 pp2 tz dd => ?_
    obtain ⟨gD2, e2⟩ := W2.keepM nE gD e (fun _ z => by cases z)
    refine ⟨acc, e2, szLt (by rw [ta.length]; omega), G2, acc ++ [z], ds ++ [d], (W.trans W2).write (.inl hA) gD2 e2 True.intro, gD2, upd_same, (ta.mono W2.g).app (.cons tz .nil), by rw [List.length_append, ld]; rfl, fun j d' hj => ?_, fun p hp => (pp2 p hp).wr (pA p hp)⟩
    by_cases hji : j < ds.length
    · rw [List.getElem?_append_left hji] at hj
      exact hds j d' hj
    · have hj2 := (List.getElem?_eq_some_iff.mp hj).1
      rw [List.length_append, List.length_singleton] at hj2
      have : j = i := by omega
      subst this
      rw [List.getElem?_append_right (by omega), show j - ds.length = 0 by omega] at hj
      cases hj
      exact dd
  · exact hd A ds (upd G1 A (.lst acc)) H1 (Gx.freeze W.s W hA e) (fun p hp => (pp p hp).froze (pA p hp) gD) (.lst upd_same (ta.mono (same_new gD _))) ld hds
end
/-! ### tables of rows -/
def spanL (n : Nat) : List V := (List.range n).map fun i : Nat => V.int (i : Int)
theorem spanL_len (n : Nat) : (spanL n).length = n := by unfold spanL; rw [List.length_map, List.length_range]
theorem spanL_at {n i : Nat} {x : V} (h : (spanL n)[i]? = some x) : i < n ∧ x = .int (i : Nat) := by
  have h1 := (List.getElem?_eq_some_iff.mp h).1
  rw [spanL_len] at h1
  refine ⟨h1, ?_⟩
  unfold spanL at h
  rw [List.getElem?_map, List.getElem?_range h1] at h
  exact (Option.some.inj h).symm
section
variable {T : List NTab} {K : PySem.W.Frag} {te tn : TE} {S : Addr} {n : Nat} {op : Nat → Nat → Nat} {G H : Hp} {Q : VK} {x0 x1 x2 x3 x4 x5 x6 x7 x8 x9 x10 x11 x12 : Option V}
theorem lc2s (hS : Same G H) (gS : G S = some (.lst (spanL n))) (hn : n ≤ 50000)
    (hte : ∀ (a b : Nat) G1 H1, a < n → b < n → Gx T [] G H G1 H1 → ∀ Q : VK, Q (.int (op a b : Nat)) H1 → te [x0, x1, x2, some (.ref S), x4, x5, x6, x7, x8, some (.int (a : Nat)), some (.int (b : Nat)), x11, x12] H1 Q)
    (q : ∀ v G1 H1, Gx T [] G H G1 H1 → Td G1 v (dRows n op) → Q v H1) :
    tLc (iList K (tVar 3)) (gName 9) tYes (tLc (iList K (tVar 3)) (gName 10) tYes te [10]) [9] [x0, x1, x2, some (.ref S), x4, x5, x6, x7, x8, x9, x10, x11, x12] H Q := by
  refine ⟨_, rfl, S, rfl, ⟨_, SqL.of (hS _ _ gS)⟩, lcW (T := T) (E := []) walk_list _ (dRow n op) 0 0 hS (by rw [spanL_len]; exact hn) (fun _ _ _ _ h => h) (fun G1 H1 W => SqL.of (W.s _ _ (W.g _ _ gS))) Pens.nil (fun a x G1 H1 ha hx W1 _ Q1 q1 => ?_) (fun A G1 H1 W _ t => ?_)⟩
  · obtain ⟨ha', rfl⟩ := spanL_at hx
    refine ⟨rfl, _, rfl, S, rfl, ⟨_, SqL.of (W1.s _ _ (W1.g _ _ gS))⟩, lcW (T := T) (E := []) walk_list _ (fun b => .int (op a b : Nat)) 0 0 W1.s (by rw [spanL_len]; exact hn) (fun _ _ _ _ h => h) (fun G2 H2 W => SqL.of (W.s _ _ (W.g _ _ (W1.g _ _ gS)))) Pens.nil (fun b y G2 H2 hb hy W2 _ Q2 q2 => ?_) (fun R G2 H2 W _ t => ?_)⟩
    · obtain ⟨hb', rfl⟩ := spanL_at hy
      exact ⟨rfl, hte a b G2 H2 ha' hb' (W1.trans W2) _ (q2 _ G2 H2 (Gx.refl W2.s) Pens.nil (.int _))⟩
    · rw [spanL_len] at t
      exact q1 _ G2 H2 W Pens.nil t
  · rw [spanL_len] at t
    exact q _ G1 H1 W t
theorem lc2r (hS : Same G H) (hn : n ≤ 50000) (hn1 : ∀ R : VK, R (.int (n : Nat)) H → tn [x0, x1, x2, x3, x4, x5, x6, x7, x8, x9, x10, x11, x12] H R)
    (hn2 : ∀ (a : Nat) H1 (R : VK), R (.int (n : Nat)) H1 → tn [x0, x1, x2, x3, x4, x5, x6, x7, x8, some (.int (a : Nat)), x10, x11, x12] H1 R)
    (hte : ∀ (a b : Nat) G1 H1, a < n → b < n → Gx T [] G H G1 H1 → ∀ Q : VK, Q (.int (op a b : Nat)) H1 → te [x0, x1, x2, x3, x4, x5, x6, x7, x8, some (.int (a : Nat)), some (.int (b : Nat)), x11, x12] H1 Q)
    (q : ∀ v G1 H1, Gx T [] G H G1 H1 → Td G1 v (dRows n op) → Q v H1) :
    tLc (iRng1 (tCons tn tNil)) (gName 9) tYes (tLc (iRng1 (tCons tn tNil)) (gName 10) tYes te [10]) [9] [x0, x1, x2, x3, x4, x5, x6, x7, x8, x9, x10, x11, x12] H Q := by
  refine hn1 _ ⟨_, rfl, by omega, by omega, ?_⟩
  rw [Int.toNat_natCast]
  refine lcW (T := T) (E := []) walk_range (fun i x => x = .int (i : Nat)) (dRow n op) 0 0 hS hn (fun i H x H' y => ⟨y.1, by rw [y.2]; exact congrArg V.int (Int.zero_add _)⟩) (fun _ _ _ => True.intro) Pens.nil (fun a x G1 H1 ha hx W1 _ Q1 q1 => ?_) (fun A G1 H1 W _ t => ?_)
  · subst hx
    refine ⟨rfl, hn2 a _ _ ⟨_, rfl, by omega, by omega, ?_⟩⟩
    rw [Int.toNat_natCast]
    refine lcW (T := T) (E := []) walk_range (fun i x => x = .int (i : Nat)) (fun b => .int (op a b : Nat)) 0 0 W1.s hn (fun i H x H' y => ⟨y.1, by rw [y.2]; exact congrArg V.int (Int.zero_add _)⟩) (fun _ _ _ => True.intro) Pens.nil (fun b y G2 H2 hb hy W2 _ Q2 q2 => ?_) (fun R G2 H2 W _ t => ?_)
    · subst hy
      exact ⟨rfl, hte a b G2 H2 ha hb (W1.trans W2) _ (q2 _ G2 H2 (Gx.refl W2.s) Pens.nil (.int _))⟩
    · exact q1 _ G2 H2 W Pens.nil t
  · exact q _ G1 H1 W t
end
/-! ### what rows a kind has -/
def wds5 : List (List Nat) := [[], [97], [98], [97, 98], [98, 97]]
def wds7 : List (List Nat) := wds5 ++ [[97, 98, 97], [98, 97, 98]]
def RowsOf : Kd → Nat → (Nat → Nat → Nat) → Prop
  | .trees, _, _ => True
  | .pairs, n, op => ∀ a b, a < n → b < n → op a b = op b a
  | .words, n, op => ∃ w, w.length ≤ 7 ∧ n = (facs w).length + 1 ∧ op = opF w
  | .bags, n, op => 2 ≤ n ∧ n ≤ 4 ∧ op = fun a b => if n = 4 then (a + b) % 4 else min (a + b) (n - 1)
  | .parity, n, op => (n = 2 ∨ n = 4 ∨ n = 8) ∧ op = fun a b => Nat.xor a b
  | .sets, n, op => (n = 2 ∨ n = 4 ∨ n = 8) ∧ op = fun a b => Nat.lor a b
  | .heads, n, op => n = 5 ∧ op = opW [0] wds5
  | .tails, n, op => n = 5 ∧ op = opW [1] wds5
  | .middles, n, op => n = 7 ∧ op = opW [0, 1] wds7
  | .outer, n, op => ∃ s, 2 ≤ s ∧ s ≤ 4 ∧ n = 2 * s ∧ op = fun a b => a / s * s + b % s
  | .lefts, _, op => op = fun a _ => a
  | .rights, _, op => op = fun _ b => b
  | .one, n, op => n = 1 ∧ op = fun _ _ => 0
abbrev sKindRows : Stmt := top 26
theorem sc_kind_rows : FnScope ["_law_pen_here", "_law_kind", "_law_size", "_law_span", "_law_free", "_law_rows", "_law_word", "_law_bits", "_law_words", "_law_a", "_law_b", "_law_k", "_law_row"] ["_law_pen_here", "_law_kind"] (defScope sKindRows) := ⟨rfl, rfl, rfl, by decide +kernel, rfl, by decide +kernel, by decide +kernel⟩
def spKindRows (T : List NTab) : Sq := fun vs H Q => ∃ (G : Hp) (p : Addr) (n0 : Nat) (k : Kd), vs = [.ref p, .str k.nm] ∧ Same G H ∧ Pen G H p n0 ∧ n0 + 200 < 1000000 ∧
  ∀ (n : Nat) (op : Nat → Nat → Nat) (od : List Nat) (M : Nat → Nat → Nat) (v : V) (G' H' : Hp), RowsOf k n op → 1 ≤ n → n ≤ 40 → (∀ a b, a < n → b < n → op a b < n) → od.Perm (List.range n) → (∀ a b, a < n → b < n → M (od.getD a 0) (od.getD b 0) = od.getD (op a b) 0) → Gx T [p] G H G' H' → Pen G' H' p (n0 + 100) → Td G' v (dRows n M) → Q v H'
theorem rgV_span (n : Nat) : rgV 0 ((n : Nat) : Int) = spanL n := by
  unfold rgV spanL
  rw [Int.sub_zero, Int.toNat_natCast]
  exact List.map_congr_left fun i _ => congrArg V.int (Int.zero_add _)
/-- a table drawn anyhow -/
theorem rows_any {ds : List PyData} {n : Nat} (hl : ds.length = n) (h : ∀ (i : Nat) (d : PyData), ds[i]? = some d → ∃ xs : List Nat, xs.length = n ∧ (∀ x ∈ xs, x < n) ∧ d = dV xs) : ∃ op : Nat → Nat → Nat, (∀ a b, a < n → b < n → op a b < n) ∧ PyData.list ds = dRows n op := by
  have h2 : ∀ i, ∃ xs : List Nat, i < n → xs.length = n ∧ (∀ x ∈ xs, x < n) ∧ ds[i]? = some (dV xs) := fun i => by
    by_cases hi : i < n
    · have e : ds[i]? = some ds[i] := List.getElem?_eq_getElem (by omega)
      obtain ⟨xs, a, b, c⟩ := h i _ e
      exact ⟨xs, fun _ => ⟨a, b, by rw [e, c]⟩⟩
    · exact ⟨[], fun z => absurd z hi⟩
  obtain ⟨f, hf⟩ := Classical.axiomOfChoice h2
  refine ⟨fun a b => (f a).getD b 0, fun a b ha hb => ?_, ?_⟩
  · obtain ⟨h1, h2, _⟩ := hf a ha
    show (f a).getD b 0 < n
    rw [List.getD_eq_getElem?_getD, List.getElem?_eq_getElem (by omega)]
    exact h2 _ (List.getElem_mem _)
  · unfold dRows
    congr 1
    apply List.ext_getElem?
    intro i
    rw [List.getElem?_map]
    by_cases hi : i < n
    · obtain ⟨h1, h2, h3⟩ := hf i hi
      rw [h3, List.getElem?_range hi]
      show some (dV (f i)) = some (dRow n _ i)
      unfold dV dRow
      congr 2
      have := range_map (fun z : Nat => PyData.int (z : Nat)) (f i) 0
      rw [h1] at this
      exact this.symm
    · rw [List.getElem?_eq_none (by omega), List.getElem?_eq_none (by rw [List.length_range]; omega)]
      rfl
end W7
set_option maxRecDepth 100000
set_option maxHeartbeats 4000000
/-! WP: _law_kind_rows, the walk -/
namespace W7
open PySem PySem.Spec PyProof.Rows L2 LamX NdefX
/-- a test by its answer -/
def tVT (t : TT) : TT := fun σ H Q => ∃ b : Bool, t σ H (fun c H1 => c = b ∧ H1 = H) ∧ Q b H
theorem pt_cutV {X : Cx} {e : Expr} {t : TT} (h : PT X e t) : PT X e (tVT t) := by
  refine ⟨fun pins s σ H Q I ⟨b, h1, q⟩ => ?_⟩
  exact thn (h.run pins s σ H _ I h1) fun c s1 ⟨H1, I1, e1, e2⟩ => ⟨H1, I1, by rw [e1, e2]; exact q⟩
theorem kd_dec (k j : Kd) : decide (V.str k.nm = V.str j.nm) = decide (k = j) := by
  by_cases h : k = j
  · rw [h]; simp
  · rw [decide_eq_false h, decide_eq_false fun z => h (nm_inj (V.str.inj z))]
/-- either of two kinds, tested -/
theorem vt_or {k a b : Kd} {σ : L2.St} {H : Hp} {Q : Bool → Hp → Prop} {i : Nat} (e : σ[i]? = some (some (.str k.nm))) (q : Q (decide (k = a ∨ k = b)) H) : tVT (tOr (tTest (tOp rEq (tVar i) (tC (.str a.nm)))) (tTest (tOp rEq (tVar i) (tC (.str b.nm))))) σ H Q := by
  refine ⟨_, ⟨_, e, rfl, _, rfl, ?_⟩, q⟩
  rw [kd_dec]
  refine ite2 (fun c => ⟨?_, rfl⟩) (fun c => ⟨_, e, rfl, _, rfl, ?_, rfl⟩)
  · rw [decide_eq_true (Or.inl (of_decide_eq_true c))]
  · rw [kd_dec]
    have c' : k ≠ a := fun z => c (decide_eq_true z)
    by_cases hb : k = b
    · rw [decide_eq_true hb, decide_eq_true (Or.inr hb)]
    · rw [decide_eq_false hb, decide_eq_false fun z => z.elim c' hb]
theorem minI (a b : Nat) : (if ((b : Nat) : Int) < ((a : Nat) : Int) then ((b : Nat) : Int) else ((a : Nat) : Int)) = ((min a b : Nat) : Int) := by
  split <;> omega
theorem maxI (a b : Nat) : (if ((b : Nat) : Int) > ((a : Nat) : Int) then ((b : Nat) : Int) else ((a : Nat) : Int)) = ((max a b : Nat) : Int) := by
  split <;> omega
theorem join_ones (cs : List Nat) : Txt.join (Str.ofString "") ((cs.map fun c => [c]).map fun w => S7 w) = S7 cs := by
  rw [S7_nil]
  refine (SX.join_S [] _).trans ?_
  rw [join_nil]
  congr 1
  induction cs with
  | nil => rfl
  | cons x r ih =>
    rw [List.map_cons, List.flatten_cons, ih]
    rfl
theorem sum_ones (cs : List Nat) : (((cs.map fun c => [c]).map fun w => S7 w).map fun x => x.length).sum = cs.length := by
  induction cs with
  | nil => rfl
  | cons x r ih =>
    rw [List.map_cons, List.map_cons, List.map_cons, List.sum_cons, ih, List.length_cons]
    show 1 + r.length = _
    omega
theorem bit_or : ∀ a, a < 8 → ∀ b, b < 8 → Builtin.bitOr (a : Nat) (b : Nat) = (Nat.lor a b : Nat) := by decide +kernel
theorem bit_xor : ∀ a, a < 8 → ∀ b, b < 8 → Builtin.bitXor (a : Nat) (b : Nat) = (Nat.xor a b : Nat) := by decide +kernel
theorem bits_lt : ∀ m ∈ [2, 4, 8], ∀ a, a < m → ∀ b, b < m → Nat.lor a b < m ∧ Nat.xor a b < m := by decide +kernel
theorem any_of {α : Type} {ds : List PyData} {f : α → PyData} {p : α → Prop} (h : ∀ (i : Nat) (d : PyData), ds[i]? = some d → ∃ x, p x ∧ d = f x) : ∃ xs : List α, xs.length = ds.length ∧ (∀ x ∈ xs, p x) ∧ ds = xs.map f := by
  induction ds with
  | nil => exact ⟨[], rfl, fun _ h => absurd h (by simp), rfl⟩
  | cons d r ih =>
    obtain ⟨x, px, rfl⟩ := h 0 d rfl
    obtain ⟨xs, h1, h2, rfl⟩ := ih fun i d hd => h (i + 1) d hd
    refine ⟨x :: xs, by rw [List.length_cons, List.length_cons, h1], fun y hy => ?_, rfl⟩
    rcases List.mem_cons.mp hy with rfl | hy
    · exact px
    · exact h2 y hy
theorem l5v : [V.str (Str.ofString ""), V.str (Str.ofString "a"), V.str (Str.ofString "b"), V.str (Str.ofString "ab"), V.str (Str.ofString "ba")] = wds5.map vW := by decide +kernel
theorem l2v : [V.str (Str.ofString "aba"), V.str (Str.ofString "bab")] = ([[97, 98, 97], [98, 97, 98]] : List (List Nat)).map vW := by decide +kernel
def wdsM (k : Kd) : List (List Nat) := if k = .middles then [[97, 98, 97], [98, 97, 98]] else []
theorem wds_rep (k : Kd) : (List.replicate (if k = .middles then (1 : Nat) else 0) [V.str (Str.ofString "aba"), V.str (Str.ofString "bab")]).flatten = (wdsM k).map vW := by
  unfold wdsM
  split
  · show [_, _] ++ [] = _
    rw [List.append_nil, l2v]
  · rfl
theorem wds7_ok : ∀ w ∈ wds7, w.length ≤ 20 ∧ ∀ c ∈ w, c < 1000 := by decide
theorem ways_put (x1 x2 x3 : V) : mergeK [] [((Sum.inr "heads" : Key), x1), (.inr "tails", x2), (.inr "middles", x3)] = [((Sum.inr "heads" : Key), x1), (.inr "tails", x2), (.inr "middles", x3)] := by
  show mergeK [] [((Sum.inr Kd.heads.nm : Key), x1), (.inr Kd.tails.nm, x2), (.inr Kd.middles.nm, x3)] = _
  simp only [mergeK, List.foldl_cons, List.foldl_nil, putK, List.any_nil, List.any_cons, inr_nm, List.nil_append, List.cons_append]
  rfl
section
variable {P : Program} {w : World} {K : PySem.W.Frag} {mg : Str → Option Value} {base : Heap} {f : Addr} {fd : FuncData} {T : List NTab}
theorem ok_kind_rows (B : Bn mg) (D : Dn K mg "_law_kind_rows" sKindRows ["_law_pen_here", "_law_kind"] f fd) (h_draw : Has P w K mg base 1 "_law_draw" ["_law_pen_here", "_law_span"] (spDraw T)) (h_pick : Has P w K mg base 2 "_law_pick" ["_law_pen_here", "_law_options"] (spPick T)) (h_factor_rows : Has P w K mg base 1 "_law_factor_rows" ["_law_word"] (spFactor T))
    (h_word_rows : Has P w K mg base 2 "_law_word_rows" ["_law_words", "_law_ways"] (spWordRows T)) (h_twisted_rows : Has P w K mg base 3 "_law_twisted_rows" ["_law_pen_here", "_law_rows"] (spTwist T)) : Fn P w K mg base 4 f fd ["_law_pen_here", "_law_kind"] (spKindRows T) := by
  refine D.ok sc_kind_rows (fun vs H Q h => ?_) (fun cdv A outer s H vs Q hg hr _ _ h => ?_)
  · obtain ⟨G, p, n0, k, rfl, _⟩ := h
    rfl
  obtain ⟨G, p, n0, k, rfl, hS, pen, hn0, q⟩ := h
  refine ⟨_,
    (pss_cons (ps_set (i := 2) sc_kind_rows.nd rfl (Or.inr rfl) (pe_op op_add pe_int (pe_h h_draw hg hr (pa_cons (pv 0) (pa_cons pe_int pa_nil)))))
    (pss_cons (ps_set (i := 3) sc_kind_rows.nd rfl (Or.inr rfl) (pe_listRg rfl (by rfl) B.list (prg_1 (by rfl) B.range (pv 2))))
    (pss_cons (ps_set (i := 4) sc_kind_rows.nd rfl (Or.inr rfl) (pe_lc (own := [("_law_a", 9)]) rfl sc_kind_rows.nd (pi_list (pv 3)) (blkOk_by (by kernel_rfl)) (fun _ _ _ _ _ => (pg_name (i := 9) sc_kind_rows.nd rfl (Or.inl rfl))) (fun _ _ _ _ _ => pts_nil) (fun _ _ _ _ _ => (pe_lc (own := [("_law_b", 10)]) rfl sc_kind_rows.nd (pi_list' (K := K) (pv 3)) (blkOk_by (by kernel_rfl)) (fun _ _ _ _ _ => (pg_name (i := 10) sc_kind_rows.nd rfl (Or.inl rfl))) (fun _ _ _ _ _ => pts_nil) (fun _ _ _ _ _ => (pe_h h_draw hg hr (pa_cons (pv 0) (pa_cons (pv 2) pa_nil))))))))
    (pss_cons (ps_set (i := 5) sc_kind_rows.nd rfl (Or.inl rfl) (pe_lst (pa_cons (pe_lst (pa_cons pe_int pa_nil)) pa_nil)))
    (C8.pss_cut (ps_if (pt_cmpR op_eq (pv 1) pe_str (nomark _)) (pss_one (ps_set (i := 5) sc_kind_rows.nd rfl (Or.inl rfl) (pv 4)))
      (pss_one (ps_if (pt_cmpR op_eq (pv 1) pe_str (nomark _)) (pss_one (ps_setLc (i := 5) (own := [("_law_a", 9)]) rfl sc_kind_rows.nd rfl rfl (sw_true rfl rfl rfl (by decide +kernel)) (pi_list (pv 3)) (blkOk_by (by kernel_rfl)) (fun _ _ _ _ _ => (pg_name (i := 9) sc_kind_rows.nd rfl (Or.inr rfl))) (fun _ _ _ _ _ => pts_nil) (fun _ _ _ _ _ => (pe_lc (own := [("_law_b", 10)]) rfl sc_kind_rows.nd (pi_list' (K := K) (pv 3)) (blkOk_by (by kernel_rfl)) (fun _ _ _ _ _ => (pg_name (i := 10) sc_kind_rows.nd rfl (Or.inl rfl))) (fun _ _ _ _ _ => pts_nil) (fun _ _ _ _ _ => (pe_ix (ix_list' (K := K)) (pe_ix (ix_list' (K := K)) (pv 4) (pe_callB (call_min2 rfl) (by rfl) B.min b_min (pa_cons (pe_callTy call_intI (by rfl) B.int b_int (pa_cons (pv 9) pa_nil)) (pa_cons (pe_callTy call_intI (by rfl) B.int b_int (pa_cons (pv 10) pa_nil)) pa_nil))) (fun _ _ => rfl)) (pe_callB (call_max2 rfl) (by rfl) B.max b_max (pa_cons (pe_callTy call_intI (by rfl) B.int b_int (pa_cons (pv 9) pa_nil)) (pa_cons (pe_callTy call_intI (by rfl) B.int b_int (pa_cons (pv 10) pa_nil)) pa_nil))) (fun _ _ => rfl)))))))
        (pss_one (ps_if (pt_cmpR op_eq (pv 1) pe_str (nomark _)) (pss_cons (ps_set (i := 6) sc_kind_rows.nd rfl (Or.inl rfl) (pe_join pe_str (pe_lc (own := [("_law_k", 11)]) rfl sc_kind_rows.nd (pi_range1 (by rfl) B.range (pa_cons (pe_op op_add pe_int (pe_h h_draw hg hr (pa_cons (pv 0) (pa_cons pe_int pa_nil)))) pa_nil)) (blkOk_by (by kernel_rfl)) (fun _ _ _ _ _ => (pg_name (i := 11) sc_kind_rows.nd rfl (Or.inl rfl))) (fun _ _ _ _ _ => pts_nil) (fun _ _ _ _ _ => (pe_h h_pick hg hr (pa_cons (pv 0) (pa_cons pe_str pa_nil)))))))
          (pss_one (ps_set (i := 5) sc_kind_rows.nd rfl (Or.inl rfl) (pe_h h_factor_rows hg hr (pa_cons (pv 6) pa_nil)))))
          (pss_one (ps_if (pt_cmpR op_eq (pv 1) pe_str (nomark _)) (pss_one (ps_setLc (i := 5) (own := [("_law_a", 9)]) rfl sc_kind_rows.nd rfl rfl (sw_true rfl rfl rfl (by decide +kernel)) (pi_list (pv 3)) (blkOk_by (by kernel_rfl)) (fun _ _ _ _ _ => (pg_name (i := 9) sc_kind_rows.nd rfl (Or.inr rfl))) (fun _ _ _ _ _ => pts_nil) (fun _ _ _ _ _ => (pe_lc (own := [("_law_b", 10)]) rfl sc_kind_rows.nd (pi_list' (K := K) (pv 3)) (blkOk_by (by kernel_rfl)) (fun _ _ _ _ _ => (pg_name (i := 10) sc_kind_rows.nd rfl (Or.inl rfl))) (fun _ _ _ _ _ => pts_nil) (fun _ _ _ _ _ => (pe_val (pe_ifExp (pt_cmpR op_eq (pv 2) pe_int (nomark _)) (pe_op op_mod (pe_callTy call_intI (by rfl) B.int b_int (pa_cons (pe_op op_add (pv 9) (pv 10)) pa_nil)) (pv 2)) (pe_callB (call_min2 rfl) (by rfl) B.min b_min (pa_cons (pe_callTy call_intI (by rfl) B.int b_int (pa_cons (pe_op op_add (pv 9) (pv 10)) pa_nil)) (pa_cons (pe_op op_sub (pv 2) pe_int) pa_nil))))))))))
            (pss_one (ps_if (pt_cutV (PW.pt (pw_or (pt_cmpR op_eq (pv 1) pe_str (nomark _)) (pw_or1 (pt_cmpR op_eq (pv 1) pe_str (nomark _)))))) (pss_cons (ps_setLc (i := 7) (own := [("_law_a", 9)]) rfl sc_kind_rows.nd rfl rfl (sw_true rfl rfl rfl (by decide +kernel)) (pi_range1 (by rfl) B.range (pa_cons pe_int pa_nil)) (blkOk_by (by kernel_rfl)) (fun _ _ _ _ _ => (pg_name (i := 9) sc_kind_rows.nd rfl (Or.inr rfl))) (fun _ _ _ _ _ => pts_nil) (fun _ _ _ _ _ => (pe_lc (own := [("_law_b", 10)]) rfl sc_kind_rows.nd (pi_range1 (by rfl) B.range (pa_cons pe_int pa_nil)) (blkOk_by (by kernel_rfl)) (fun _ _ _ _ _ => (pg_name (i := 10) sc_kind_rows.nd rfl (Or.inl rfl))) (fun _ _ _ _ _ => pts_nil) (fun _ _ _ _ _ => (pe_val (pe_ifExp (pt_cmpR op_eq (pv 1) pe_str (nomark _)) (pe_op op_xor (pv 9) (pv 10)) (pe_op op_or (pv 9) (pv 10))))))))
              (pss_one (ps_setLc (i := 5) (own := [("_law_row", 12)]) rfl sc_kind_rows.nd rfl rfl (sw_true rfl rfl rfl (by decide +kernel)) (pi_list (pe_slice sl_list (pv 7) po_none (po_some (pe_ix ix_list (pe_lst (pa_cons pe_int (pa_cons pe_int (pa_cons pe_int pa_nil)))) (pe_op op_sub (pv 2) pe_int) (fun _ _ => rfl))))) (blkOk_by (by kernel_rfl)) (fun _ _ _ _ _ => (pg_name (i := 12) sc_kind_rows.nd rfl (Or.inl rfl))) (fun _ _ _ _ _ => pts_nil) (fun _ _ _ _ _ => (pe_slice (sl_list' (K := K)) (pv 12) po_none (po_some (pe_ix (ix_list' (K := K)) (pe_lst (pa_cons pe_int (pa_cons pe_int (pa_cons pe_int pa_nil)))) (pe_op op_sub (pv 2) pe_int) (fun _ _ => rfl))))))))
              (pss_one (ps_if (pt_cmpR op_in_seq (pv 1) (pe_tup (pa_cons pe_str (pa_cons pe_str (pa_cons pe_str pa_nil)))) (by rfl)) (pss_cons (ps_set (i := 8) sc_kind_rows.nd rfl (Or.inl rfl) (pe_op op_cat (pe_lst (pa_cons pe_str (pa_cons pe_str (pa_cons pe_str (pa_cons pe_str (pa_cons pe_str pa_nil)))))) (pe_op op_rep (pe_lst (pa_cons pe_str (pa_cons pe_str pa_nil))) (pe_callTy call_intB (by rfl) B.int b_int (pa_cons (pe_cmpR op_eq (pv 1) pe_str (nomark _)) pa_nil)))))
                (pss_one (ps_set (i := 5) sc_kind_rows.nd rfl (Or.inl rfl) (pe_h h_word_rows hg hr (pa_cons (pv 8) (pa_cons (pe_dget (hu_of hr) (pe_disp (pps_cons pe_str (pe_lst (pa_cons pe_int pa_nil)) (pps_cons pe_str (pe_lst (pa_cons pe_int pa_nil)) (pps_cons pe_str (pe_lst (pa_cons pe_int (pa_cons pe_int pa_nil))) pps_nil))) (by rfl) (by rfl) (fun z => by cases z) (by decide)) (pv 1) (fun _ _ => rfl)) pa_nil))))))
                (pss_one (ps_if (pt_cutV (PW.pt (pw_or (pt_cmpR op_eq (pv 1) pe_str (nomark _)) (pw_or1 (pt_cmpR op_eq (pv 1) pe_str (nomark _)))))) (pss_one (ps_setLc (i := 5) (own := [("_law_a", 9)]) rfl sc_kind_rows.nd rfl rfl (sw_true rfl rfl rfl (by decide +kernel)) (pi_list (pv 3)) (blkOk_by (by kernel_rfl)) (fun _ _ _ _ _ => (pg_name (i := 9) sc_kind_rows.nd rfl (Or.inr rfl))) (fun _ _ _ _ _ => pts_nil) (fun _ _ _ _ _ => (pe_lc (own := [("_law_b", 10)]) rfl sc_kind_rows.nd (pi_list' (K := K) (pv 3)) (blkOk_by (by kernel_rfl)) (fun _ _ _ _ _ => (pg_name (i := 10) sc_kind_rows.nd rfl (Or.inl rfl))) (fun _ _ _ _ _ => pts_nil) (fun _ _ _ _ _ => (pe_val (pe_ifExp (pt_cmpR op_eq (pv 1) pe_str (nomark _)) (pv 9) (pv 10))))))))
                  (pss_one (ps_if (pt_cmpR op_eq (pv 1) pe_str (nomark _)) (pss_one (ps_setLc (i := 5) (own := [("_law_a", 9)]) rfl sc_kind_rows.nd rfl rfl (sw_true rfl rfl rfl (by decide +kernel)) (pi_range1 (by rfl) B.range (pa_cons (pe_op op_mul pe_int (pv 2)) pa_nil)) (blkOk_by (by kernel_rfl)) (fun _ _ _ _ _ => (pg_name (i := 9) sc_kind_rows.nd rfl (Or.inr rfl))) (fun _ _ _ _ _ => pts_nil) (fun _ _ _ _ _ => (pe_lc (own := [("_law_b", 10)]) rfl sc_kind_rows.nd (pi_range1 (by rfl) B.range (pa_cons (pe_op op_mul pe_int (pv 2)) pa_nil)) (blkOk_by (by kernel_rfl)) (fun _ _ _ _ _ => (pg_name (i := 10) sc_kind_rows.nd rfl (Or.inl rfl))) (fun _ _ _ _ _ => pts_nil) (fun _ _ _ _ _ => (pe_op op_add (pe_op op_mul (pe_op op_fdiv (pv 9) (pv 2)) (pv 2)) (pe_op op_mod (pe_callTy call_intI (by rfl) B.int b_int (pa_cons (pv 10) pa_nil)) (pv 2))))))))
                    pss_nil)))))))))))))))
    (pss_one (ps_ret (pe_h h_twisted_rows hg hr (pa_cons (pv 0) (pa_cons (pv 5) pa_nil)))))))))), ?_⟩
  -- size
  refine ⟨_, rfl, G, p, n0, 3, rfl, hS, pen, by omega, by decide, by decide, fun m H1 hm W1 pen1 => ⟨_, _, rfl, rfl, ?_⟩⟩
  dsimp only
  rw [show (2 : Int) + (m : Nat) = ((m + 2 : Nat) : Int) by omega]
  have hsz : 2 ≤ m + 2 ∧ m + 2 ≤ 4 := by omega
  generalize m + 2 = sz at hsz
  -- span
  refine ⟨_, rfl, _, rfl, RgOk.of_le (by decide) (by omega) (by decide) (by omega), fun S hS1 => ?_⟩
  rw [rgV_span]
  obtain ⟨G2, W2, s2, g2⟩ := W1.al hS1 (.lst (spanL sz))
  have pen2 := pen1.keep s2 (by simp)
  generalize upd H1 S (.lst (spanL sz)) = H2 at W2 s2 pen2
  have hsq : sz * sz ≤ 4 * 4 := Nat.mul_le_mul hsz.2 hsz.2
  -- free
  refine ⟨_, rfl, S, rfl, ⟨_, SqL.of (W2.s _ _ g2)⟩, lcX (T := T) (E := [p]) walk_list _ (fun _ d => ∃ xs : List Nat, xs.length = sz ∧ (∀ x ∈ xs, x < sz) ∧ d = dV xs) (n0 + 1) sz W2.s (by rw [spanL_len]; omega) (fun _ _ _ _ h => h) (fun G1 H1 W => SqL.of (W.s _ _ (W.g _ _ g2))) (Pens.one pen2)
    (fun a x Ga Ha ha hx Wa pa Q1 q1 => ?_) (fun Fr ds G3 H3 W3 pp t3 lds hds => ?_)⟩
  · rw [spanL_len] at ha
    have hna : sz * a + sz ≤ sz * sz := by
      rw [← Nat.mul_succ]
      exact Nat.mul_le_mul_left _ ha
    refine ⟨rfl, _, rfl, S, rfl, ⟨_, SqL.of (Wa.s _ _ (Wa.g _ _ g2))⟩, lcX (T := T) (E := [p]) walk_list _ (fun _ d => ∃ x : Nat, x < sz ∧ d = .int (x : Nat)) (n0 + 1 + sz * a) 1 Wa.s (by rw [spanL_len]; omega) (fun _ _ _ _ h => h) (fun G1 H1 W => SqL.of (W.s _ _ (W.g _ _ (Wa.g _ _ g2)))) pa
      (fun b y Gb Hb hb hy Wb pb Q2 q2 => ?_) (fun R ds Gb Hb Wb pb tb lds hds => ?_)⟩
    · rw [spanL_len] at hb
      refine ⟨rfl, _, rfl, _, rfl, Gb, p, _, sz, rfl, Wb.s, pb.get, by omega, by omega, by omega, fun x Hc hx Wc pc => q2 _ _ Gb Hc Wc (Pens.one pc) (.int _) ⟨x, hx, rfl⟩⟩
    · rw [spanL_len] at lds pb
      obtain ⟨xs, h1, h2, rfl⟩ := any_of hds
      refine q1 _ _ Gb Hb Wb ?_ tb ⟨xs, by rw [h1, lds], h2, ?_⟩
      · have e : n0 + 1 + sz * (a + 1) = n0 + 1 + sz * a + 1 * sz := by rw [Nat.mul_add, Nat.mul_one, Nat.one_mul]; omega
        rw [e]
        exact pb
      · rfl
  rw [spanL_len] at lds pp
  obtain ⟨op0, clo0, eds⟩ := rows_any lds hds
  rw [eds] at t3
  have pen3 : Pen G3 H3 p (n0 + 20) := pp.get.more (by omega)
  have W3' := W2.trans W3
  have g3 := W3.g _ _ g2
  clear eds hds lds pp
  -- [[0]]
  refine ⟨szL (Nat.le_add_left 1 99999), fun a0 ha0 => ⟨szL (Nat.le_add_left 1 99999), fun b0 hb0 => ?_⟩⟩
  obtain ⟨Ga, Wa, sa, ga⟩ := W3'.al ha0 (.lst [.int 0])
  obtain ⟨G4, W4, sb, gb⟩ := Wa.al hb0 (.lst [.ref a0])
  have t1 : Td G4 (.ref b0) (dRows 1 fun _ _ => 0) := .lst gb (.cons (.lst (sb.g _ _ ga) (.cons (.int 0) .nil)) .nil)
  have s4 := sa.trans sb
  have t4 := t3.mono s4.g
  have g4 := s4.g _ _ g3
  have pen4 := pen3.keep s4 (by simp)
  generalize upd (upd H3 a0 (.lst [.int 0])) b0 (.lst [.ref a0]) = H4 at W4 pen4
  clear W3' W3 W2 s2 pen2 Wa sa sb s4 t3 g3 pen3
  refine ⟨fun σ' H' => ∃ (n : Nat) (op : Nat → Nat → Nat) (v : V) (o2 o3 o4 o6 o7 o8 o9 o10 o11 o12 : Option V) (G5 : Hp), σ' = [some (.ref p), some (.str k.nm), o2, o3, o4, some v, o6, o7, o8, o9, o10, o11, o12] ∧ RowsOf k n op ∧ 1 ≤ n ∧ n ≤ 40 ∧ (∀ a b, a < n → b < n → op a b < n) ∧ Gx T [p] G H G5 H' ∧ Pen G5 H' p (n0 + 30) ∧ Td G5 v (dRows n op), ?_, ?_⟩
  · -- trees
    refine ⟨_, rfl, rfl, _, rfl, ite2 (fun c => ?_) (fun n1 => ?_)⟩
    · cases kd_of .trees c
      exact ⟨_, rfl, sz, op0, .ref Fr, _, _, _, _, _, _, _, _, _, _, G4, rfl, True.intro, by omega, by omega, clo0, W4, pen4.more (by omega), t4⟩
    -- pairs
    refine ⟨_, rfl, rfl, _, rfl, ite2 (fun c => ?_) (fun n2 => ?_)⟩
    · cases kd_of .pairs c
      obtain ⟨r, xs, eFr, hr0, lx, hrow⟩ := rows_row t4
      cases eFr
      refine lc2s (T := T) (op := fun a b => op0 (min a b) (max a b)) W4.s g4 (by omega) (fun a b G5 H5 ha hb W5 Q5 q5 => ?_) (fun v G5 H5 W5 t5 => ?_)
      · obtain ⟨pr, hpr, gpr⟩ := hrow (min a b) (by omega)
        refine ⟨_, rfl, _, rfl, _, rfl, _, rfl, _, rfl, _, _, rfl, ?_⟩
        rw [minI]
        refine ⟨Fr, xs, _, .ref pr, rfl, rfl, SqL.of (W5.s _ _ (W5.g _ _ hr0)), atI_nat hpr, _, rfl, _, rfl, _, rfl, _, rfl, _, _, rfl, ?_⟩
        rw [maxI]
        exact ⟨pr, _, _, .int (op0 (min a b) (max a b) : Nat), rfl, rfl, SqL.of (W5.s _ _ (W5.g _ _ gpr)), atI_nat (row_at (by omega)), q5⟩
      · refine ⟨sz, _, v, _, _, _, _, _, _, _, _, _, _, G5, rfl, fun a b _ _ => ?_, by omega, by omega, fun a b ha hb => clo0 _ _ (by omega) (by omega), W4.trans W5.none0, (pen4.keep W5 (by simp)).more (by omega), t5⟩
        show op0 (min a b) (max a b) = op0 (min b a) (max b a)
        rw [Nat.min_comm, Nat.max_comm]
    -- words
    refine ⟨_, rfl, rfl, _, rfl, ite2 (fun c => ?_) (fun n3 => ?_)⟩
    · cases kd_of .words c
      refine ⟨⟨_, rfl⟩, _, rfl, G4, p, _, 4, rfl, W4.s, pen4, by omega, by decide, by decide, fun m H5 hm W5 pen5 => ⟨_, _, rfl, rfl, _, rfl, by omega, by omega, ?_⟩⟩
      rw [show ((1 : Int) + (m : Nat)).toNat = m + 1 by omega]
      refine lcX (T := T) (E := [p]) walk_range (fun i x => True) (fun _ d => ∃ x : Nat, x < 1000 ∧ d = dW [x]) (n0 + 21) 1 W5.s (by omega) (fun i H x H' y => ⟨y.1, True.intro⟩) (fun _ _ _ => True.intro) (Pens.one pen5)
        (fun b y Gb Hb hb hy Wb pb Q2 q2 => ?_) (fun R ds Gb Hb Wb pb tb lds hds => ?_)
      · refine ⟨rfl, _, rfl, Gb, p, _, Wb.s, pb.get, by omega, .inr ⟨S7 [97, 98, 99], ?_, by decide, by decide, fun j c H' hc Wc pc => q2 _ _ Gb H' Wc (Pens.one pc) (.str _) ⟨c, ?_, rfl⟩⟩⟩
        · rfl
        · have : c ∈ [97, 98, 99] := List.mem_of_getElem? hc
          simp at this
          omega
      · obtain ⟨cs, h1, h2, rfl⟩ := any_of hds
        rw [List.length_map] at lds
        obtain ⟨R', xs, eR, hR, txs⟩ := tb.list_inv
        cases eR
        have e1 : cs.map (fun x => dW [x]) = (cs.map fun c => [c]).map dW := by rw [List.map_map]; rfl
        rw [e1] at txs
        rw [txs.words_inv, vW_map] at hR
        refine ⟨_, _, _, rfl, rfl, .inl (SqL.of (Wb.s _ _ hR)), ?_, ?_⟩
        · rw [sum_ones]
          show cs.length + _ * 0 ≤ _
          omega
        rw [join_ones]
        refine ⟨_, rfl, Gb, cs, rfl, Wb.s, by omega, fun v G6 H6 W6 t6 => ?_⟩
        refine ⟨_, _, v, _, _, _, _, _, _, _, _, _, _, G6, rfl, ⟨cs, by omega, rfl, rfl⟩, by omega, ?_, fun a b _ _ => opP_le _ _ _ _ _, (W4.trans (W5.trans Wb)).trans W6.none0, ?_, t6⟩
        · have h1 := facs_len cs
          have h2 : cs.length * cs.length ≤ 4 * 4 := Nat.mul_le_mul (by omega) (by omega)
          omega
        · exact (pb.get.keep W6 (by simp)).more (by omega)
    -- bags
    refine ⟨_, rfl, rfl, _, rfl, ite2 (fun c => ?_) (fun n4 => ?_)⟩
    · cases kd_of .bags c
      refine lc2s (T := T) (op := fun a b => if sz = 4 then (a + b) % 4 else min (a + b) (sz - 1)) W4.s g4 (by omega) (fun a b G5 H5 ha hb W5 Q5 q5 => ?_) (fun v G5 H5 W5 t5 => ?_)
      · refine ⟨.int ((if sz = 4 then (a + b) % 4 else min (a + b) (sz - 1) : Nat)), ⟨_, rfl, rfl, _, rfl, ?_⟩, q5⟩
        have e4 : decide (V.int (sz : Nat) = V.int 4) = decide (sz = 4) := by
          rw [Bool.eq_iff_iff, decide_eq_true_iff, decide_eq_true_iff]
          refine ⟨fun z => ?_, fun z => by rw [z]; rfl⟩
          have := V.int.inj z
          omega
        rw [e4]
        refine ite2 (fun c => ?_) (fun c => ?_)
        · have c' := of_decide_eq_true c
          refine ⟨_, rfl, _, rfl, _, _, rfl, rfl, _, rfl, _, rfl, _, _, rfl, rfl, by omega, ?_, rfl⟩
          rw [if_pos c', c']
          exact congrArg V.int (by omega)
        · have c' : ¬ sz = 4 := fun z => c (decide_eq_true z)
          refine ⟨_, rfl, _, rfl, _, _, rfl, rfl, _, rfl, _, rfl, _, _, rfl, rfl, _, _, rfl, ?_, rfl⟩
          rw [if_neg c']
          refine congrArg V.int ?_
          split <;> omega
      · refine ⟨sz, _, v, _, _, _, _, _, _, _, _, _, _, G5, rfl, ⟨hsz.1, hsz.2, rfl⟩, by omega, by omega, fun a b ha hb => ?_, W4.trans W5.none0, (pen4.keep W5 (by simp)).more (by omega), t5⟩
        show (if sz = 4 then (a + b) % 4 else min (a + b) (sz - 1)) < sz
        split <;> omega
    -- parity, sets
    refine vt_or (a := .parity) (b := .sets) rfl (ite2 (fun c => ?_) (fun n5 => ?_))
    · have hk : k = .parity ∨ k = .sets := of_decide_eq_true c
      let op8 : Nat → Nat → Nat := fun a b => if k = .parity then Nat.xor a b else Nat.lor a b
      have hop : ∀ a b, a < 8 → b < 8 → op8 a b = if k = .parity then Nat.xor a b else Nat.lor a b := fun _ _ _ _ => rfl
      dsimp only [tSeq, tAsg]
      refine lc2r (T := T) (n := 8) (tn := tC (.int 8)) (op := op8) W4.s (by decide) (fun R h => h) (fun a H1 R h => h) (fun a b G5 H5 ha hb W5 Q5 q5 => ?_) (fun v G5 H5 W5 t5 => ?_)
      · refine ⟨.int (op8 a b : Nat), ⟨_, rfl, rfl, _, rfl, ?_⟩, q5⟩
        have ek : decide (V.str k.nm = V.str (Str.ofString "parity")) = decide (k = .parity) := kd_dec k .parity
        rw [ek]
        refine ite2 (fun c => ?_) (fun c => ?_)
        · refine ⟨_, rfl, _, rfl, _, _, rfl, rfl, ?_, rfl⟩
          refine congrArg V.int ?_
          show Builtin.bitXor (a : Nat) (b : Nat) = ((if k = .parity then Nat.xor a b else Nat.lor a b : Nat) : Int)
          rw [if_pos (of_decide_eq_true c)]
          exact bit_xor a ha b hb
        · refine ⟨_, rfl, _, rfl, _, _, rfl, rfl, ?_, rfl⟩
          refine congrArg V.int ?_
          show Builtin.bitOr (a : Nat) (b : Nat) = ((if k = .parity then Nat.xor a b else Nat.lor a b : Nat) : Int)
          rw [if_neg fun z => c (decide_eq_true z)]
          exact bit_or a ha b hb
      · obtain ⟨r, xs, rfl, hr0, lx, hrow⟩ := rows_row t5
        obtain ⟨mm, hmm, eat⟩ : ∃ mm : Nat, mm ∈ [2, 4, 8] ∧ atI [V.int 2, V.int 4, V.int 8] ((sz : Nat) - 2 : Int) = some (.int (mm : Nat)) := by
          rcases (show sz = 2 ∨ sz = 3 ∨ sz = 4 by omega) with e | e | e <;> subst e
          · exact ⟨2, by decide, rfl⟩
          · exact ⟨4, by decide, rfl⟩
          · exact ⟨8, by decide, rfl⟩
        have hm8 : mm = 2 ∨ mm = 4 ∨ mm = 8 := by simpa using hmm
        have W45 := W4.trans W5.none0
        have pen5 := pen4.keep W5 (by simp)
        refine ⟨_, rfl, szL (Nat.le_add_left 3 99997), fun c1 hc1 => ?_⟩
        obtain ⟨G6, W6, s6, g6⟩ := W45.al hc1 (.lst [.int 2, .int 4, .int 8])
        refine ⟨_, rfl, _, _, rfl, rfl, c1, _, _, .int (mm : Nat), rfl, rfl, SqL.of (W6.s _ _ g6), eat, _, rfl, r, xs, rfl, SqL.of (W6.s _ _ (s6.g _ _ hr0)), fun c2 hc2 => ?_⟩
        rw [cut_take]
        obtain ⟨G7, W7', s7, g7⟩ := W6.al hc2 (.lst (xs.take mm))
        have ltk : (xs.take mm).length = mm := by rw [List.length_take, lx]; omega
        refine ⟨c2, rfl, ⟨_, SqL.of (W7'.s _ _ g7)⟩, lcW (T := T) (E := []) walk_list _ (dRow mm op8) 0 0 W7'.s (by omega) (fun _ _ _ _ h => h) (fun G1 H1 W => SqL.of (W.s _ _ (W.g _ _ g7))) Pens.nil (fun a x Ga Ha ha hx Wa _ Q1 q1 => ?_) (fun A Gb Hb Wb _ tb => ?_)⟩
        · rw [ltk] at ha
          obtain ⟨pr, hpr, gpr⟩ := hrow a (by omega)
          rw [List.getElem?_take_of_lt ha, hpr] at hx
          cases hx
          refine ⟨rfl, _, rfl, szL (Nat.le_add_left 3 99997), fun c3 hc3 => ?_⟩
          obtain ⟨Gc, Wc, sc, gc⟩ := (Gx.refl (T := T) (E := []) Wa.s).al hc3 (.lst [.int 2, .int 4, .int 8])
          have gpr' := sc.g _ _ (Wa.g _ _ (s7.g _ _ (s6.g _ _ gpr)))
          refine ⟨_, rfl, _, _, rfl, rfl, c3, _, _, .int (mm : Nat), rfl, rfl, SqL.of (Wc.s _ _ gc), eat, _, rfl, pr, _, rfl, SqL.of (Wc.s _ _ gpr'), fun c4 hc4 => ?_⟩
          rw [cut_take]
          obtain ⟨Gd, Wd, sd, gd⟩ := Wc.al hc4 (.lst ((opRow 8 op8 a).take mm))
          refine q1 _ Gd _ Wd Pens.nil (dRow_td ?_)
          rw [gd]
          unfold opRow
          rw [← List.map_take, List.take_range, Nat.min_eq_left (by omega)]
        · rw [ltk] at tb
          refine ⟨mm, op8, _, _, _, _, _, _, _, _, _, _, _, Gb, rfl, ?_, by omega, by omega, fun a b ha hb => ?_, W7'.trans Wb.none0, (((pen5.keep s6 (by simp)).keep s7 (by simp)).keep Wb (by simp)).more (by omega), tb⟩
          · rcases hk with rfl | rfl
            · exact ⟨hm8, rfl⟩
            · exact ⟨hm8, rfl⟩
          · have := bits_lt mm hmm a ha b hb
            show (if k = .parity then Nat.xor a b else Nat.lor a b) < mm
            split
            · exact this.2
            · exact this.1
    have n5' : k ≠ .parity ∧ k ≠ .sets := ⟨fun z => n5 (decide_eq_true (.inl z)), fun z => n5 (decide_eq_true (.inr z))⟩
    -- heads, tails, middles
    refine ⟨_, rfl, szL (Nat.le_add_left 3 99997), fun c1 hc1 => ?_⟩
    obtain ⟨G5, W5, s5, g5⟩ := W4.al hc1 (.tup [.str (Str.ofString "heads"), .str (Str.ofString "tails"), .str (Str.ofString "middles")])
    refine ⟨c1, _, rfl, .inr (SqT.of (W5.s _ _ g5)), rfl, rfl, _, rfl, ?_⟩
    have ein : inV (V.str k.nm) [V.str (Str.ofString "heads"), V.str (Str.ofString "tails"), V.str (Str.ofString "middles")] = decide (k = .heads ∨ k = .tails ∨ k = .middles) := by
      have : inV (V.str k.nm) ([Kd.heads, Kd.tails, Kd.middles].map fun j => V.str j.nm) = decide (k ∈ [Kd.heads, Kd.tails, Kd.middles]) := by
        rw [show ([Kd.heads, Kd.tails, Kd.middles].map fun j => V.str j.nm) = ([Kd.heads, Kd.tails, Kd.middles].map Kd.nm).map V.str from by rw [List.map_map]; rfl, inV_strs, Bool.eq_iff_iff, decide_eq_true_iff, decide_eq_true_iff]
        refine ⟨fun h => ?_, fun h => List.mem_map.mpr ⟨k, h, rfl⟩⟩
        obtain ⟨j, hj, e⟩ := List.mem_map.mp h
        rw [← nm_inj e]
        exact hj
      refine Eq.trans this ?_
      rw [Bool.eq_iff_iff, decide_eq_true_iff, decide_eq_true_iff]
      simp
    have g45 := s5.g _ _ g4
    have pen5 := pen4.keep s5 (by simp)
    have t15 := t1.mono s5.g
    generalize upd H4 c1 (.tup [.str (Str.ofString "heads"), .str (Str.ofString "tails"), .str (Str.ofString "middles")]) = H5 at W5 pen5
    show if inV _ _ = true then _ else _
    rw [ein]
    clear s5 g5
    refine ite2 (fun c => ?_) (fun n6 => ?_)
    · have hk : k = .heads ∨ k = .tails ∨ k = .middles := of_decide_eq_true c
      refine ⟨szL (Nat.le_add_left 5 99995), fun c2 hc2 => ?_⟩
      rw [l5v]
      obtain ⟨G6, W6, s6, g6⟩ := W5.al hc2 (.lst (wds5.map vW))
      refine ⟨szL (Nat.le_add_left 2 99998), fun c3 hc3 => ?_⟩
      obtain ⟨G7, W7', s7, g7⟩ := W6.al hc3 (.lst [.str (Str.ofString "aba"), .str (Str.ofString "bab")])
      refine ⟨_, rfl, rfl, _, rfl, ?_⟩
      have ek : decide (V.str k.nm = V.str (Str.ofString "middles")) = decide (k = .middles) := kd_dec k .middles
      rw [ek]
      have e2 : (if decide (k = .middles) = true then (1 : Int) else 0) = ((if k = .middles then (1 : Nat) else 0 : Nat) : Int) := by
        by_cases h : k = .middles
        · rw [if_pos (decide_eq_true h), if_pos h]; rfl
        · rw [if_neg fun z => h (of_decide_eq_true z), if_neg h]; rfl
      rw [e2]
      have kb : (if k = .middles then (1 : Nat) else 0) ≤ 1 := by split <;> omega
      refine ⟨c3, _, _, rfl, rfl, W7'.s _ _ g7, by omega, by omega, szL (by rw [Int.toNat_natCast]; show 2 * _ ≤ _; omega), fun c4 hc4 => ?_⟩
      rw [Int.toNat_natCast, wds_rep]
      obtain ⟨G8, W8, s8, g8⟩ := W7'.al hc4 (.lst ((wdsM k).map vW))
      have lM : (wdsM k).length ≤ 2 := by unfold wdsM; split <;> decide
      refine ⟨c2, c4, _, _, rfl, rfl, W8.s _ _ (s8.g _ _ (s7.g _ _ g6)), W8.s _ _ g8, szL (by rw [List.length_map, List.length_map]; show 5 + _ ≤ _; omega), fun c5 hc5 => ?_⟩
      rw [← List.map_append]
      obtain ⟨G9, W9, s9, g9⟩ := W8.al hc5 (.lst ((wds5 ++ wdsM k).map vW))
      have pen9 := (((pen5.keep s6 (by simp)).keep s7 (by simp)).keep s8 (by simp)).keep s9 (by simp)
      generalize upd (upd (upd (upd H5 c2 (.lst (wds5.map vW))) c3 (.lst [.str (Str.ofString "aba"), .str (Str.ofString "bab")])) c4 (.lst ((wdsM k).map vW))) c5 (.lst ((wds5 ++ wdsM k).map vW)) = H9 at W9 pen9
      clear s6 s7 s8 s9 g6 g7 g8 W6 W7' W8
      refine ⟨_, rfl, fun dp hdp => ⟨szL (Nat.le_add_left 1 99999), fun a1 ha1 => ⟨szL (Nat.le_add_left 1 99999), fun a2 ha2 => ⟨szL (Nat.le_add_left 2 99998), fun a3 ha3 => ?_⟩⟩⟩⟩
      have Wa := W9.snocM hdp (.dK [])
      have gdp := W9.s.free hdp
      have hdp0 := W9.u _ hdp
      obtain ⟨Gb, Wb, sb, gb⟩ := Wa.al ha1 (.lst [.int 0])
      obtain ⟨Gc, Wc, sc, gc⟩ := Wb.al ha2 (.lst [.int 1])
      obtain ⟨Gd, Wd, sd, gd⟩ := Wc.al ha3 (.lst [.int 0, .int 1])
      obtain ⟨gdp', hdp'⟩ := ((sb.trans sc).trans sd).keepM (by simp) gdp upd_same (fun _ z => by cases z)
      have pend := (((pen9.keep (Gx.newM (T := T) (E := []) W9.s hdp (.dK [])) (by simp)).keep sb (by simp)).keep sc (by simp)).keep sd (by simp)
      refine ⟨hdp', [(.inr "heads", .ref a1), (.inr "tails", .ref a2), (.inr "middles", .ref a3)], rfl, (by show 3 ≤ 15; decide), ?_⟩
      rw [ways_put]
      have We := Wd.write (o' := .dK [(.inr "heads", .ref a1), (.inr "tails", .ref a2), (.inr "middles", .ref a3)]) (.inl hdp0) gdp' hdp' True.intro
      have pene : Pen Gd (upd _ dp (.dK [(.inr "heads", .ref a1), (.inr "tails", .ref a2), (.inr "middles", .ref a3)])) p (n0 + 20) := pend.wr fun z => by
        obtain ⟨cc, cs, t, l, _, b, _⟩ := pen9
        rw [z, hdp] at b
        cases b
      have he : upd (upd (upd (upd (upd H9 dp (.dK [])) a1 (.lst [.int 0])) a2 (.lst [.int 1])) a3 (.lst [.int 0, .int 1])) dp (.dK [(.inr "heads", .ref a1), (.inr "tails", .ref a2), (.inr "middles", .ref a3)]) dp = some (.dK [(.inr "heads", .ref a1), (.inr "tails", .ref a2), (.inr "middles", .ref a3)]) := upd_same
      generalize upd (upd (upd (upd (upd H9 dp (.dK [])) a1 (.lst [.int 0])) a2 (.lst [.int 1])) a3 (.lst [.int 0, .int 1])) dp (.dK [(.inr "heads", .ref a1), (.inr "tails", .ref a2), (.inr "middles", .ref a3)]) = He at We pene he
      have gM : Gd c5 = some (.lst ((wds5 ++ wdsM k).map vW)) := sd.g _ _ (sc.g _ _ (sb.g _ _ g9))
      have g1 : Gd a1 = some (.lst [.int 0]) := sd.g _ _ (sc.g _ _ gb)
      have g2 : Gd a2 = some (.lst [.int 1]) := sd.g _ _ gc
      obtain ⟨wa, ways, hv, hwa, lw, clo, hrow⟩ : ∃ (wa : Addr) (ways : List Int), valV [((Sum.inr "heads" : Key), V.ref a1), (.inr "tails", .ref a2), (.inr "middles", .ref a3)] (.inr k.nm) = some (.ref wa) ∧ Gd wa = some (.lst (ways.map V.int)) ∧ ways.length ≤ 5 ∧
          (∀ i, i < (wds5 ++ wdsM k).length → ∀ j, j < (wds5 ++ wdsM k).length → mark ways ((wds5 ++ wdsM k).getD i [] ++ (wds5 ++ wdsM k).getD j []) ∈ (wds5 ++ wdsM k).map (mark ways)) ∧ RowsOf k (wds5 ++ wdsM k).length (opW ways (wds5 ++ wdsM k)) := by
        have vh : ∀ j : Kd, valV [((Sum.inr "heads" : Key), V.ref a1), (.inr "tails", .ref a2), (.inr "middles", .ref a3)] (.inr j.nm) = if Kd.heads = j then some (.ref a1) else if Kd.tails = j then some (.ref a2) else if Kd.middles = j then some (.ref a3) else none := fun j => by
          have e : ∀ a : Kd, ((Sum.inr a.nm : Key) = Sum.inr j.nm) ↔ a = j := fun a => by
            have := inr_nm a j
            rw [Bool.eq_iff_iff, decide_eq_true_iff, decide_eq_true_iff] at this
            exact this
          show valV [((Sum.inr Kd.heads.nm : Key), V.ref a1), (.inr Kd.tails.nm, .ref a2), (.inr Kd.middles.nm, .ref a3)] (.inr j.nm) = _
          by_cases h1 : Kd.heads = j
          · rw [valV_pos ((e _).mpr h1), if_pos h1]
          · rw [valV_neg (fun z => h1 ((e _).mp z)), if_neg h1]
            by_cases h2 : Kd.tails = j
            · rw [valV_pos ((e _).mpr h2), if_pos h2]
            · rw [valV_neg (fun z => h2 ((e _).mp z)), if_neg h2]
              by_cases h3 : Kd.middles = j
              · rw [valV_pos ((e _).mpr h3), if_pos h3]
              · rw [valV_neg (fun z => h3 ((e _).mp z)), if_neg h3]
                rfl
        rcases hk with rfl | rfl | rfl
        · exact ⟨a1, [0], vh _, g1, by decide, by decide +kernel, rfl, rfl⟩
        · exact ⟨a2, [1], vh _, g2, by decide, by decide +kernel, rfl, rfl⟩
        · exact ⟨a3, [0, 1], vh _, gd, by decide, by decide +kernel, rfl, rfl⟩
      have dg := DGet.k (k := .inr k.nm) he
      rw [hv] at dg
      have hwl : ∀ w ∈ wds5 ++ wdsM k, w.length ≤ 20 ∧ Lo w := fun w hw => by
        have hw7 : w ∈ wds7 := by
          unfold wds7
          rcases List.mem_append.mp hw with h | h
          · exact List.mem_append_left _ h
          · unfold wdsM at h
            split at h
            · exact List.mem_append_right _ h
            · simp at h
        exact wds7_ok w hw7
      refine ⟨_, rfl, dp, .ref wa, rfl, dg, Gd, c5, wa, wds5 ++ wdsM k, ways, rfl, We.s, gM, hwa, by rw [List.length_append]; show 5 + _ ≤ _; omega, lw, hwl, fun i j hi hj => clo i hi j hj, fun v Gf Hf Wf tf => ?_⟩
      refine ⟨_, _, v, _, _, _, _, _, _, _, _, _, _, Gf, rfl, hrow, ?_, ?_, fun a b ha hb => ?_, We.trans Wf.none0, (pene.keep Wf (by simp)).more (by omega), tf⟩
      · rw [List.length_append]; show 1 ≤ 5 + _; omega
      · rw [List.length_append]; show 5 + _ ≤ 40; omega
      · have := idx_lt (clo a ha b hb)
        rw [List.length_map] at this
        exact this
    have n6' : k ≠ .heads ∧ k ≠ .tails ∧ k ≠ .middles := ⟨fun z => n6 (decide_eq_true (.inl z)), fun z => n6 (decide_eq_true (.inr (.inl z))), fun z => n6 (decide_eq_true (.inr (.inr z)))⟩
    -- lefts, rights
    refine vt_or (a := .lefts) (b := .rights) rfl (ite2 (fun c => ?_) (fun n7 => ?_))
    · have hk : k = .lefts ∨ k = .rights := of_decide_eq_true c
      refine lc2s (T := T) (op := fun a b => if k = .lefts then a else b) W5.s g45 (by omega) (fun a b G6 H6 ha hb W6 Q6 q6 => ?_) (fun v G6 H6 W6 t6 => ?_)
      · refine ⟨.int ((if k = .lefts then a else b : Nat)), ⟨_, rfl, rfl, _, rfl, ?_⟩, q6⟩
        have ek : decide (V.str k.nm = V.str (Str.ofString "lefts")) = decide (k = .lefts) := kd_dec k .lefts
        rw [ek]
        refine ite2 (fun c => ?_) (fun c => ?_)
        · refine ⟨_, rfl, ?_, rfl⟩
          rw [if_pos (of_decide_eq_true c)]
        · refine ⟨_, rfl, ?_, rfl⟩
          rw [if_neg fun z => c (decide_eq_true z)]
      · refine ⟨sz, _, v, _, _, _, _, _, _, _, _, _, _, G6, rfl, ?_, by omega, by omega, fun a b ha hb => ?_, W5.trans W6.none0, (pen5.keep W6 (by simp)).more (by omega), t6⟩
        · rcases hk with rfl | rfl
          · rfl
          · rfl
        · show (if k = .lefts then a else b) < sz
          split <;> assumption
    have n7' : k ≠ .lefts ∧ k ≠ .rights := ⟨fun z => n7 (decide_eq_true (.inl z)), fun z => n7 (decide_eq_true (.inr z))⟩
    -- outer
    refine ⟨_, rfl, rfl, _, rfl, ite2 (fun c => ?_) (fun n8 => ?_)⟩
    · cases kd_of .outer c
      have e2 : (2 : Int) * (sz : Nat) = ((2 * sz : Nat) : Int) := by omega
      refine lc2r (T := T) (n := 2 * sz) (op := fun a b => a / sz * sz + b % sz) W5.s (by omega) (fun R h => ⟨_, rfl, _, _, rfl, rfl, .inl ⟨by decide, by decide⟩, by show R (V.int (2 * ((sz : Nat) : Int))) _; rw [e2]; exact h⟩) (fun a H1 R h => ⟨_, rfl, _, _, rfl, rfl, .inl ⟨by decide, by decide⟩, by show R (V.int (2 * ((sz : Nat) : Int))) _; rw [e2]; exact h⟩) (fun a b G6 H6 ha hb W6 Q6 q6 => ?_) (fun v G6 H6 W6 t6 => ?_)
      · refine ⟨_, rfl, _, rfl, _, _, rfl, rfl, ⟨by omega, by omega⟩, _, rfl, _, _, rfl, rfl, .inr ⟨by omega, by omega⟩, _, rfl, _, rfl, _, rfl, _, _, rfl, rfl, by omega, _, _, rfl, rfl, ?_⟩
        have e3 : (a : Int) / (sz : Nat) * (sz : Nat) + (b : Nat) % (sz : Nat) = ((a / sz * sz + b % sz : Nat) : Int) := by
          rw [Int.natCast_add, Int.natCast_mul, Int.natCast_ediv, Int.natCast_emod]
        show Q6 (V.int ((a : Int) / (sz : Nat) * (sz : Nat) + (b : Nat) % (sz : Nat))) _
        rw [e3]
        exact q6
      · refine ⟨2 * sz, _, v, _, _, _, _, _, _, _, _, _, _, G6, rfl, ⟨sz, hsz.1, hsz.2, rfl, rfl⟩, by omega, by omega, fun a b ha hb => ?_, W5.trans W6.none0, (pen5.keep W6 (by simp)).more (by omega), t6⟩
        have h1 : b % sz < sz := Nat.mod_lt _ (by omega)
        have h2 : a / sz < 2 := Nat.div_lt_of_lt_mul (by omega)
        have h3 : a / sz * sz ≤ 1 * sz := Nat.mul_le_mul_right _ (by omega)
        show a / sz * sz + b % sz < 2 * sz
        omega
    -- one
    have hk : k = .one := by
      have h1 := kd_not .trees n1
      have h2 := kd_not .pairs n2
      have h3 := kd_not .words n3
      have h4 := kd_not .bags n4
      have h8 := kd_not .outer n8
      cases k <;> first | rfl | (exfalso; first | exact h1 rfl | exact h2 rfl | exact h3 rfl | exact h4 rfl | exact n5'.1 rfl | exact n5'.2 rfl | exact n6'.1 rfl | exact n6'.2.1 rfl | exact n6'.2.2 rfl | exact n7'.1 rfl | exact n7'.2 rfl | exact h8 rfl)
    subst hk
    exact ⟨1, fun _ _ => 0, .ref b0, _, _, _, _, _, _, _, _, _, _, G5, rfl, ⟨rfl, rfl⟩, by omega, by omega, fun _ _ _ _ => Nat.one_pos, W5, pen5.more (by omega), t15⟩
  · rintro σ' H5 ⟨n, op, v, o2, o3, o4, o6, o7, o8, o9, o10, o11, o12, G5, rfl, hro, hn1, hn40, clo, W5, pen5, t5⟩
    refine ⟨_, rfl, _, rfl, G5, p, n0 + 30, v, n, op, rfl, W5.s, pen5, by omega, t5, hn40, clo, fun od M u G6 H6 hod conj W6 pen6 t6 => ?_⟩
    exact q n op od M u G6 H6 hro hn1 hn40 clo hod conj (W5.trans W6) (pen6.more (by omega)) t6
end
end W7
set_option maxRecDepth 100000
set_option maxHeartbeats 4000000
/-! WQ: _law_told_apart -/
namespace W7
open PySem PySem.Spec PyProof.Rows L2 LamX NdefX
section
variable {T : List NTab} {K : PySem.W.Frag} {te tn : TE} {n : Nat} {op : Nat → Nat → Nat} {G H : Hp} {Q : VK} {x0 x1 x2 x3 x4 x5 x6 x7 x8 x9 x10 : Option V} {r : L2.St}
theorem lc2t (hS : Same G H) (hn : n ≤ 50000) (hn1 : ∀ R : VK, R (.int (n : Nat)) H → tn (x0 :: x1 :: x2 :: x3 :: x4 :: x5 :: x6 :: x7 :: x8 :: x9 :: x10 :: r) H R)
    (hn2 : ∀ (a : Nat) H1 (R : VK), R (.int (n : Nat)) H1 → tn (x0 :: x1 :: x2 :: x3 :: x4 :: x5 :: x6 :: x7 :: x8 :: some (.int (a : Nat)) :: x10 :: r) H1 R)
    (hte : ∀ (a b : Nat) G1 H1, a < n → b < n → Gx T [] G H G1 H1 → ∀ Q : VK, Q (.int (op a b : Nat)) H1 → te (x0 :: x1 :: x2 :: x3 :: x4 :: x5 :: x6 :: x7 :: x8 :: some (.int (a : Nat)) :: some (.int (b : Nat)) :: r) H1 Q)
    (q : ∀ v G1 H1, Gx T [] G H G1 H1 → Td G1 v (dRows n op) → Q v H1) :
    tLc (iRng1 (tCons tn tNil)) (gName 9) tYes (tLc (iRng1 (tCons tn tNil)) (gName 10) tYes te [10]) [9] (x0 :: x1 :: x2 :: x3 :: x4 :: x5 :: x6 :: x7 :: x8 :: x9 :: x10 :: r) H Q := by
  refine hn1 _ ⟨_, rfl, by omega, by omega, ?_⟩
  rw [Int.toNat_natCast]
  refine lcW (T := T) (E := []) walk_range (fun i x => x = .int (i : Nat)) (dRow n op) 0 0 hS hn (fun i H x H' y => ⟨y.1, by rw [y.2]; exact congrArg V.int (Int.zero_add _)⟩) (fun _ _ _ => True.intro) Pens.nil (fun a x G1 H1 ha hx W1 _ Q1 q1 => ?_) (fun A G1 H1 W _ t => ?_)
  · subst hx
    refine ⟨rfl, hn2 a _ _ ⟨_, rfl, by omega, by omega, ?_⟩⟩
    rw [Int.toNat_natCast]
    refine lcW (T := T) (E := []) walk_range (fun i x => x = .int (i : Nat)) (fun b => .int (op a b : Nat)) 0 0 W1.s hn (fun i H x H' y => ⟨y.1, by rw [y.2]; exact congrArg V.int (Int.zero_add _)⟩) (fun _ _ _ => True.intro) Pens.nil (fun b y G2 H2 hb hy W2 _ Q2 q2 => ?_) (fun R G2 H2 W _ t => ?_)
    · subst hy
      exact ⟨rfl, hte a b G2 H2 ha hb (W1.trans W2) _ (q2 _ G2 H2 (Gx.refl W2.s) Pens.nil (.int _))⟩
    · exact q1 _ G2 H2 W Pens.nil t
  · exact q _ G1 H1 W t
theorem as_mkG {G0 : Hp} {σ : L2.St} {d : PyData} {g : TG} {b : TS} {D : Ends} (m : Mk T G0 σ te d) (hS : Same G H) (h0 : Same G0 G) (h : ∀ v G' H', Gx T [] G H G' H' → Td G' v d → g v σ H' fun σ' H' => b D σ' H') : tSeq (tAsg te g) b D σ H := m G H hS h0 _ h
end
/-! ### the small tables -/
def smN : Kd → Nat
  | .bags => 8 | .one => 1 | .heads => 5 | .tails => 5 | _ => 2
def smOp : Kd → Nat → Nat → Nat
  | .bags => fun a b => min (a + b) 7
  | .parity => fun a b => if a = b then 0 else 1
  | .sets => fun a b => max a b
  | .lefts => fun a _ => a
  | .rights => fun _ b => b
  | .heads => opW [0] wds5
  | .tails => opW [1] wds5
  | _ => fun _ _ => 0
def spn : Kd → Nat
  | .bags => 2 | k => smN k
def nms : Kd → List Kd
  | .middles => [.heads, .tails]
  | .outer => [.lefts, .rights]
  | k => [k]
def smKs : List Kd := [.bags, .parity, .sets, .one, .lefts, .rights, .heads, .tails]
def smL (f : Kd → V) (ks : List Kd) : List (Key × V) := ks.map fun k => (.inr k.nm, f k)
theorem smL_get (f : Kd → V) (k : Kd) : ∀ ks : List Kd, k ∈ ks → valV (smL f ks) (.inr k.nm) = some (f k)
  | j :: r, h => by
    by_cases e : j = k
    · rw [← e]
      exact valV_pos rfl
    · have n : ¬ (Sum.inr j.nm : Key) = Sum.inr k.nm := fun z => e (nm_inj (Sum.inr.inj z))
      show valV ((_, _) :: smL f r) _ = _
      rw [valV_neg n]
      exact smL_get f k r ((List.mem_cons.mp h).elim (fun z => absurd z.symm e) id)
theorem smL_no (f : Kd → V) (k : Kd) : ∀ ks : List Kd, k ∉ ks → valV (smL f ks) (.inr k.nm) = none
  | [], _ => rfl
  | j :: r, h => by
    have n : ¬ (Sum.inr j.nm : Key) = Sum.inr k.nm := fun z => h (by rw [nm_inj (Sum.inr.inj z)]; simp)
    show valV ((_, _) :: smL f r) _ = _
    rw [valV_neg n]
    exact smL_no f k r fun z => h (by simp [z])
theorem smL_put (f : Kd → V) (k : Kd) (v : V) (ks : List Kd) (h : k ∉ ks) : putK (smL f ks) (.inr k.nm) v = smL (fun j => if j = k then v else f j) (ks ++ [k]) := by
  have e : ¬ ((smL f ks).any (fun kv => decide (kv.1 = (Sum.inr k.nm : Key)))) = true := by
    rw [List.any_eq_true]
    rintro ⟨kv, hkv, e⟩
    obtain ⟨j, hj, rfl⟩ := List.mem_map.mp hkv
    have e : decide ((Sum.inr j.nm : Key) = Sum.inr k.nm) = true := e
    rw [inr_nm, decide_eq_true_iff] at e
    exact h (e ▸ hj)
  unfold putK
  rw [if_neg e]
  unfold smL
  rw [List.map_append, List.map_singleton]
  show _ ++ [(_, v)] = _ ++ [(_, if k = k then v else f k)]
  rw [if_pos rfl]
  congr 1
  refine List.map_congr_left fun j hj => ?_
  have n : j ≠ k := fun z => h (z ▸ hj)
  show (_, f j) = (_, if j = k then v else f j)
  rw [if_neg n]
/-- the tables so far, in a dict of ours -/
def Sm (G H : Hp) (D : Addr) (ks : List Kd) : Prop := ∃ f : Kd → V, H D = some (.dK (smL f ks)) ∧ G D = none ∧ ∀ k ∈ ks, Td G (f k) (dRows (smN k) (smOp k))
theorem Sm.step {T : List NTab} {G H G' H' : Hp} {D : Addr} {ks : List Kd} (h : Sm G H D ks) (a : Gx T [] G H G' H') : Sm G' H' D ks := by
  obtain ⟨f, h1, h2, h3⟩ := h
  obtain ⟨x, y⟩ := a.keepM (by simp) h2 h1 (fun _ z => by cases z)
  exact ⟨f, y, x, fun k hk => (h3 k hk).mono a.g⟩
theorem Sm.put {T : List NTab} {G0 H0 G H : Hp} {D : Addr} {ks : List Kd} (h : Sm G H D ks) (W : Gx T [] G0 H0 G H) (hD : H0 D = none) {k : Kd} (hk : k ∉ ks) (hl : ks.length ≤ 100) {v : V} (t : Td G v (dRows (smN k) (smOp k))) :
    ∃ H', DPut H D (.str k.nm) v H' ∧ Sm G H' D (ks ++ [k]) ∧ Gx T [] G0 H0 G H' := by
  obtain ⟨f, h1, h2, h3⟩ := h
  have q := DPut.k (k := .inr k.nm) (v := v) h1 (szLt (by unfold smL; rw [List.length_map]; omega))
  rw [smL_put f k v ks hk] at q
  refine ⟨_, q, ⟨_, upd_same, h2, fun j hj => ?_⟩, W.write (.inl hD) h2 h1 True.intro⟩
  by_cases e : j = k
  · rw [e, if_pos rfl]; exact t
  · rw [if_neg e]
    exact h3 j ((List.mem_append.mp hj).elim id fun z => absurd (List.mem_singleton.mp z) e)
theorem Sm.get {G H : Hp} {D : Addr} {ks : List Kd} (h : Sm G H D ks) {k : Kd} (hk : k ∈ ks) : ∃ v, DGet H D (.str k.nm) (some v) ∧ Td G v (dRows (smN k) (smOp k)) := by
  obtain ⟨f, h1, h2, h3⟩ := h
  have q := DGet.k (k := .inr k.nm) h1
  rw [smL_get f k ks hk] at q
  exact ⟨_, q, h3 k hk⟩
theorem dV_inv {G : Hp} {v : V} {l : List Nat} (h : Td G v (dV l)) : ∃ a, v = .ref a ∧ G a = some (.lst (l.map fun z => V.int (z : Nat))) := by
  obtain ⟨a, xs, rfl, ha, tx⟩ := h.list_inv
  have e : l.map (fun z => PyData.int (z : Nat)) = (l.map fun z => ((z : Nat) : Int)).map PyData.int := by rw [List.map_map]; rfl
  rw [e] at tx
  refine ⟨a, rfl, ?_⟩
  rw [ha, tx.ints_inv, List.map_map]
  rfl
theorem tI_eqv (a b : List Int) : PyData.eqv (tI a) (tI b) = decide (a = b) := by
  unfold tI
  rw [PyData.eqv]
  induction a generalizing b with
  | nil => cases b <;> simp [PyData.eqvAll]
  | cons x a ih =>
    cases b with
    | nil => simp [PyData.eqvAll]
    | cons y b =>
      rw [List.map_cons, List.map_cons, PyData.eqvAll, ih b, PyData.eqv]
      by_cases h : x = y
      · by_cases h2 : a = b
        · simp [h, h2]
        · simp [h2]
      · simp [h]
theorem dV_lay (l : List Nat) : (dV l).canLay0 = true ∧ (dV l).depth = 1 := by
  unfold dV
  have e : l.map (fun z => PyData.int (z : Nat)) = (l.map fun z => ((z : Nat) : Int)).map PyData.int := by rw [List.map_map]; rfl
  rw [e, PyData.canLay0, lay_ints, PyData.depth, dep_ints]
  exact ⟨rfl, rfl⟩
theorem dVs_shaped (ls : List (List Nat)) : SeqAt.shaped (.list (ls.map dV)) = true := by
  have h1 : ∀ ls : List (List Nat), PyData.canLayAll0 (ls.map dV) = true := fun ls => by
    induction ls with
    | nil => simp [PyData.canLayAll0]
    | cons x r ih => rw [List.map_cons, PyData.canLayAll0, (dV_lay x).1, ih]; rfl
  have h2 : ∀ ls : List (List Nat), PyData.depthAll (ls.map dV) ≤ 1 := fun ls => by
    induction ls with
    | nil => simp [PyData.depthAll]
    | cons x r ih =>
      simp only [List.map_cons, PyData.depthAll, (dV_lay x).2]
      omega
  unfold SeqAt.shaped
  have := h2 ls
  rw [PyData.canLay0, h1, PyData.depth, decide_eq_true (by omega)]
  rfl
theorem agr_trees (t s : Tr) : agr .trees t s = decide (t = s) := d_eqv t s
theorem agr_pairs (t s : Tr) : agr .pairs t s = decide (t.ws = s.ws) := d_eqv t.ws s.ws
theorem agr_words (t s : Tr) : agr .words t s = decide (t.lets = s.lets) := tI_eqv _ _
/-! what the plain laws give (proved in WR) -/
def TellW : Prop := ∀ t s : Tr, Gd t → Gd s → t.lets ≠ s.lets → ev (opF (wd t.lets)) ((List.range 4).map fun k => idx [97 + k] (facs (wd t.lets))) t ≠ ev (opF (wd t.lets)) ((List.range 4).map fun k => idx [97 + k] (facs (wd t.lets))) s
def TellT : Prop := ∀ (tn : Bool) (ps : List Tr) (t s : Tr), Gd t → Gd s → whole tn t ∈ ps → (∀ l r, Tr.nd l r ∈ ps → l ∈ ps ∧ r ∈ ps) → whole tn t ≠ whole tn s → ev (opP ps (comb tn) (.lf 0)) ((List.range 4).map fun k => idx (.lf (k : Nat)) ps) t ≠ ev (opP ps (comb tn) (.lf 0)) ((List.range 4).map fun k => idx (.lf (k : Nat)) ps) s
def TellS : Prop := ∀ (k : Kd) (t s : Tr), Gd t → Gd s → k ∉ [Kd.trees, .pairs, .words] → agr k t s = false → ∃ j ∈ nms k, ∃ vals ∈ valsN (spn j) (t.lets ++ s.lets) 4, ev (smOp j) vals t ≠ ev (smOp j) vals s
theorem smOp_lt : ∀ j ∈ smKs, ∀ a, a < smN j → ∀ b, b < smN j → smOp j a b < smN j := by decide +kernel
theorem filter_step {α : Type} (p : α → Bool) (l : List α) (i : Nat) (x : α) (h : l[i]? = some x) : (l.take (i + 1)).filter p = if p x = true then (l.take i).filter p ++ [x] else (l.take i).filter p := by
  obtain ⟨hi, e⟩ := List.getElem?_eq_some_iff.mp h
  rw [List.take_succ_eq_append_getElem hi, e, List.filter_append, List.filter_cons]
  split
  · rfl
  · rw [List.filter_nil, List.append_nil]
theorem nms_sm {k : Kd} (h : k ∉ [Kd.trees, .pairs, .words]) : ∀ j ∈ nms k, j ∈ smKs ∧ (j = .bags ↔ k = .bags) := by
  cases k <;> first | exact absurd (by decide) h | decide
abbrev sTold : Stmt := top 38
theorem sc_told_apart : FnScope ["_law_kind", "_law_one", "_law_two", "_law_words", "_law_small", "_law_name", "_law_rows", "_law_values", "_law_span", "_law_a", "_law_b", "_law_some"] ["_law_kind", "_law_one", "_law_two"] (defScope sTold) := ⟨rfl, rfl, rfl, by decide +kernel, rfl, by decide +kernel, by decide +kernel⟩
def spTold (T : List NTab) (Pt : Addr) : Sq := fun vs H Q => ∃ (G : Hp) (v u : V) (t s : Tr) (k : Kd), vs = [.str k.nm, v, u] ∧ Same G H ∧ G Pt = none ∧ TabsN T H ∧ Td G v t.d ∧ Td G u s.d ∧ Gd t ∧ Gd s ∧ agr k t s = false ∧ ∀ (G' H' : Hp), Gx T [] G H G' H' → Q (.bl true) H'
theorem tab_gone {T : List NTab} {E : List Addr} {G H G' H' : Hp} {p : NTab} (a : Gx T E G H G' H') (g : G p.1 = none) (hT : TabsN T H) (hm : p ∈ T) : G' p.1 = none := by
  obtain ⟨ps, e, _⟩ := hT _ hm
  exact a.keepN g e
theorem heads_clo : ∀ i, i < wds5.length → ∀ j, j < wds5.length → mark [0] (wds5.getD i [] ++ wds5.getD j []) ∈ wds5.map (mark [0]) := by decide +kernel
theorem tails_clo : ∀ i, i < wds5.length → ∀ j, j < wds5.length → mark [1] (wds5.getD i [] ++ wds5.getD j []) ∈ wds5.map (mark [1]) := by decide +kernel
section
variable {P : Program} {w : World} {K : PySem.W.Frag} {mg : Str → Option Value} {base : Heap} {f : Addr} {fd : FuncData} {T : List NTab}
theorem ok_told_apart {Pt : Addr} (mW : TellW) (mT : TellT) (mS : TellS) (hm : ((Pt, fun _ _ => qLam) : NTab) ∈ T) (B : Bn mg) (D : Dn K mg "_law_told_apart" sTold ["_law_kind", "_law_one", "_law_two"] f fd) (h_word_operation : Has P w K mg base 2 "_law_word_operation" ["_law_tree"] (spWordOp T)) (h_tree_rows : Has P w K mg base 10 "_law_tree_rows" ["_law_tree", "_law_turned"] (spTreeRows T))
    (h_differ : Has P w K mg base 10 "_law_differ" ["_law_rows", "_law_values", "_law_one", "_law_two"] (spDiffer T Pt)) (h_word_rows : Has P w K mg base 2 "_law_word_rows" ["_law_words", "_law_ways"] (spWordRows T)) (h_values_all : Has P w K mg base 2 "_law_values_all" ["_law_size", "_law_one", "_law_two"] (spVals T)) :
    Fn P w K mg base 11 f fd ["_law_kind", "_law_one", "_law_two"] (spTold T Pt) := by
  refine D.ok sc_told_apart (fun vs H Q h => ?_) (fun cdv A outer s H vs Q hg hr _ _ h => ?_)
  · obtain ⟨G, v, u, t, s, k, rfl, _⟩ := h
    rfl
  obtain ⟨G, v, u, t, s, k, rfl, hS, gP, hT, tv, tu, gt, gs, hag, q⟩ := h
  refine ⟨_,
    (pss_cons (ps_if (pt_cmpR op_in_seq (pv 0) (pe_tup (pa_cons pe_str (pa_cons pe_str (pa_cons pe_str pa_nil)))) (by rfl)) (pss_cons (ps_asg (pe_cutE (pe_ifExp (pt_cmpR op_eq (pv 0) pe_str (nomark _)) (pe_h h_word_operation hg hr (pa_cons (pv 1) pa_nil)) (pe_h h_tree_rows hg hr (pa_cons (pv 1) (pa_cons (pe_cmpR op_eq (pv 0) pe_str (nomark _)) pa_nil))))) (pg_tup (by rfl) (pgs_cons (pg_name (i := 6) sc_told_apart.nd rfl (Or.inl rfl)) (pgs_cons (pg_name (i := 7) sc_told_apart.nd rfl (Or.inl rfl)) pgs_nil))))
      (pss_one (ps_ret (pe_h h_differ hg hr (pa_cons (pv 6) (pa_cons (pv 7) (pa_cons (pv 1) (pa_cons (pv 2) pa_nil))))))))
      pss_nil)
    (pss_cons (ps_set (i := 3) sc_told_apart.nd rfl (Or.inl rfl) (pe_lst (pa_cons pe_str (pa_cons pe_str (pa_cons pe_str (pa_cons pe_str (pa_cons pe_str pa_nil)))))))
    (pss_cons (ps_set (i := 4) sc_told_apart.nd rfl (Or.inr rfl) (pe_disp (pps_cons pe_str (pe_lc (own := [("_law_a", 9)]) rfl sc_told_apart.nd (pi_range1 (by rfl) B.range (pa_cons pe_int pa_nil)) (blkOk_by (by kernel_rfl)) (fun _ _ _ _ _ => (pg_name (i := 9) sc_told_apart.nd rfl (Or.inr rfl))) (fun _ _ _ _ _ => pts_nil) (fun _ _ _ _ _ => (pe_lc (own := [("_law_b", 10)]) rfl sc_told_apart.nd (pi_range1 (by rfl) B.range (pa_cons pe_int pa_nil)) (blkOk_by (by kernel_rfl)) (fun _ _ _ _ _ => (pg_name (i := 10) sc_told_apart.nd rfl (Or.inl rfl))) (fun _ _ _ _ _ => pts_nil) (fun _ _ _ _ _ => (pe_callB (call_min2 rfl) (by rfl) B.min b_min (pa_cons (pe_callTy call_intI (by rfl) B.int b_int (pa_cons (pe_op op_add (pv 9) (pv 10)) pa_nil)) (pa_cons pe_int pa_nil))))))) (pps_cons pe_str (pe_lst (pa_cons (pe_lst (pa_cons pe_int (pa_cons pe_int pa_nil))) (pa_cons (pe_lst (pa_cons pe_int (pa_cons pe_int pa_nil))) pa_nil))) pps_nil)) (by rfl) (by rfl) (fun z => by cases z) (by decide)))
    (pss_cons (ps_asg (pe_tup (pa_cons (pe_lst (pa_cons (pe_lst (pa_cons pe_int (pa_cons pe_int pa_nil))) (pa_cons (pe_lst (pa_cons pe_int (pa_cons pe_int pa_nil))) pa_nil))) (pa_cons (pe_lst (pa_cons (pe_lst (pa_cons pe_int pa_nil)) pa_nil)) pa_nil))) (pg_tup (by rfl) (pgs_cons (pg_sub (pv 4) pe_str (set_dK (hu_of hr))) (pgs_cons (pg_sub (pv 4) pe_str (set_dK (hu_of hr))) pgs_nil))))
    (pss_cons (ps_asg (pe_tup (pa_cons (pe_lst (pa_cons (pe_lst (pa_cons pe_int (pa_cons pe_int pa_nil))) (pa_cons (pe_lst (pa_cons pe_int (pa_cons pe_int pa_nil))) pa_nil))) (pa_cons (pe_lst (pa_cons (pe_lst (pa_cons pe_int (pa_cons pe_int pa_nil))) (pa_cons (pe_lst (pa_cons pe_int (pa_cons pe_int pa_nil))) pa_nil))) pa_nil))) (pg_tup (by rfl) (pgs_cons (pg_sub (pv 4) pe_str (set_dK (hu_of hr))) (pgs_cons (pg_sub (pv 4) pe_str (set_dK (hu_of hr))) pgs_nil))))
    (pss_cons (ps_asg (pe_tup (pa_cons (pe_h h_word_rows hg hr (pa_cons (pv 3) (pa_cons (pe_lst (pa_cons pe_int pa_nil)) pa_nil))) (pa_cons (pe_h h_word_rows hg hr (pa_cons (pv 3) (pa_cons (pe_lst (pa_cons pe_int pa_nil)) pa_nil))) pa_nil))) (pg_tup (by rfl) (pgs_cons (pg_sub (pv 4) pe_str (set_dK (hu_of hr))) (pgs_cons (pg_sub (pv 4) pe_str (set_dK (hu_of hr))) pgs_nil))))
    (pss_cons (ps_for PassesOwn.never rfl (pi_list (pe_dget2 (hu_of hr) (pe_disp (pps_cons pe_str (pe_lst (pa_cons pe_str (pa_cons pe_str pa_nil))) (pps_cons pe_str (pe_lst (pa_cons pe_str (pa_cons pe_str pa_nil))) pps_nil)) (by rfl) (by rfl) (fun z => by cases z) (by decide)) (pv 0) (pe_lst (pa_cons (pv 0) pa_nil)) ⟨by rfl, by rfl, by rfl, by rfl⟩)) (pg_name (i := 5) sc_told_apart.nd rfl (Or.inr rfl))
      (pss_cons (ps_set (i := 8) sc_told_apart.nd rfl (Or.inl rfl) (pe_val (pe_ifExp (pt_cmpR op_eq (pv 0) pe_str (nomark _)) pe_int (pe_callB call_len_seq (by rfl) B.len b_len (pa_cons (pe_dget (hu_of hr) (pv 4) (pv 5) (fun _ _ => rfl)) pa_nil)))))
      (pss_one (ps_if (pt_cmpR (op_neD hr.units) (pe_lc (own := [("_law_some", 11)]) rfl sc_told_apart.nd (pi_list (pe_h h_values_all hg hr (pa_cons (pv 8) (pa_cons (pv 1) (pa_cons (pv 2) pa_nil))))) (blkOk_by (by kernel_rfl)) (fun _ _ _ _ _ => (pg_name (i := 11) sc_told_apart.nd rfl (Or.inl rfl))) (fun _ _ _ _ _ => (pts_one (pt_val (pe_h h_differ hg hr (pa_cons (pe_dget (hu_of hr) (pv 4) (pv 5) (fun _ _ => rfl)) (pa_cons (pv 11) (pa_cons (pv 1) (pa_cons (pv 2) pa_nil)))))))) (fun _ _ _ _ _ => (pv 11))) (pe_lst pa_nil) (nomark _)) (pss_one (ps_ret pe_bl))
        pss_nil))))
    (pss_one (ps_ret pe_bl))))))))), ?_⟩
  refine ⟨_, rfl, szL (Nat.le_add_left 3 99997), fun c1 hc1 => ?_⟩
  obtain ⟨G1, W1, s1, g1⟩ := (Gx.refl (T := T) (E := []) hS).al hc1 (.tup [.str (Str.ofString "trees"), .str (Str.ofString "pairs"), .str (Str.ofString "words")])
  refine ⟨c1, _, rfl, .inr (SqT.of (W1.s _ _ g1)), rfl, rfl, _, rfl, ?_⟩
  have ein : inV (V.str k.nm) [V.str (Str.ofString "trees"), V.str (Str.ofString "pairs"), V.str (Str.ofString "words")] = decide (k ∈ [Kd.trees, .pairs, .words]) := by
    have : inV (V.str k.nm) ([Kd.trees, .pairs, .words].map fun j => V.str j.nm) = decide (k ∈ [Kd.trees, .pairs, .words]) := by
      rw [show ([Kd.trees, .pairs, .words].map fun j => V.str j.nm) = ([Kd.trees, .pairs, .words].map Kd.nm).map V.str from by rw [List.map_map]; rfl, inV_strs, Bool.eq_iff_iff, decide_eq_true_iff, decide_eq_true_iff]
      refine ⟨fun h => ?_, fun h => List.mem_map.mpr ⟨k, h, rfl⟩⟩
      obtain ⟨j, hj, e⟩ := List.mem_map.mp h
      rw [← nm_inj e]
      exact hj
    exact this
  have tv1 := tv.mono s1.g
  have tu1 := tu.mono s1.g
  have gP1 := tab_gone W1 gP hT hm
  have hT1 := W1.t hT
  generalize upd H c1 (.tup [.str (Str.ofString "trees"), .str (Str.ofString "pairs"), .str (Str.ofString "words")]) = H1 at W1 hT1
  show if inV _ _ = true then _ else _
  rw [ein]
  clear s1 g1
  have ght := gt.ht
  have ghs := gs.ht
  refine ite2 (fun c => ?_) (fun c => ?_)
  · have hk := of_decide_eq_true c
    refine ⟨fun x H' => ∃ (G' : Hp) (n : Nat) (op : Nat → Nat → Nat) (vals : List Nat), Gx T [] G1 H1 G' H' ∧ Td G' x (.tuple [dRows n op, dV vals]) ∧ vals.length = 4 ∧ (∀ z ∈ vals, z < n) ∧ (∀ a b, a < n → b < n → op a b < n) ∧ ev op vals t ≠ ev op vals s, ⟨_, rfl, rfl, _, rfl, ?_⟩, ?_⟩
    · have ek : decide (V.str k.nm = V.str (Str.ofString "words")) = decide (k = .words) := kd_dec k .words
      rw [ek]
      refine ite2 (fun c => ?_) (fun c => ?_)
      · have e := of_decide_eq_true c
        subst e
        refine ⟨_, rfl, G1, v, t, rfl, W1.s, tv1, gt.1, gt.2, fun x G2 H2 W2 t2 => ⟨G2, _, _, _, W2, t2, by simp, fun z hz => ?_, fun a b _ _ => opP_le _ _ _ _ _, ?_⟩⟩
        · obtain ⟨i, _, rfl⟩ := List.mem_map.mp hz
          exact Nat.lt_succ_of_le (idx_le _ _)
        · refine mW t s gt gs fun z => ?_
          rw [agr_words, decide_eq_true z] at hag
          cases hag
      · have nw : k ≠ .words := fun z => c (decide_eq_true z)
        refine ⟨_, rfl, _, rfl, rfl, G1, v, t, decide (k = .pairs), ?_, W1.s, tv1, gt, fun ps x G2 H2 hw hc W2 t2 => ⟨G2, _, _, _, W2, t2, by simp, fun z hz => ?_, fun a b _ _ => opP_le _ _ _ _ _, ?_⟩⟩
        · show [v, V.bl (decide (V.str k.nm = V.str Kd.pairs.nm))] = _
          rw [kd_dec]
        · obtain ⟨i, _, rfl⟩ := List.mem_map.mp hz
          exact Nat.lt_succ_of_le (idx_le _ _)
        · refine mT _ ps t s gt gs hw hc fun z => ?_
          by_cases hp : k = .pairs
          · subst hp
            have z : t.ws = s.ws := z
            rw [agr_pairs, decide_eq_true z] at hag
            cases hag
          · have ht : k = .trees := by
              simp at hk
              rcases hk with h | h | h
              · exact h
              · exact absurd h hp
              · exact absurd h nw
            subst ht
            have z : t = s := z
            rw [agr_trees, decide_eq_true z] at hag
            cases hag
    · rintro x H2 ⟨G2, n, op, vals, W2, t2, hl, hv, hop, hne⟩
      obtain ⟨a, xs, rfl, ga, tx⟩ := t2.tup_inv
      obtain ⟨r, vl, rfl, tr, tvl⟩ := tx.two_inv
      obtain ⟨b, rfl, gb⟩ := dV_inv tvl
      have hT2 := W2.t hT1
      refine ⟨a, _, rfl, SqT.of (W2.s _ _ ga), rfl, _, _, rfl, _, _, rfl, rfl, _, rfl, _, rfl, _, rfl, _, rfl, G2, r, v, u, b, t, s, n, op, vals, rfl, W2.s, tab_gone W2 gP1 hT1 hm, hT2, tr, hop, gb, hl, hv, tv1.mono W2.g, by omega, gt.1, tu1.mono W2.g, by omega, gs.1, fun H3 W3 => ?_⟩
      rw [decide_eq_true hne]
      exact q G2 H3 ((W1.trans W2).trans W3)
  · have hk : k ∉ [Kd.trees, .pairs, .words] := fun z => c (decide_eq_true z)
    -- the words
    refine ⟨szL (Nat.le_add_left 5 99995), fun c2 hc2 => ?_⟩
    rw [l5v]
    obtain ⟨G2, W2, s2, g2⟩ := W1.al hc2 (.lst (wds5.map vW))
    -- the dict: bags, parity
    dsimp only [tSeq, tAsg]
    intro D hD
    have W3 := W2.snocM hD (.dK [])
    have gD2 := W2.s.free hD
    have hD0 := W2.u _ hD
    have sm0 : Sm G2 (upd (upd H1 c2 (.lst (wds5.map vW))) D (.dK [])) D [] := ⟨fun _ => .non, upd_same, gD2, fun _ h => absurd h (by simp)⟩
    generalize upd (upd H1 c2 (.lst (wds5.map vW))) D (.dK []) = H3 at W3 sm0
    dsimp only [tPairs]
    unfold tC
    dsimp only
    refine lc2t (T := T) (n := 8) (tn := tC (.int 8)) (op := fun a b => min (a + b) 7) W3.s (by decide) (fun R h => h) (fun a H1 R h => h) (fun a b G5 H5 ha hb W5 Q5 q5 => ?_) (fun v1 G4 H4 W4 t4 => ?_)
    · refine ⟨_, rfl, _, rfl, _, _, rfl, rfl, _, rfl, _, _, rfl, ?_⟩
      have e : (if (7 : Int) < (a : Int) + (b : Int) then (7 : Int) else (a : Int) + (b : Int)) = ((min (a + b) 7 : Nat) : Int) := by split <;> omega
      show Q5 (V.int (if (7 : Int) < (a : Int) + (b : Int) then (7 : Int) else (a : Int) + (b : Int))) _
      rw [e]
      exact q5
    have kp : ∀ σ : L2.St, Mk T G4 σ (tLst (tCons (tLst (tCons (tC (.int 0)) (tCons (tC (.int 1)) tNil))) (tCons (tLst (tCons (tC (.int 1)) (tCons (tC (.int 0)) tNil))) tNil))) (dRows (smN .parity) (smOp .parity)) := fun σ => Mk.l (ds := [.list [.int 0, .int 1], .list [.int 1, .int 0]]) (.c (.l (.c .i (.c .i .n)) (by simp)) (.c (.l (.c .i (.c .i .n)) (by simp)) .n)) (by simp)
    refine kp _ G4 H4 W4.s (Same.refl _) _ fun v2 G5 H5 W5 t5 => ?_
    have sm5 := (sm0.step W4).step W5
    have W35 := (W3.trans W4).trans W5
    refine ⟨?_, [(.inr "bags", v1), (.inr "parity", v2)], rfl, (by show 2 ≤ 15; decide), ?_⟩
    · obtain ⟨f0, e0, _⟩ := sm5
      exact e0
    have em : mergeK [] [((Sum.inr "bags" : Key), v1), (.inr "parity", v2)] = smL (fun j => if j = .parity then v2 else v1) [.bags, .parity] := by
      show mergeK [] [((Sum.inr Kd.bags.nm : Key), v1), (.inr Kd.parity.nm, v2)] = _
      simp only [mergeK, List.foldl_cons, List.foldl_nil, putK, List.any_nil, List.any_cons, inr_nm, List.nil_append, List.cons_append]
      rfl
    rw [em]
    obtain ⟨f0, e0, g0, _⟩ := sm5
    have W6 := W35.write (o' := .dK (smL (fun j => if j = .parity then v2 else v1) [.bags, .parity])) (.inl hD0) g0 e0 True.intro
    have sm6 : Sm G5 (upd H5 D (.dK (smL (fun j => if j = .parity then v2 else v1) [.bags, .parity]))) D [.bags, .parity] := ⟨_, upd_same, g0, fun j hj => by
      rcases List.mem_cons.mp hj with rfl | hj
      · exact t4.mono W5.g
      · rw [List.mem_singleton.mp hj]
        exact t5⟩
    generalize upd H5 D (.dK (smL (fun j => if j = .parity then v2 else v1) [.bags, .parity])) = H6 at W6 sm6
    have g25 : Same G2 G5 := W4.g.trans W5.g
    clear W35 e0 t4 t5 em kp sm0 W3 W4 W5
    -- sets, one
    have put2 : ∀ (a : Kd) (d1 d2 : PyData) (b : Kd) (ks : List Kd) (σ : L2.St) (G7 H7 : Hp) (v : V) (G8 H8 : Hp) (nx : L2.St → Hp → Prop), σ[4]? = some (some (.ref D)) → Sm G7 H7 D ks → Gx T [] G H G7 H7 → Gx T [] G7 H7 G8 H8 → Td G8 v (.tuple [dRows (smN a) (smOp a), dRows (smN b) (smOp b)]) → a ∉ ks → b ∉ ks ++ [a] → ks.length ≤ 50 →
        (∀ H9, Sm G8 H9 D (ks ++ [a] ++ [b]) → Gx T [] G H G8 H9 → nx σ H9) → gTup K 2 (gCons (gSub (tVar 4) (tC (.str a.nm)) rSetDK) (gCons (gSub (tVar 4) (tC (.str b.nm)) rSetDK) gNil)) v σ H8 nx := by
      intro a _ _ b ks σ G7 H7 v G8 H8 nx hσ sm W7' W8 t8 na nb lk k9
      obtain ⟨a', xs, rfl, ga, tx⟩ := t8.tup_inv
      obtain ⟨x1, x2, rfl, t1, t2⟩ := tx.two_inv
      have W78 := W7'.trans W8
      obtain ⟨Ha, p1, sma, Wa⟩ := (sm.step W8).put W78 hD0 na (by omega) t1
      obtain ⟨Hb, p2, smb, Wb⟩ := sma.put Wa hD0 nb (by rw [List.length_append]; show ks.length + 1 ≤ 100; omega) t2
      exact ⟨a', _, rfl, SqT.of (W8.s _ _ ga), rfl, _, _, rfl, _, hσ, D, Ha, rfl, p1, _, _, rfl, _, hσ, D, Hb, rfl, p2, rfl, k9 Hb smb Wb⟩
    have two : ∀ (x y z w : Int) (σ : L2.St), Mk T G5 σ (tLst (tCons (tLst (tCons (tC (.int x)) (tCons (tC (.int y)) tNil))) (tCons (tLst (tCons (tC (.int z)) (tCons (tC (.int w)) tNil))) tNil))) (.list [.list [.int x, .int y], .list [.int z, .int w]]) := fun x y z w σ => Mk.l (.c (.l (.c .i (.c .i .n)) (by simp)) (.c (.l (.c .i (.c .i .n)) (by simp)) .n)) (by simp)
    show tSeq _ _ _ _ _
    refine as_mkG (Mk.t (T := T) (G0 := G5) (ds := [dRows (smN .sets) (smOp .sets), dRows (smN .one) (smOp .one)]) (.c (two 0 1 1 1 _) (.c (Mk.l (ds := [.list [.int 0]]) (.c (.l (.c .i .n) (by simp)) .n) (by simp)) .n)) (by simp)) W6.s (Same.refl _) fun v3 G7 H7 W7' t7 => ?_
    refine put2 .sets .none .none .one [.bags, .parity] _ G5 H6 v3 G7 H7 _ rfl sm6 W6 W7' t7 (by decide) (by decide) (by decide) fun H8 sm8 W8 => ?_
    -- lefts, rights
    refine as_mkG (Mk.t (T := T) (G0 := G7) (ds := [dRows (smN .lefts) (smOp .lefts), dRows (smN .rights) (smOp .rights)]) (.c (fun G H hS h0 => two 0 0 1 1 _ G H hS (W7'.g.trans h0)) (.c (fun G H hS h0 => two 0 1 0 1 _ G H hS (W7'.g.trans h0)) .n)) (by simp)) W8.s (Same.refl _) fun v4 G9 H9 W9 t9 => ?_
    refine put2 .lefts .none .none .rights _ _ G7 H8 v4 G9 H9 _ rfl sm8 W8 W9 t9 (by decide) (by decide) (by decide) fun Ha sma Wa => ?_
    -- heads, tails
    have g9 : G9 c2 = some (.lst (wds5.map vW)) := W9.g _ _ (W7'.g _ _ (g25 _ _ g2))
    have lo5 : ∀ w ∈ wds5, w.length ≤ 20 ∧ Lo w := fun w hw => wds7_ok w (List.mem_append_left _ hw)
    refine ⟨_, rfl, szL (Nat.le_add_left 1 99999), fun c3 hc3 => ?_⟩
    obtain ⟨Gb, Wb, sb, gb⟩ := (Gx.refl (T := T) (E := []) Wa.s).al hc3 (.lst [.int 0])
    refine ⟨Gb, c2, c3, wds5, [0], rfl, Wb.s, sb.g _ _ g9, gb, by decide, by decide, lo5, fun i j hi hj => heads_clo i hi j hj, fun vh Gc Hc Wc th => ?_⟩
    refine ⟨_, rfl, szL (Nat.le_add_left 1 99999), fun c4 hc4 => ?_⟩
    obtain ⟨Gd, Wd, sd, gd⟩ := (Wb.trans Wc).al hc4 (.lst [.int 1])
    refine ⟨Gd, c2, c4, wds5, [1], rfl, Wd.s, sd.g _ _ (Wc.g _ _ (sb.g _ _ g9)), gd, by decide, by decide, lo5, fun i j hi hj => tails_clo i hi j hj, fun vt Ge He We te => ?_⟩
    refine ⟨szL (Nat.le_add_left 2 99998), fun c5 hc5 => ?_⟩
    obtain ⟨Gf, Wf, sf, gf⟩ := (Wd.trans We).al hc5 (.tup [vh, vt])
    refine put2 .heads .none .none .tails _ _ G9 Ha (.ref c5) Gf _ _ rfl sma Wa Wf (.tup gf (.cons (((th.mono sd.g).mono We.g).mono sf.g) (.cons (te.mono sf.g) .nil))) (by decide) (by decide) (by decide) fun H10 sm10 W10 => ?_
    have sG : Same G1 Gf := ((((s2.g.trans g25).trans W7'.g).trans W9.g).trans Wf.g)
    have tvf := tv1.mono sG
    have tuf := tu1.mono sG
    have gPf := tab_gone W10 gP hT hm
    have tT10 := W10.t hT
    have nsm := nms_sm hk
    clear put2 two th te gf gd gb g9 g2 g0
    -- the names
    intro dp hdp
    dsimp only [tPairs]
    have Wg := W10.snocM hdp (.dK [])
    have gdp := W10.s.free hdp
    have hdp0 := W10.u _ hdp
    have smg := sm10.step (Gx.newM (T := T) (E := []) W10.s hdp (.dK []))
    have hdpg : upd H10 dp (.dK []) dp = some (.dK []) := upd_same
    generalize upd H10 dp (.dK []) = Hg at Wg smg hdpg
    have tx2 : ∀ (a b : Str) (σ : L2.St), Mk T Gf σ (tLst (tCons (tC (.str a)) (tCons (tC (.str b)) tNil))) (.list [.str a, .str b]) := fun a b σ => Mk.l (.c .s (.c .s .n)) (by simp)
    refine tx2 "heads" "tails" _ Gf Hg Wg.s (Same.refl _) _ fun vm Gi Hi Wi ti => ?_
    refine tx2 "lefts" "rights" _ Gi Hi Wi.s Wi.g _ fun vo Gj Hj Wj tj => ?_
    have Wij := Wi.trans Wj
    obtain ⟨gdpj, hdpj⟩ := Wij.keepM (by simp) gdp hdpg (fun _ z => by cases z)
    refine ⟨hdpj, [(.inr "middles", vm), (.inr "outer", vo)], rfl, (by show 2 ≤ 15; decide), ?_⟩
    have em : mergeK [] [((Sum.inr "middles" : Key), vm), (.inr "outer", vo)] = smL (fun j => if j = .middles then vm else vo) [.middles, .outer] := by
      show mergeK [] [((Sum.inr Kd.middles.nm : Key), vm), (.inr Kd.outer.nm, vo)] = _
      simp only [mergeK, List.foldl_cons, List.foldl_nil, putK, List.any_nil, List.any_cons, inr_nm, List.nil_append, List.cons_append]
      rfl
    rw [em]
    have Wk := (Wg.trans Wij).write (o' := .dK (smL (fun j => if j = .middles then vm else vo) [.middles, .outer])) (.inl hdp0) gdpj hdpj True.intro
    have smk : Sm Gj (upd Hj dp (.dK (smL (fun j => if j = .middles then vm else vo) [.middles, .outer]))) D smKs := by
      obtain ⟨f1, e1, g1', h1'⟩ := smg.step Wij
      refine ⟨f1, ?_, g1', h1'⟩
      rw [upd_ne fun z => ?_]
      · exact e1
      · rw [z, hdpj] at e1
        cases e1
    have hdk : upd Hj dp (.dK (smL (fun j => if j = .middles then vm else vo) [.middles, .outer])) dp = some (.dK (smL (fun j => if j = .middles then vm else vo) [.middles, .outer])) := upd_same
    generalize upd Hj dp (.dK (smL (fun j => if j = .middles then vm else vo) [.middles, .outer])) = Hk at Wk smk hdk
    refine ⟨dp, rfl, .inl ⟨_, .inl hdk⟩, _, rfl, _, rfl, szL (Nat.le_add_left 1 99999), fun c6 hc6 => ?_⟩
    obtain ⟨Gl, Wl, sl, gl⟩ := Wk.al hc6 (.lst [.str k.nm])
    have hdl := (same_new hc6 (.lst [V.str k.nm])) _ _ hdk
    have sml := smk.step sl
    have tTl := Wl.t hT
    have gPl := tab_gone Wl gP hT hm
    have tvl := tvf.mono (Wij.g.trans sl.g)
    have tul := tuf.mono (Wij.g.trans sl.g)
    refine ⟨_, DGet.k (k := .inr k.nm) hdl, ?_⟩
    obtain ⟨na, hna, gna⟩ : ∃ na : Addr, (valV (smL (fun j => if j = .middles then vm else vo) [.middles, .outer]) (.inr k.nm)).getD (.ref c6) = .ref na ∧ Gl na = some (.lst ((nms k).map fun j => V.str j.nm)) := by
      by_cases h1 : k = .middles
      · rw [smL_get _ k _ (by rw [h1]; decide), if_pos h1]
        obtain ⟨a, xs, rfl, ha, tx⟩ := ti.list_inv
        refine ⟨a, rfl, sl.g _ _ (Wj.g _ _ ?_)⟩
        rw [ha, h1]
        have : xs = [Str.ofString "heads", Str.ofString "tails"].map V.str := TdAll.strs_inv (ns := [Str.ofString "heads", Str.ofString "tails"]) tx
        rw [this]
        rfl
      · by_cases h2 : k = .outer
        · rw [smL_get _ k _ (by rw [h2]; decide), if_neg h1]
          obtain ⟨a, xs, rfl, ha, tx⟩ := tj.list_inv
          refine ⟨a, rfl, sl.g _ _ ?_⟩
          rw [ha, h2]
          have : xs = [Str.ofString "lefts", Str.ofString "rights"].map V.str := TdAll.strs_inv (ns := [Str.ofString "lefts", Str.ofString "rights"]) tx
          rw [this]
          rfl
        · rw [smL_no _ k _ (by simp [h1, h2])]
          refine ⟨c6, rfl, ?_⟩
          rw [gl]
          cases k <;> first | rfl | exact absurd rfl h1 | exact absurd rfl h2
    rw [hna]
    generalize upd Hk c6 (.lst [.str k.nm]) = Hl at Wl sml tTl
    clear sl gl hdl hna
    refine ⟨na, rfl, ⟨_, SqL.of (Wl.s _ _ gna)⟩, ?_⟩
    refine for_list (K := K) (D := { nx := tRet (tC (.bl false)) { nx := fun _ H' => Q .non H', rt := Q }, rt := Q }) (xs := (nms k).map fun j => V.str j.nm) (fun i σ' H' => ∃ (o5 o6 o7 o8 o9 o10 o11 : Option V) (G' : Hp), σ' = [some (.str k.nm), some v, some u, some (.ref c2), some (.ref D), o5, o6, o7, o8, o9, o10, o11] ∧ Gx T [] Gl Hl G' H' ∧ ∀ m j, m < i → (nms k)[m]? = some j → ∀ vals ∈ valsN (spn j) (t.lets ++ s.lets) 4, ev (smOp j) vals t = ev (smOp j) vals s)
      ⟨_, _, _, _, _, _, _, Gl, rfl, Gx.refl Wl.s, fun _ _ h => absurd h (Nat.not_lt_zero _)⟩ (fun i σ' H' _ ⟨_, _, _, _, _, _, _, G', _, W, _⟩ => SqL.of (W.s _ _ (W.g _ _ gna))) ?_ ?_
    · rintro i x σ' H11 hx ⟨o5, o6, o7, o8, o9, o10, o11, G11, rfl, W11, dn⟩
      rw [List.getElem?_map] at hx
      obtain ⟨j, hj, rfl⟩ := Option.map_eq_some_iff.mp hx
      obtain ⟨jsm, jb⟩ := nsm j (List.mem_of_getElem? hj)
      have sm11 := sml.step W11
      obtain ⟨vr, dg, tr⟩ := sm11.get jsm
      obtain ⟨r, xs, rfl, hr0, lx, _⟩ := rows_row tr
      have tv11 := tvl.mono W11.g
      have tu11 := tul.mono W11.g
      have W1l := Wl.trans W11
      have hsp : 1 ≤ spn j ∧ spn j ≤ 8 ∧ spn j ≤ smN j := by cases j <;> decide
      -- span
      refine ⟨.int (spn j : Nat), ⟨_, rfl, rfl, _, rfl, ?_⟩, ?_⟩
      · have ek : decide (V.str k.nm = V.str (Str.ofString "bags")) = decide (k = .bags) := kd_dec k .bags
        rw [ek]
        refine ite2 (fun c => ?_) (fun c => ?_)
        · rw [jb.mpr (of_decide_eq_true c)]
          exact ⟨rfl, rfl⟩
        · have nj : j ≠ .bags := fun z => c (decide_eq_true (jb.mp z))
          have e : spn j = smN j := by cases j <;> first | rfl | exact absurd rfl nj
          rw [e, ← lx]
          exact ⟨_, rfl, _, rfl, D, _, rfl, dg, r, _, rfl, .inl (SqL.of (W11.s _ _ hr0)), rfl, rfl⟩
      -- the values
      refine ⟨_, rfl, _, rfl, _, rfl, G11, spn j, v, u, t, s, rfl, W11.s, hsp.1, hsp.2.1, tv11, tu11, by have := gt.2; have := gs.2; omega, fun x G12 H12 W12 t12 => ?_⟩
      obtain ⟨va, vs, rfl, gva, tvs⟩ := t12.list_inv
      have lvs : vs.length = (valsN (spn j) (t.lets ++ s.lets) 4).length := by rw [tvs.length, List.length_map]
      have lvals : (valsN (spn j) (t.lets ++ s.lets) 4).length ≤ 4096 := valsN_len hsp.1 hsp.2.1 4
      have tT12 := (Wl.trans (W11.trans W12)).t hT
      have gP12 := tab_gone (Wl.trans (W11.trans W12)) gP hT hm
      have sm12 := sm11.step W12
      have tr12 := tr.mono W12.g
      have tv12 := tv11.mono W12.g
      have tu12 := tu11.mono W12.g
      obtain ⟨p, hp⟩ : ∃ p : List Nat → Bool, p = fun vals => decide (ev (smOp j) vals t ≠ ev (smOp j) vals s) := ⟨_, rfl⟩
      refine ⟨va, rfl, ⟨_, SqL.of (W12.s _ _ gva)⟩, fun Dc hDc => ?_⟩
      have gDc : G12 Dc = none := W12.s.free hDc
      refine lc_it (walk_list (K := K) (a := va) (xs := vs)) (fun i H' => ∃ acc, Gx T [] G12 H12 G12 H' ∧ H' Dc = some (.lst acc) ∧ TdAll G12 acc ((((valsN (spn j) (t.lets ++ s.lets) 4).take i).filter p).map dV)) ⟨[], Gx.newM W12.s hDc _, upd_same, .nil⟩ (fun i H' _ ⟨acc, W, _⟩ => SqL.of (W.s _ _ gva)) (fun i x H13 H13' hi ⟨acc, W13, e13, tacc⟩ ⟨eH, hx⟩ => ?_) (fun H13 ⟨acc, W13, e13, tacc⟩ => ?_)
      · subst eH
        obtain ⟨z, hz, tz⟩ := tvs.get hx
        rw [List.getElem?_map] at hz
        obtain ⟨vals, hvals, rfl⟩ := Option.map_eq_some_iff.mp hz
        obtain ⟨b, rfl, gb⟩ := dV_inv tz
        obtain ⟨lv4, lvlt⟩ := valsN_mem hsp.1 (List.mem_of_getElem? hvals)
        have sm13 := sm12.step W13
        obtain ⟨vr2, dg2, tr2⟩ := sm13.get jsm
        have lacc : acc.length ≤ 4096 := by
          rw [tacc.length, List.length_map]
          refine Nat.le_trans (List.length_filter_le _ _) ?_
          rw [List.length_take]
          omega
        refine ⟨rfl, _, rfl, _, rfl, D, vr2, rfl, dg2, _, rfl, _, rfl, _, rfl, G12, vr2, v, u, b, t, s, smN j, smOp j, vals, rfl, W13.s, gP12, W13.t tT12, tr2, fun a b ha hb => smOp_lt j jsm a ha b hb, gb, lv4, fun z hz => Nat.lt_of_lt_of_le (lvlt z hz) hsp.2.2, tv12, by omega, gt.1, tu12, by omega, gs.1, fun H14 W14 => ⟨_, rfl, ?_⟩⟩
        have W1314 : Gx T [] G12 H12 G12 H14 := W13.trans W14
        obtain ⟨_, e14⟩ := W14.keepM (by simp) gDc e13 (fun _ z => by cases z)
        have fs := filter_step p _ i vals hvals
        have hpv : p vals = decide (ev (smOp j) vals t ≠ ev (smOp j) vals s) := by rw [hp]
        refine ite2 (fun c => ?_) (fun c => ?_)
        · rw [if_pos (hpv.trans c)] at fs
          refine ⟨_, rfl, acc, e14, szLt (by omega), acc ++ [.ref b], W1314.write (.inl hDc) gDc e14 True.intro, upd_same, ?_⟩
          rw [fs, List.map_append]
          exact tacc.app (.cons tz .nil)
        · rw [if_neg (by rw [hpv]; exact c)] at fs
          exact ⟨acc, W1314, e14, by rw [fs]; exact tacc⟩
      · rw [lvs, List.take_length] at tacc
        have W14 := Gx.freeze W13.s W13 hDc e13
        have t14 : Td (upd G12 Dc (.lst acc)) (.ref Dc) (.list (((valsN (spn j) (t.lets ++ s.lets) 4).filter p).map dV)) := .lst upd_same (tacc.mono (same_new gDc _))
        generalize upd G12 Dc (.lst acc) = G14 at W14 t14
        refine ⟨Nat.zero_le _, fun e he => rd_neNil upd_same ((t14.mono W14.s).mono (same_new he _)) (dVs_shaped _) ⟨_, rfl, ?_⟩⟩
        have W15 := ((W11.trans W12).trans W14).snocM he (.lst [])
        refine ite2 (fun c => ?_) (fun c => ?_)
        · exact q _ _ (Wl.trans W15)
        · refine ⟨_, _, _, _, _, _, _, _, rfl, W15, fun m j' hm' hj' vals hv => ?_⟩
          by_cases hmi : m = i
          · subst hmi
            rw [hj] at hj'
            cases hj'
            have hnil : ((valsN (spn j) (t.lets ++ s.lets) 4).filter p) = [] := by
              cases hf : ((valsN (spn j) (t.lets ++ s.lets) 4).filter p) with
              | nil => rfl
              | cons _ _ => rw [hf] at c; exact absurd rfl c
            have := List.filter_eq_nil_iff.mp hnil vals hv
            rw [hp] at this
            exact Classical.byContradiction fun z => this (decide_eq_true z)
          · exact dn m j' (by omega) hj' vals hv
    · rintro σ' H11 ⟨o5, o6, o7, o8, o9, o10, o11, G11, rfl, W11, dn⟩
      exfalso
      obtain ⟨j, hj, vals, hv, ne⟩ := mS k t s gt gs hk hag
      obtain ⟨m, hm1, hm2⟩ := List.getElem_of_mem hj
      exact ne (dn m j (by rw [List.length_map]; exact hm1) (by rw [List.getElem?_eq_getElem hm1, hm2]) vals hv)
end
end W7
set_option maxRecDepth 100000
set_option maxHeartbeats 4000000
/-! WS: law -/
namespace W7
open PySem PySem.Spec PyProof.Rows L2 LamX NdefX
/-- two trees that agree have one value under every operation of the kind (proved in WR) -/
def SoundA : Prop := ∀ (k : Kd) (n : Nat) (op : Nat → Nat → Nat) (od : List Nat) (M : Nat → Nat → Nat) (t s : Tr), RowsOf k n op → (∀ a b, a < n → b < n → op a b < n) → od.Perm (List.range n) → (∀ a b, a < n → b < n → M (od.getD a 0) (od.getD b 0) = od.getD (op a b) 0) → Gd t → Gd s → agr k t s = true →
  ∀ vals : List Nat, vals.length = 4 → (∀ z ∈ vals, z < n) → ev M vals t = ev M vals s
theorem valsN_ne {size : Nat} {used : List Int} (h : 1 ≤ size) : ∀ k, valsN size used k ≠ []
  | 0 => by simp [valsN]
  | k + 1 => fun e => by
    have ih := valsN_ne (used := used) h k
    obtain ⟨x, hx⟩ := List.exists_mem_of_ne_nil _ ih
    have h1 : 1 ≤ rad size used k := by unfold rad; split <;> omega
    have : x ++ [0] ∈ valsN size used (k + 1) := List.mem_flatMap.mpr ⟨x, hx, List.mem_map.mpr ⟨0, List.mem_range.mpr h1, rfl⟩⟩
    rw [e] at this
    simp at this
theorem conj_lt {n : Nat} {op M : Nat → Nat → Nat} {od : List Nat} (clo : ∀ a b, a < n → b < n → op a b < n) (hod : od.Perm (List.range n)) (conj : ∀ a b, a < n → b < n → M (od.getD a 0) (od.getD b 0) = od.getD (op a b) 0) : ∀ a b, a < n → b < n → M a b < n := by
  have onto : ∀ a, a < n → ∃ a', a' < n ∧ od.getD a' 0 = a := fun a ha => by
    have hm : a ∈ od := hod.mem_iff.mpr (List.mem_range.mpr ha)
    obtain ⟨i, hi, e⟩ := List.getElem_of_mem hm
    have hl : od.length = n := by rw [hod.length_eq, List.length_range]
    refine ⟨i, by omega, ?_⟩
    rw [List.getD_eq_getElem?_getD, List.getElem?_eq_getElem hi]
    exact e
  intro a b ha hb
  obtain ⟨a', ha', rfl⟩ := onto a ha
  obtain ⟨b', hb', rfl⟩ := onto b hb
  rw [conj a' b' ha' hb']
  exact (od_lt hod (clo a' b' ha' hb')).1
abbrev sLaw : Stmt := top 39
theorem sc_law : FnScope ["_law_script", "_law_pen_here", "_law_turn", "_law_row", "_law_one", "_law_more", "_law_two", "_law_kind", "_law_rules", "_law_rows", "_law_values", "_law_k", "_law_some", "_law_j"] ["_law_script"] (defScope sLaw) := ⟨rfl, rfl, rfl, by decide +kernel, rfl, by decide +kernel, by decide +kernel⟩
def spLaw (T : List NTab) (K : PySem.W.Frag) (Pt : Addr) : Sq := fun vs H Q => ∃ (G : Hp) (a : Addr) (ns : List Int), vs = [.ref a] ∧ Same G H ∧ G Pt = none ∧ TabsN T H ∧ SqL K H a (ns.map V.int) ∧ ∀ H', Q (.bl true) H'
section
variable {P : Program} {w : World} {K : PySem.W.Frag} {mg : Str → Option Value} {base : Heap} {f : Addr} {fd : FuncData} {T : List NTab}
theorem sqL_gx {E : List Addr} {G H G' H' : Hp} {a : Addr} {xs : List V} (h : SqL K H a xs) (W : Gx T E G H G' H') (n : a ∉ E) : SqL K H' a xs := by
  rcases h with (h | ⟨o, h⟩) | h
  · exact .inl (.inl (W.h _ _ n h fun _ z => by cases z))
  · exact .inl (.inr ⟨o, W.h _ _ n h fun _ z => by cases z⟩)
  · exact .inr h
def okR (xs : List Int) : Prop := ∀ x ∈ xs, 0 ≤ x ∧ x < 4
theorem ok_law {Pt : Addr} (mA : SoundA) (hm : ((Pt, fun _ _ => qLam) : NTab) ∈ T) (B : Bn mg) (D : Dn K mg "law" sLaw ["_law_script"] f fd) (h_pen : Has P w K mg base 1 "_law_pen" ["_law_script"] (spPen T K)) (h_draw : Has P w K mg base 1 "_law_draw" ["_law_pen_here", "_law_span"] (spDraw T)) (h_pick : Has P w K mg base 2 "_law_pick" ["_law_pen_here", "_law_options"] (spPick T))
    (h_bracketed : Has P w K mg base 2 "_law_bracketed" ["_law_pen_here", "_law_words"] (spBrac T)) (h_shuffled : Has P w K mg base 2 "_law_shuffled" ["_law_pen_here", "_law_items"] (spShuf T)) (h_sides_turned : Has P w K mg base 9 "_law_sides_turned" ["_law_pen_here", "_law_part"] (spSides T 8)) (h_thirteen : Has P w K mg base 2 "_law_thirteen" [] (spThirteen T))
    (h_do_agree : Has P w K mg base 11 "do_agree" ["one", "two", "kind"] (spAgree T)) (h_told_apart : Has P w K mg base 11 "_law_told_apart" ["_law_kind", "_law_one", "_law_two"] (spTold T Pt)) (h_kind_rows : Has P w K mg base 4 "_law_kind_rows" ["_law_pen_here", "_law_kind"] (spKindRows T)) (h_values_all : Has P w K mg base 2 "_law_values_all" ["_law_size", "_law_one", "_law_two"] (spVals T))
    (h_differ : Has P w K mg base 10 "_law_differ" ["_law_rows", "_law_values", "_law_one", "_law_two"] (spDiffer T Pt)) : Fn P w K mg base 12 f fd ["_law_script"] (spLaw T K Pt) := by
  refine D.ok sc_law (fun vs H Q h => ?_) (fun cdv A outer s H vs Q hg hr _ _ h => ?_)
  · obtain ⟨G, a, ns, rfl, _⟩ := h
    rfl
  obtain ⟨G, a, ns, rfl, hS, gP, hT, sq, q⟩ := h
  refine ⟨_,
    (pss_cons (ps_set (i := 1) sc_law.nd rfl (Or.inr rfl) (pe_h h_pen hg hr (pa_cons (pv 0) pa_nil)))
    (pss_cons (ps_for PassesOwn.never rfl (pi_range1 (by rfl) B.range (pa_cons (pe_op op_add pe_int (pe_callB (call_min2 rfl) (by rfl) B.min b_min (pa_cons pe_int (pa_cons (pe_callB call_len_seq (by rfl) B.len b_len (pa_cons (pv 0) pa_nil)) pa_nil)))) pa_nil)) (pg_name (i := 2) sc_law.nd rfl (Or.inl rfl))
      (pss_cons (ps_setLc (i := 3) (own := [("_law_k", 11)]) rfl sc_law.nd rfl rfl (sw_true rfl rfl rfl (by decide +kernel)) (pi_range1 (by rfl) B.range (pa_cons (pe_op op_add pe_int (pe_h h_draw hg hr (pa_cons (pv 1) (pa_cons pe_int pa_nil)))) pa_nil)) (blkOk_by (by kernel_rfl)) (fun _ _ _ _ _ => (pg_name (i := 11) sc_law.nd rfl (Or.inl rfl))) (fun _ _ _ _ _ => pts_nil) (fun _ _ _ _ _ => (pe_h h_draw hg hr (pa_cons (pv 1) (pa_cons (pe_h h_pick hg hr (pa_cons (pv 1) (pa_cons (pe_lst (pa_cons pe_int (pa_cons pe_int (pa_cons pe_int pa_nil)))) pa_nil))) pa_nil)))))
      (pss_cons (ps_asg (pe_tup (pa_cons (pe_h h_bracketed hg hr (pa_cons (pv 1) (pa_cons (pv 3) pa_nil))) (pa_cons (pe_h h_shuffled hg hr (pa_cons (pv 1) (pa_cons (pe_op op_cat (pv 3) (pe_op op_rep (pe_lst (pa_cons (pe_h h_draw hg hr (pa_cons (pv 1) (pa_cons pe_int pa_nil))) pa_nil)) (pe_h h_draw hg hr (pa_cons (pv 1) (pa_cons pe_int pa_nil))))) pa_nil))) pa_nil))) (pg_tup (by rfl) (pgs_cons (pg_name (i := 4) sc_law.nd rfl (Or.inr rfl)) (pgs_cons (pg_name (i := 5) sc_law.nd rfl (Or.inl rfl)) pgs_nil))))
      (pss_cons (ps_set (i := 6) sc_law.nd rfl (Or.inr rfl) (pe_h h_pick hg hr (pa_cons (pv 1) (pa_cons (pe_lst (pa_cons (pe_h h_sides_turned hg hr (pa_cons (pv 1) (pa_cons (pv 4) pa_nil))) (pa_cons (pe_h h_bracketed hg hr (pa_cons (pv 1) (pa_cons (pv 3) pa_nil))) (pa_cons (pe_h h_bracketed hg hr (pa_cons (pv 1) (pa_cons (pv 5) pa_nil))) pa_nil)))) pa_nil))))
      (pss_one (ps_for PassesOwn.never rfl (pi_list (pe_h0 h_thirteen hg hr)) (pg_tup (by rfl) (pgs_cons (pg_name (i := 7) sc_law.nd rfl (Or.inl rfl)) (pgs_cons (pg_name (i := 8) sc_law.nd rfl (Or.inl rfl)) pgs_nil)))
        (pss_cons (ps_if (pt_not (pt_val (pe_h h_do_agree hg hr (pa_cons (pv 4) (pa_cons (pv 6) (pa_cons (pv 7) pa_nil)))))) (pss_cons (ps_if (pt_not (pt_val (pe_h h_told_apart hg hr (pa_cons (pv 7) (pa_cons (pv 4) (pa_cons (pv 6) pa_nil)))))) (pss_one (ps_ret pe_bl))
            pss_nil)
          (pss_one ps_continue))
          pss_nil)
        (pss_cons (ps_set (i := 9) sc_law.nd rfl (Or.inr rfl) (pe_h h_kind_rows hg hr (pa_cons (pv 1) (pa_cons (pv 7) pa_nil))))
        (pss_cons (ps_set (i := 10) sc_law.nd rfl (Or.inl rfl) (pe_cutE (pe_ifExp (pt_cmpR op_lt (pe_callB call_len_seq (by rfl) B.len b_len (pa_cons (pv 9) pa_nil)) pe_int (nomark _)) (pe_h h_values_all hg hr (pa_cons (pe_callB call_len_seq (by rfl) B.len b_len (pa_cons (pv 9) pa_nil)) (pa_cons (pv 4) (pa_cons (pv 6) pa_nil)))) (pe_lst pa_nil))))
        (C8.pss_cut (ps_for PassesOwn.never rfl (pi_range1 (by rfl) B.range (pa_cons (pe_op op_mul pe_int (pe_callTy call_intB (by rfl) B.int b_int (pa_cons (pe_cmpR (op_eqD hr.units) (pv 10) (pe_lst pa_nil) (nomark _)) pa_nil))) pa_nil)) (pg_name (i := 11) sc_law.nd rfl (Or.inl rfl))
          (pss_one (ps_expr (pe_bm PySem.F.plainAttrs_list PySem.F.slot_list_append PySem.F.type_list_append mt_append (pv 10) (pa_cons (pe_lc (own := [("_law_j", 13)]) rfl sc_law.nd (pi_range1 (by rfl) B.range (pa_cons pe_int pa_nil)) (blkOk_by (by kernel_rfl)) (fun _ _ _ _ _ => (pg_name (i := 13) sc_law.nd rfl (Or.inl rfl))) (fun _ _ _ _ _ => pts_nil) (fun _ _ _ _ _ => (pe_h h_draw hg hr (pa_cons (pv 1) (pa_cons (pe_callB (call_len_seq' (K := K)) (by rfl) B.len b_len (pa_cons (pv 9) pa_nil)) pa_nil))))) pa_nil)))))
        (pss_one (ps_if (pt_cmpR (op_neD hr.units) (pe_lc (own := [("_law_some", 12)]) rfl sc_law.nd (pi_list (pv 10)) (blkOk_by (by kernel_rfl)) (fun _ _ _ _ _ => (pg_name (i := 12) sc_law.nd rfl (Or.inl rfl))) (fun _ _ _ _ _ => (pts_one (pt_val (pe_h h_differ hg hr (pa_cons (pv 9) (pa_cons (pv 12) (pa_cons (pv 4) (pa_cons (pv 6) pa_nil)))))))) (fun _ _ _ _ _ => (pv 12))) (pe_lst pa_nil) (nomark _)) (pss_one (ps_ret pe_bl))
          pss_nil))))))))))))
    (pss_one (ps_ret pe_bl)))), ?_⟩
  refine ⟨_, rfl, G, a, ns, rfl, hS, sq, fun p G1 H1 W1 hp pen1 => ?_⟩
  have sq1 := sqL_gx sq W1 (by simp)
  have S1 := W1.s
  have gP1 := tab_gone W1 gP hT hm
  have hT1 := W1.t hT
  clear W1 sq hT gP hS hp
  refine ⟨_, rfl, a, _, rfl, .inl sq1, _, _, rfl, _, _, rfl, rfl, _, rfl, by split <;> omega, by split <;> omega, ?_⟩
  obtain ⟨N, hN, eN⟩ : ∃ N : Nat, N ≤ 4 ∧ ((2 : Int) + (if (((ns.map V.int).length : Nat) : Int) < 2 then (((ns.map V.int).length : Nat) : Int) else 2)).toNat = N := ⟨_, by split <;> omega, rfl⟩
  dsimp only
  rw [eN]
  refine for_it (D := { nx := tRet (tC (.bl true)) { nx := fun _ H' => Q .non H', rt := Q }, rt := Q }) walk_range (fun i σ' H' => ∃ (o2 o3 o4 o5 o6 o7 o8 o9 o10 o11 o12 o13 : Option V) (G' : Hp), σ' = [some (.ref a), some (.ref p), o2, o3, o4, o5, o6, o7, o8, o9, o10, o11, o12, o13] ∧ Gx T [p] G1 H1 G' H' ∧ Pen G' H' p (4000 * i))
    ⟨_, _, _, _, _, _, _, _, _, _, _, _, G1, rfl, Gx.refl S1, pen1⟩ (fun _ _ _ _ _ => True.intro) ?_ ?_
  · rintro i xt σ' H2 H2' hi ⟨o2, o3, o4, o5, o6, o7, o8, o9, o10, o11, o12, o13, G2, rfl, W2, pen2⟩ ⟨rfl, hx⟩
    have hi4 : i < 4 := by omega
    clear hx
    -- the row
    refine ⟨_, rfl, G2, p, _, 6, rfl, W2.s, pen2, by omega, by decide, by decide, fun m H3 hm6 W3 pen3 => ⟨_, _, rfl, rfl, _, rfl, by omega, by omega, ?_⟩⟩
    rw [show ((1 : Int) + (m : Nat)).toNat = m + 1 by omega]
    refine lcX (T := T) (E := [p]) walk_range (fun _ _ => True) (fun _ d => ∃ x : Int, (0 ≤ x ∧ x < 4) ∧ d = .int x) (4000 * i + 1) 2 W3.s (by omega) (fun i H x H' y => ⟨y.1, True.intro⟩) (fun _ _ _ => True.intro) (Pens.one pen3)
      (fun b y Gb Hb hb hy Wb pb Q2 q2 => ?_) (fun R ds G4 H4 W4 p4 t4 lds hds => ?_)
    · refine ⟨rfl, _, rfl, _, rfl, szL (Nat.le_add_left 3 99997), fun c hc => ?_⟩
      obtain ⟨Gc, Wc, sc, gc⟩ := (Gx.refl (T := T) (E := [p]) Wb.s).al hc (.lst [.int 2, .int 3, .int 4])
      have pc := pb.get.keep sc (by simp)
      refine ⟨Gc, p, _, Wc.s, pc, by omega, .inl ⟨c, _, rfl, gc, by decide, by decide, fun j x Hd hx Wd pd => ?_⟩⟩
      obtain ⟨sp, hsp, rfl⟩ : ∃ sp : Nat, (sp = 2 ∨ sp = 3 ∨ sp = 4) ∧ x = V.int (sp : Nat) := by
        match j, hx with
        | 0, hx => cases hx; exact ⟨2, .inl rfl, rfl⟩
        | 1, hx => cases hx; exact ⟨3, .inr (.inl rfl), rfl⟩
        | 2, hx => cases hx; exact ⟨4, .inr (.inr rfl), rfl⟩
        | j + 3, hx => simp at hx
      refine ⟨Gc, p, _, sp, rfl, Wd.s, pd, by omega, by omega, by omega, fun y He hy We pe => q2 _ _ Gc He ((Wc.trans Wd).trans We) (Pens.one (pe.more (by omega))) (.int _) ⟨(y : Nat), by omega, rfl⟩⟩
    obtain ⟨ns1, hl1, hns1, rfl⟩ := any_of hds
    rw [List.length_map] at lds
    obtain ⟨R', xsr, eR, hR, txr⟩ := t4.list_inv
    cases eR
    rw [txr.ints_inv] at hR
    have pen4 : Pen G4 H4 p (4000 * i + 13) := p4.get.more (by omega)
    have W24 := (W2.trans W3).trans W4
    clear hds t4 p4 txr W2 W3 W4 pen2 pen3
    -- one, more
    refine ⟨_, rfl, _, rfl, G4, p, R, _, ns1, rfl, W24.s, pen4, by omega, hR, by omega, by omega, fun v1 t1 G5 H5 el W5 pen5 tt1 => ?_⟩
    refine ⟨_, rfl, _, rfl, _, rfl, G5, p, _, 4, rfl, W5.s, pen5, by omega, by decide, by decide, fun x H6 hx4 W6 pen6 => ⟨szL (Nat.le_add_left 1 99999), fun c hc => ?_⟩⟩
    obtain ⟨G7, W7', s7, g7⟩ := W6.al hc (.lst [.int (x : Nat)])
    have pen7 := pen6.keep s7 (by simp)
    refine ⟨_, rfl, G7, p, _, 2, rfl, W7'.s, pen7, by omega, by decide, by decide, fun b H8 hb2 W8 pen8 => ⟨c, _, _, rfl, rfl, W8.s _ _ g7, by omega, by omega, szL (by rw [Int.toNat_natCast]; show 1 * b ≤ _; omega), fun d hd => ?_⟩⟩
    rw [Int.toNat_natCast, flat_rep]
    obtain ⟨G9, W9, s9, g9⟩ := W8.al hd (.lst (List.replicate b (.int (x : Nat))))
    have pen9 := pen8.keep s9 (by simp)
    refine ⟨R, d, _, _, rfl, rfl, W9.s _ _ (s9.g _ _ (W7'.g _ _ (W5.g _ _ hR))), W9.s _ _ g9, szL (by rw [List.length_map, List.length_replicate]; omega), fun e he => ?_⟩
    rw [show ns1.map V.int ++ List.replicate b (V.int (x : Nat)) = (ns1 ++ List.replicate b ((x : Nat) : Int)).map V.int by rw [List.map_append, List.map_replicate]]
    have lm : (ns1 ++ List.replicate b ((x : Nat) : Int)).length ≤ 7 := by rw [List.length_append, List.length_replicate]; omega
    have lm1 : 1 ≤ (ns1 ++ List.replicate b ((x : Nat) : Int)).length := by rw [List.length_append]; omega
    have okm : okR (ns1 ++ List.replicate b ((x : Nat) : Int)) := fun z hz => by
      rcases List.mem_append.mp hz with h | h
      · exact hns1 z h
      · rw [List.eq_of_mem_replicate h]; omega
    generalize ns1 ++ List.replicate b ((x : Nat) : Int) = ns2 at lm lm1 okm ⊢
    obtain ⟨Ga, Wa, sa, ga⟩ := W9.al he (.lst (ns2.map V.int))
    have pena := pen9.keep sa (by simp)
    refine ⟨Ga, p, e, _, ns2, rfl, Wa.s, pena, by omega, ga, by omega, fun L ms Gb Hb pm Wb penb gL => ⟨szL (Nat.le_add_left 2 99998), fun tt htt => ⟨tt, _, rfl, SqT.of upd_same, rfl, _, _, rfl, _, _, rfl, rfl, ?_⟩⟩⟩
    have W4b : Gx T [p] G4 H4 Gb (upd Hb tt (.tup [v1, .ref L])) := (W5.trans ((W7'.trans Wa).trans Wb)).snocM htt _
    have Wc : Gx T [p] G1 H1 Gb (upd Hb tt (.tup [v1, .ref L])) := W24.trans W4b
    have penc : Pen Gb (upd Hb tt (.tup [v1, .ref L])) p (4000 * i + 40) := (penb.keep (Gx.newM (T := T) (E := []) Wb.s htt (.tup [v1, .ref L])) (by simp)).more (by omega)
    have tt1b : Td Gb v1 t1.d := tt1.mono ((W7'.trans Wa).trans Wb).g
    have hRb := W4b.g _ _ hR
    have lms : ms.length ≤ 7 ∧ 1 ≤ ms.length := by rw [pm.length_eq]; exact ⟨lm, lm1⟩
    have okms : okR ms := fun z hz => okm z (pm.mem_iff.mp hz)
    have gd1 : Gd t1 := ⟨fun z hz => hns1 z (by rw [← el]; exact hz), by rw [el]; omega⟩
    have wt1 := wt_eq t1
    rw [el] at wt1
    generalize upd Hb tt (.tup [v1, .ref L]) = Hc at Wc penc
    clear W4b W5 W6 W7' W8 W9 Wa Wb pen4 pen5 pen6 pen7 pen8 pen9 pena penb s7 s9 sa W24 tt1 hR g7 g9 ga
    -- two
    refine ⟨_, rfl, _, rfl, _, rfl, Gb, p, _, v1, t1, rfl, Wc.s, penc, by omega, tt1b, by have := gd1.ht; omega, fun u1 s1 Gd1 Hd1 pm1 Wd1 pd1 tu1 => ?_⟩
    refine ⟨_, rfl, _, rfl, Gd1, p, R, _, ns1, rfl, Wd1.s, pd1, by omega, Wd1.g _ _ hRb, by omega, by omega, fun u2 s2 Gd2 Hd2 el2 Wd2 pd2 tu2 => ?_⟩
    refine ⟨_, rfl, _, rfl, Gd2, p, L, _, ms, rfl, Wd2.s, pd2, by omega, Wd2.g _ _ (Wd1.g _ _ gL), by omega, by omega, fun u3 s3 Gd3 Hd3 el3 Wd3 pd3 tu3 => ⟨szL (Nat.le_add_left 3 99997), fun c hc => ?_⟩⟩
    obtain ⟨Gd4, Wd4, sd4, gd4⟩ := ((Wd1.trans Wd2).trans Wd3).al hc (.lst [u1, u2, u3])
    have pd4 := pd3.keep sd4 (by simp)
    refine ⟨Gd4, p, _, Wd4.s, pd4, by omega, .inl ⟨c, _, rfl, gd4, by simp, by simp, fun j v2 Hd5 hj Wd5 pd5 => ?_⟩⟩
    obtain ⟨t2, tt2, gd2⟩ : ∃ t2 : Tr, Td Gd4 v2 t2.d ∧ Gd t2 := by
      match j, hj with
      | 0, hj => cases hj; exact ⟨s1, tu1.mono ((Wd2.g.trans Wd3.g).trans sd4.g), fun z hz => gd1.1 z (pm1.mem_iff.mp hz), by rw [pm1.length_eq]; exact gd1.2⟩
      | 1, hj => cases hj; exact ⟨s2, tu2.mono (Wd3.g.trans sd4.g), fun z hz => hns1 z (by rw [← el2]; exact hz), by rw [el2]; omega⟩
      | 2, hj => cases hj; exact ⟨s3, tu3.mono sd4.g, fun z hz => okms z (by rw [← el3]; exact hz), by rw [el3]; omega⟩
      | j + 3, hj => simp at hj
    have We := Wc.trans (Wd4.trans Wd5)
    have pene : Pen Gd4 Hd5 p (4000 * i + 90) := pd5.more (by omega)
    have tt1e := tt1b.mono Wd4.g
    clear Wd1 Wd2 Wd3 Wd4 Wd5 pd1 pd2 pd3 pd4 pd5 sd4 gd4 tu1 tu2 tu3 hRb gL Wc penc tt1b
    have ght1 := gd1.ht
    have ght2 := gd2.ht
    have l71 := gd1.2
    have l72 := gd2.2
    -- the kinds
    refine ⟨Gd4, rfl, We.s, fun v rs G6 H6 W6 t6 => ?_⟩
    obtain ⟨La, xs6, rfl, hLa, txs6⟩ := t6.list_inv
    have W6e := We.trans W6.none0
    have pen6 := pene.keep W6 (by simp)
    have tv1 := tt1e.mono W6.g
    have tv2 := tt2.mono W6.g
    clear We W6 pene tt1e tt2 t6
    have lxs : xs6.length = 13 := by rw [txs6.length, List.length_map]; rfl
    refine ⟨La, rfl, ⟨_, SqL.of (W6e.s _ _ hLa)⟩, for_list (K := K) (xs := xs6) (fun j σ' H' => ∃ (o7 o8 o9 o10 o11 o12 o13 : Option V) (G' : Hp), σ' = [some (.ref a), some (.ref p), some xt, some (.ref R), some v1, some (.ref L), some v2, o7, o8, o9, o10, o11, o12, o13] ∧ Gx T [p] G6 H6 G' H' ∧ Pen G' H' p (4000 * i + 90 + 290 * j))
      ⟨_, _, _, _, _, _, _, G6, rfl, Gx.refl W6e.s, pen6⟩ (fun j σ' H' _ ⟨_, _, _, _, _, _, _, G', _, W, _⟩ => SqL.of (W.s _ _ (W.g _ _ hLa))) ?_ ?_⟩
    · rintro j xk σ' H7 hxk ⟨o7, o8, o9, o10, o11, o12, o13, G7, rfl, W7', pen7⟩
      obtain ⟨zk, hzk, tzk⟩ := txs6.get hxk
      rw [List.getElem?_map] at hzk
      obtain ⟨k, hk, rfl⟩ := Option.map_eq_some_iff.mp hzk
      have hj13 : j < 13 := (List.getElem?_eq_some_iff.mp hk).1
      obtain ⟨kb, xsk, rfl, hkb, txk⟩ := tzk.tup_inv
      obtain ⟨nk, rk, rfl, tnk, trk⟩ := txk.two_inv
      cases tnk.str_inv
      have tv17 := tv1.mono W7'.g
      have tv27 := tv2.mono W7'.g
      have W67 := W6e.trans W7'
      have gP7 := tab_gone W67 gP1 hT1 hm
      have hT7 := W67.t hT1
      refine ⟨kb, _, rfl, SqT.of (W7'.s _ _ (W7'.g _ _ hkb)), rfl, _, _, rfl, _, _, rfl, rfl, ?_⟩
      -- do they agree
      refine ⟨_, rfl, _, rfl, _, rfl, G7, v1, v2, t1, t2, k, rfl, W7'.s, tv17, by omega, gd1.1, by omega, tv27, by omega, gd2.1, by omega, fun G8 H8 W8 => ⟨_, rfl, ?_⟩⟩
      have W68 := W7'.trans W8.none0
      have pen8 := pen7.keep W8 (by simp)
      have gP8 := tab_gone W8 gP7 hT7 hm
      have hT8 := W8.t hT7
      have tv18 := tv17.mono W8.g
      have tv28 := tv27.mono W8.g
      refine ite2 (fun c => ?_) (fun c => ?_)
      · have hag : agr k t1 t2 = false := by
          cases h : agr k t1 t2 with
          | false => rfl
          | true => rw [h] at c; cases c
        refine ⟨_, rfl, _, rfl, _, rfl, G8, v1, v2, t1, t2, k, rfl, W8.s, gP8, hT8, tv18, tv28, gd1, gd2, hag, fun G9 H9 W9 => ⟨_, rfl, iteF ?_⟩⟩
        exact ⟨_, _, _, _, _, _, _, G9, rfl, W68.trans W9.none0, (pen8.keep W9 (by simp)).more (by omega)⟩
      · have hag : agr k t1 t2 = true := by
          cases h : agr k t1 t2 with
          | true => rfl
          | false => rw [h] at c; exact absurd rfl c
        clear c W8 W7' pen7 tv17 tv27 gP7 hT7
        -- the rows
        refine ⟨_, rfl, _, rfl, G8, p, _, k, rfl, W68.s, pen8, by omega, fun n op od M rv G9 H9 hro hn1 hn40 clo hod conj W9 pen9 tM => ?_⟩
        have snd := mA k n op od M t1 t2 hro clo hod conj gd1 gd2 hag
        have cloM := conj_lt clo hod conj
        obtain ⟨Rw, xsw, rfl, hRw, lxw⟩ := rows_len tM
        have W69 := W68.trans W9
        have tv19 := tv18.mono W9.g
        have tv29 := tv28.mono W9.g
        have gP9 := tab_gone W9 gP8 hT8 hm
        have hT9 := W9.t hT8
        have hRw9 := W9.s _ _ hRw
        -- the values
        refine ⟨fun z H' => ∃ (l : Addr) (G' : Hp), z = .ref l ∧ Gx T [] G9 H9 G' H' ∧ ((∃ ls : List (List Nat), ls ≠ [] ∧ Td G' (.ref l) (.list (ls.map dV)) ∧ ∀ z ∈ ls, z.length = 4 ∧ ∀ y ∈ z, y < n) ∨ (H9 l = none ∧ G' l = none ∧ H' l = some (.lst []))), ⟨_, rfl, Rw, _, rfl, .inl (SqL.of hRw9), _, _, rfl, rfl, _, rfl, ?_⟩, ?_⟩
        · refine ite2 (fun c => ?_) (fun c => ?_)
          · have h5 : xsw.length < 5 := by
              have := of_decide_eq_true c
              omega
            refine ⟨_, rfl, Rw, _, rfl, .inl (SqL.of hRw9), _, rfl, _, rfl, G9, xsw.length, v1, v2, t1, t2, rfl, W9.s, by omega, by omega, tv19, tv29, by omega, fun z G' H' W tz => ?_⟩
            obtain ⟨l, zs, rfl, _, _⟩ := tz.list_inv
            refine ⟨l, G', rfl, W, .inl ⟨_, valsN_ne (by omega) 4, tz, fun z hz => ?_⟩⟩
            rw [← lxw]
            exact valsN_mem (by omega) hz
          · exact ⟨Nat.zero_le _, fun l hl => ⟨l, G9, rfl, Gx.newM W9.s hl _, .inr ⟨hl, W9.s.free hl, upd_same⟩⟩⟩
        · rintro z H10 ⟨l, G10, rfl, W10, hcase⟩
          have W6a := W69.trans W10.none0
          have pen10 := pen9.keep W10 (by simp)
          have hRw10 := W10.g _ _ hRw
          -- more values
          refine ⟨fun σ' H' => ∃ (o11 o12 o13 : Option V) (G' : Hp) (ls : List (List Nat)), σ' = [some (.ref a), some (.ref p), some xt, some (.ref R), some v1, some (.ref L), some v2, some (.str k.nm), some rk, some (.ref Rw), some (.ref l), o11, o12, o13] ∧ Gx T [p] G9 H9 G' H' ∧ Pen G' H' p (4000 * i + 90 + 290 * j + 260) ∧ Td G' (.ref l) (.list (ls.map dV)) ∧ ∀ z ∈ ls, z.length = 4 ∧ ∀ y ∈ z, y < n, ?_, ?_⟩
          · rcases hcase with ⟨ls, ne, tl, hls⟩ | ⟨hl9, gl, hl⟩
            · refine ⟨_, rfl, Nat.zero_le _, fun e he => rd_eqNil upd_same ((tl.mono W10.s).mono (same_new he _)) (dVs_shaped ls) ⟨_, rfl, _, _, rfl, rfl, .inl ⟨by decide, by decide⟩, _, rfl, ?_⟩⟩
              have e0 : (if (ls.map dV).isEmpty = true then (1 : Int) else 0) = 0 := by
                cases ls with
                | nil => exact absurd rfl ne
                | cons _ _ => rfl
              rw [e0]
              have W11 : Gx T [p] G9 H9 G10 (upd H10 e (.lst [])) := W10.none0.snocM he _
              have pen11 := (pen10.keep (Gx.newM (T := T) (E := []) W10.s he (.lst [])) (by simp)).more (show _ ≤ 4000 * i + 90 + 290 * j + 260 by omega)
              refine ⟨by decide, by decide, for_it walk_range (fun _ σ' H' => ∃ (o11 o12 o13 : Option V) (G' : Hp) (ls : List (List Nat)), σ' = [some (.ref a), some (.ref p), some xt, some (.ref R), some v1, some (.ref L), some v2, some (.str k.nm), some rk, some (.ref Rw), some (.ref l), o11, o12, o13] ∧ Gx T [p] G9 H9 G' H' ∧ Pen G' H' p (4000 * i + 90 + 290 * j + 260) ∧ Td G' (.ref l) (.list (ls.map dV)) ∧ ∀ z ∈ ls, z.length = 4 ∧ ∀ y ∈ z, y < n)
                ⟨_, _, _, G10, ls, rfl, W11, pen11, tl, hls⟩ (fun _ _ _ _ _ => True.intro) (fun i' _ _ _ _ hi' => absurd hi' (by simp)) (fun σ' H' h => h)⟩
            · have hlp : l ∉ [p] := fun z => by
                rw [List.mem_singleton.mp z] at hl9
                exact pen9.there hl9
              refine ⟨_, rfl, Nat.zero_le _, fun e he => rd_eqNil (ds := []) upd_same (Td.lst ((upd_ne (ne_of_none hl he)).trans hl) .nil) shaped_nil ⟨_, rfl, _, _, rfl, rfl, .inl ⟨by decide, by decide⟩, _, rfl, by decide, by decide, ?_⟩⟩
              have W11 : Gx T [p] G9 H9 G10 (upd H10 e (.lst [])) := W10.none0.snocM he _
              have pen11 := (pen10.keep (Gx.newM (T := T) (E := []) W10.s he (.lst [])) (by simp))
              have hl11 : upd H10 e (.lst []) l = some (.lst []) := (upd_ne (ne_of_none hl he)).trans hl
              generalize upd H10 e (.lst []) = H11 at W11 pen11 hl11
              refine for_it walk_range (fun i' σ' H' => ∃ (o11 o12 o13 : Option V) (G' : Hp) (ls : List (List Nat)) (xs : List V), σ' = [some (.ref a), some (.ref p), some xt, some (.ref R), some v1, some (.ref L), some v2, some (.str k.nm), some rk, some (.ref Rw), some (.ref l), o11, o12, o13] ∧ Gx T [p] G9 H9 G' H' ∧ Pen G' H' p (4000 * i + 90 + 290 * j + 100 + 4 * i') ∧
                  H' l = some (.lst xs) ∧ G' l = none ∧ TdAll G' xs (ls.map dV) ∧ ls.length = i' ∧ ∀ z ∈ ls, z.length = 4 ∧ ∀ y ∈ z, y < n)
                ⟨_, _, _, G10, [], [], rfl, W11, pen11, hl11, gl, .nil, rfl, fun _ h => absurd h (by simp)⟩ (fun _ _ _ _ _ => True.intro) ?_ ?_
              · rintro i' x' σ' H12 H12' hi' ⟨o11, o12, o13, G12, ls, xs, rfl, W12, pen12, hl12, gl12, txs, lls, hls⟩ ⟨rfl, _⟩
                have hi40 : i' < 40 := hi'
                have hRw12 := W12.g _ _ hRw
                refine ⟨_, rfl, .inl ⟨rfl, _, SqL.of hl12⟩, _, rfl, by decide, by decide, lcX (T := T) (E := [p]) walk_range (fun _ _ => True) (fun _ d => ∃ y : Nat, y < n ∧ d = .int (y : Nat)) _ 1 W12.s (by decide) (fun i H x H' y => ⟨y.1, True.intro⟩) (fun _ _ _ => True.intro) (Pens.one pen12)
                  (fun b y Gb Hb hb hy Wb pb Q2 q2 => ?_) (fun Dn ds G13 H13 W13 p13 t13 lds hds => ?_)⟩
                · have hb4 : b < 4 := hb
                  refine ⟨rfl, _, rfl, _, rfl, Rw, _, rfl, .inl (SqL.of (Wb.s _ _ (Wb.g _ _ hRw12))), Gb, p, _, xsw.length, rfl, Wb.s, pb.get, by omega, by omega, by omega, fun y Hc hy Wc pc => q2 _ _ Gb Hc Wc (Pens.one pc) (.int _) ⟨y, by omega, rfl⟩⟩
                · obtain ⟨vals, h1, h2, rfl⟩ := any_of hds
                  have lds : (vals.map fun y : Nat => PyData.int (y : Nat)).length = 4 := lds
                  rw [List.length_map] at lds
                  obtain ⟨gl13, hl13⟩ := W13.keepM hlp gl12 hl12 (fun _ z => by cases z)
                  have p13' : Pen G13 H13 p (4000 * i + 90 + 290 * j + 100 + 4 * (i' + 1)) := p13.get.more (by show 4000 * i + 90 + 290 * j + 100 + 4 * i' + 1 * 4 ≤ _; omega)
                  have plp : p ≠ l := fun z => hlp (by rw [z]; simp)
                  refine ⟨l, xs, _, rfl, rfl, hl13, szLt (by rw [txs.length, List.length_map]; omega), _, _, _, G13, ls ++ [vals], xs ++ [.ref Dn], rfl, (W12.trans W13).write (.inl hl9) gl13 hl13 True.intro, p13'.wr plp, upd_same, gl13, ?_, by rw [List.length_append, lls]; rfl, fun z hz => ?_⟩
                  · rw [List.map_append]
                    exact (txs.mono W13.g).app (.cons t13 .nil)
                  · rcases List.mem_append.mp hz with hz | hz
                    · exact hls z hz
                    · rw [List.mem_singleton.mp hz]
                      exact ⟨lds, h2⟩
              · rintro σ' H12 ⟨o11, o12, o13, G12, ls, xs, rfl, W12, pen12, hl12, gl12, txs, lls, hls⟩
                have lls : ls.length = 40 := lls
                have pen12 : Pen G12 H12 p (4000 * i + 90 + 290 * j + 100 + 4 * 40) := pen12
                have plp : p ≠ l := fun z => hlp (by rw [z]; simp)
                exact ⟨_, _, _, upd G12 l (.lst xs), ls, rfl, Gx.freeze W12.s W12 hl9 hl12, (pen12.froze plp gl12).more (by omega), .lst upd_same (txs.mono (same_new gl12 _)), hls⟩
          · rintro σ' H11 ⟨o11, o12, o13, G11, ls, rfl, W11, pen11, tl, hls⟩
            obtain ⟨l', xsl, el, hl, txl⟩ := tl.list_inv
            cases el
            have lxl : xsl.length = ls.length := by rw [txl.length, List.length_map]
            have hRw11 := W11.g _ _ hRw
            have gP11 := tab_gone W11 gP9 hT9 hm
            have hT11 := W11.t hT9
            have tv111 := tv19.mono W11.g
            have tv211 := tv29.mono W11.g
            have tM11 := tM.mono W11.g
            refine ⟨_, rfl, l, rfl, ⟨_, SqL.of (W11.s _ _ hl)⟩, fun Dc hDc => ?_⟩
            have gDc : G11 Dc = none := W11.s.free hDc
            refine lc_it (walk_list (K := K) (a := l) (xs := xsl)) (fun i H' => Gx T [] G11 H11 G11 H' ∧ H' Dc = some (.lst [])) ⟨Gx.newM W11.s hDc _, upd_same⟩ (fun i H' _ ⟨W, _⟩ => SqL.of (W.s _ _ hl)) (fun i2 x2 H13 H13' hi2 ⟨W13, e13⟩ ⟨eH, hx2⟩ => ?_) (fun H13 ⟨W13, e13⟩ => ?_)
            · subst eH
              obtain ⟨z, hz, tz⟩ := txl.get hx2
              rw [List.getElem?_map] at hz
              obtain ⟨vals, hvals, rfl⟩ := Option.map_eq_some_iff.mp hz
              obtain ⟨b2, rfl, gb2⟩ := dV_inv tz
              obtain ⟨lv4, lvlt⟩ := hls vals (List.mem_of_getElem? hvals)
              refine ⟨rfl, _, rfl, _, rfl, _, rfl, _, rfl, G11, .ref Rw, v1, v2, b2, t1, t2, n, M, vals, rfl, W13.s, gP11, W13.t hT11, tM11, cloM, gb2, lv4, lvlt, tv111, by omega, gd1.1, tv211, by omega, gd2.1, fun H14 W14 => ⟨_, rfl, ?_⟩⟩
              have e0 : decide (ev M vals t1 ≠ ev M vals t2) = false := decide_eq_false fun z => z (snd vals lv4 lvlt)
              rw [e0]
              obtain ⟨_, e14⟩ := W14.keepM (by simp) gDc e13 (fun _ z => by cases z)
              exact iteF ⟨W13.trans W14, e14⟩
            · refine ⟨Nat.zero_le _, fun e he => rd_neNil upd_same (Td.lst ((upd_ne (ne_of_none e13 he)).trans e13) .nil) shaped_nil ⟨_, rfl, iteF ?_⟩⟩
              have W14 : Gx T [p] G11 H11 G11 (upd H13 e (.lst [])) := (W13.none0).snocM he _
              exact ⟨_, _, _, _, _, _, _, G11, rfl, (W69.trans W11).trans W14, (pen11.keep (W13.trans (Gx.newM W13.s he (.lst []))) (by simp)).more (by omega)⟩
    · rintro σ' H7 ⟨o7, o8, o9, o10, o11, o12, o13, G7, rfl, W7', pen7⟩
      rw [lxs] at pen7
      exact ⟨_, _, _, _, _, _, _, _, _, _, _, _, G7, rfl, W6e.trans W7', pen7.more (by omega)⟩
  · rintro σ' H' ⟨o2, o3, o4, o5, o6, o7, o8, o9, o10, o11, o12, o13, G', rfl, _, _⟩
    exact q H'
end
end W7
set_option maxRecDepth 100000
set_option maxHeartbeats 4000000
/-! WR: the plain laws -/
namespace W7
open PySem PySem.Spec PyProof.Rows L2 LamX NdefX
/-! ### values of trees by their letters -/
theorem ev_rel {op : Nat → Nat → Nat} {vals : List Nat} (R : List Int → Nat → Prop) (h1 : ∀ x : Int, 0 ≤ x → x < 4 → R [x] (vals.getD x.toNat 0)) (h2 : ∀ a b v w, R a v → R b w → a.length + b.length ≤ 7 → R (a ++ b) (op v w)) : ∀ t : Tr, Ok4 t → t.lets.length ≤ 7 → R t.lets (ev op vals t)
  | .lf x, h, _ => by
    have hx : 0 ≤ x ∧ x < 4 := h x (by simp [Tr.lets])
    exact h1 x hx.1 hx.2
  | .nd l r, h, hl => by
    rw [len_nd] at hl
    exact h2 _ _ _ _ (ev_rel R h1 h2 l h.nd.1 (by omega)) (ev_rel R h1 h2 r h.nd.2 (by omega)) hl
/-! ### the operation of parts -/
theorem idx_getD {α : Type} [DecidableEq α] {x d : α} {l : List α} (h : x ∈ l) : l.getD (idx x l) d = x := getD_at (idx_at h)
theorem ev_parts {α : Type} [DecidableEq α] {parts : List α} {comb : α → α → α} {d : α} {vals : List Nat} (φ : Tr → α) (hl : ∀ x : Int, 0 ≤ x → x < 4 → vals.getD x.toNat 0 = idx (φ (.lf x)) parts)
    (hn : ∀ l r, comb (φ l) (φ r) = φ (.nd l r)) (hc : ∀ l r, φ (.nd l r) ∈ parts → φ l ∈ parts ∧ φ r ∈ parts) : ∀ t : Tr, Ok4 t → ev (opP parts comb d) vals t = idx (φ t) parts
  | .lf x, h => by
    have hx : 0 ≤ x ∧ x < 4 := h x (by simp [Tr.lets])
    exact hl x hx.1 hx.2
  | .nd l r, h => by
    show opP parts comb d (ev _ _ l) (ev _ _ r) = _
    rw [ev_parts φ hl hn hc l h.nd.1, ev_parts φ hl hn hc r h.nd.2]
    unfold opP
    by_cases hml : φ l ∈ parts
    · by_cases hmr : φ r ∈ parts
      · rw [if_pos ⟨idx_lt hml, idx_lt hmr⟩, idx_getD hml, idx_getD hmr, hn]
      · rw [if_neg fun z => ?_, idx_none fun z => hmr (hc l r z).2]
        rw [idx_none hmr] at z
        omega
    · rw [if_neg fun z => ?_, idx_none fun z => hml (hc l r z).1]
      rw [idx_none hml] at z
      omega
theorem idx_apart {α : Type} [DecidableEq α] {x y : α} {l : List α} (h : x ∈ l) (n : x ≠ y) : idx x l ≠ idx y l := fun e => by
  have h1 := idx_lt h
  by_cases hy : y ∈ l
  · have e1 := idx_at h
    have e2 := idx_at hy
    rw [e, e2] at e1
    exact n (Option.some.inj e1).symm
  · rw [idx_none hy] at e
    omega
theorem range4 (f : Nat → Nat) {x : Int} (h0 : 0 ≤ x) (h4 : x < 4) : ((List.range 4).map f).getD x.toNat 0 = f x.toNat := by
  have : x.toNat < 4 := by omega
  rw [List.getD_eq_getElem?_getD, List.getElem?_map, List.getElem?_range this]
  rfl
theorem wd_inj : ∀ {a b : List Int}, okR a → okR b → wd a = wd b → a = b
  | [], [], _, _, _ => rfl
  | [], _ :: _, _, _, h => by simp [wd] at h
  | _ :: _, [], _, _, h => by simp [wd] at h
  | x :: a, y :: b, ha, hb, h => by
    have h : (97 + x.toNat) :: wd a = (97 + y.toNat) :: wd b := h
    obtain ⟨h1, h2⟩ := List.cons.inj h
    have hx := ha x (by simp)
    have hy := hb y (by simp)
    rw [wd_inj (fun z hz => ha z (by simp [hz])) (fun z hz => hb z (by simp [hz])) h2, show x = y by omega]
theorem tellW : TellW := fun t s gt gs h => by
  have key : ∀ u : Tr, Ok4 u → ev (opF (wd t.lets)) ((List.range 4).map fun k => idx [97 + k] (facs (wd t.lets))) u = idx (wd u.lets) (facs (wd t.lets)) := fun u hu => by
    refine ev_parts (comb := (· ++ ·)) (d := []) (fun u => wd u.lets) (fun x h0 h4 => ?_) (fun l r => ?_) (fun l r hm => ?_) u hu
    · rw [range4 _ h0 h4]; rfl
    · show wd l.lets ++ wd r.lets = wd (l.lets ++ r.lets)
      unfold wd
      rw [List.map_append]
    · have hm : wd (l.lets ++ r.lets) ∈ facs (wd t.lets) := hm
      unfold wd at hm ⊢
      rw [List.map_append] at hm
      exact facs_cut hm
  rw [key t gt.1, key s gs.1]
  exact idx_apart (facs_self _) fun z => h (wd_inj gt.1 gs.1 z)
theorem lt_asym : ∀ {a b : List Nat}, a < b → ¬ b < a := fun h k => List.lt_irrefl _ (List.lt_trans h k)
theorem pairT_ws {a b : Tr} (ha : a.ws = a) (hb : b.ws = b) : (pairT a b).ws = pairT a b := by
  unfold pairT
  split
  · rename_i h
    show pairT b.ws a.ws = _
    rw [ha, hb]
    unfold pairT
    rw [if_neg (lt_asym h)]
  · rename_i h
    show pairT a.ws b.ws = _
    rw [ha, hb]
    unfold pairT
    rw [if_neg h]
theorem ws_idem : ∀ t : Tr, t.ws.ws = t.ws
  | .lf _ => rfl
  | .nd l r => pairT_ws (ws_idem l) (ws_idem r)
theorem tellT : TellT := fun tn ps t s gt gs hw hc h => by
  have key : ∀ u : Tr, Ok4 u → ev (opP ps (comb tn) (.lf 0)) ((List.range 4).map fun k => idx (.lf (k : Nat)) ps) u = idx (whole tn u) ps := fun u hu => by
    refine ev_parts (whole tn) (fun x h0 h4 => ?_) (fun l r => ?_) (fun l r hm => ?_) u hu
    · rw [range4 _ h0 h4]
      have e : whole tn (.lf x) = .lf x := by unfold whole; split <;> rfl
      rw [e, show ((x.toNat : Nat) : Int) = x by omega]
    · cases tn with
      | false => rfl
      | true =>
        show (Tr.nd l.ws r.ws).ws = (Tr.nd l r).ws
        show pairT l.ws.ws r.ws.ws = pairT l.ws r.ws
        rw [ws_idem, ws_idem]
    · cases tn with
      | false => exact hc l r hm
      | true =>
        have hm : pairT l.ws r.ws ∈ ps := hm
        rcases pair_or l.ws r.ws with e | e
        · rw [e] at hm
          exact hc _ _ hm
        · rw [e] at hm
          exact ⟨(hc _ _ hm).2, (hc _ _ hm).1⟩
  rw [key t gt.1, key s gs.1]
  exact idx_apart hw h
/-! ### agreement, kind by kind -/
theorem eqv_int (a b : Int) : PyData.eqv (.int a) (.int b) = decide (a = b) := by
  have := d_eqv (.lf a) (.lf b)
  rw [show decide (Tr.lf a = Tr.lf b) = decide (a = b) by rw [Bool.eq_iff_iff, decide_eq_true_iff, decide_eq_true_iff]; exact ⟨fun h => Tr.lf.inj h, fun h => by rw [h]⟩] at this
  exact this
theorem eqv_two (a b c d : PyData) : PyData.eqv (.tuple [a, b]) (.tuple [c, d]) = (PyData.eqv a c && PyData.eqv b d) := by
  rw [PyData.eqv]
  simp [PyData.eqvAll]
theorem eqv_non : PyData.eqv .none .none = true := by simp [PyData.eqv]
theorem agr_bags (t s : Tr) : agr .bags t s = decide (asc t.lets = asc s.lets) := tI_eqv _ _
theorem agr_parity (t s : Tr) : agr .parity t s = decide (asc (odds t.lets) = asc (odds s.lets)) := tI_eqv _ _
theorem agr_sets (t s : Tr) : agr .sets t s = decide (asc (fu t.lets) = asc (fu s.lets)) := tI_eqv _ _
theorem agr_middles (t s : Tr) : agr .middles t s = (decide (fu t.lets = fu s.lets) && decide (lu t.lets = lu s.lets)) := (eqv_two _ _ _ _).trans (by rw [tI_eqv, tI_eqv])
theorem agr_heads (t s : Tr) : agr .heads t s = decide (fu t.lets = fu s.lets) := (eqv_two _ _ _ _).trans (by rw [tI_eqv, eqv_non, Bool.and_true])
theorem agr_tails (t s : Tr) : agr .tails t s = decide (lu t.lets = lu s.lets) := (eqv_two _ _ _ _).trans (by rw [tI_eqv, eqv_non, Bool.true_and])
theorem agr_outer (t s : Tr) : agr .outer t s = (decide (fin0 t.lets = fin0 s.lets) && decide (fin1 t.lets = fin1 s.lets)) := (eqv_two _ _ _ _).trans (by rw [eqv_int, eqv_int])
theorem agr_lefts (t s : Tr) : agr .lefts t s = decide (fin0 t.lets = fin0 s.lets) := (eqv_two _ _ _ _).trans (by rw [eqv_int, eqv_non, Bool.and_true])
theorem agr_rights (t s : Tr) : agr .rights t s = decide (fin1 t.lets = fin1 s.lets) := (eqv_two _ _ _ _).trans (by rw [eqv_int, eqv_non, Bool.true_and])
theorem agr_one (t s : Tr) : agr .one t s = true := (eqv_two _ _ _ _).trans (by rw [eqv_non]; rfl)
theorem lu_mem (x : Int) : ∀ l : List Int, x ∈ lu l ↔ x ∈ l
  | [] => Iff.rfl
  | y :: r => by
    rw [lu]
    split
    · rename_i h
      rw [lu_mem x r, List.mem_cons]
      exact ⟨.inr, fun z => z.elim (fun e => e ▸ h) id⟩
    · rw [List.mem_cons, List.mem_cons, lu_mem x r]
theorem fu_mem (x : Int) (l : List Int) : x ∈ fu l ↔ x ∈ l := by
  unfold fu
  rw [List.mem_reverse, lu_mem, List.mem_reverse]
theorem lu_nodup : ∀ l : List Int, (lu l).Nodup
  | [] => List.nodup_nil
  | y :: r => by
    rw [lu]
    split
    · exact lu_nodup r
    · rename_i h
      exact List.nodup_cons.mpr ⟨fun z => h ((lu_mem y r).mp z), lu_nodup r⟩
theorem fu_nodup (l : List Int) : (fu l).Nodup := by
  unfold fu
  exact (List.reverse_perm _).nodup_iff.mpr (lu_nodup _)
theorem lu_rev (l : List Int) : lu l = (fu l.reverse).reverse := by
  unfold fu
  rw [List.reverse_reverse, List.reverse_reverse]
/-! ### values that tell apart -/
def two (x y : Int) (i : Nat) : Nat := if (i : Int) = x then 1 else if (i : Int) = y then 2 else 0
theorem vals_f {size : Nat} {used : List Int} (f : Nat → Nat) : ∀ k, (∀ i, i < k → f i < rad size used i) → (List.range k).map f ∈ valsN size used k
  | 0, _ => by simp [valsN]
  | k + 1, h => by
    rw [List.range_succ, List.map_append]
    exact List.mem_flatMap.mpr ⟨_, vals_f f k fun i hi => h i (by omega), List.mem_map.mpr ⟨f k, List.mem_range.mpr (h k (by omega)), rfl⟩⟩
theorem vals_two {size : Nat} {used : List Int} {x y : Int} (h : 2 ≤ size) (hx : x ∈ used) (hy : x = y ∨ y ∈ used ∧ 3 ≤ size) : (List.range 4).map (two x y) ∈ valsN size used 4 :=
  vals_f (two x y) 4 fun i _ => by
    unfold two rad
    split
    · rename_i e
      rw [if_pos (e ▸ hx)]
      omega
    · rename_i n
      split
      · rename_i e
        rcases hy with hy | ⟨hy, h3⟩
        · exact absurd (e.trans hy.symm) n
        · rw [if_pos (e ▸ hy)]
          omega
      · split <;> omega
theorem two_at {x y z : Int} (h0 : 0 ≤ z) : two x y z.toNat = if z = x then 1 else if z = y then 2 else 0 := by
  unfold two
  rw [show ((z.toNat : Nat) : Int) = z by omega]
theorem two_xx {x z : Int} (h0 : 0 ≤ z) : two x x z.toNat = if z = x then 1 else 0 := by
  rw [two_at h0]
  split
  · rfl
  · rename_i n
    first | rfl | rw [if_neg n]
section
variable {t s : Tr}
def TellJ (j : Kd) (t s : Tr) : Prop := ∃ vals ∈ valsN (spn j) (t.lets ++ s.lets) 4, ev (smOp j) vals t ≠ ev (smOp j) vals s
theorem ind_in {j : Kd} {x : Int} (h2 : 2 ≤ spn j) (hx : x ∈ t.lets ∨ x ∈ s.lets) : (List.range 4).map (two x x) ∈ valsN (spn j) (t.lets ++ s.lets) 4 := vals_two h2 (List.mem_append.mpr hx) (.inl rfl)
theorem ev_bags (x : Int) (t : Tr) (g : Gd t) : ev (smOp .bags) ((List.range 4).map (two x x)) t = t.lets.count x := by
  refine ev_rel (fun a v => v = a.count x) (fun z h0 h4 => ?_) (fun a b v w hv hw hl => ?_) t g.1 g.2
  · show _ = [z].count x
    rw [range4 _ h0 h4, two_xx h0, List.count_singleton]
    by_cases h : z = x
    · simp [h]
    · rw [if_neg h, if_neg]
      simp
      exact h
  · show min (v + w) 7 = (a ++ b).count x
    have h1 := List.count_le_length (a := x) (l := a)
    have h2 := List.count_le_length (a := x) (l := b)
    have hv : v = a.count x := hv
    have hw : w = b.count x := hw
    rw [List.count_append]
    omega
theorem ev_par (x : Int) (t : Tr) (g : Gd t) : ev (smOp .parity) ((List.range 4).map (two x x)) t = t.lets.count x % 2 := by
  refine ev_rel (fun a v => v = a.count x % 2) (fun z h0 h4 => ?_) (fun a b v w hv hw hl => ?_) t g.1 g.2
  · show _ = [z].count x % 2
    rw [range4 _ h0 h4, two_xx h0, List.count_singleton]
    by_cases h : z = x
    · simp [h]
    · rw [if_neg h, if_neg]
      simp
      exact h
  · show (if v = w then 0 else 1) = (a ++ b).count x % 2
    have hv : v = a.count x % 2 := hv
    have hw : w = b.count x % 2 := hw
    rw [List.count_append]
    split <;> omega
theorem ev_sets (x : Int) (t : Tr) (g : Gd t) : ev (smOp .sets) ((List.range 4).map (two x x)) t = if x ∈ t.lets then 1 else 0 := by
  refine ev_rel (fun a v => v = if x ∈ a then 1 else 0) (fun z h0 h4 => ?_) (fun a b v w hv hw hl => ?_) t g.1 g.2
  · show _ = if x ∈ [z] then 1 else 0
    rw [range4 _ h0 h4, two_xx h0]
    by_cases h : z = x
    · simp [h]
    · rw [if_neg h, if_neg]
      simp
      exact fun z => h z.symm
  · show max v w = if x ∈ a ++ b then 1 else 0
    have hv : v = if x ∈ a then 1 else 0 := hv
    have hw : w = if x ∈ b then 1 else 0 := hw
    rw [hv, hw]
    by_cases h1 : x ∈ a <;> by_cases h2 : x ∈ b <;> simp [h1, h2]
theorem ev_lefts (f : Nat → Nat) (t : Tr) (g : Gd t) : ev (fun a _ => a) ((List.range 4).map f) t = f (fin0 t.lets).toNat := by
  refine (ev_rel (fun a v => a ≠ [] ∧ v = f (fin0 a).toNat) (fun z h0 h4 => ⟨by simp, range4 _ h0 h4⟩) (fun a b v w hv hw hl => ⟨by simp [hv.1], ?_⟩) t g.1 g.2).2
  rw [hv.2]
  cases a with
  | nil => exact absurd rfl hv.1
  | cons _ _ => rfl
theorem fin1_app (a : List Int) {b : List Int} (h : b ≠ []) : fin1 (a ++ b) = fin1 b := by
  obtain ⟨r, x, rfl⟩ := list_snoc h
  unfold fin1
  rw [← List.append_assoc, List.getLastD_concat, List.getLastD_concat]
theorem ev_rights (f : Nat → Nat) (t : Tr) (g : Gd t) : ev (fun _ b => b) ((List.range 4).map f) t = f (fin1 t.lets).toNat := by
  refine (ev_rel (fun a v => a ≠ [] ∧ v = f (fin1 a).toNat) (fun z h0 h4 => ⟨by simp, range4 _ h0 h4⟩) (fun a b v w hv hw hl => ⟨by simp [hv.1], ?_⟩) t g.1 g.2).2
  rw [fin1_app _ hw.1]
  exact hw.2
theorem fin0_mem (t : Tr) : fin0 t.lets ∈ t.lets := by
  have := lets_pos t
  cases h : t.lets with
  | nil => rw [h] at this; cases this
  | cons x r => exact List.mem_cons_self ..
theorem fin1_mem (t : Tr) : fin1 t.lets ∈ t.lets := by
  have := lets_pos t
  obtain ⟨r, x, e⟩ := list_snoc (l := t.lets) (by intro z; rw [z] at this; cases this)
  rw [e]
  unfold fin1
  rw [List.getLastD_concat]
  simp
theorem tj_bags (gt : Gd t) (gs : Gd s) (h : agr .bags t s = false) : TellJ .bags t s := by
  rw [agr_bags, decide_eq_false_iff_not, asc_iff, List.perm_iff_count] at h
  obtain ⟨x, hx⟩ := Classical.not_forall.mp h
  have hm : x ∈ t.lets ∨ x ∈ s.lets := Classical.byContradiction fun z => hx (by
    rw [List.count_eq_zero_of_not_mem fun y => z (.inl y), List.count_eq_zero_of_not_mem fun y => z (.inr y)])
  exact ⟨_, ind_in (by decide) hm, by rw [ev_bags x t gt, ev_bags x s gs]; exact hx⟩
theorem odds_mem (x : Int) (l : List Int) : x ∈ odds l ↔ l.count x % 2 = 1 := by
  unfold odds
  rw [List.mem_filter, fu_mem, decide_eq_true_iff]
  refine ⟨And.right, fun h => ⟨?_, h⟩⟩
  exact List.count_pos_iff.mp (by omega)
theorem perm_mem {a b : List Int} (ha : a.Nodup) (hb : b.Nodup) (h : ∀ x, x ∈ a ↔ x ∈ b) : a.Perm b := (List.perm_ext_iff_of_nodup ha hb).mpr (fun x => h x)
theorem tj_parity (gt : Gd t) (gs : Gd s) (h : agr .parity t s = false) : TellJ .parity t s := by
  rw [agr_parity, decide_eq_false_iff_not, asc_iff] at h
  have h2 : ¬ ∀ x, (x ∈ odds t.lets ↔ x ∈ odds s.lets) := fun z => h (perm_mem ((fu_nodup _).filter _) ((fu_nodup _).filter _) z)
  obtain ⟨x, hx⟩ := Classical.not_forall.mp h2
  rw [odds_mem, odds_mem] at hx
  have hm : x ∈ t.lets ∨ x ∈ s.lets := Classical.byContradiction fun z => hx (by
    rw [List.count_eq_zero_of_not_mem fun y => z (.inl y), List.count_eq_zero_of_not_mem fun y => z (.inr y)])
  exact ⟨_, ind_in (by decide) hm, by rw [ev_par x t gt, ev_par x s gs]; exact fun e => hx (by rw [e])⟩
theorem tj_sets (gt : Gd t) (gs : Gd s) (h : agr .sets t s = false) : TellJ .sets t s := by
  rw [agr_sets, decide_eq_false_iff_not, asc_iff] at h
  have h2 : ¬ ∀ x, (x ∈ fu t.lets ↔ x ∈ fu s.lets) := fun z => h (perm_mem (fu_nodup _) (fu_nodup _) z)
  obtain ⟨x, hx⟩ := Classical.not_forall.mp h2
  rw [fu_mem, fu_mem] at hx
  have hm : x ∈ t.lets ∨ x ∈ s.lets := Classical.byContradiction fun z => hx ⟨fun y => absurd (.inl y) z, fun y => absurd (.inr y) z⟩
  refine ⟨_, ind_in (by decide) hm, ?_⟩
  rw [ev_sets x t gt, ev_sets x s gs]
  by_cases h1 : x ∈ t.lets <;> by_cases h2 : x ∈ s.lets <;> simp [h1, h2] <;> simp [h1, h2] at hx
theorem tj_lefts (gt : Gd t) (gs : Gd s) (h : fin0 t.lets ≠ fin0 s.lets) : TellJ .lefts t s := by
  have h1 := gt.1 _ (fin0_mem t)
  have h2 := gs.1 _ (fin0_mem s)
  refine ⟨_, ind_in (x := fin0 t.lets) (by decide) (.inl (fin0_mem t)), ?_⟩
  show ev (fun a _ => a) _ t ≠ ev (fun a _ => a) _ s
  rw [ev_lefts _ t gt, ev_lefts _ s gs, two_xx h1.1, two_xx h2.1, if_pos rfl, if_neg fun z => h z.symm]
  decide
theorem tj_rights (gt : Gd t) (gs : Gd s) (h : fin1 t.lets ≠ fin1 s.lets) : TellJ .rights t s := by
  have h1 := gt.1 _ (fin1_mem t)
  have h2 := gs.1 _ (fin1_mem s)
  refine ⟨_, ind_in (x := fin1 t.lets) (by decide) (.inl (fin1_mem t)), ?_⟩
  show ev (fun _ b => b) _ t ≠ ev (fun _ b => b) _ s
  rw [ev_rights _ t gt, ev_rights _ s gs, two_xx h1.1, two_xx h2.1, if_pos rfl, if_neg fun z => h z.symm]
  decide
/-! heads, tails: which of two letters stands first, last -/
def fo (x y : Int) : List Int → Nat
  | [] => 0
  | z :: r => if z = x then 1 else if z = y then 2 else fo x y r
theorem fo_app (x y : Int) (b : List Int) : ∀ a : List Int, fo x y (a ++ b) = if fo x y a = 0 then fo x y b else fo x y a
  | [] => rfl
  | z :: r => by
    show (if z = x then 1 else if z = y then 2 else fo x y (r ++ b)) = if (if z = x then 1 else if z = y then 2 else fo x y r) = 0 then _ else (if z = x then 1 else if z = y then 2 else fo x y r)
    rw [fo_app x y b r]
    by_cases h1 : z = x
    · simp [h1]
    · by_cases h2 : z = y
      · simp only [if_neg h1, if_pos h2]; rfl
      · simp only [if_neg h1, if_neg h2]
theorem fo_zero {x y : Int} : ∀ {a : List Int}, x ∉ a → y ∉ a → fo x y a = 0
  | [], _, _ => rfl
  | z :: r, hx, hy => by
    show (if z = x then 1 else if z = y then 2 else fo x y r) = 0
    rw [if_neg fun e => hx (by simp [e]), if_neg fun e => hy (by simp [e])]
    exact fo_zero (fun e => hx (by simp [e])) (fun e => hy (by simp [e]))
theorem fo_ne {x y : Int} {a : List Int} (h : fo x y a = 0) : x ∉ a ∧ y ∉ a := by
  induction a with
  | nil => simp
  | cons z r ih =>
    have h : (if z = x then 1 else if z = y then 2 else fo x y r) = 0 := h
    by_cases h1 : z = x
    · rw [if_pos h1] at h; cases h
    · rw [if_neg h1] at h
      by_cases h2 : z = y
      · rw [if_pos h2] at h; cases h
      · rw [if_neg h2] at h
        obtain ⟨a, b⟩ := ih h
        exact ⟨fun z => (List.mem_cons.mp z).elim (fun e => h1 e.symm) a, fun z => (List.mem_cons.mp z).elim (fun e => h2 e.symm) b⟩
theorem snoc_ind {p : List Int → Prop} (h0 : p []) (h1 : ∀ l x, p l → p (l ++ [x])) (l : List Int) : p l := by
  have : ∀ r : List Int, p r.reverse := fun r => by
    induction r with
    | nil => exact h0
    | cons x r ih => rw [List.reverse_cons]; exact h1 _ _ ih
  have := this l.reverse
  rw [List.reverse_reverse] at this
  exact this
theorem fo_fu (x y : Int) (l : List Int) : fo x y (fu l) = fo x y l := by
  refine snoc_ind (p := fun l => fo x y (fu l) = fo x y l) rfl (fun l z ih => ?_) l
  rw [fu_snoc, fo_app]
  split
  · rename_i hz
    rw [ih]
    split
    · rename_i h
      rw [h]
      obtain ⟨a, b⟩ := fo_ne h
      exact (fo_zero (fun e => a (by rw [List.mem_singleton.mp e]; exact hz)) (fun e => b (by rw [List.mem_singleton.mp e]; exact hz))).symm
    · rfl
  · rw [fo_app, ih]
def clsH (v : Nat) : Nat := if v = 0 then 0 else if v = 1 ∨ v = 3 then 1 else 2
def clsT (v : Nat) : Nat := if v = 0 then 0 else if v = 1 ∨ v = 4 then 1 else 2
theorem clsH_op : ∀ a, a < 5 → ∀ b, b < 5 → opW [0] wds5 a b < 5 ∧ clsH (opW [0] wds5 a b) = if clsH a = 0 then clsH b else clsH a := by decide +kernel
theorem clsT_op : ∀ a, a < 5 → ∀ b, b < 5 → opW [1] wds5 a b < 5 ∧ clsT (opW [1] wds5 a b) = if clsT b = 0 then clsT a else clsT b := by decide +kernel
theorem ev_heads (x y : Int) (t : Tr) (g : Gd t) : clsH (ev (smOp .heads) ((List.range 4).map (two x y)) t) = fo x y t.lets := by
  refine (ev_rel (fun a v => v < 5 ∧ clsH v = fo x y a) (fun z h0 h4 => ?_) (fun a b v w hv hw hl => ?_) t g.1 g.2).2
  · rw [range4 _ h0 h4, two_at h0]
    show _ ∧ _ = if z = x then 1 else if z = y then 2 else 0
    split
    · exact ⟨by decide, rfl⟩
    · split
      · exact ⟨by decide, rfl⟩
      · exact ⟨by decide, rfl⟩
  · obtain ⟨h1, h2⟩ := clsH_op v hv.1 w hw.1
    refine ⟨h1, ?_⟩
    show clsH (opW [0] wds5 v w) = _
    rw [h2, hv.2, hw.2, fo_app]
theorem ev_tails (x y : Int) (t : Tr) (g : Gd t) : clsT (ev (smOp .tails) ((List.range 4).map (two x y)) t) = fo x y t.lets.reverse := by
  refine (ev_rel (fun a v => v < 5 ∧ clsT v = fo x y a.reverse) (fun z h0 h4 => ?_) (fun a b v w hv hw hl => ?_) t g.1 g.2).2
  · rw [range4 _ h0 h4, two_at h0]
    show _ ∧ _ = if z = x then 1 else if z = y then 2 else 0
    split
    · exact ⟨by decide, rfl⟩
    · split
      · exact ⟨by decide, rfl⟩
      · exact ⟨by decide, rfl⟩
  · obtain ⟨h1, h2⟩ := clsT_op v hv.1 w hw.1
    refine ⟨h1, ?_⟩
    show clsT (opW [1] wds5 v w) = _
    rw [h2, hv.2, hw.2, List.reverse_append, fo_app]
/-- two lists without doubles that differ: two letters tell them apart -/
theorem fo_differ : ∀ {a b : List Int}, a.Nodup → b.Nodup → a ≠ b → ∃ x y : Int, (x ∈ a ∨ x ∈ b) ∧ (x = y ∨ y ∈ a ∨ y ∈ b) ∧ fo x y a ≠ fo x y b
  | [], [], _, _, h => absurd rfl h
  | x :: r, [], _, _, _ => ⟨x, x, .inl (by simp), .inl rfl, by simp [fo]⟩
  | [], x :: r, _, _, _ => ⟨x, x, .inr (by simp), .inl rfl, by simp [fo]⟩
  | x :: a, y :: b, ha, hb, h => by
    by_cases e : x = y
    · subst e
      obtain ⟨na, ha⟩ := List.nodup_cons.mp ha
      obtain ⟨nb, hb⟩ := List.nodup_cons.mp hb
      obtain ⟨u, v, h1, h2, h3⟩ := fo_differ ha hb fun z => h (by rw [z])
      refine ⟨u, v, h1.imp (fun z => by simp [z]) (fun z => by simp [z]), h2.imp id fun z => z.imp (fun z => by simp [z]) (fun z => by simp [z]), ?_⟩
      have nu : x ≠ u := fun z => h1.elim (fun y => na (z ▸ y)) fun y => nb (z ▸ y)
      have nv : x ≠ v := fun z => h2.elim (fun y => nu (z.trans y.symm)) fun w => w.elim (fun y => na (z ▸ y)) fun y => nb (z ▸ y)
      show (if x = u then 1 else if x = v then 2 else fo u v a) ≠ (if x = u then 1 else if x = v then 2 else fo u v b)
      rw [if_neg nu, if_neg nv, if_neg nu, if_neg nv]
      exact h3
    · refine ⟨x, y, .inl (by simp), .inr (.inr (by simp)), ?_⟩
      show (if x = x then 1 else _) ≠ (if y = x then 1 else if y = y then 2 else _)
      rw [if_pos rfl, if_neg fun z => e z.symm, if_pos rfl]
      decide
theorem tj_heads (gt : Gd t) (gs : Gd s) (h : fu t.lets ≠ fu s.lets) : TellJ .heads t s := by
  obtain ⟨x, y, hx, hy, hne⟩ := fo_differ (fu_nodup _) (fu_nodup _) h
  rw [fu_mem, fu_mem] at hx hy
  refine ⟨_, vals_two (x := x) (y := y) (by decide) (List.mem_append.mpr hx) (hy.imp id fun z => ⟨List.mem_append.mpr z, by decide⟩), fun e => ?_⟩
  have h1 := ev_heads x y t gt
  have h2 := ev_heads x y s gs
  rw [e, h2, ← fo_fu x y t.lets, ← fo_fu x y s.lets] at h1
  exact hne h1.symm
theorem tj_tails (gt : Gd t) (gs : Gd s) (h : lu t.lets ≠ lu s.lets) : TellJ .tails t s := by
  have h' : fu t.lets.reverse ≠ fu s.lets.reverse := fun z => h (by rw [lu_rev, lu_rev, z])
  obtain ⟨x, y, hx, hy, hne⟩ := fo_differ (fu_nodup _) (fu_nodup _) h'
  rw [fu_mem, fu_mem, List.mem_reverse, List.mem_reverse] at hx hy
  refine ⟨_, vals_two (x := x) (y := y) (by decide) (List.mem_append.mpr hx) (hy.imp id fun z => ⟨List.mem_append.mpr z, by decide⟩), fun e => ?_⟩
  have h1 := ev_tails x y t gt
  have h2 := ev_tails x y s gs
  rw [e, h2, ← fo_fu x y t.lets.reverse, ← fo_fu x y s.lets.reverse] at h1
  exact hne h1.symm
theorem tellS : TellS := fun k t s gt gs hk h => by
  cases k with
  | trees => exact absurd (by decide) hk
  | pairs => exact absurd (by decide) hk
  | words => exact absurd (by decide) hk
  | bags => exact ⟨.bags, by decide, tj_bags gt gs h⟩
  | parity => exact ⟨.parity, by decide, tj_parity gt gs h⟩
  | sets => exact ⟨.sets, by decide, tj_sets gt gs h⟩
  | heads =>
    rw [agr_heads, decide_eq_false_iff_not] at h
    exact ⟨.heads, by decide, tj_heads gt gs h⟩
  | tails =>
    rw [agr_tails, decide_eq_false_iff_not] at h
    exact ⟨.tails, by decide, tj_tails gt gs h⟩
  | lefts =>
    rw [agr_lefts, decide_eq_false_iff_not] at h
    exact ⟨.lefts, by decide, tj_lefts gt gs h⟩
  | rights =>
    rw [agr_rights, decide_eq_false_iff_not] at h
    exact ⟨.rights, by decide, tj_rights gt gs h⟩
  | one =>
    rw [agr_one] at h
    cases h
  | middles =>
    rw [agr_middles] at h
    by_cases h1 : fu t.lets = fu s.lets
    · by_cases h2 : lu t.lets = lu s.lets
      · rw [decide_eq_true h1, decide_eq_true h2] at h
        cases h
      · exact ⟨.tails, by decide, tj_tails gt gs h2⟩
    · exact ⟨.heads, by decide, tj_heads gt gs h1⟩
  | outer =>
    rw [agr_outer] at h
    by_cases h1 : fin0 t.lets = fin0 s.lets
    · by_cases h2 : fin1 t.lets = fin1 s.lets
      · rw [decide_eq_true h1, decide_eq_true h2] at h
        cases h
      · exact ⟨.rights, by decide, tj_rights gt gs h2⟩
    · exact ⟨.lefts, by decide, tj_lefts gt gs h1⟩
end
end W7
set_option maxRecDepth 100000
set_option maxHeartbeats 4000000
/-! WU: two trees that agree have one value under every operation of the kind -/
namespace W7
open PySem PySem.Spec PyProof.Rows L2 LamX NdefX
def vf (vals : List Nat) (z : Int) : Nat := vals.getD z.toNat 0
theorem vf_lt {vals : List Nat} {n : Nat} (hl : vals.length = 4) (hv : ∀ z ∈ vals, z < n) {x : Int} (h0 : 0 ≤ x) (h4 : x < 4) : vf vals x < n := by
  have : x.toNat < vals.length := by omega
  unfold vf
  rw [List.getD_eq_getElem?_getD, List.getElem?_eq_getElem this]
  exact hv _ (List.getElem_mem this)
section
variable {t s : Tr} {n : Nat} {op : Nat → Nat → Nat} {vals : List Nat}
theorem ev_ws (clo : ∀ a b, a < n → b < n → op a b < n) (hl : vals.length = 4) (hv : ∀ z ∈ vals, z < n) (hc : ∀ a b, a < n → b < n → op a b = op b a) : ∀ t : Tr, Ok4 t → ev op vals t.ws = ev op vals t
  | .lf _, _ => rfl
  | .nd l r, h => by
    have h1 := ev_ws clo hl hv hc l h.nd.1
    have h2 := ev_ws clo hl hv hc r h.nd.2
    show ev op vals (pairT l.ws r.ws) = op (ev op vals l) (ev op vals r)
    rcases pair_or l.ws r.ws with e | e
    · rw [e]
      show op (ev op vals l.ws) (ev op vals r.ws) = _
      rw [h1, h2]
    · rw [e]
      show op (ev op vals r.ws) (ev op vals l.ws) = _
      rw [h1, h2]
      exact hc _ _ (ev_lt clo hv hl r h.nd.2) (ev_lt clo hv hl l h.nd.1)
theorem sum_perm {a b : List Nat} (h : a.Perm b) : a.sum = b.sum := by
  induction h with
  | nil => rfl
  | cons x _ ih => rw [List.sum_cons, List.sum_cons, ih]
  | swap x y l => simp only [List.sum_cons]; omega
  | trans _ _ h1 h2 => exact h1.trans h2
theorem ev_bagsN (hn : 2 ≤ n ∧ n ≤ 4) (hl : vals.length = 4) (hv : ∀ z ∈ vals, z < n) (t : Tr) (g : Gd t) : ev (fun a b => if n = 4 then (a + b) % 4 else min (a + b) (n - 1)) vals t = if n = 4 then (t.lets.map (vf vals)).sum % 4 else min (t.lets.map (vf vals)).sum (n - 1) := by
  refine ev_rel (fun a v => v = if n = 4 then (a.map (vf vals)).sum % 4 else min (a.map (vf vals)).sum (n - 1)) (fun z h0 h4 => ?_) (fun a b v w hv hw _ => ?_) t g.1 g.2
  · have := vf_lt hl hv h0 h4
    show vf vals z = if n = 4 then ([vf vals z]).sum % 4 else min ([vf vals z]).sum (n - 1)
    rw [List.sum_singleton]
    split <;> omega
  · show (if n = 4 then (v + w) % 4 else min (v + w) (n - 1)) = if n = 4 then ((a ++ b).map (vf vals)).sum % 4 else min ((a ++ b).map (vf vals)).sum (n - 1)
    have hv : v = if n = 4 then (a.map (vf vals)).sum % 4 else min (a.map (vf vals)).sum (n - 1) := hv
    have hw : w = if n = 4 then (b.map (vf vals)).sum % 4 else min (b.map (vf vals)).sum (n - 1) := hw
    rw [List.map_append, List.sum_append]
    split at hv
    · rename_i e
      simp only [if_pos e] at hw ⊢
      omega
    · rename_i e
      simp only [if_neg e] at hw ⊢
      omega
theorem ev_or (i : Nat) (t : Tr) (g : Gd t) : (ev (fun a b => Nat.lor a b) vals t).testBit i = t.lets.any fun z => (vf vals z).testBit i := by
  refine ev_rel (fun a v => v.testBit i = a.any fun z => (vf vals z).testBit i) (fun z h0 h4 => ?_) (fun a b v w hv hw _ => ?_) t g.1 g.2
  · show (vf vals z).testBit i = _
    simp
  · show (v ||| w).testBit i = _
    have hv : v.testBit i = a.any fun z => (vf vals z).testBit i := hv
    have hw : w.testBit i = b.any fun z => (vf vals z).testBit i := hw
    rw [Nat.testBit_or, hv, hw, List.any_append]
def par (h : Int → Bool) : List Int → Bool
  | [] => false
  | z :: r => h z ^^ par h r
theorem par_app (h : Int → Bool) (b : List Int) : ∀ a : List Int, par h (a ++ b) = (par h a ^^ par h b)
  | [] => by simp [par]
  | z :: r => by
    show (h z ^^ par h (r ++ b)) = ((h z ^^ par h r) ^^ par h b)
    rw [par_app h b r, Bool.xor_assoc]
theorem ev_xor (i : Nat) (t : Tr) (g : Gd t) : (ev (fun a b => Nat.xor a b) vals t).testBit i = par (fun z => (vf vals z).testBit i) t.lets := by
  refine ev_rel (fun a v => v.testBit i = par (fun z => (vf vals z).testBit i) a) (fun z h0 h4 => ?_) (fun a b v w hv hw _ => ?_) t g.1 g.2
  · show (vf vals z).testBit i = ((vf vals z).testBit i ^^ false)
    rw [Bool.xor_false]
  · show (v ^^^ w).testBit i = _
    have hv : v.testBit i = par (fun z => (vf vals z).testBit i) a := hv
    have hw : w.testBit i = par (fun z => (vf vals z).testBit i) b := hw
    rw [Nat.testBit_xor, hv, hw, par_app]
def cb (l : List Int) (x : Int) : Bool := l.count x % 2 == 1
theorem cb_self (l : List Int) (x : Int) : cb (x :: l) x = !cb l x := by
  unfold cb
  rw [List.count_cons_self]
  rw [Bool.eq_iff_iff]
  simp
  omega
theorem cb_ne (l : List Int) {x y : Int} (h : y ≠ x) : cb (y :: l) x = cb l x := by
  unfold cb
  rw [List.count_cons_of_ne h]
theorem par_cnt (h : Int → Bool) : ∀ l : List Int, okR l → par h l = (((h 0 && cb l 0) ^^ (h 1 && cb l 1)) ^^ ((h 2 && cb l 2) ^^ (h 3 && cb l 3)))
  | [], _ => by simp [par, cb]
  | z :: r, hr => by
    have ih := par_cnt h r fun y hy => hr y (by simp [hy])
    have hz := int4 (hr z (by simp))
    show (h z ^^ par h r) = _
    rw [ih]
    rcases hz with e | e | e | e <;> subst e
    · rw [cb_self, cb_ne r (by decide), cb_ne r (by decide), cb_ne r (by decide)]
      generalize h 0 = a; generalize h 1 = b; generalize h 2 = c; generalize h 3 = d; generalize cb r 0 = e; generalize cb r 1 = f; generalize cb r 2 = g; generalize cb r 3 = k
      revert a b c d e f g k; decide
    · rw [cb_self, cb_ne r (by decide), cb_ne r (by decide), cb_ne r (by decide)]
      generalize h 0 = a; generalize h 1 = b; generalize h 2 = c; generalize h 3 = d; generalize cb r 0 = e; generalize cb r 1 = f; generalize cb r 2 = g; generalize cb r 3 = k
      revert a b c d e f g k; decide
    · rw [cb_self, cb_ne r (by decide), cb_ne r (by decide), cb_ne r (by decide)]
      generalize h 0 = a; generalize h 1 = b; generalize h 2 = c; generalize h 3 = d; generalize cb r 0 = e; generalize cb r 1 = f; generalize cb r 2 = g; generalize cb r 3 = k
      revert a b c d e f g k; decide
    · rw [cb_self, cb_ne r (by decide), cb_ne r (by decide), cb_ne r (by decide)]
      generalize h 0 = a; generalize h 1 = b; generalize h 2 = c; generalize h 3 = d; generalize cb r 0 = e; generalize cb r 1 = f; generalize cb r 2 = g; generalize cb r 3 = k
      revert a b c d e f g k; decide
/-! words -/
theorem addN_nodup {α : Type} [DecidableEq α] {ps : List α} {x : α} (h : ps.Nodup) : (addN ps x).Nodup := by
  unfold addN
  split
  · exact h
  · rename_i n
    exact List.nodup_append.mpr ⟨h, by simp, fun a ha b hb => by rw [List.mem_singleton.mp hb]; exact fun z => n (z ▸ ha)⟩
theorem FN_nodup {w : List Nat} {s : Nat} {ps : List (List Nat)} (h : ps.Nodup) : ∀ j, (FN w s ps j).Nodup
  | 0 => h
  | j + 1 => addN_nodup (FN_nodup h j)
theorem facsN_nodup (w : List Nat) : ∀ s, (facsN w s).Nodup
  | 0 => by simp [facsN]
  | s + 1 => FN_nodup (facsN_nodup w s) _
theorem idx_self {α : Type} [DecidableEq α] {l : List α} (nd : l.Nodup) {i : Nat} {x : α} (h : l[i]? = some x) : idx x l = i := by
  have hm := List.mem_of_getElem? h
  have h1 := idx_at hm
  have hi := (List.getElem?_eq_some_iff.mp h).1
  rw [← h] at h1
  exact (List.getElem?_inj (idx_lt hm) nd).mp h1
/-- put together, if all are there -/
def wj (ps : List (List Nat)) (vals : List Nat) : List Int → Option (List Nat)
  | [] => some []
  | z :: r => match ps[vf vals z]?, wj ps vals r with
    | some u, some v => some (u ++ v)
    | _, _ => none
def enc (ps : List (List Nat)) : Option (List Nat) → Nat
  | some u => idx u ps
  | none => ps.length
theorem wj_app (ps : List (List Nat)) (vals : List Nat) (b : List Int) : ∀ a : List Int, wj ps vals (a ++ b) = match wj ps vals a, wj ps vals b with | some u, some v => some (u ++ v) | _, _ => none
  | [] => by
    show wj ps vals b = match some [], wj ps vals b with | some u, some v => some (u ++ v) | _, _ => none
    cases wj ps vals b <;> rfl
  | z :: r => by
    show (match ps[vf vals z]?, wj ps vals (r ++ b) with | some u, some v => some (u ++ v) | _, _ => none) = match (match ps[vf vals z]?, wj ps vals r with | some u, some v => some (u ++ v) | _, _ => none), wj ps vals b with | some u, some v => some (u ++ v) | _, _ => none
    rw [wj_app ps vals b r]
    cases ps[vf vals z]? <;> cases wj ps vals r <;> cases wj ps vals b <;> simp
theorem ev_wordsN {w : List Nat} (t : Tr) (g : Gd t) (hl : vals.length = 4) (hv : ∀ z ∈ vals, z < (facs w).length + 1) : ev (opF w) vals t = enc (facs w) (wj (facs w) vals t.lets) := by
  refine ev_rel (fun a v => v = enc (facs w) (wj (facs w) vals a)) (fun z h0 h4 => ?_) (fun a b v u hv hu _ => ?_) t g.1 g.2
  · have hz := vf_lt hl hv h0 h4
    show vf vals z = enc (facs w) (match (facs w)[vf vals z]?, some [] with | some u, some v => some (u ++ v) | _, _ => none)
    cases e : (facs w)[vf vals z]? with
    | none =>
      have := List.getElem?_eq_none_iff.mp e
      show vf vals z = (facs w).length
      omega
    | some x =>
      show vf vals z = idx (x ++ []) (facs w)
      rw [List.append_nil]
      exact (idx_self (facsN_nodup w _) e).symm
  · have hv : v = enc (facs w) (wj (facs w) vals a) := hv
    have hu : u = enc (facs w) (wj (facs w) vals b) := hu
    show opF w v u = enc (facs w) (wj (facs w) vals (a ++ b))
    rw [wj_app, hv, hu]
    unfold opF opP
    cases ea : wj (facs w) vals a with
    | none =>
      rw [if_neg (fun z => Nat.lt_irrefl (facs w).length (And.left (b := enc (facs w) (wj (facs w) vals b) < (facs w).length) z) : ¬ (enc (facs w) none < (facs w).length ∧ enc (facs w) (wj (facs w) vals b) < (facs w).length))]
      rfl
    | some x =>
      cases eb : wj (facs w) vals b with
      | none =>
        rw [if_neg (fun z => Nat.lt_irrefl (facs w).length (And.right (a := enc (facs w) (some x) < (facs w).length) z) : ¬ (enc (facs w) (some x) < (facs w).length ∧ enc (facs w) none < (facs w).length))]
        rfl
      | some y =>
        show (if idx x (facs w) < (facs w).length ∧ idx y (facs w) < (facs w).length then idx ((facs w).getD (idx x (facs w)) [] ++ (facs w).getD (idx y (facs w)) []) (facs w) else (facs w).length) = idx (x ++ y) (facs w)
        by_cases hx : x ∈ facs w
        · by_cases hy : y ∈ facs w
          · rw [if_pos ⟨idx_lt hx, idx_lt hy⟩, idx_getD hx, idx_getD hy]
          · rw [if_neg fun z => ?_, idx_none fun z => hy (facs_cut z).2]
            rw [idx_none hy] at z
            exact Nat.lt_irrefl _ z.2
        · rw [if_neg fun z => ?_, idx_none fun z => hx (facs_cut z).1]
          rw [idx_none hx] at z
          exact Nat.lt_irrefl _ z.1
/-! marks -/
theorem snoc_indN {p : List Nat → Prop} (h0 : p []) (h1 : ∀ l x, p l → p (l ++ [x])) (l : List Nat) : p l := by
  have : ∀ r : List Nat, p r.reverse := fun r => by
    induction r with
    | nil => exact h0
    | cons x r ih => rw [List.reverse_cons]; exact h1 _ _ ih
  have := this l.reverse
  rw [List.reverse_reverse] at this
  exact this
theorem fuN_l (a b : List Nat) : fuN (a ++ b) = fuN (fuN a ++ b) := by
  have idem : fuN (fuN a) = fuN a := by
    refine snoc_indN (p := fun a => fuN (fuN a) = fuN a) rfl (fun l x ih => ?_) a
    rw [fuN_snoc]
    split
    · exact ih
    · rename_i n
      rw [fuN_snoc, if_neg fun z => n ((fuN_mem x l).mp z), ih]
  refine snoc_indN (p := fun b => fuN (a ++ b) = fuN (fuN a ++ b)) (by rw [List.append_nil, List.append_nil, idem]) (fun l x ih => ?_) b
  rw [← List.append_assoc, ← List.append_assoc, fuN_snoc, fuN_snoc, ih]
  have e : (x ∈ a ++ l) ↔ (x ∈ fuN a ++ l) := by rw [List.mem_append, List.mem_append, fuN_mem]
  by_cases h : x ∈ a ++ l
  · rw [if_pos h, if_pos (e.mp h)]
  · rw [if_neg h, if_neg fun z => h (e.mpr z)]
theorem fuN_r (a b : List Nat) : fuN (a ++ b) = fuN (a ++ fuN b) := by
  refine snoc_indN (p := fun b => fuN (a ++ b) = fuN (a ++ fuN b)) rfl (fun l x ih => ?_) b
  rw [← List.append_assoc, fuN_snoc, fuN_snoc]
  by_cases hx : x ∈ l
  · rw [if_pos (List.mem_append_right _ hx), if_pos hx]
    exact ih
  · rw [if_neg hx, ← List.append_assoc, fuN_snoc, ih]
    have e : (x ∈ a ++ l) ↔ (x ∈ a ++ fuN l) := by rw [List.mem_append, List.mem_append, fuN_mem]
    by_cases h : x ∈ a ++ l
    · rw [if_pos h, if_pos (e.mp h)]
    · rw [if_neg h, if_neg fun z => h (e.mpr z)]
theorem fuN_app {a b c d : List Nat} (h : fuN a = fuN c) (k : fuN b = fuN d) : fuN (a ++ b) = fuN (c ++ d) := by
  rw [fuN_l a b, fuN_r (fuN a) b, h, k, ← fuN_r, ← fuN_l]
theorem luN_rev (l : List Nat) : luN l = (fuN l.reverse).reverse := by
  unfold fuN
  rw [List.reverse_reverse, List.reverse_reverse]
theorem luN_app {a b c d : List Nat} (h : luN a = luN c) (k : luN b = luN d) : luN (a ++ b) = luN (c ++ d) := by
  have e : ∀ x y : List Nat, luN x = luN y → fuN x.reverse = fuN y.reverse := fun x y h => by
    rw [luN_rev, luN_rev] at h
    exact List.reverse_inj.mp h
  rw [luN_rev, luN_rev, List.reverse_append, List.reverse_append, fuN_app (e _ _ k) (e _ _ h)]
theorem shr_app (y : Int) {a b c d : List Nat} (h : shr y a = shr y c) (k : shr y b = shr y d) : shr y (a ++ b) = shr y (c ++ d) := by
  unfold shr at *
  split
  · rename_i e
    rw [if_pos e, if_pos e] at h k
    exact fuN_app h k
  · rename_i e
    rw [if_neg e, if_neg e] at h k
    exact luN_app h k
theorem mark_app {ways : List Int} {a b c d : List Nat} (h : mark ways a = mark ways c) (k : mark ways b = mark ways d) : mark ways (a ++ b) = mark ways (c ++ d) := by
  unfold mark at *
  rw [List.map_inj_left] at h k ⊢
  exact fun y hy => shr_app y (h y hy) (k y hy)
theorem fuN_in {a b : List Nat} (h : ∀ x ∈ b, x ∈ a) : fuN (a ++ b) = fuN a := by
  refine snoc_indN (p := fun b => (∀ x ∈ b, x ∈ a) → fuN (a ++ b) = fuN a) (fun _ => by rw [List.append_nil]) (fun l x ih h => ?_) b h
  rw [← List.append_assoc, fuN_snoc, if_pos (List.mem_append_left _ (h x (by simp)))]
  exact ih fun y hy => h y (by simp [hy])
theorem fuN_fu (φ : Int → List Nat) (l : List Int) : fuN (l.flatMap φ) = fuN ((fu l).flatMap φ) := by
  refine snoc_ind (p := fun l => fuN (l.flatMap φ) = fuN ((fu l).flatMap φ)) rfl (fun l z ih => ?_) l
  rw [List.flatMap_append, fu_snoc, List.flatMap_singleton]
  split
  · rename_i h
    rw [fuN_in fun x hx => List.mem_flatMap.mpr ⟨z, h, hx⟩]
    exact ih
  · rw [List.flatMap_append, List.flatMap_singleton]
    exact fuN_app ih rfl
theorem flat_rev (φ : Int → List Nat) : ∀ l : List Int, (l.flatMap φ).reverse = l.reverse.flatMap fun z => (φ z).reverse
  | [] => rfl
  | z :: r => by rw [List.flatMap_cons, List.reverse_append, flat_rev φ r, List.reverse_cons, List.flatMap_append, List.flatMap_singleton]
theorem luN_lu (φ : Int → List Nat) {a b : List Int} (h : lu a = lu b) : luN (a.flatMap φ) = luN (b.flatMap φ) := by
  rw [lu_rev, lu_rev] at h
  have h := List.reverse_inj.mp h
  rw [luN_rev, luN_rev, flat_rev, flat_rev, fuN_fu, fuN_fu _ b.reverse, h]
theorem ev_marks {ways : List Int} {ws : List (List Nat)} (clo : ∀ i, i < ws.length → ∀ j, j < ws.length → mark ways (ws.getD i [] ++ ws.getD j []) ∈ ws.map (mark ways)) (hl : vals.length = 4) (hv : ∀ z ∈ vals, z < ws.length) (t : Tr) (g : Gd t) :
    ev (opW ways ws) vals t < ws.length ∧ mark ways (ws.getD (ev (opW ways ws) vals t) []) = mark ways (t.lets.flatMap fun z => ws.getD (vf vals z) []) := by
  refine ev_rel (fun a v => v < ws.length ∧ mark ways (ws.getD v []) = mark ways (a.flatMap fun z => ws.getD (vf vals z) [])) (fun z h0 h4 => ⟨vf_lt hl hv h0 h4, ?_⟩) (fun a b v u hv hu _ => ?_) t g.1 g.2
  · rw [List.flatMap_singleton]
    rfl
  · have hm := clo v hv.1 u hu.1
    have h1 := idx_lt hm
    rw [List.length_map] at h1
    refine ⟨h1, ?_⟩
    have h2 := idx_at hm
    rw [List.getElem?_map] at h2
    obtain ⟨x, hx, e⟩ := Option.map_eq_some_iff.mp h2
    have e2 : ws.getD (opW ways ws v u) [] = x := getD_at hx
    rw [e2, e, List.flatMap_append]
    exact mark_app hv.2 hu.2
theorem inj5 : ∀ y ∈ [[(0 : Int)], [1]], ∀ i, i < wds5.length → ∀ j, j < wds5.length → mark y (wds5.getD i []) = mark y (wds5.getD j []) → i = j := by decide +kernel
theorem inj7 : ∀ i, i < wds7.length → ∀ j, j < wds7.length → mark [0, 1] (wds7.getD i []) = mark [0, 1] (wds7.getD j []) → i = j := by decide +kernel
theorem clo7 : ∀ i, i < wds7.length → ∀ j, j < wds7.length → mark [0, 1] (wds7.getD i [] ++ wds7.getD j []) ∈ wds7.map (mark [0, 1]) := by decide +kernel
theorem mark0 {φ : Int → List Nat} {a b : List Int} (h : fu a = fu b) : shr 0 (a.flatMap φ) = shr 0 (b.flatMap φ) := by
  show fuN _ = fuN _
  rw [fuN_fu, fuN_fu φ b, h]
theorem mark1 {φ : Int → List Nat} {a b : List Int} (h : lu a = lu b) : shr 1 (a.flatMap φ) = shr 1 (b.flatMap φ) := luN_lu φ h
theorem vals_map {vals : List Nat} (hl : vals.length = 4) : ((List.range 4).map fun i => vals.getD i 0) = vals := by
  have := range_map (fun x : Nat => x) vals 0
  rw [hl, List.map_id'] at this
  exact this
theorem ev_outer {m : Nat} (h2 : 2 ≤ m) (t : Tr) (g : Gd t) : ev (fun a b => a / m * m + b % m) vals t = vf vals (fin0 t.lets) / m * m + vf vals (fin1 t.lets) % m := by
  refine (ev_rel (fun a v => a ≠ [] ∧ v = vf vals (fin0 a) / m * m + vf vals (fin1 a) % m) (fun z h0 h4 => ⟨by simp, ?_⟩) (fun a b v w hv hw _ => ⟨by simp [hv.1], ?_⟩) t g.1 g.2).2
  · show vf vals z = vf vals z / m * m + vf vals z % m
    rw [Nat.div_add_mod']
  · have e0 : fin0 (a ++ b) = fin0 a := by
      cases a with
      | nil => exact absurd rfl hv.1
      | cons _ _ => rfl
    show v / m * m + w % m = _
    rw [e0, fin1_app _ hw.1, hv.2, hw.2]
    generalize vf vals (fin0 a) = A
    generalize vf vals (fin1 a) = B
    generalize vf vals (fin0 b) = C
    generalize vf vals (fin1 b) = E
    have hm : 0 < m := by omega
    have h1 : (A / m * m + B % m) / m = A / m := by
      rw [Nat.add_comm, Nat.add_mul_div_right _ _ hm, Nat.div_eq_of_lt (Nat.mod_lt _ hm), Nat.zero_add]
    have h3 : (C / m * m + E % m) % m = E % m := by
      rw [Nat.add_comm, Nat.add_mul_mod_self_right, Nat.mod_mod]
    rw [h1, h3]
/-! every kind -/
theorem base_sound (k : Kd) (hro : RowsOf k n op) (clo : ∀ a b, a < n → b < n → op a b < n) (gt : Gd t) (gs : Gd s) (h : agr k t s = true) (hl : vals.length = 4) (hv : ∀ z ∈ vals, z < n) : ev op vals t = ev op vals s := by
  cases k with
  | trees =>
    rw [agr_trees, decide_eq_true_iff] at h
    rw [h]
  | pairs =>
    rw [agr_pairs, decide_eq_true_iff] at h
    rw [← ev_ws clo hl hv hro t gt.1, ← ev_ws clo hl hv hro s gs.1, h]
  | words =>
    rw [agr_words, decide_eq_true_iff] at h
    obtain ⟨w, _, rfl, rfl⟩ := hro
    rw [ev_wordsN t gt hl hv, ev_wordsN s gs hl hv, h]
  | bags =>
    rw [agr_bags, decide_eq_true_iff, asc_iff] at h
    obtain ⟨h2, h4, rfl⟩ := hro
    rw [ev_bagsN ⟨h2, h4⟩ hl hv t gt, ev_bagsN ⟨h2, h4⟩ hl hv s gs, sum_perm (h.map _)]
  | parity =>
    rw [agr_parity, decide_eq_true_iff, asc_iff] at h
    obtain ⟨_, rfl⟩ := hro
    refine Nat.eq_of_testBit_eq fun i => ?_
    rw [ev_xor i t gt, ev_xor i s gs, par_cnt _ _ gt.1, par_cnt _ _ gs.1]
    have e : ∀ x, cb t.lets x = cb s.lets x := fun x => by
      have := h.mem_iff (a := x)
      rw [odds_mem, odds_mem] at this
      unfold cb
      rw [Bool.eq_iff_iff, beq_iff_eq, beq_iff_eq]
      exact this
    rw [e, e, e, e]
  | sets =>
    rw [agr_sets, decide_eq_true_iff, asc_iff] at h
    obtain ⟨_, rfl⟩ := hro
    refine Nat.eq_of_testBit_eq fun i => ?_
    rw [ev_or i t gt, ev_or i s gs, Bool.eq_iff_iff, List.any_eq_true, List.any_eq_true]
    have e : ∀ x, x ∈ t.lets ↔ x ∈ s.lets := fun x => by
      have := h.mem_iff (a := x)
      rw [fu_mem, fu_mem] at this
      exact this
    exact ⟨fun ⟨x, hx, q⟩ => ⟨x, (e x).mp hx, q⟩, fun ⟨x, hx, q⟩ => ⟨x, (e x).mpr hx, q⟩⟩
  | heads =>
    rw [agr_heads, decide_eq_true_iff] at h
    obtain ⟨rfl, rfl⟩ := hro
    obtain ⟨a1, a2⟩ := ev_marks (ways := [0]) (ws := wds5) heads_clo hl hv t gt
    obtain ⟨b1, b2⟩ := ev_marks (ways := [0]) (ws := wds5) heads_clo hl hv s gs
    refine inj5 [0] (by simp) _ a1 _ b1 (a2.trans (Eq.trans ?_ b2.symm))
    show [shr 0 _] = [shr 0 _]
    rw [mark0 h]
  | tails =>
    rw [agr_tails, decide_eq_true_iff] at h
    obtain ⟨rfl, rfl⟩ := hro
    obtain ⟨a1, a2⟩ := ev_marks (ways := [1]) (ws := wds5) tails_clo hl hv t gt
    obtain ⟨b1, b2⟩ := ev_marks (ways := [1]) (ws := wds5) tails_clo hl hv s gs
    refine inj5 [1] (by simp) _ a1 _ b1 (a2.trans (Eq.trans ?_ b2.symm))
    show [shr 1 _] = [shr 1 _]
    rw [mark1 h]
  | middles =>
    rw [agr_middles, Bool.and_eq_true, decide_eq_true_iff, decide_eq_true_iff] at h
    obtain ⟨rfl, rfl⟩ := hro
    obtain ⟨a1, a2⟩ := ev_marks (ways := [0, 1]) (ws := wds7) clo7 hl hv t gt
    obtain ⟨b1, b2⟩ := ev_marks (ways := [0, 1]) (ws := wds7) clo7 hl hv s gs
    refine inj7 _ a1 _ b1 (a2.trans (Eq.trans ?_ b2.symm))
    show [shr 0 _, shr 1 _] = [shr 0 _, shr 1 _]
    rw [mark0 h.1, mark1 h.2]
  | lefts =>
    rw [agr_lefts, decide_eq_true_iff] at h
    have hro : op = fun a _ => a := hro
    subst hro
    rw [← vals_map hl, ev_lefts _ t gt, ev_lefts _ s gs, h]
  | rights =>
    rw [agr_rights, decide_eq_true_iff] at h
    have hro : op = fun _ b => b := hro
    subst hro
    rw [← vals_map hl, ev_rights _ t gt, ev_rights _ s gs, h]
  | outer =>
    rw [agr_outer, Bool.and_eq_true, decide_eq_true_iff, decide_eq_true_iff] at h
    obtain ⟨m, h2, _, _, rfl⟩ := hro
    rw [ev_outer h2 t gt, ev_outer h2 s gs, h.1, h.2]
  | one =>
    obtain ⟨rfl, rfl⟩ := hro
    have h1 := ev_lt clo hv hl t gt.1
    have h2 := ev_lt clo hv hl s gs.1
    omega
end
theorem ev_conj {n : Nat} {op M : Nat → Nat → Nat} {od : List Nat} {vals : List Nat} (clo : ∀ a b, a < n → b < n → op a b < n) (conj : ∀ a b, a < n → b < n → M (od.getD a 0) (od.getD b 0) = od.getD (op a b) 0) (hl : vals.length = 4) (hv : ∀ z ∈ vals, z < n) : ∀ t : Tr, Ok4 t → ev M (vals.map fun v => od.getD v 0) t = od.getD (ev op vals t) 0
  | .lf x, h => by
    have hx : 0 ≤ x ∧ x < 4 := h x (by simp [Tr.lets])
    have h1 : x.toNat < vals.length := by omega
    show (vals.map fun v => od.getD v 0).getD x.toNat 0 = od.getD (vals.getD x.toNat 0) 0
    rw [List.getD_eq_getElem?_getD, List.getElem?_map, List.getD_eq_getElem?_getD (l := vals), List.getElem?_eq_getElem h1]
    rfl
  | .nd l r, h => by
    show M (ev M _ l) (ev M _ r) = od.getD (op (ev op vals l) (ev op vals r)) 0
    rw [ev_conj clo conj hl hv l h.nd.1, ev_conj clo conj hl hv r h.nd.2]
    exact conj _ _ (ev_lt clo hv hl l h.nd.1) (ev_lt clo hv hl r h.nd.2)
theorem soundA : SoundA := fun k n op od M t s hro clo hod conj gt gs h vals hl hv => by
  have onto : ∀ a, ∃ a', a < n → a' < n ∧ od.getD a' 0 = a := fun a => by
    by_cases ha : a < n
    · have hm : a ∈ od := hod.mem_iff.mpr (List.mem_range.mpr ha)
      obtain ⟨i, hi, e⟩ := List.getElem_of_mem hm
      have hl : od.length = n := by rw [hod.length_eq, List.length_range]
      refine ⟨i, fun _ => ⟨by omega, ?_⟩⟩
      rw [List.getD_eq_getElem?_getD, List.getElem?_eq_getElem hi]
      exact e
    · exact ⟨0, fun z => absurd z ha⟩
  obtain ⟨g, hg⟩ := Classical.axiomOfChoice onto
  have hl' : (vals.map g).length = 4 := by rw [List.length_map, hl]
  have hv' : ∀ z ∈ vals.map g, z < n := fun z hz => by
    obtain ⟨y, hy, rfl⟩ := List.mem_map.mp hz
    exact (hg y (hv y hy)).1
  have e : (vals.map g).map (fun v => od.getD v 0) = vals := by
    rw [List.map_map]
    conv => rhs; rw [← List.map_id vals]
    exact List.map_congr_left fun y hy => (hg y (hv y hy)).2
  rw [← e, ev_conj clo conj hl' hv' t gt.1, ev_conj clo conj hl' hv' s gs.1, base_sound k hro clo gt gs h hl' hv']
end W7
set_option maxRecDepth 100000
set_option maxHeartbeats 0
/-! WV: the head: what the top has written -/
namespace W7
open PySem PySem.Spec PyProof.Rows L2 LamX NdefX
def d7 : He.DefD := ⟨("rules_of", none), "rules_of", "rules_of", defArgs (top 7), defBody (top 7), defScope (top 7), [], []⟩
def d9 : He.DefD := ⟨("letters", none), "letters", "letters", defArgs (top 9), defBody (top 9), defScope (top 9), [], []⟩
def d10 : He.DefD := ⟨("value_of", none), "value_of", "value_of", defArgs (top 10), defBody (top 10), defScope (top 10), [], []⟩
def d11 : He.DefD := ⟨("first_uses", none), "first_uses", "first_uses", defArgs (top 11), defBody (top 11), defScope (top 11), [], []⟩
def d12 : He.DefD := ⟨("last_uses", none), "last_uses", "last_uses", defArgs (top 12), defBody (top 12), defScope (top 12), [], []⟩
def d13 : He.DefD := ⟨("ascending", none), "ascending", "ascending", defArgs (top 13), defBody (top 13), defScope (top 13), [], []⟩
def d14 : He.DefD := ⟨("pair_of", none), "pair_of", "pair_of", defArgs (top 14), defBody (top 14), defScope (top 14), [], []⟩
def d15 : He.DefD := ⟨("without_sides", none), "without_sides", "without_sides", defArgs (top 15), defBody (top 15), defScope (top 15), [], []⟩
def d16 : He.DefD := ⟨("sense", none), "sense", "sense", defArgs (top 16), defBody (top 16), defScope (top 16), [], []⟩
def d17 : He.DefD := ⟨("do_agree", none), "do_agree", "do_agree", defArgs (top 17), defBody (top 17), defScope (top 17), [], []⟩
def d19 : He.DefD := ⟨("_law_pen", none), "_law_pen", "_law_pen", defArgs (top 19), defBody (top 19), defScope (top 19), [], []⟩
def d20 : He.DefD := ⟨("_law_draw", none), "_law_draw", "_law_draw", defArgs (top 20), defBody (top 20), defScope (top 20), [], []⟩
def d21 : He.DefD := ⟨("_law_pick", none), "_law_pick", "_law_pick", defArgs (top 21), defBody (top 21), defScope (top 21), [], []⟩
def d22 : He.DefD := ⟨("_law_shuffled", none), "_law_shuffled", "_law_shuffled", defArgs (top 22), defBody (top 22), defScope (top 22), [], []⟩
def d23 : He.DefD := ⟨("_law_leaves", none), "_law_leaves", "_law_leaves", defArgs (top 23), defBody (top 23), defScope (top 23), [], []⟩
def d24 : He.DefD := ⟨("_law_bracketed", none), "_law_bracketed", "_law_bracketed", defArgs (top 24), defBody (top 24), defScope (top 24), [], []⟩
def d25 : He.DefD := ⟨("_law_factor_rows", none), "_law_factor_rows", "_law_factor_rows", defArgs (top 25), defBody (top 25), defScope (top 25), [], []⟩
def d26 : He.DefD := ⟨("_law_kind_rows", none), "_law_kind_rows", "_law_kind_rows", defArgs (top 26), defBody (top 26), defScope (top 26), [], []⟩
def d27 : He.DefD := ⟨("_law_nine", none), "_law_nine", "_law_nine", defArgs (top 27), defBody (top 27), defScope (top 27), [], []⟩
def d28 : He.DefD := ⟨("_law_thirteen", none), "_law_thirteen", "_law_thirteen", defArgs (top 28), defBody (top 28), defScope (top 28), [], []⟩
def d29 : He.DefD := ⟨("_law_shortened", none), "_law_shortened", "_law_shortened", defArgs (top 29), defBody (top 29), defScope (top 29), [], []⟩
def d30 : He.DefD := ⟨("_law_word_rows", none), "_law_word_rows", "_law_word_rows", defArgs (top 30), defBody (top 30), defScope (top 30), [], []⟩
def d31 : He.DefD := ⟨("_law_twisted_rows", none), "_law_twisted_rows", "_law_twisted_rows", defArgs (top 31), defBody (top 31), defScope (top 31), [], []⟩
def d32 : He.DefD := ⟨("_law_sides_turned", none), "_law_sides_turned", "_law_sides_turned", defArgs (top 32), defBody (top 32), defScope (top 32), [], []⟩
def d33 : He.DefD := ⟨("_law_differ", none), "_law_differ", "_law_differ", defArgs (top 33), defBody (top 33), defScope (top 33), [], []⟩
def d34 : He.DefD := ⟨("_law_values_all", none), "_law_values_all", "_law_values_all", defArgs (top 34), defBody (top 34), defScope (top 34), [], []⟩
def d35 : He.DefD := ⟨("_law_ordered", none), "_law_ordered", "_law_ordered", defArgs (top 35), defBody (top 35), defScope (top 35), [], []⟩
def d36 : He.DefD := ⟨("_law_tree_rows", none), "_law_tree_rows", "_law_tree_rows", defArgs (top 36), defBody (top 36), defScope (top 36), [], []⟩
def d37 : He.DefD := ⟨("_law_word_operation", none), "_law_word_operation", "_law_word_operation", defArgs (top 37), defBody (top 37), defScope (top 37), [], []⟩
def d38 : He.DefD := ⟨("_law_told_apart", none), "_law_told_apart", "_law_told_apart", defArgs (top 38), defBody (top 38), defScope (top 38), [], []⟩
def d39 : He.DefD := ⟨("law", none), "law", "law", defArgs (top 39), defBody (top 39), defScope (top 39), [], []⟩
def fn : List He.DefD := ([d7, d9, d10, d11, d12, d13, d14, d15] : List He.DefD) ++ ([d16, d17, d19, d20, d21, d22, d23, d24] : List He.DefD) ++ ([d25, d26, d27, d28, d29, d30, d31, d32] : List He.DefD) ++ ([d33, d34, d35, d36, d37, d38, d39] : List He.DefD)
def faG : List Str := (["rules_of", "letters", "value_of", "first_uses", "last_uses", "ascending", "pair_of", "without_sides"] : List Str) ++ (["sense", "do_agree", "_law_pen", "_law_draw", "_law_pick", "_law_shuffled", "_law_leaves", "_law_bracketed"] : List Str) ++ (["_law_factor_rows", "_law_kind_rows", "_law_nine", "_law_thirteen", "_law_shortened", "_law_word_rows", "_law_twisted_rows", "_law_sides_turned"] : List Str) ++ (["_law_differ", "_law_values_all", "_law_ordered", "_law_tree_rows", "_law_word_operation", "_law_told_apart", "law", "KINDS"] : List Str) ++ (["CLOSED"] : List Str)
def faF : List Str := (["isinstance", "tuple", "list", "range", "len", "enumerate", "sorted", "int"] : List Str) ++ (["str", "repr", "min", "max", "abs"] : List Str)
def names : List Str := (["FoldError", "NoKind", "RULES", "KINDS", "CLOSED", "rules_of", "letters", "value_of"] : List Str) ++ (["first_uses", "last_uses", "ascending", "pair_of", "without_sides", "sense", "do_agree", "_law_pen"] : List Str) ++ (["_law_draw", "_law_pick", "_law_shuffled", "_law_leaves", "_law_bracketed", "_law_factor_rows", "_law_kind_rows", "_law_nine"] : List Str) ++ (["_law_thirteen", "_law_shortened", "_law_word_rows", "_law_twisted_rows", "_law_sides_turned", "_law_differ", "_law_values_all", "_law_ordered"] : List Str) ++ (["_law_tree_rows", "_law_word_operation", "_law_told_apart"] : List Str)
def fa : List He.Fa := faG.map He.Fa.glo ++ faF.map He.Fa.free
/-- a tuple of texts -/
def strsB : List Value → Bool
  | [] => true
  | .str _ _ :: r => strsB r
  | _ :: _ => false
def tupB (K : PySem.W.Frag) (a : Addr) (p : List Value → Bool) : Bool := match K.lookup a with
  | some ⟨.type c, _, .seq its _, _⟩ => decide (c = "tuple") && (Nat.ble its.size 100 && p its.toList)
  | _ => false
def ex (K : PySem.W.Frag) : Bool := tupB K (He.ga K "KINDS") (He.relAll (Kd.all.map fun k => V.str k.nm)) && Kd.all.all fun k => match PySem.W.nsIn K (He.ga K "CLOSED") k.nm with
  | some (some (.ref t)) => tupB K t strsB
  | _ => false
def ts : List He.Tab := [(fun K => He.ga K "CLOSED", Kd.all.map Kd.nm)]
def tf : List He.Defn := [("_law_differ", none)]
abbrev Rw : PySem.W.OpenRow := PySem.W.OpenLaw.row PySem.Challenge.rw_foldplans_k32_whole_trees_by_operations
abbrev hk : PySem.W.Hook := He.hookX 5 fa fn ts tf ex
noncomputable def ob (s : PySem.W.SharedT) : He.AlX := He.obsX 5 fa fn ts tf ex (HandSHeadRun.getT s)
theorem ob_eq (s : PySem.W.SharedT) : ob s = hk.obs s.abs := He.obsX_eq (HandSHeadRun.getT_eq s)
theorem run_f (w : World) : HandSHeadRun.RunEq Rw (PySem.W.view Rw.prog [39]) hk ob 20000 names (w.withFollow "special-get-raises" false) := by
  intro os
  kernel_rfl
theorem run_t (w : World) : HandSHeadRun.RunEq Rw (PySem.W.view Rw.prog [39]) hk ob 20000 names (w.withFollow "special-get-raises" true) := by
  intro os
  kernel_rfl
theorem run (w : World) : HandSHeadRun.RunEq Rw (PySem.W.view Rw.prog [39]) hk ob 20000 names w :=
  PySem.W.byRow2 "special-get-raises" (P := fun w => HandSHeadRun.RunEq Rw (PySem.W.view Rw.prog [39]) hk ob 20000 names w) run_f run_t w
end W7
set_option maxRecDepth 100000
set_option maxHeartbeats 4000000
/-! WX: the end, where the law's promise asks that no repr is under way -/
namespace W7
open PySem PySem.Spec PyProof.Rows L2 LamX NdefX
section
variable {P : Program} {w : World} {K : PySem.W.Frag} {mg mb : Str → Option Value} {h : Heap} {a c Pt : Addr} {vs : List Value} {ns : List Int}
/-- what is told of the heap at the law's call: its one code table, and the script if the top has not written it -/
def hp0 (K : PySem.W.Frag) (Pt a : Addr) (vs : List Value) (ns : List Int) : Hp := fun b =>
  if b = Pt then some (.tbl #[]) else if b = a ∧ (K.lookup a).isNone = true then some (.frz { cls := .type "list", data := .seq vs.toArray } (.lst (ns.map V.int))) else none
theorem hp0_tab : hp0 K Pt a vs ns Pt = some (.tbl #[]) := if_pos rfl
theorem hp0_some {b : Addr} {u : HO} (e : hp0 K Pt a vs ns b = some u) : (b = Pt ∧ u = .tbl #[]) ∨ (b = a ∧ (K.lookup a).isNone = true ∧ u = .frz { cls := .type "list", data := .seq vs.toArray } (.lst (ns.map V.int))) := by
  unfold hp0 at e
  by_cases h1 : b = Pt
  · rw [if_pos h1] at e
    exact .inl ⟨h1, (Option.some.inj e).symm⟩
  · rw [if_neg h1] at e
    by_cases h2 : b = a ∧ (K.lookup a).isNone = true
    · rw [if_pos h2] at e
      exact .inr ⟨h2.1, h2.2, (Option.some.inj e).symm⟩
    · rw [if_neg h2] at e
      cases e
/-- what the law's call finds -/
structure Law0 (K : PySem.W.Frag) (mg mb : Str → Option Value) (h : Heap) (c Pt a : Addr) (vs : List Value) (ns : List Int) : Prop where
  kin : K.In h
  gl : h.Ns mainGlobals mg
  bl : h.Ns builtinsNs mb
  bt : ∀ x : Str, x ≠ "__name__" → mb x = bootBuiltins x
  lim : h.NoLimit
  tab : h.get? Pt = some { cls := .none, data := .fields #[] }
  out : K.lookup Pt = none
  cd : PySem.W.codeHdIn K c Pt = true
  bm : ∃ (m : Addr) (o : Obj), mg "__builtins__" = some (.ref m) ∧ m ≠ builtinsNs ∧ h.get? m = some o ∧ o.cls = .type "module" ∧ o.dict = some builtinsNs ∧ o.data = .plain
  scr : h.get? a = some { cls := .type "list", data := .seq vs.toArray }
  its : IntsAre vs ns
  len : ns.length ≤ sizeLine
variable (L : Law0 K mg mb h c Pt a vs ns)
include L
theorem Law0.ok : HOk P w (hp0 K Pt a vs ns) h := fun b u e => by
  rcases hp0_some e with ⟨rfl, rfl⟩ | ⟨rfl, _, rfl⟩
  · exact L.tab
  · refine ⟨L.scr, ?_, vs, _, vals_ints L.its, L.scr⟩
    rw [List.length_map]
    exact L.len
theorem Law0.sq : SqL K (hp0 K Pt a vs ns) a (ns.map V.int) := by
  have nPa : a ≠ Pt := fun z => by
    have e := L.scr
    rw [z, L.tab] at e
    have e2 : Data.fields #[] = Data.seq vs.toArray _ := congrArg Obj.data (Option.some.inj e)
    cases e2
  cases e : K.lookup a with
  | none =>
    refine .inl (.inr ⟨{ cls := .type "list", data := .seq vs.toArray }, ?_⟩)
    unfold hp0
    rw [if_neg nPa, if_pos ⟨rfl, by rw [e]; rfl⟩]
  | some o =>
    have e2 := L.kin a o e
    rw [L.scr] at e2
    cases e2
    have l2 := L.its.length
    have l3 := L.len
    refine .inr ⟨_, vs.toArray, _, e, rfl, rfl, rfl, ?_, ?_⟩
    · show vs.toArray.size ≤ sizeLine
      rw [List.size_toArray]
      omega
    · simpa using vals_ints L.its
/-- nothing is told of an object of another kind -/
theorem Law0.gone {b : Addr} {o : Obj} (e : h.get? b = some o) (h1 : ∀ v n, o.data ≠ .seq v n) (h2 : o.data ≠ .fields #[]) : hp0 K Pt a vs ns b = none := by
  cases q : hp0 K Pt a vs ns b with
  | none => rfl
  | some u =>
    exfalso
    rcases hp0_some q with ⟨rfl, _⟩ | ⟨rfl, _, _⟩
    · have z := L.tab
      rw [e] at z
      exact h2 (congrArg Obj.data (Option.some.inj z))
    · have z := L.scr
      rw [e] at z
      exact h1 _ _ (congrArg Obj.data (Option.some.inj z))
theorem Law0.kinB : K.In (hidT h (hp0 K Pt a vs ns)) := fun b o e => hidT_get (L.kin b o e) (by
  cases q : hp0 K Pt a vs ns b with
  | none => rfl
  | some u =>
    exfalso
    rcases hp0_some q with ⟨rfl, _⟩ | ⟨rfl, z, _⟩
    · rw [L.out] at e; cases e
    · rw [e] at z; cases z)
theorem Law0.nsB {b : Addr} {m : Str → Option Value} (x : h.Ns b m) : (hidT h (hp0 K Pt a vs ns)).Ns b m := by
  obtain ⟨o, es, ep, e, d, r⟩ := x
  exact ⟨o, es, ep, hidT_get e (L.gone e (fun v n z => by rw [d] at z; cases z) fun z => by rw [d] at z; cases z), d, r⟩
theorem Law0.tb : TabB (hidT h (hp0 K Pt a vs ns)) mg c Pt := by
  have nG : mainGlobals ≠ Pt := fun z => by
    obtain ⟨o, es, ep, e, d, _⟩ := L.gl
    rw [z, L.tab] at e
    cases e
    cases d
  obtain ⟨m, o, b1, b2, b3, b4, b5, b6⟩ := L.bm
  have g1 : m ≠ mainGlobals := fun z => by
    obtain ⟨o2, es, ep, e, d, _⟩ := L.gl
    rw [← z, b3] at e
    cases e
    rw [b6] at d
    cases d
  have g2 : m ≠ Pt := fun z => by
    rw [z, L.tab] at b3
    cases b3
    cases b6
  exact tabB_of_K L.kinB L.cd ⟨m, o, b1, b2, g1, g2, hidT_get b3 (L.gone b3 (fun v n z => by rw [b6] at z; cases z) fun z => by rw [b6] at z; cases z), b4, b5, b6⟩ nG
end
/-- the law's call answers True and leaves all as it was -/
theorem law_end {P : Program} {w : World} {K : PySem.W.Frag} {mg mb : Str → Option Value} {k : Nat} {c Pt fa a : Addr} {fd : FuncData} {x : Str} {s : Shared} {vs : List Value} {ns : List Int} {sp : Sq}
    (L : Law0 K mg mb s.heap c Pt a vs ns) (hg : s.gens = #[]) (room : Room k callerA) (F : ∀ base : Heap, K.In base → base.Ns mainGlobals mg → TabB base mg c Pt → Fn P w K mg base k fa fd [x] sp)
    (bind : ∀ (s : Shared) (u : Value), BindsTo s fd ⟨[u], []⟩ [(x, u)]) (asks : sp [.ref a] (hp0 K Pt a vs ns) fun v _ => v = .bl true) :
    codeAny (model P w) callerA (.call (.ref fa) ⟨[.ref a], []⟩) (fun r s' => r = .ok (.ret (.bool true)) ∧ OldK s.heap s'.heap ∧ s'.os = s.os ∧ AllBare s'.gens) s := by
  have env : Env0 P w K mg (hidT s.heap (hp0 K Pt a vs ns)) callerA [] s (hp0 K Pt a vs ns) :=
    { frames := rfl
      mod := ⟨L.kinB, L.nsB L.gl, ⟨mb, L.nsB L.bl, L.bt⟩, let ⟨mc, e1, e2⟩ := L.lim; ⟨mc, L.nsB e1, e2⟩⟩
      bs := fun _ _ e => of_hidT e
      bsz := Nat.le_of_eq (hidT_size _ _)
      funs := trivial
      frf := fun b z => by cases z
      hok := L.ok
      bare := .of_eq hg }
  refine codeAny_mono ((F _ L.kinB (L.nsB L.gl) L.tb).go callerA [] s (hp0 K Pt a vs ns) ⟨[.ref a], []⟩ [.ref a] [.ref a] _ rfl room env (bind s (.ref a)) (.cons rfl .nil) asks) fun r s' z => ?_
  match r, z with
  | .error e, z => exact False.elim z
  | .ok .next, z => exact False.elim z
  | .ok .brk, z => exact False.elim z
  | .ok .cont, z => exact False.elim z
  | .ok (.ret u), z =>
    obtain ⟨v, H', eos, bare, un, ok', rel, q⟩ := z
    have q : v = .bl true := q
    subst q
    obtain rfl : u = Value.bool true := rel
    obtain ⟨more, t1⟩ := un.tbls Pt #[] hp0_tab
    have t2 : s'.heap.get? Pt = some { cls := .none, data := .fields (#[] ++ more) } := ok' Pt _ t1
    rw [Array.empty_append] at t2
    have tabHd : PySem.W.CodeHd s.heap c Pt := PySem.W.codeHd_of_K L.kin L.cd
    have rest : ∀ b o, b ≠ Pt → s.heap.get? b = some o → s'.heap.get? b = some o := fun b o nb e => by
      cases q : hp0 K Pt a vs ns b with
      | none => exact un.keep b o e q (fun z => by cases z) (fun z => by cases z)
      | some u =>
        rcases hp0_some q with ⟨z, _⟩ | ⟨rfl, _, rfl⟩
        · exact absurd z nb
        · have y := (ok' _ _ (un.frzs _ _ _ q)).1
          rw [L.scr] at e
          rw [y, ← e]
    refine ⟨rfl, ⟨fun b o e => ?_, fun b o e => ?_⟩, eos, bare⟩
    · by_cases hb : b = Pt
      · rw [hb, L.tab] at e
        cases e
        rw [hb]
        exact .inr (.inl ⟨(tabHd.tab L.tab).isCodeTable, rfl, #[], more, rfl, by rw [Array.empty_append]; exact t2⟩)
      · exact .inl (rest b o hb e)
    · by_cases hb : b = Pt
      · exact ⟨_, by rw [hb]; exact t2⟩
      · exact ⟨o, rest b o hb e⟩
end W7
set_option maxRecDepth 100000
set_option maxHeartbeats 4000000
/-! WY: all parts together -/
namespace W7
open PySem PySem.Spec PyProof.Rows L2 LamX NdefX
section
variable {K : PySem.W.Frag} {w : World} {mg : Str → Option Value} {h : Heap}
theorem tupB_ok {a : Addr} {p : List Value → Bool} (e : tupB K a p = true) : ∃ (o : Obj) (its : Array Value) (n : Nat), K.lookup a = some o ∧ o.cls = .type "tuple" ∧ o.data = .seq its n ∧ its.size ≤ sizeLine ∧ p its.toList = true := by
  unfold tupB at e
  cases q : K.lookup a with
  | none =>
    rw [q] at e
    cases e
  | some o =>
    rw [q] at e
    obtain ⟨oc, od, dt, sl⟩ := o
    cases oc with
    | type c =>
      cases dt with
      | seq its n =>
        obtain ⟨e1, e2⟩ := Bool.and_eq_true_iff.mp e
        obtain ⟨e3, e4⟩ := Bool.and_eq_true_iff.mp e2
        have e5 := Nat.le_of_ble_eq_true e3
        exact ⟨_, its, n, rfl, congrArg Value.type (of_decide_eq_true e1), rfl, szL (by omega), e4⟩
      | _ => cases e
    | _ => cases dt <;> cases e
theorem strsB_ok : ∀ {l : List Value}, strsB l = true → ∃ xs : List V, Vals xs l
  | [], _ => ⟨[], .nil⟩
  | v :: r, e => by
    cases v with
    | str x t =>
      obtain ⟨xs, q⟩ := strsB_ok (l := r) e
      exact ⟨.str x :: xs, .cons ⟨t, rfl⟩ q⟩
    | _ => cases e
theorem tabl_of (X : K.In h) (G : h.Ns mainGlobals mg) (c : He.SaysX fa fn ts tf ex w h K) (hK : mg "KINDS" = some (.ref (He.ga K "KINDS"))) (hC : mg "CLOSED" = some (.ref (He.ga K "CLOSED"))) : Tabl K w mg (He.ga K "KINDS") (He.ga K "CLOSED") := by
  obtain ⟨m1, m2⟩ := Bool.and_eq_true_iff.mp (show (_ && _) = true from c.more)
  obtain ⟨es, n, kd⟩ := He.SaysT.tab c.t 0
  refine ⟨hK, ?_, hC, fun k => ?_⟩
  · obtain ⟨o, its, n, e1, e2, e3, e4, e5⟩ := tupB_ok m1
    exact ⟨o, its, n, e1, e2, e3, e4, He.relAll_ok e5⟩
  · have z := List.all_eq_true.mp m2 k (kd_all k)
    cases q : PySem.W.nsIn K (He.ga K "CLOSED") k.nm with
    | none =>
      rw [q] at z
      cases z
    | some r =>
      rw [q] at z
      cases r with
      | none => cases z
      | some u =>
        cases u with
        | ref t =>
          obtain ⟨o, its, n2, e1, e2, e3, e4, e5⟩ := tupB_ok z
          obtain ⟨xs, e6⟩ := strsB_ok e5
          exact ⟨t, xs, ⟨es, n, .ref t, kd.1, kd.2, q, rfl⟩, o, its, n2, e1, e2, e3, e4, e6⟩
        | _ => cases z
theorem dn_of {x : Str} {st : Stmt} {ps : List Str} {f : Addr} {fd : FuncData} (F : FunD K x x (defArgs st) (defBody st) (defScope st) [] [] f fd) (hm : mg x = some (.ref f))
    (hb : ∀ (kV doc pm : Value) (an : Option Addr) (cdv ct : Value) (us : List Value), us.length = ps.length → bindArgs (PySem.W.fnOf x x (defArgs st) (defBody st) (defScope st) .none kV doc pm an cdv ct) ⟨us, []⟩ = pure (ps.zip us)) : Dn K mg x st ps f fd := ⟨He5.fun_of F, F.bindsN hb, hm⟩
theorem glo_of (X : K.In h) (G : h.Ns mainGlobals mg) (c : He.SaysX fa fn ts tf ex w h K) {x : Str} (m : x ∈ faG) : mg x = some (.ref (He.ga K x)) :=
  He.glo_ok X G (He.SaysD.facts c.t.d (List.mem_append_left _ (List.mem_map.mpr ⟨x, m, rfl⟩)))
theorem free_of' (X : K.In h) (G : h.Ns mainGlobals mg) (c : He.SaysX fa fn ts tf ex w h K) {x : Str} (m : x ∈ faF) : mg x = none :=
  He.free_ok X G (He.SaysD.facts c.t.d (List.mem_append_right _ (List.mem_map.mpr ⟨x, m, rfl⟩)))
theorem bn_of (X : K.In h) (G : h.Ns mainGlobals mg) (c : He.SaysX fa fn ts tf ex w h K) : Bn mg :=
  ⟨free_of' X G c (by decide +kernel), free_of' X G c (by decide +kernel), free_of' X G c (by decide +kernel), free_of' X G c (by decide +kernel), free_of' X G c (by decide +kernel), free_of' X G c (by decide +kernel), free_of' X G c (by decide +kernel),
   free_of' X G c (by decide +kernel), free_of' X G c (by decide +kernel), free_of' X G c (by decide +kernel), free_of' X G c (by decide +kernel), free_of' X G c (by decide +kernel), free_of' X G c (by decide +kernel)⟩
/-- the code object of _law_differ, its table -/
abbrev cD (K : PySem.W.Frag) : Addr := (He.cT K ("_law_differ", none)).1
abbrev pD (K : PySem.W.Frag) : Addr := (He.cT K ("_law_differ", none)).2
theorem law_fn (X : K.In h) (G : h.Ns mainGlobals mg) (c : He.SaysX fa fn ts tf ex w h K) {P : Program} : ∃ fd : FuncData, (∀ (s : Shared) (u : Value), BindsTo s fd ⟨[u], []⟩ [("_law_script", u)]) ∧
    ∀ base : Heap, TabB base mg (cD K) (pD K) → Fn P w K mg base 12 (He.ga K "law") fd ["_law_script"] (spLaw [(pD K, fun _ _ => qLam)] K (pD K)) := by
  have B := bn_of X G c
  have TT := tabl_of X G c (glo_of X G c (by decide +kernel)) (glo_of X G c (by decide +kernel))
  obtain ⟨fd7, F7⟩ := He.SaysD.def_ c.t.d 0 (d := d7) rfl
  have D7 : Dn K mg "rules_of" (top 7) ["kind"] (He.ga K "rules_of") fd7 := dn_of F7 (glo_of X G c (by decide +kernel)) fun _ _ _ _ _ _ us hl => match us, hl with | [_], _ => rfl
  obtain ⟨fd9, F9⟩ := He.SaysD.def_ c.t.d 1 (d := d9) rfl
  have D9 : Dn K mg "letters" (top 9) ["tree"] (He.ga K "letters") fd9 := dn_of F9 (glo_of X G c (by decide +kernel)) fun _ _ _ _ _ _ us hl => match us, hl with | [_], _ => rfl
  obtain ⟨fd10, F10⟩ := He.SaysD.def_ c.t.d 2 (d := d10) rfl
  have D10 : Dn K mg "value_of" (top 10) ["tree", "values", "operation"] (He.ga K "value_of") fd10 := dn_of F10 (glo_of X G c (by decide +kernel)) fun _ _ _ _ _ _ us hl => match us, hl with | [_, _, _], _ => rfl
  obtain ⟨fd11, F11⟩ := He.SaysD.def_ c.t.d 3 (d := d11) rfl
  have D11 : Dn K mg "first_uses" (top 11) ["row"] (He.ga K "first_uses") fd11 := dn_of F11 (glo_of X G c (by decide +kernel)) fun _ _ _ _ _ _ us hl => match us, hl with | [_], _ => rfl
  obtain ⟨fd12, F12⟩ := He.SaysD.def_ c.t.d 4 (d := d12) rfl
  have D12 : Dn K mg "last_uses" (top 12) ["row"] (He.ga K "last_uses") fd12 := dn_of F12 (glo_of X G c (by decide +kernel)) fun _ _ _ _ _ _ us hl => match us, hl with | [_], _ => rfl
  obtain ⟨fd13, F13⟩ := He.SaysD.def_ c.t.d 5 (d := d13) rfl
  have D13 : Dn K mg "ascending" (top 13) ["row"] (He.ga K "ascending") fd13 := dn_of F13 (glo_of X G c (by decide +kernel)) fun _ _ _ _ _ _ us hl => match us, hl with | [_], _ => rfl
  obtain ⟨fd14, F14⟩ := He.SaysD.def_ c.t.d 6 (d := d14) rfl
  have D14 : Dn K mg "pair_of" (top 14) ["left", "right"] (He.ga K "pair_of") fd14 := dn_of F14 (glo_of X G c (by decide +kernel)) fun _ _ _ _ _ _ us hl => match us, hl with | [_, _], _ => rfl
  obtain ⟨fd15, F15⟩ := He.SaysD.def_ c.t.d 7 (d := d15) rfl
  have D15 : Dn K mg "without_sides" (top 15) ["tree"] (He.ga K "without_sides") fd15 := dn_of F15 (glo_of X G c (by decide +kernel)) fun _ _ _ _ _ _ us hl => match us, hl with | [_], _ => rfl
  obtain ⟨fd16, F16⟩ := He.SaysD.def_ c.t.d 8 (d := d16) rfl
  have D16 : Dn K mg "sense" (top 16) ["tree", "kind"] (He.ga K "sense") fd16 := dn_of F16 (glo_of X G c (by decide +kernel)) fun _ _ _ _ _ _ us hl => match us, hl with | [_, _], _ => rfl
  obtain ⟨fd17, F17⟩ := He.SaysD.def_ c.t.d 9 (d := d17) rfl
  have D17 : Dn K mg "do_agree" (top 17) ["one", "two", "kind"] (He.ga K "do_agree") fd17 := dn_of F17 (glo_of X G c (by decide +kernel)) fun _ _ _ _ _ _ us hl => match us, hl with | [_, _, _], _ => rfl
  obtain ⟨fd19, F19⟩ := He.SaysD.def_ c.t.d 10 (d := d19) rfl
  have D19 : Dn K mg "_law_pen" (top 19) ["_law_script"] (He.ga K "_law_pen") fd19 := dn_of F19 (glo_of X G c (by decide +kernel)) fun _ _ _ _ _ _ us hl => match us, hl with | [_], _ => rfl
  obtain ⟨fd20, F20⟩ := He.SaysD.def_ c.t.d 11 (d := d20) rfl
  have D20 : Dn K mg "_law_draw" (top 20) ["_law_pen_here", "_law_span"] (He.ga K "_law_draw") fd20 := dn_of F20 (glo_of X G c (by decide +kernel)) fun _ _ _ _ _ _ us hl => match us, hl with | [_, _], _ => rfl
  obtain ⟨fd21, F21⟩ := He.SaysD.def_ c.t.d 12 (d := d21) rfl
  have D21 : Dn K mg "_law_pick" (top 21) ["_law_pen_here", "_law_options"] (He.ga K "_law_pick") fd21 := dn_of F21 (glo_of X G c (by decide +kernel)) fun _ _ _ _ _ _ us hl => match us, hl with | [_, _], _ => rfl
  obtain ⟨fd22, F22⟩ := He.SaysD.def_ c.t.d 13 (d := d22) rfl
  have D22 : Dn K mg "_law_shuffled" (top 22) ["_law_pen_here", "_law_items"] (He.ga K "_law_shuffled") fd22 := dn_of F22 (glo_of X G c (by decide +kernel)) fun _ _ _ _ _ _ us hl => match us, hl with | [_, _], _ => rfl
  obtain ⟨fd23, F23⟩ := He.SaysD.def_ c.t.d 14 (d := d23) rfl
  have D23 : Dn K mg "_law_leaves" (top 23) ["_law_part"] (He.ga K "_law_leaves") fd23 := dn_of F23 (glo_of X G c (by decide +kernel)) fun _ _ _ _ _ _ us hl => match us, hl with | [_], _ => rfl
  obtain ⟨fd24, F24⟩ := He.SaysD.def_ c.t.d 15 (d := d24) rfl
  have D24 : Dn K mg "_law_bracketed" (top 24) ["_law_pen_here", "_law_words"] (He.ga K "_law_bracketed") fd24 := dn_of F24 (glo_of X G c (by decide +kernel)) fun _ _ _ _ _ _ us hl => match us, hl with | [_, _], _ => rfl
  obtain ⟨fd25, F25⟩ := He.SaysD.def_ c.t.d 16 (d := d25) rfl
  have D25 : Dn K mg "_law_factor_rows" (top 25) ["_law_word"] (He.ga K "_law_factor_rows") fd25 := dn_of F25 (glo_of X G c (by decide +kernel)) fun _ _ _ _ _ _ us hl => match us, hl with | [_], _ => rfl
  obtain ⟨fd26, F26⟩ := He.SaysD.def_ c.t.d 17 (d := d26) rfl
  have D26 : Dn K mg "_law_kind_rows" (top 26) ["_law_pen_here", "_law_kind"] (He.ga K "_law_kind_rows") fd26 := dn_of F26 (glo_of X G c (by decide +kernel)) fun _ _ _ _ _ _ us hl => match us, hl with | [_, _], _ => rfl
  obtain ⟨fd27, F27⟩ := He.SaysD.def_ c.t.d 18 (d := d27) rfl
  have D27 : Dn K mg "_law_nine" (top 27) [] (He.ga K "_law_nine") fd27 := dn_of F27 (glo_of X G c (by decide +kernel)) fun _ _ _ _ _ _ us hl => match us, hl with | [], _ => rfl
  obtain ⟨fd28, F28⟩ := He.SaysD.def_ c.t.d 19 (d := d28) rfl
  have D28 : Dn K mg "_law_thirteen" (top 28) [] (He.ga K "_law_thirteen") fd28 := dn_of F28 (glo_of X G c (by decide +kernel)) fun _ _ _ _ _ _ us hl => match us, hl with | [], _ => rfl
  obtain ⟨fd29, F29⟩ := He.SaysD.def_ c.t.d 20 (d := d29) rfl
  have D29 : Dn K mg "_law_shortened" (top 29) ["_law_word", "_law_way"] (He.ga K "_law_shortened") fd29 := dn_of F29 (glo_of X G c (by decide +kernel)) fun _ _ _ _ _ _ us hl => match us, hl with | [_, _], _ => rfl
  obtain ⟨fd30, F30⟩ := He.SaysD.def_ c.t.d 21 (d := d30) rfl
  have D30 : Dn K mg "_law_word_rows" (top 30) ["_law_words", "_law_ways"] (He.ga K "_law_word_rows") fd30 := dn_of F30 (glo_of X G c (by decide +kernel)) fun _ _ _ _ _ _ us hl => match us, hl with | [_, _], _ => rfl
  obtain ⟨fd31, F31⟩ := He.SaysD.def_ c.t.d 22 (d := d31) rfl
  have D31 : Dn K mg "_law_twisted_rows" (top 31) ["_law_pen_here", "_law_rows"] (He.ga K "_law_twisted_rows") fd31 := dn_of F31 (glo_of X G c (by decide +kernel)) fun _ _ _ _ _ _ us hl => match us, hl with | [_, _], _ => rfl
  obtain ⟨fd32, F32⟩ := He.SaysD.def_ c.t.d 23 (d := d32) rfl
  have D32 : Dn K mg "_law_sides_turned" (top 32) ["_law_pen_here", "_law_part"] (He.ga K "_law_sides_turned") fd32 := dn_of F32 (glo_of X G c (by decide +kernel)) fun _ _ _ _ _ _ us hl => match us, hl with | [_, _], _ => rfl
  obtain ⟨fd33, F33⟩ := He.SaysD.def_ c.t.d 24 (d := d33) rfl
  have D33 : Dn K mg "_law_differ" (top 33) ["_law_rows", "_law_values", "_law_one", "_law_two"] (He.ga K "_law_differ") fd33 := dn_of F33 (glo_of X G c (by decide +kernel)) fun _ _ _ _ _ _ us hl => match us, hl with | [_, _, _, _], _ => rfl
  obtain ⟨fd34, F34⟩ := He.SaysD.def_ c.t.d 25 (d := d34) rfl
  have D34 : Dn K mg "_law_values_all" (top 34) ["_law_size", "_law_one", "_law_two"] (He.ga K "_law_values_all") fd34 := dn_of F34 (glo_of X G c (by decide +kernel)) fun _ _ _ _ _ _ us hl => match us, hl with | [_, _, _], _ => rfl
  obtain ⟨fd35, F35⟩ := He.SaysD.def_ c.t.d 26 (d := d35) rfl
  have D35 : Dn K mg "_law_ordered" (top 35) ["_law_tree"] (He.ga K "_law_ordered") fd35 := dn_of F35 (glo_of X G c (by decide +kernel)) fun _ _ _ _ _ _ us hl => match us, hl with | [_], _ => rfl
  obtain ⟨fd36, F36⟩ := He.SaysD.def_ c.t.d 27 (d := d36) rfl
  have D36 : Dn K mg "_law_tree_rows" (top 36) ["_law_tree", "_law_turned"] (He.ga K "_law_tree_rows") fd36 := dn_of F36 (glo_of X G c (by decide +kernel)) fun _ _ _ _ _ _ us hl => match us, hl with | [_, _], _ => rfl
  obtain ⟨fd37, F37⟩ := He.SaysD.def_ c.t.d 28 (d := d37) rfl
  have D37 : Dn K mg "_law_word_operation" (top 37) ["_law_tree"] (He.ga K "_law_word_operation") fd37 := dn_of F37 (glo_of X G c (by decide +kernel)) fun _ _ _ _ _ _ us hl => match us, hl with | [_], _ => rfl
  obtain ⟨fd38, F38⟩ := He.SaysD.def_ c.t.d 29 (d := d38) rfl
  have D38 : Dn K mg "_law_told_apart" (top 38) ["_law_kind", "_law_one", "_law_two"] (He.ga K "_law_told_apart") fd38 := dn_of F38 (glo_of X G c (by decide +kernel)) fun _ _ _ _ _ _ us hl => match us, hl with | [_, _, _], _ => rfl
  obtain ⟨fd39, F39⟩ := He.SaysD.def_ c.t.d 30 (d := d39) rfl
  have D39 : Dn K mg "law" (top 39) ["_law_script"] (He.ga K "law") fd39 := dn_of F39 (glo_of X G c (by decide +kernel)) fun _ _ _ _ _ _ us hl => match us, hl with | [_], _ => rfl
  have hm : ((pD K, fun _ _ => qLam) : NTab) ∈ [((pD K, fun _ _ => qLam) : NTab)] := by simp
  have hu : ∀ p ∈ [((pD K, fun _ _ => qLam) : NTab)], p.1 = pD K → p.2 = fun _ _ => qLam := fun p hp _ => by rw [List.mem_singleton.mp hp]
  have hfc : fd33.code = .ref (cD K) := by
    obtain ⟨oc, od, dV, kV, doc, pm, an, cdv, ct, osl, e, lk, hcd, _⟩ := F33.ex
    obtain ⟨c', hc'⟩ := He.codeIn_ref hcd
    have e2 : fd33.code = cdv := by rw [e]
    have e3 : He.codeOf K ("_law_differ", none) = c' := He.codeOf_eq lk (e2.trans hc')
    exact (e2.trans hc').trans (congrArg Value.ref e3.symm)
  refine ⟨fd39, fun s u => FunD.bindsA (ps := ["_law_script"]) F39 (fun _ _ _ _ _ _ us hl => match us, hl with | [_], _ => rfl) s [u] rfl, fun base TB => ?_⟩
  have h20 := Has.mk' (P := P) (w := w) (base := base) D20 (ok_draw (T := [((pD K, fun _ _ => qLam) : NTab)]) B D20)
  have h19 := Has.mk' (P := P) (w := w) (base := base) D19 (ok_pen (T := [((pD K, fun _ _ => qLam) : NTab)]) B D19)
  have h21 := Has.mk' (P := P) (w := w) (base := base) D21 (ok_pick (T := [((pD K, fun _ _ => qLam) : NTab)]) B D21 h20)
  have h22 := Has.mk' (P := P) (w := w) (base := base) D22 (ok_shuf (T := [((pD K, fun _ _ => qLam) : NTab)]) B D22 h20)
  have h23 := Has.mk' (P := P) (w := w) (base := base) D23 (ok_leaves (T := [((pD K, fun _ _ => qLam) : NTab)]) B D23)
  have h24 := Has.mk' (P := P) (w := w) (base := base) D24 (ok_brac (T := [((pD K, fun _ _ => qLam) : NTab)]) B D24 h20)
  have h9 := Has.mk' (P := P) (w := w) (base := base) D9 (ok_letters (T := [((pD K, fun _ _ => qLam) : NTab)]) B D9 8)
  have h10 := Has.mk' (P := P) (w := w) (base := base) D10 (ok_value_of (k := 1) B D10 8)
  have h11 := Has.mk' (P := P) (w := w) (base := base) D11 (ok_first (T := [((pD K, fun _ _ => qLam) : NTab)]) B D11)
  have h12 := Has.mk' (P := P) (w := w) (base := base) D12 (ok_last (T := [((pD K, fun _ _ => qLam) : NTab)]) B D12)
  have h13 := Has.mk' (P := P) (w := w) (base := base) D13 (ok_asc (T := [((pD K, fun _ _ => qLam) : NTab)]) B D13)
  have h14 := Has.mk' (P := P) (w := w) (base := base) D14 (ok_pair (T := [((pD K, fun _ _ => qLam) : NTab)]) B D14)
  have h15 := Has.mk' (P := P) (w := w) (base := base) D15 (ok_ws (T := [((pD K, fun _ _ => qLam) : NTab)]) B D15 h14 8)
  have h7 := Has.mk' (P := P) (w := w) (base := base) D7 (ok_rules (T := [((pD K, fun _ _ => qLam) : NTab)]) B TT D7)
  have h16 := Has.mk' (P := P) (w := w) (base := base) D16 (ok_sense (T := [((pD K, fun _ _ => qLam) : NTab)]) B D16 h9 h15 h13 h11 h12)
  have h17 := Has.mk' (P := P) (w := w) (base := base) D17 (ok_agree (T := [((pD K, fun _ _ => qLam) : NTab)]) B D17 h7 h16)
  have h33 := Has.mk' (P := P) (w := w) (base := base) D33 (ok_differ (T := [((pD K, fun _ _ => qLam) : NTab)]) D33 hfc TB hm hu h10)
  have h29 := Has.mk' (P := P) (w := w) (base := base) D29 (ok_short B D29)
  have h30 := Has.mk' (P := P) (w := w) (base := base) D30 (ok_word_rows (T := [((pD K, fun _ _ => qLam) : NTab)]) B D30 h29)
  have h32 := Has.mk' (P := P) (w := w) (base := base) D32 (ok_sides (T := [((pD K, fun _ _ => qLam) : NTab)]) B D32 h20 8)
  have h35 := Has.mk' (P := P) (w := w) (base := base) D35 (ok_ordered (T := [((pD K, fun _ _ => qLam) : NTab)]) B D35 8)
  have h27 := Has.mk' (P := P) (w := w) (base := base) D27 (ok_nine (T := [((pD K, fun _ _ => qLam) : NTab)]) B D27)
  have h28 := Has.mk' (P := P) (w := w) (base := base) D28 (ok_thirteen (T := [((pD K, fun _ _ => qLam) : NTab)]) B D28 h27)
  have h34 := Has.mk' (P := P) (w := w) (base := base) D34 (ok_values_all (T := [((pD K, fun _ _ => qLam) : NTab)]) B D34 h23)
  have h31 := Has.mk' (P := P) (w := w) (base := base) D31 (ok_twisted_rows (T := [((pD K, fun _ _ => qLam) : NTab)]) B D31 h22)
  have h25 := Has.mk' (P := P) (w := w) (base := base) D25 (ok_factor_rows (T := [((pD K, fun _ _ => qLam) : NTab)]) B D25)
  have h37 := Has.mk' (P := P) (w := w) (base := base) D37 (ok_word_operation (T := [((pD K, fun _ _ => qLam) : NTab)]) B D37 h23 h25)
  have h36 := Has.mk' (P := P) (w := w) (base := base) D36 (ok_tree_rows (T := [((pD K, fun _ _ => qLam) : NTab)]) B D36 h35)
  have h26 := Has.mk' (P := P) (w := w) (base := base) D26 (ok_kind_rows (T := [((pD K, fun _ _ => qLam) : NTab)]) B D26 h20 h21 h25 h30 h31)
  have h38 := Has.mk' (P := P) (w := w) (base := base) D38 (ok_told_apart (T := [((pD K, fun _ _ => qLam) : NTab)]) tellW tellT tellS hm B D38 h37 h36 h33 h30 h34)
  exact ok_law soundA hm B D39 h19 h20 h21 h24 h22 h32 h28 h17 h38 h26 h34 h33
theorem tabs0 {a : Addr} {vs : List Value} {ns : List Int} {Pt : Addr} : TabsN [((Pt, fun _ _ => qLam) : NTab)] (hp0 K Pt a vs ns) := fun p hp => by
  rw [List.mem_singleton.mp hp]
  exact ⟨#[], hp0_tab, trivial, fun pos cv z => by cases z⟩
end
end W7
set_option maxRecDepth 100000
set_option maxHeartbeats 0
namespace W7
open PySem PySem.Spec PyProof.Rows L2 LamX NdefX
theorem law_walk : PySem.W.WalkO (PySem.W.view Rw.prog [39]) names (PySem.W.XL (PySem.W.view Rw.prog [39]) []) hk.says PySem.Challenge.rw_foldplans_k32_whole_trees_by_operations.row.toRowW (HandSHeadRun.topDef Rw.prog 39) [] (fun f vs => PySem.call f vs) := by
  refine Att.attach_callB (n := 63) rfl (by kernel_rfl) fun w s₀ s₁ mg mb fa o pm cd doc a vs ns G Y ho hd hcd hmg0 hobj hints hlen hbits hg => ?_
  obtain ⟨K, KX, c⟩ := Y
  have hmg : mg "law" = some (.ref fa) := by
    have e : (HandSHeadRun.topDef Rw.prog 39).name = ("law" : Str) := by kernel_rfl
    rw [← e]
    exact hmg0
  have e := hmg.symm.trans (glo_of KX G.T.g c (x := "law") (by decide +kernel))
  cases e
  obtain ⟨fd, hb, hF⟩ := law_fn KX G.T.g c (P := PySem.Challenge.rw_foldplans_k32_whole_trees_by_operations.prog)
  have mt : (("_law_differ", none) : He.Defn) ∈ tf := by simp [tf]
  have L : Law0 K mg mb s₁.heap (cD K) (pD K) a vs ns := ⟨KX, G.T.g, G.T.b, G.T.builtins, G.T.nolimit, c.empty _ mt, c.out _ mt, c.hd _ mt, G.T.bmain, hobj, hints, Nat.le_trans hlen (by decide)⟩
  exact law_end L hg ⟨rfl, by decide, by decide⟩ (fun base _ _ TB => hF base TB) hb ⟨fun _ => none, a, ns, rfl, (fun _ _ e => by cases e), rfl, tabs0, L.sq, fun _ => rfl⟩
end W7
open PySem PySem.W PySem.Calls PyProof.Rows
theorem PySem.Challenge.cw_foldplans_k32_whole_trees_by_operations_holds : PySem.Challenge.rw_foldplans_k32_whole_trees_by_operations.Holds := by
  w_on; o_law
  refine HandSHeadRun.head_any (r := W7.Rw) (q := view W7.Rw.prog [39]) (H := W7.hk) (ob := W7.ob) (M := 20000) (loose := W7.names) (d := HandSHeadRun.topDef W7.Rw.prog 39) (kwd := []) W7.ob_eq
    (by kernel_rfl) (fun s => by kernel_rfl) W7.run (by kernel_rfl) (by kernel_rfl) (by kernel_rfl) (by rfl) (by first | assumption | decide +kernel) (by decide +kernel) ⟨rfl, rfl, rfl, rfl, rfl, by decide +kernel⟩ ?hw ?hc
  case hw => w_witness2
  case hc => exact W7.law_walk
