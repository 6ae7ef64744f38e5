import PyProof.Rows.All
import Wide.All
import OpenK.AllK
import Wide.FinOn
import KE.KStateDown
import Lean
import HandS.ForMost
import HandS.ForExc
import HandS.IsInst
import HandS.NoneIn
import HandS.Style
import HandS.Walk
import HandS.Defaults
import HandS.Head0
import HandS.Head1
import HandS.Head2
import HandS.HeadEnd
import HandS.HeadHook1
import HandS.HeadHook2
import HandS.Evl
import PySem.Challenge.RW_gatetown_k77_no_block_is_two_files
set_option linter.all false
/-! The plain part: which blocks each file has, what stands in them; no program in sight. -/
namespace K77
/-- a file as the floor has it: its name, where its list of block numbers stands, the numbers, how many words -/
structure Ent (N : Type) where
  nm : N
  ad : Nat
  ns : List Nat
  ct : Nat
def zero16 : List Int := List.replicate 16 0
def nblk (n : Nat) : Nat := (n + 15) / 16
/-- the k-th block's words -/
def chunk (ws : List Int) (k : Nat) : List Int :=
  (ws.drop (16 * k)).take 16 ++ List.replicate (16 - ((ws.drop (16 * k)).take 16).length) 0
theorem chunk_len (ws : List Int) (k : Nat) : (chunk ws k).length = 16 := by
  unfold chunk
  rw [List.length_append, List.length_replicate, List.length_take]
  omega
theorem zero_len : zero16.length = 16 := by
  unfold zero16
  rw [List.length_replicate]
/-- all numbers that are taken -/
def tk {N : Type} (es : List (Ent N)) : List Nat := es.flatMap Ent.ns
theorem tk_append {N : Type} (a b : List (Ent N)) : tk (a ++ b) = tk a ++ tk b := by
  unfold tk
  rw [List.flatMap_append]
theorem tk_one {N : Type} (e : Ent N) : tk [e] = e.ns := by
  show e.ns ++ [] = e.ns
  rw [List.append_nil]
theorem mem_tk {N : Type} {es : List (Ent N)} {n : Nat} : n ∈ tk es ↔ ∃ e ∈ es, n ∈ e.ns := by
  unfold tk
  rw [List.mem_flatMap]
theorem ent_disj {N : Type} : ∀ {es : List (Ent N)} {e f : Ent N} {n : Nat}, (tk es).Nodup → e ∈ es → f ∈ es → n ∈ e.ns → n ∈ f.ns → e = f
  | [], e, f, n, _, he, _, _, _ => nomatch he
  | a :: r, e, f, n, nd, he, hf, h1, h2 => by
    have nd' : (a.ns ++ tk r).Nodup := nd
    have hap := List.nodup_append.mp nd'
    rcases List.mem_cons.mp he with rfl | he'
    · rcases List.mem_cons.mp hf with rfl | hf'
      · rfl
      · exact absurd rfl (hap.2.2 n h1 n (mem_tk.mpr ⟨f, hf', h2⟩))
    · rcases List.mem_cons.mp hf with rfl | hf'
      · exact absurd rfl (hap.2.2 n h2 n (mem_tk.mpr ⟨e, he', h1⟩))
      · exact ent_disj (es := r) hap.2.1 he' hf' h1 h2
theorem ent_nd {N : Type} : ∀ {es : List (Ent N)} {e : Ent N}, (tk es).Nodup → e ∈ es → e.ns.Nodup
  | [], e, _, he => nomatch he
  | a :: r, e, nd, he => by
    have nd' : (a.ns ++ tk r).Nodup := nd
    have hap := List.nodup_append.mp nd'
    rcases List.mem_cons.mp he with rfl | he'
    · exact hap.1
    · exact ent_nd (es := r) hap.2.1 he'
theorem tk_filter_sub {N : Type} (p : Ent N → Bool) (es : List (Ent N)) : (tk (es.filter p)).Sublist (tk es) := by
  induction es with
  | nil => exact List.Sublist.refl _
  | cons a r ih =>
    rw [List.filter_cons]
    by_cases c : p a = true
    · rw [if_pos c]
      exact List.Sublist.append (List.Sublist.refl a.ns) ih
    · rw [if_neg c]
      exact List.Sublist.trans ih (List.sublist_append_right a.ns (tk r))
theorem name_inj {N : Type} : ∀ {es : List (Ent N)} {e f : Ent N}, (es.map Ent.nm).Nodup → e ∈ es → f ∈ es → e.nm = f.nm → e = f
  | [], e, f, _, he, _, _ => nomatch he
  | a :: r, e, f, nd, he, hf, q => by
    have nd' : (a.nm :: r.map Ent.nm).Nodup := nd
    have hc := List.nodup_cons.mp nd'
    rcases List.mem_cons.mp he with rfl | he'
    · rcases List.mem_cons.mp hf with rfl | hf'
      · rfl
      · exact absurd (List.mem_map.mpr ⟨f, hf', q.symm⟩) hc.1
    · rcases List.mem_cons.mp hf with rfl | hf'
      · exact absurd (List.mem_map.mpr ⟨e, he', q⟩) hc.1
      · exact name_inj (es := r) hc.2 he' hf' q
/-- without one file its numbers are gone -/
theorem tk_without {N : Type} [DecidableEq N] : ∀ {es : List (Ent N)} {e : Ent N}, (es.map Ent.nm).Nodup → e ∈ es →
    (tk (es.filter fun x => decide (x.nm ≠ e.nm))).length + e.ns.length = (tk es).length
  | [], e, _, he => nomatch he
  | a :: r, e, nd, he => by
    have nd' : (a.nm :: r.map Ent.nm).Nodup := nd
    have hc := List.nodup_cons.mp nd'
    have el : (tk (a :: r)).length = a.ns.length + (tk r).length := by
      show (a.ns ++ tk r).length = _
      rw [List.length_append]
    rw [List.filter_cons, el]
    by_cases c : a.nm = e.nm
    · have ea : e = a := by
        rcases List.mem_cons.mp he with h | h
        · exact h
        · exact absurd (List.mem_map.mpr ⟨e, h, c.symm⟩) hc.1
      subst ea
      have q : decide (e.nm ≠ e.nm) = false := by simp
      rw [q]
      have all : r.filter (fun x => decide (x.nm ≠ e.nm)) = r := by
        apply List.filter_eq_self.mpr
        intro x hx
        apply decide_eq_true
        intro z
        exact hc.1 (List.mem_map.mpr ⟨x, hx, z⟩)
      rw [if_neg (by simp), all]
      omega
    · have q : decide (a.nm ≠ e.nm) = true := decide_eq_true c
      rw [if_pos q]
      have he' : e ∈ r := by
        rcases List.mem_cons.mp he with h | h
        · exact absurd (congrArg Ent.nm h).symm c
        · exact h
      have ih := tk_without (es := r) hc.2 he'
      have el2 : (tk (a :: r.filter fun x => decide (x.nm ≠ e.nm))).length = a.ns.length + (tk (r.filter fun x => decide (x.nm ≠ e.nm))).length := by
        show (a.ns ++ tk _).length = _
        rw [List.length_append]
      rw [el2]
      omega
/-! ### free numbers -/
def fr (B : Nat) (l : List Nat) : List Nat := (List.range B).filter fun n => decide (n ∉ l)
theorem mem_fr {B : Nat} {l : List Nat} {n : Nat} : n ∈ fr B l ↔ n < B ∧ n ∉ l := by
  unfold fr
  rw [List.mem_filter, List.mem_range]
  simp
theorem fr_nd (B : Nat) (l : List Nat) : (fr B l).Nodup := List.nodup_range.filter _
theorem drop_one : ∀ {l : List Nat} {a : Nat}, l.Nodup → a ∈ l → (l.filter fun n => decide (n ≠ a)).length + 1 = l.length
  | [], a, _, h => nomatch h
  | b :: r, a, nd, h => by
    have hc := List.nodup_cons.mp nd
    rw [List.filter_cons]
    by_cases c : b = a
    · subst c
      have all : r.filter (fun n => decide (n ≠ b)) = r := by
        apply List.filter_eq_self.mpr
        intro x hx
        apply decide_eq_true
        intro z
        exact hc.1 (z ▸ hx)
      rw [if_neg (by simp), all]
      rfl
    · have q : decide (b ≠ a) = true := decide_eq_true c
      rw [if_pos q]
      have h' : a ∈ r := by
        rcases List.mem_cons.mp h with e | e
        · exact absurd e.symm c
        · exact e
      have ih := drop_one (l := r) hc.2 h'
      rw [List.length_cons, List.length_cons]
      omega
theorem fr_cons (B a : Nat) (l : List Nat) : fr B (a :: l) = (fr B l).filter fun n => decide (n ≠ a) := by
  unfold fr
  rw [List.filter_filter]
  apply List.filter_congr
  intro x _
  by_cases c : x = a
  · subst c; simp
  · simp [c]
theorem fr_len {B : Nat} : ∀ {l : List Nat}, l.Nodup → (∀ n ∈ l, n < B) → (fr B l).length + l.length = B
  | [], _, _ => by
    have e : fr B [] = List.range B := by
      unfold fr
      apply List.filter_eq_self.mpr
      intro x _
      simp
    rw [e, List.length_range]
    rfl
  | a :: r, nd, h => by
    have hc := List.nodup_cons.mp nd
    have ih := fr_len (l := r) hc.2 fun n hn => h n (List.mem_cons_of_mem _ hn)
    rw [fr_cons]
    have q := drop_one (fr_nd B r) (mem_fr.mpr ⟨h a List.mem_cons_self, hc.1⟩)
    rw [List.length_cons]
    omega
/-! ### the invariant -/
/-- B blocks, the files es, the blocks' words cs: the files that the law knows are w -/
structure Good {N : Type} (B : Nat) (es : List (Ent N)) (cs : List (List Int)) (w : N → Option (List Int)) : Prop where
  nd : (es.map Ent.nm).Nodup
  has : ∀ x ws, w x = some ws → ∃ e ∈ es, e.nm = x
  own : ∀ e ∈ es, ∃ ws, w e.nm = some ws ∧ e.ns.length = nblk ws.length ∧ ∀ k n, e.ns[k]? = some n → cs[n]? = some (chunk ws k)
  nod : (tk es).Nodup
  lt : ∀ n ∈ tk es, n < B
  lenB : cs.length = B
  rest : ∀ n, n < B → n ∉ tk es → cs[n]? = some zero16
section
variable {N : Type} [DecidableEq N] {B : Nat} {es : List (Ent N)} {cs cs' : List (List Int)} {w : N → Option (List Int)} {e : Ent N} {ws : List Int}
theorem Good.new (B : Nat) : Good (N := N) B [] (List.replicate B zero16) fun _ => none where
  nd := List.nodup_nil
  has := fun _ _ h => nomatch h
  own := fun _ h => nomatch h
  nod := List.nodup_nil
  lt := fun _ h => nomatch h
  lenB := List.length_replicate
  rest := fun n hn _ => by rw [List.getElem?_replicate, if_pos hn]
theorem Good.tkLen (g : Good B es cs w) : (tk es).length ≤ B := by
  have := fr_len g.nod g.lt
  omega
theorem Good.unknown (g : Good B es cs w) {x : N} (h : ∀ e ∈ es, e.nm ≠ x) : w x = none := by
  cases q : w x with
  | none => rfl
  | some ws =>
    obtain ⟨e, he, hn⟩ := g.has x ws q
    exact absurd hn (h e he)
theorem Good.drop (g : Good B es cs w) (he : e ∈ es) (hl : cs'.length = cs.length) (h1 : ∀ n ∈ e.ns, cs'[n]? = some zero16) (h2 : ∀ n, n ∉ e.ns → cs'[n]? = cs[n]?) :
    Good B (es.filter fun x => decide (x.nm ≠ e.nm)) cs' fun x => if x = e.nm then none else w x where
  nd := by
    have s : (es.filter fun x => decide (x.nm ≠ e.nm)).map Ent.nm |>.Sublist (es.map Ent.nm) := List.filter_sublist.map _
    exact g.nd.sublist s
  has := fun x ws h => by
    by_cases c : x = e.nm
    · rw [if_pos c] at h; cases h
    · rw [if_neg c] at h
      obtain ⟨f, hf, hn⟩ := g.has x ws h
      refine ⟨f, List.mem_filter.mpr ⟨hf, decide_eq_true ?_⟩, hn⟩
      rw [hn]; exact c
  own := fun f hf => by
    obtain ⟨hf, hne⟩ := List.mem_filter.mp hf
    have hne : f.nm ≠ e.nm := of_decide_eq_true hne
    obtain ⟨ws, hw, hlen, hc⟩ := g.own f hf
    refine ⟨ws, by rw [if_neg hne]; exact hw, hlen, fun k n hk => ?_⟩
    rw [h2 n fun hn => hne (congrArg Ent.nm (ent_disj g.nod hf he (List.mem_of_getElem? hk) hn))]
    exact hc k n hk
  nod := g.nod.sublist (tk_filter_sub _ es)
  lt := fun n hn => g.lt n ((tk_filter_sub _ es).mem hn)
  lenB := hl.trans g.lenB
  rest := fun n hn hnt => by
    by_cases c : n ∈ e.ns
    · exact h1 n c
    · rw [h2 n c]
      refine g.rest n hn fun ht => hnt ?_
      obtain ⟨f, hf, hnf⟩ := mem_tk.mp ht
      refine mem_tk.mpr ⟨f, List.mem_filter.mpr ⟨hf, decide_eq_true fun z => ?_⟩, hnf⟩
      have := name_inj g.nd hf he z
      subst this
      exact c hnf
theorem Good.keep (g : Good B es cs w) (hn : w e.nm = none) (hs : e.ns.Nodup) (hlt : ∀ n ∈ e.ns, n < B) (hfr : ∀ n ∈ e.ns, n ∉ tk es) (hlen : e.ns.length = nblk ws.length)
    (hl : cs'.length = cs.length) (h1 : ∀ k n, e.ns[k]? = some n → cs'[n]? = some (chunk ws k)) (h2 : ∀ n, n ∉ e.ns → cs'[n]? = cs[n]?) :
    Good B (es ++ [e]) cs' fun x => if x = e.nm then some ws else w x where
  nd := by
    rw [List.map_append]
    refine List.nodup_append.mpr ⟨g.nd, by simp, ?_⟩
    intro a ha b hb q
    have hb' : b = e.nm := by simpa using hb
    obtain ⟨f, hf, hfn⟩ := List.mem_map.mp ha
    obtain ⟨vs, hv, _⟩ := g.own f hf
    rw [hfn, q, hb', hn] at hv
    cases hv
  has := fun x vs h => by
    by_cases c : x = e.nm
    · exact ⟨e, by simp, c.symm⟩
    · rw [if_neg c] at h
      obtain ⟨f, hf, hfn⟩ := g.has x vs h
      exact ⟨f, by simp [hf], hfn⟩
  own := fun f hf => by
    rcases List.mem_append.mp hf with hf | hf
    · obtain ⟨vs, hv, hvl, hc⟩ := g.own f hf
      have hne : f.nm ≠ e.nm := fun z => by rw [z, hn] at hv; cases hv
      refine ⟨vs, by rw [if_neg hne]; exact hv, hvl, fun k n hk => ?_⟩
      have hnf := List.mem_of_getElem? hk
      rw [h2 n fun hne => hfr n hne (mem_tk.mpr ⟨f, hf, hnf⟩)]
      exact hc k n hk
    · have ef : f = e := by simpa using hf
      subst ef
      exact ⟨ws, by rw [if_pos rfl], hlen, h1⟩
  nod := by
    rw [tk_append, tk_one]
    refine List.nodup_append.mpr ⟨g.nod, hs, ?_⟩
    intro a ha b hb q
    exact hfr b hb (q ▸ ha)
  lt := fun n hnn => by
    rw [tk_append, tk_one] at hnn
    rcases List.mem_append.mp hnn with h | h
    · exact g.lt n h
    · exact hlt n h
  lenB := hl.trans g.lenB
  rest := fun n hnB hnt => by
    rw [tk_append, tk_one] at hnt
    have a : n ∉ tk es := fun z => hnt (List.mem_append_left _ z)
    have b : n ∉ e.ns := fun z => hnt (List.mem_append_right _ z)
    rw [h2 n b]
    exact g.rest n hnB a
end
theorem tk_take {es : List Nat} {i n : Nat} (h : es[i]? = some n) : es.take (i + 1) = es.take i ++ [n] := by
  rw [List.take_add_one, h]
  rfl
/-- a number stands once -/
theorem not_in_take {l : List Nat} {i n : Nat} (nd : l.Nodup) (h : l[i]? = some n) : n ∉ l.take i := fun z => by
  obtain ⟨j, hj⟩ := List.getElem?_of_mem z
  rw [List.getElem?_take] at hj
  by_cases c : j < i
  · rw [if_pos c] at hj
    obtain ⟨a1, b1⟩ := List.getElem?_eq_some_iff.mp h
    obtain ⟨a2, b2⟩ := List.getElem?_eq_some_iff.mp hj
    have := (List.getElem_inj (h₀ := a1) (h₁ := a2) nd).mp (b1.trans b2.symm)
    omega
  · rw [if_neg c] at hj
    cases hj
end K77

set_option Elab.async false
set_option linter.all false
set_option maxRecDepth 100000
set_option maxHeartbeats 4000000
/-! The floor on the heap, and words for the defs. -/
namespace K77
open PySem PySem.Spec PyProof.Rows L2
/-! ### the text by places -/
def top (i : Nat) : Stmt := PySem.Challenge.pw_gatetown_k77_no_block_is_two_files.main.body.getD i (.Pass ⟨0, 0, 0, 0⟩)
abbrev sBF : Stmt := top 7
abbrev sInit : Stmt := inClass (top 8) 0
abbrev sTaken : Stmt := inClass (top 8) 1
abbrev sFree : Stmt := inClass (top 8) 2
abbrev sLook : Stmt := inClass (top 8) 3
abbrev sKeep : Stmt := inClass (top 8) 4
abbrev sDrop : Stmt := inClass (top 8) 5
abbrev sBlocksOf : Stmt := inClass (top 8) 7
abbrev sBlock : Stmt := inClass (top 8) 9
abbrev sCell : Stmt := top 10
abbrev sMixed : Stmt := top 11
abbrev sParts : Stmt := top 12
abbrev sNames : Stmt := top 13
abbrev sFilled : Stmt := top 14
abbrev sWhole : Stmt := top 15
abbrev sListIs : Stmt := top 16
abbrev sChange : Stmt := top 17
abbrev sLBlocks : Stmt := top 18
abbrev sDeed : Stmt := top 20
abbrev sRight : Stmt := top 21
abbrev sLaw : Stmt := top 22
/-- a def without defaults -/
abbrev FnP (K : PySem.W.Frag) (x qual : Str) (st : Stmt) (f : Addr) (fd : FuncData) : Prop := FunD K x qual (defArgs st) (defBody st) (defScope st) [] [] f fd
/-- what a caller leans on: a global's def -/
structure Cal (P : Program) (w : World) (K : PySem.W.Frag) (mg : Str → Option Value) (base : Heap) (CX : CXT) (k : Nat) (x : Str) (f : Addr) (fd : FuncData) (ps : List Str) (sp : Sp) : Prop where
  G : FnOk P w K mg base CX k f fd ps sp
  g : mg x = some (.ref f)
  kp : (PySem.W.keepIn K (.ref f)) = true
  b : Binds K fd ps []
/-- .. a method -/
structure CalM (P : Program) (w : World) (K : PySem.W.Frag) (mg : Str → Option Value) (base : Heap) (CX : CXT) (k : Nat) (C : Addr) (m : Str) (f : Addr) (fd : FuncData) (ps : List Str) (sp : Sp) : Prop where
  G : FnOk P w K mg base CX k f fd ps sp
  m : Meth K C m f
  b : Binds K fd ps []
/-- a def without defaults is a def as the short words have it -/
theorem toFun {K : PySem.W.Frag} {x qual : Str} {st : Stmt} {f : Addr} {fd : FuncData} (F : FnP K x qual st f fd) : Fun K x qual st f fd := by
  obtain ⟨c0, c1, dV, kV, c2, c3, c4, c5, c6, c7, e0, e1, e2, e3, _⟩ := F.ex
  rcases e3 with ⟨_, e4⟩ | ⟨e4, _⟩
  · rw [e4] at e0
    exact ⟨⟨c0, c1, kV, c2, c3, c4, c5, c6, c7, e0, e1, e2⟩, F.kp⟩
  · exact absurd rfl e4
/-! ### recv.m(a1, ..) in a try's body: what it raises is wished for at the slots as they stand -/
def tMethS (C : Addr) (m : Str) (sp : Sp) (W : L2.St → XK) (tr : TE) (ta : TA) : TE := fun τ G R => tr τ G fun y G1 => ∃ b dy ys, y = .ref b ∧ G1 b = some (.ins C dy ys) ∧ ys.lookup m = none ∧ ta τ G1 fun zs G2 => sp (y :: zs) G2 R (W τ)
theorem pe_methS {X : Cx} {L : CXT} {n : Nat} {g C : Addr} {gd : FuncData} {ps : List Str} {sp : Sp} {W : L2.St → XK} {m : Str} {p1 p2 : Pos} {recv a1 : Expr} {as : List Expr} {tr : TE} {ta : TA} {pl : Sem Bool}
    (hrecv : PE X recv tr) (cl : Cls X.K C) (me : Meth X.K C m g) (G : FnOk X.prog X.w X.K X.mg X.base L n g gd ps sp) (room : Room n X.A) (bi : Binds X.K gd ps []) (pa : ∀ τ, PassesAt L X τ (W τ)) (has : PA X (a1 :: as) ta)
    (w1 : starEach (a1 :: as) X.env = (false, eval a1 X.env) :: starEach as X.env := by rfl) (w2 : (backTo p2 (starEach as X.env)).any (·.1) = false := by rfl)
    (w3 : eval (.Call (.Attribute recv m p1) (a1 :: as) [] p2) X.env = (do let r ← eval recv X.env; standAt p1.atName; let (fn, fs) ← holding [r] (getMethod r m pl); callWith p2 fn fs (backTo p2 (starEach (a1 :: as) X.env)) (backToKw p2 (keywordEach [] X.env))) := by rfl) :
    PE X (.Call (.Attribute recv m p1) (a1 :: as) [] p2) (tMethS C m sp W tr ta) where
  run pins s0 τ G0 R I0 q0 := by
    apply PySem.W.methodCall_KW (pl := pl) _ w3
    apply thn (hrecv.run pins s0 τ G0 _ I0 q0)
    rintro val s1 ⟨y, G1, I1, rel, b, dy, ys, rfl, inst, noat, q1⟩
    cases rel
    apply getmeth_ok I1 inst cl me noat
    apply PySem.W.callWith_K (first := [.ref b]) (h₀ := X.base) I0.ok.mod.kin me.kp _ w1 w2
    apply thn (has.run p2 pins s1 τ G1 _ I1 q1)
    rintro vals s2 ⟨zs, G2, I2, rels, q2⟩
    exact ⟨I2.kIn, run_fnS (us := .ref b :: vals) (vs := .ref b :: zs) G room bi (pa τ) I2 (.cons rfl rels) q2⟩
/-! ### a text times a number -/
theorem op_mul_str {X : Cx} : OpR X (binaryOp .Mult) (fun a b G R => ∃ z n, a = .str z ∧ b = .int n ∧ MulOk z n ∧ R (.str (Txt.mul z n)) G) := by
  rintro pins s0 τ G a b va vb R I0 ra rb ⟨z, n, rfl, rfl, fit, q⟩
  obtain ⟨t1, rfl⟩ := ra
  obtain ⟨t2, rfl⟩ := rb
  exact SB.mul fit fun t3 k => ⟨.str (Txt.mul z n), G, I0.tok _, ⟨_, rfl⟩, q⟩
/-! ### places in lists -/
theorem ixN_nat {n j : Nat} (h : j < n) : ixN n (j : Int) = some j := by
  unfold ixN
  rw [if_pos (by omega), if_pos (by omega)]
  simp
/-! ### the floor's fields -/
theorem bp_ : ¬ (("blocks" : Str) = "places") := by decide +kernel
theorem bc_ : ¬ (("blocks" : Str) = "counts") := by decide +kernel
theorem pc_ : ¬ (("places" : Str) = "counts") := by decide +kernel
def flds (lb dp dc : Addr) : List (Str × V) := [("blocks", .ref lb), ("places", .ref dp), ("counts", .ref dc)]
theorem flds_two (lb dp : Addr) : putF "places" (.ref dp) (putF "blocks" (.ref lb) []) = [(("blocks" : Str), V.ref lb), ("places", .ref dp)] := by
  show (if ("blocks" : Str) = "places" then _ else (("blocks" : Str), V.ref lb) :: putF "places" (.ref dp) []) = _
  rw [if_neg bp_]
  all_goals rfl
theorem flds_eq (lb dp dc : Addr) : putF "counts" (.ref dc) (putF "places" (.ref dp) (putF "blocks" (.ref lb) [])) = flds lb dp dc := by
  rw [flds_two]
  show (if ("blocks" : Str) = "counts" then _ else (("blocks" : Str), V.ref lb) :: (if ("places" : Str) = "counts" then _ else (("places" : Str), V.ref dp) :: putF "counts" (.ref dc) [])) = _
  rw [if_neg bc_, if_neg pc_]
  all_goals rfl
theorem flds_b (lb dp dc : Addr) : (flds lb dp dc).lookup ("blocks" : Str) = some (.ref lb) := by
  rw [← flds_eq, lookup_putF, if_neg bc_, lookup_putF, if_neg bp_, lookup_putF, if_pos rfl]
theorem flds_p (lb dp dc : Addr) : (flds lb dp dc).lookup ("places" : Str) = some (.ref dp) := by
  rw [← flds_eq, lookup_putF, if_neg pc_, lookup_putF, if_pos rfl]
theorem flds_c (lb dp dc : Addr) : (flds lb dp dc).lookup ("counts" : Str) = some (.ref dc) := by
  rw [← flds_eq, lookup_putF, if_pos rfl]
theorem flds_no (lb dp dc : Addr) {m : Str} (h1 : ¬ m = "blocks") (h2 : ¬ m = "places") (h3 : ¬ m = "counts") : (flds lb dp dc).lookup m = none := by
  rw [← flds_eq, lookup_putF, if_neg h3, lookup_putF, if_neg h2, lookup_putF, if_neg h1]
  all_goals rfl
/-! ### the floor on the heap -/
abbrev Ent' := Ent Str
/-- block numbers as values -/
def nums (ns : List Nat) : List V := ns.map fun n : Nat => V.int (n : Int)
theorem nums_get {ns : List Nat} {i n : Nat} (h : ns[i]? = some n) : (nums ns)[i]? = some (V.int (n : Int)) := by
  unfold nums
  rw [List.getElem?_map, h]
  rfl
theorem nums_len (ns : List Nat) : (nums ns).length = ns.length := by
  unfold nums
  rw [List.length_map]
theorem nums_of {ns : List Nat} {i : Nat} {v : V} (h : (nums ns)[i]? = some v) : ∃ n, ns[i]? = some n ∧ v = V.int (n : Int) := by
  unfold nums at h
  rw [List.getElem?_map] at h
  cases e : ns[i]? with
  | none => rw [e] at h; cases h
  | some n => rw [e] at h; exact ⟨n, rfl, (Option.some.inj h).symm⟩
def kvP (es : List Ent') : List (Key × V) := es.map fun e => ((Sum.inr e.nm : Key), V.ref e.ad)
def kvC (es : List Ent') : List (Key × V) := es.map fun e => ((Sum.inr e.nm : Key), V.int (e.ct : Int))
theorem valV_map (f : Ent' → V) : ∀ {es : List Ent'} {e : Ent'}, (es.map Ent.nm).Nodup → e ∈ es → valV (es.map fun e => ((Sum.inr e.nm : Key), f e)) (Sum.inr e.nm : Key) = some (f e)
  | [], e, _, he => nomatch he
  | a :: r, e, nd, he => by
    have nd' : (a.nm :: r.map Ent.nm).Nodup := nd
    have hc := List.nodup_cons.mp nd'
    rcases List.mem_cons.mp he with rfl | he'
    · exact valV_pos (p := ((Sum.inr e.nm : Key), f e)) rfl
    · have hne : ¬ a.nm = e.nm := fun z => hc.1 (List.mem_map.mpr ⟨e, he', z.symm⟩)
      show valV (((Sum.inr a.nm : Key), f a) :: r.map fun e => ((Sum.inr e.nm : Key), f e)) (Sum.inr e.nm : Key) = _
      rw [valV_neg (p := ((Sum.inr a.nm : Key), f a)) fun z => hne (Sum.inr.inj z)]
      exact valV_map f (es := r) hc.2 he'
theorem valV_mapNone (f : Ent' → V) {x : Str} : ∀ {es : List Ent'}, (∀ e ∈ es, e.nm ≠ x) → valV (es.map fun e => ((Sum.inr e.nm : Key), f e)) (Sum.inr x : Key) = none
  | [], _ => rfl
  | a :: r, h => by
    show valV (((Sum.inr a.nm : Key), f a) :: r.map fun e => ((Sum.inr e.nm : Key), f e)) (Sum.inr x : Key) = _
    rw [valV_neg (p := ((Sum.inr a.nm : Key), f a)) fun z => h a List.mem_cons_self (Sum.inr.inj z)]
    exact valV_mapNone f (es := r) fun e he => h e (List.mem_cons_of_mem _ he)
theorem dropK_map (f : Ent' → V) (x : Str) (es : List Ent') : dropK (es.map fun e => ((Sum.inr e.nm : Key), f e)) (Sum.inr x : Key) = (es.filter fun e => decide (e.nm ≠ x)).map fun e => ((Sum.inr e.nm : Key), f e) := by
  unfold dropK
  rw [List.filter_map]
  congr 1
  apply List.filter_congr
  intro e _
  by_cases c : e.nm = x
  · subst c; simp
  · have c2 : ¬ ((Sum.inr e.nm : Key) = Sum.inr x) := fun z => c (Sum.inr.inj z)
    simp [c]
theorem putK_map (f : Ent' → V) {es : List Ent'} {e : Ent'} (h : ∀ a ∈ es, a.nm ≠ e.nm) : putK (es.map fun e => ((Sum.inr e.nm : Key), f e)) (Sum.inr e.nm : Key) (f e) = (es ++ [e]).map fun e => ((Sum.inr e.nm : Key), f e) := by
  rw [putK_new _ (valV_mapNone f h), List.map_append]
  rfl
theorem map_get (f : Ent' → V) {es : List Ent'} {i : Nat} {k : Key} {v : V} (h : (es.map fun e => ((Sum.inr e.nm : Key), f e))[i]? = some (k, v)) : ∃ e, es[i]? = some e ∧ k = Sum.inr e.nm ∧ v = f e := by
  rw [List.getElem?_map] at h
  cases q : es[i]? with
  | none => rw [q] at h; cases h
  | some e =>
    rw [q] at h
    have h' : ((Sum.inr e.nm : Key), f e) = (k, v) := Option.some.inj h
    exact ⟨e, rfl, (congrArg Prod.fst h').symm, (congrArg Prod.snd h').symm⟩
/-- a Floor at p: its list of blocks at lb, its dicts at dp and dc; the blocks stand at bs, their words are cs; the files are es -/
structure FloorAt (C : Addr) (H : Hp) (p lb dp dc : Addr) (bs : List Addr) (es : List Ent') (cs : List (List Int)) : Prop where
  ob : ∃ dx, H p = some (.ins C dx (flds lb dp dc))
  hb : H lb = some (.lst (bs.map V.ref))
  hp : H dp = some (.dK (kvP es))
  hc : H dc = some (.dK (kvC es))
  pc : dp ≠ dc
  pl : ∀ e ∈ es, H e.ad = some (.lst (nums e.ns))
  bl : ∀ (i : Nat) (b : Addr), bs[i]? = some b → ∃ c, cs[i]? = some c ∧ H b = some (.lst (c.map V.int)) ∧ c.length = 16
  ln : bs.length = cs.length
  ps : 0 < bs.length
theorem refs_ne {bs : List Addr} {xs : List Int} (h : 0 < bs.length) : HO.lst (bs.map V.ref) ≠ HO.lst (xs.map V.int) := by
  intro z
  injection z with z
  cases bs with
  | nil => simp at h
  | cons a r =>
    cases xs with
    | nil => simp at z
    | cons x y => simp at z
theorem nums_map (ns : List Nat) : nums ns = (ns.map fun n : Nat => (n : Int)).map V.int := by
  unfold nums
  rw [List.map_map]
  rfl
theorem refs_ne' {bs : List Addr} {ns : List Nat} (h : 0 < bs.length) : HO.lst (bs.map V.ref) ≠ HO.lst (nums ns) := by
  rw [nums_map]
  exact refs_ne h
section
variable {C : Addr} {H H' : Hp} {p lb dp dc : Addr} {bs : List Addr} {es : List Ent'} {cs : List (List Int)}
theorem FloorAt.same (F : FloorAt C H p lb dp dc bs es cs) (s : Same H H') : FloorAt C H' p lb dp dc bs es cs where
  ob := by obtain ⟨dx, h⟩ := F.ob; exact ⟨dx, s _ _ h⟩
  hb := s _ _ F.hb
  hp := s _ _ F.hp
  hc := s _ _ F.hc
  pc := F.pc
  pl := fun e he => s _ _ (F.pl e he)
  bl := fun i b hi => by obtain ⟨c, h1, h2, h3⟩ := F.bl i b hi; exact ⟨c, h1, s _ _ h2, h3⟩
  ln := F.ln
  ps := F.ps
theorem FloorAt.pb (F : FloorAt C H p lb dp dc bs es cs) : p ≠ lb := by
  obtain ⟨dx, h⟩ := F.ob
  exact ne_of h F.hb (by intro z; cases z)
theorem FloorAt.pp (F : FloorAt C H p lb dp dc bs es cs) : p ≠ dp := by
  obtain ⟨dx, h⟩ := F.ob
  exact ne_of h F.hp (by intro z; cases z)
theorem FloorAt.pcc (F : FloorAt C H p lb dp dc bs es cs) : p ≠ dc := by
  obtain ⟨dx, h⟩ := F.ob
  exact ne_of h F.hc (by intro z; cases z)
theorem FloorAt.bp (F : FloorAt C H p lb dp dc bs es cs) : lb ≠ dp := ne_of F.hb F.hp (by intro z; cases z)
theorem FloorAt.bcc (F : FloorAt C H p lb dp dc bs es cs) : lb ≠ dc := ne_of F.hb F.hc (by intro z; cases z)
theorem FloorAt.plb (F : FloorAt C H p lb dp dc bs es cs) {e : Ent'} (he : e ∈ es) : e.ad ≠ lb := (ne_of F.hb (F.pl e he) (refs_ne' F.ps)).symm
theorem FloorAt.plp (F : FloorAt C H p lb dp dc bs es cs) {e : Ent'} (he : e ∈ es) : e.ad ≠ dp := ne_of (F.pl e he) F.hp (by intro z; cases z)
theorem FloorAt.plc (F : FloorAt C H p lb dp dc bs es cs) {e : Ent'} (he : e ∈ es) : e.ad ≠ dc := ne_of (F.pl e he) F.hc (by intro z; cases z)
theorem FloorAt.lbb (F : FloorAt C H p lb dp dc bs es cs) {i : Nat} {b : Addr} (hi : bs[i]? = some b) : b ≠ lb := by
  obtain ⟨c, _, h, _⟩ := F.bl i b hi
  exact (ne_of F.hb h (refs_ne F.ps)).symm
end
/-! ### the law's own dict of files -/
structure FilesAt (H : Hp) (df : Addr) (kvs : List (Key × V)) (w : Str → Option (List Int)) : Prop where
  at_ : H df = some (.dK kvs)
  nd : (kvs.map (·.1)).Nodup
  str : ∀ q ∈ kvs, ∃ x, q.1 = (Sum.inr x : Key)
  val : ∀ x, (valV kvs (Sum.inr x : Key) = none ∧ w x = none) ∨ ∃ a ws, valV kvs (Sum.inr x : Key) = some (.ref a) ∧ w x = some ws ∧ H a = some (.lst (ws.map V.int)) ∧ ws.length ≤ 119
theorem FilesAt.same {H H' : Hp} {df : Addr} {kvs : List (Key × V)} {w : Str → Option (List Int)} (F : FilesAt H df kvs w) (h1 : H' df = some (.dK kvs)) (s : ∀ a xs, H a = some (.lst xs) → (∃ ws : List Int, xs = ws.map V.int) → H' a = some (.lst xs)) : FilesAt H' df kvs w where
  at_ := h1
  nd := F.nd
  str := F.str
  val := fun x => by
    rcases F.val x with h | ⟨a, ws, e1, e2, e3, e4⟩
    · exact .inl h
    · exact .inr ⟨a, ws, e1, e2, s _ _ e3 ⟨ws, rfl⟩, e4⟩
/-- all but three places as they were -/
def But3 (H H' : Hp) (a b c : Addr) : Prop := ∀ q o, H q = some o → q ≠ a → q ≠ b → q ≠ c → H' q = some o
theorem But3.trans {H H1 H2 : Hp} {a b c : Addr} (x : But3 H H1 a b c) (y : But3 H1 H2 a b c) : But3 H H2 a b c := fun q o e h1 h2 h3 => y q o (x q o e h1 h2 h3) h1 h2 h3
theorem But3.of {H H' : Hp} {a b c : Addr} (s : Same H H') : But3 H H' a b c := fun q o e _ _ _ => s q o e
/-- what the top has left -/
structure Txt (K : PySem.W.Frag) (mg : Str → Option Value) (C : Addr) : Prop where
  cl : Cls K C
  nB : NoAttr K C "blocks"
  nP : NoAttr K C "places"
  nC : NoAttr K C "counts"
  mgC : mg "Floor" = some (.ref C)
  blk : ∃ t, mg "BLOCK" = some (.int 16 t)
  len : mg "len" = none
  range : mg "range" = none
  enum : mg "enumerate" = none
  list : mg "list" = none
  abs : mg "abs" = none
  max : mg "max" = none
  isi : mg "isinstance" = none
  int : mg "int" = none
  bool : mg "bool" = none
  all : mg "all" = none
/-- an own class of errors that is raised -/
structure ExcT (K : PySem.W.Frag) (mg : Str → Option Value) (x : Str) (C CT : Addr) : Prop where
  g : mg x = some (.ref C)
  ex : PySem.W.excIn K C He.veBase "ValueError.__new__" = true
  kp : (PySem.W.keepIn K (.ref C)) = true
  b : PySem.W.subIn K (.ref C) (.type "BaseException") = some true
  t : PySem.W.typeIn K (.ref C) = some (.type "type")
  m : PySem.W.exmOne K (.ref C) (.ref CT) = some true
theorem map_ints {ns : List Int} {i : Nat} {v : V} (h : (ns.map V.int)[i]? = some v) : ∃ n, ns[i]? = some n ∧ v = V.int n := by
  rw [List.getElem?_map] at h
  cases e : ns[i]? with
  | none => rw [e] at h; cases h
  | some n => rw [e] at h; exact ⟨n, rfl, (Option.some.inj h).symm⟩
theorem map_ints' {ns : List Int} {i : Nat} {n : Int} (h : ns[i]? = some n) : (ns.map V.int)[i]? = some (V.int n) := by
  rw [List.getElem?_map, h]
  rfl
theorem map_refs {ns : List Addr} {i : Nat} {n : Addr} (h : ns[i]? = some n) : (ns.map V.ref)[i]? = some (V.ref n) := by
  rw [List.getElem?_map, h]
  rfl
end K77

set_option Elab.async false
set_option linter.all false
set_option maxRecDepth 100000
set_option maxHeartbeats 4000000
/-! The law's draws: cell, mixed, parts. -/
namespace K77
open PySem PySem.Spec PyProof.Rows L2
def spCell (K : PySem.W.Frag) : Sp := fun vs H Q _ => ∃ (a : Addr) (ns : List Int) (k : Int), vs = [.ref a, .int k] ∧ SqL K H a (ns.map V.int) ∧ 0 ≤ k ∧ ∀ c : Int, Q (.int c) H
def spMixed : Sp := fun vs H Q _ => ∃ (c k : Int), vs = [.int c, .int k] ∧ 0 ≤ k ∧ k ≤ 1000 ∧ ∀ v : Int, Q (.int v) H
section
variable {P : Program} {w : World} {K : PySem.W.Frag} {mg : Str → Option Value} {base : Heap} {C : Addr}
theorem scCell : FnScope ["_law_script", "_law_k"] ["_law_script", "_law_k"] (defScope sCell) := ⟨rfl, rfl, rfl, by decide +kernel, rfl, by decide +kernel, by decide +kernel⟩
theorem ok_cell {f : Addr} {fd : FuncData} (F : FnP K "_law_cell" "_law_cell" sCell f fd) (T : Txt K mg C) : FnOk P w K mg base CX0 1 f fd ["_law_script", "_law_k"] (spCell K) := by
  refine (toFun F).ok scCell (fun vs H Q E h => ?_) (fun cdv A outer s H vs Q E hr h => ?_)
  · obtain ⟨a, ns, k, rfl, _⟩ := h
    rfl
  · obtain ⟨a, ns, k, rfl, hS, h0, hQ⟩ := h
    refine ⟨_, pss_cons (ps_if (pt_cmpR op_lt (pv 1) (pe_callB call_len_seq (by rfl) T.len PySem.boot_len (pa_cons (pv 0) pa_nil)) (nomark _)) (pss_one (ps_ret (pe_ix ix_list (pv 0) (pv 1) (fun _ _ => rfl)))) pss_nil) (pss_one (ps_ret pe_int)), ?_⟩
    refine ⟨_, rfl, _, rfl, a, _, rfl, .inl hS, _, _, rfl, rfl, _, rfl, ?_⟩
    refine ite2 (fun q => ?_) (fun q => ?_)
    · have q : k < ((ns.map V.int).length : Int) := of_decide_eq_true q
      rw [List.length_map] at q
      have hk : k.toNat < ns.length := by omega
      exact ⟨_, rfl, _, rfl, a, _, _, V.int ns[k.toNat], rfl, rfl, hS, at_of (j := k.toNat) (by omega) (map_ints' (List.getElem?_eq_getElem hk)), hQ _⟩
    · exact hQ _
theorem scMixed : FnScope ["_law_cell_here", "_law_k", "_law_once"] ["_law_cell_here", "_law_k"] (defScope sMixed) := ⟨rfl, rfl, rfl, by decide +kernel, rfl, by decide +kernel, by decide +kernel⟩
theorem ok_mixed {f : Addr} {fd : FuncData} (F : FnP K "_law_mixed" "_law_mixed" sMixed f fd) : FnOk P w K mg base CX0 1 f fd ["_law_cell_here", "_law_k"] spMixed := by
  refine (toFun F).ok scMixed (fun vs H Q E h => ?_) (fun cdv A outer s H vs Q E hr h => ?_)
  · obtain ⟨c, k, rfl, _⟩ := h
    rfl
  · obtain ⟨c, k, rfl, h0, h1, hQ⟩ := h
    refine ⟨_, pss_cons (ps_set (i := 2) scMixed.nd rfl (Or.inl rfl) (pe_op op_mod (pe_op op_mul (pe_op op_add (pe_op op_add (pe_op op_mod (pv 0) pe_int) (pe_op op_mul pe_int (pv 1))) pe_int) (pe_op op_add (pe_op op_mul (pv 1) (pv 1)) pe_int)) pe_int))
      (pss_one (ps_ret (pe_op op_mod (pe_op op_mul (pv 2) (pe_op op_add (pe_op op_add (pe_op op_mod (pv 2) pe_int) (pv 1)) pe_int)) pe_int))), ?_⟩
    have kk : 0 ≤ k * k ∧ k * k ≤ 1000 * 1000 := ⟨Int.mul_nonneg h0 h0, Int.mul_le_mul h1 h1 h0 (by decide)⟩
    refine ⟨_, rfl, _, _, rfl, rfl, (by show (0 : Int) < _; decide), _, rfl, _, _, rfl, rfl, .inl ⟨by decide, by decide⟩, _, _, rfl, rfl, _, _, rfl, rfl, _, rfl, _, rfl, _, _, rfl, rfl, .inl ⟨by omega, by omega⟩, _, _, rfl, rfl, _, _, rfl, rfl, .inr ⟨by omega, by omega⟩, _, _, rfl, rfl, (by show (0 : Int) < _; decide), ?_⟩
    generalize hon : ((c % 2305843009213693951 + 3 * k + 1) * (k * k + 48271) % 2147483399 : Int) = on
    have b0 : 0 ≤ on % 1013 := Int.emod_nonneg _ (by decide)
    have b1 : on % 1013 < 1013 := Int.emod_lt_of_pos _ (by decide)
    refine ⟨_, rfl, _, rfl, _, _, rfl, rfl, (by show (0 : Int) < _; decide), _, rfl, _, _, rfl, rfl, _, _, rfl, rfl, _, _, rfl, rfl, .inr ⟨?_, ?_⟩, _, _, rfl, rfl, (by show (0 : Int) < _; decide), hQ _⟩
    · omega
    · omega
theorem snoc_all {fs zs : List Int} {n : Nat} {f0 z0 : Int} (h : ∀ (i : Nat) (f z : Int), fs[i]? = some f → zs[i]? = some z → 0 ≤ f ∧ f < z) (hl : fs.length = n) (hz : zs[n]? = some z0) (h0 : 0 ≤ f0 ∧ f0 < z0) :
    ∀ (i : Nat) (f z : Int), (fs ++ [f0])[i]? = some f → zs[i]? = some z → 0 ≤ f ∧ f < z := fun i f z e1 e2 => by
  by_cases c : i < fs.length
  · rw [List.getElem?_append_left c] at e1
    exact h i f z e1 e2
  · rw [List.getElem?_append_right (by omega)] at e1
    have hi : i - fs.length = 0 := by
      have := (List.getElem?_eq_some_iff.mp e1).1
      rw [List.length_singleton] at this
      omega
    rw [hi] at e1
    have e3 : f0 = f := Option.some.inj e1
    have e4 : i = n := by omega
    subst e3 e4
    rw [hz] at e2
    cases e2
    exact h0
/-- figures below the sizes -/
def spParts (K : PySem.W.Frag) : Sp := fun vs H Q _ => ∃ (a b : Addr) (ns zs : List Int) (k : Int), vs = [.ref a, .int k, .ref b] ∧ SqL K H a (ns.map V.int) ∧ ns.length ≤ 63 ∧ 0 ≤ k ∧ k ≤ 63 ∧ SqL K H b (zs.map V.int) ∧ zs.length ≤ 10 ∧ (∀ z ∈ zs, 0 < z ∧ z < 1073741824) ∧
  ∀ (H' : Hp) (q : Addr) (fs : List Int), Same H H' → H q = none → H' q = some (.lst (fs.map V.int)) → fs.length = zs.length → (∀ (i : Nat) (f z : Int), fs[i]? = some f → zs[i]? = some z → 0 ≤ f ∧ f < z) → Q (.ref q) H'
abbrev NParts : List Str := ["_law_script", "_law_k", "_law_sizes", "_law_rest", "_law_plain", "_law_found", "_law_j", "_law_size", "_law_cell_here"]
theorem scParts : FnScope NParts ["_law_script", "_law_k", "_law_sizes"] (defScope sParts) := ⟨rfl, rfl, rfl, by decide +kernel, rfl, by decide +kernel, by decide +kernel⟩
theorem ok_parts {f fC fM : Addr} {fd fdC fdM : FuncData} (F : FnP K "_law_parts" "_law_parts" sParts f fd) (T : Txt K mg C) (CC : Cal P w K mg base CX0 1 "_law_cell" fC fdC ["_law_script", "_law_k"] (spCell K)) (CM : Cal P w K mg base CX0 1 "_law_mixed" fM fdM ["_law_cell_here", "_law_k"] spMixed) :
    FnOk P w K mg base CX0 2 f fd ["_law_script", "_law_k", "_law_sizes"] (spParts K) := by
  refine (toFun F).ok scParts (fun vs H Q E h => ?_) (fun cdv A outer s H vs Q E hr h => ?_)
  · obtain ⟨a, b, ns, zs, k, rfl, _⟩ := h
    rfl
  · obtain ⟨a, b, ns, zs, k, rfl, hS, hn, h0, h1, hZ, hzl, hzb, hQ⟩ := h
    have nd := scParts.nd
    refine ⟨_, pss_cons (ps_set (i := 3) nd rfl (Or.inl rfl) (pe_callB call_abs (by rfl) T.abs (by decide +kernel) (pa_cons (pe_call CC.G hr rfl CC.g CC.kp CC.b .nil pass0 (pa_cons (pv 0) (pa_cons (pv 1) pa_nil))) pa_nil)))
      (pss_cons (ps_set (i := 4) nd rfl (Or.inl rfl) (pe_cmpR op_ge (pv 3) (pe_op op_pow pe_int pe_int) (nomark _)))
      (pss_cons (ps_set (i := 5) nd rfl (Or.inl rfl) (pe_lst pa_nil))
      (pss_cons (ps_for PassesOwn.never rfl (pi_enum (by rfl) T.enum (pa_cons (pv 2) pa_nil)) (pg_tup rfl (pgs_cons (pg_name (i := 6) nd rfl (Or.inl rfl)) (pgs_cons (pg_name (i := 7) nd rfl (Or.inl rfl)) pgs_nil)))
        (pss_one (ps_if (PW.pt (pw_and (pt_val (pv 4)) (pw_and1 (pt_cmpR op_gt (pv 3) pe_int (nomark _)))))
          (pss_cons (ps_expr (pe_bm PySem.F.plainAttrs_list PySem.F.slot_list_append PySem.F.type_list_append mt_append (pv 5) (pa_cons (pe_op op_mod (pv 3) (pv 7)) pa_nil)))
            (pss_one (ps_set (i := 3) nd rfl (Or.inl rfl) (pe_op op_fdiv (pv 3) (pv 7)))))
          (pss_cons (ps_set (i := 8) nd rfl (Or.inl rfl) (pe_call CC.G hr rfl CC.g CC.kp CC.b .nil pass0 (pa_cons (pv 0) (pa_cons (pe_op op_mod (pv 1) (pe_callB (call_max2 rfl) (by rfl) T.max (by decide +kernel) (pa_cons pe_int (pa_cons (pe_callB call_len_seq (by rfl) T.len PySem.boot_len (pa_cons (pv 0) pa_nil)) pa_nil)))) pa_nil))))
            (pss_one (ps_expr (pe_bm PySem.F.plainAttrs_list PySem.F.slot_list_append PySem.F.type_list_append mt_append (pv 5) (pa_cons (pe_op op_mod (pe_call CM.G hr rfl CM.g CM.kp CM.b .nil pass0 (pa_cons (pe_call CM.G hr rfl CM.g CM.kp CM.b .nil pass0 (pa_cons (pv 8) (pa_cons (pe_op op_add (pv 6) (pe_op op_mul pe_int (pv 1))) pa_nil))) (pa_cons (pv 6) pa_nil))) (pv 7)) pa_nil))))))))
      (pss_one (ps_ret (pv 5)))))), ?_⟩
    refine ⟨_, rfl, _, rfl, a, ns, k, rfl, hS, h0, fun c => ?_⟩
    refine ⟨_, rfl, ?_⟩
    generalize (if c < 0 then -c else c) = r0
    refine ⟨_, rfl, _, _, rfl, rfl, ⟨by decide, by decide, by decide⟩, _, _, rfl, rfl, ?_⟩
    refine ⟨Nat.zero_le _, fun q hq => ?_⟩
    refine ⟨_, rfl, b, zs.map V.int, rfl, ?_, for_it (walk_enum (K := K) (a := b) (xs := zs.map V.int)) (fun i σ H' => ∃ (rest : Int) (pl : Bool) (fs : List Int) (v6 v7 v8 : Option V),
        σ = [some (.ref a), some (.int k), some (.ref b), some (.int rest), some (.bl pl), some (.ref q), v6, v7, v8] ∧ Same H H' ∧ H' q = some (.lst (fs.map V.int)) ∧ fs.length = i ∧ ∀ (i : Nat) (f z : Int), fs[i]? = some f → zs[i]? = some z → 0 ≤ f ∧ f < z)
      ?_ ?_ ?_ ?_⟩
    · exact (Same.seq (fun c o e => by rw [upd_ne (ne_of_none e hq)]; exact e) hZ)
    · exact ⟨r0, _, [], none, none, none, rfl, fun c o e => by rw [upd_ne (ne_of_none e hq)]; exact e, upd_same, rfl, fun i f z e => by simp at e⟩
    · rintro i σ H' hi ⟨rest, pl, fs, v6, v7, v8, rfl, s1, _⟩
      exact s1.seq hZ
    · rintro i x σ H1 H' hi ⟨rest, pl, fs, v6, v7, v8, rfl, s1, hq1, hl, hb⟩ ⟨TT, x1, y1, rfl, hT, rfl, e1, e2⟩
      obtain ⟨z, hz, rfl⟩ := map_ints e2
      cases e1
      have hzm : 0 < z ∧ z < 1073741824 := hzb z (List.mem_of_getElem? hz)
      have hil : i < zs.length := (List.getElem?_eq_some_iff.mp hz).1
      have qT : q ≠ TT := ne_of_none hq1 hT
      have s2 : Same H (upd H1 TT (.tup [.int (i : Nat), .int z])) := fun c o e => by rw [upd_ne (ne_of_none (s1 c o e) hT)]; exact s1 c o e
      have hq2 : (upd H1 TT (.tup [.int (i : Nat), .int z])) q = some (.lst (fs.map V.int)) := by rw [upd_ne qT]; exact hq1
      refine ⟨TT, _, rfl, SqT.of upd_same, rfl, _, _, rfl, _, _, rfl, rfl, ?_⟩
      have step : ∀ f0 : Int, 0 ≤ f0 → f0 < z → Same H (upd (upd H1 TT (.tup [.int (i : Nat), .int z])) q (.lst (fs.map V.int ++ [V.int f0]))) ∧ (upd (upd H1 TT (.tup [.int (i : Nat), .int z])) q (.lst (fs.map V.int ++ [V.int f0]))) q = some (.lst ((fs ++ [f0]).map V.int)) ∧
          (fs ++ [f0]).length = i + 1 ∧ ∀ (i : Nat) (f z : Int), (fs ++ [f0])[i]? = some f → zs[i]? = some z → 0 ≤ f ∧ f < z := fun f0 g0 g1 => by
        refine ⟨fun c o e => ?_, ?_, ?_, snoc_all hb hl hz ⟨g0, g1⟩⟩
        · rw [upd_ne (ne_of_none e hq)]; exact s2 c o e
        · rw [upd_same, List.map_append]; rfl
        · rw [List.length_append, List.length_singleton, hl]
      have small : (fs.map V.int).length < sizeLine := by rw [List.length_map]; exact small1000 (by omega)
      -- plain and rest > 0
      refine ⟨_, rfl, pl, rfl, ?_⟩
      cases pl with
      | true =>
        refine iteT ?_
        refine ⟨_, rfl, _, _, rfl, rfl, _, rfl, ?_⟩
        refine ite2 (fun _ => ?_) (fun _ => ?_)
        · refine ⟨_, rfl, .inl ⟨rfl, _, SqL.of hq2⟩, _, rfl, _, rfl, _, _, rfl, rfl, hzm.1, q, _, _, rfl, rfl, hq2, small, ?_⟩
          obtain ⟨a1, a2, a3, a4⟩ := step (rest % z) (Int.emod_nonneg _ (by omega)) (Int.emod_lt_of_pos _ hzm.1)
          exact ⟨_, rfl, _, rfl, _, _, rfl, rfl, hzm, _, _, _, _, _, _, rfl, a1, a2, a3, a4⟩
        · refine ⟨_, rfl, _, rfl, _, rfl, a, _, rfl, .inl (s2.seq hS), ?_⟩
          have hm : (0 : Int) < (if (((ns.map V.int).length : Nat) : Int) > 1 then (((ns.map V.int).length : Nat) : Int) else 1) := by
            by_cases c : (((ns.map V.int).length : Nat) : Int) > 1
            · rw [if_pos c]; omega
            · rw [if_neg c]; omega
          refine ⟨_, _, rfl, _, _, rfl, rfl, hm, a, ns, _, rfl, s2.seq hS, Int.emod_nonneg _ (by omega), fun c => ?_⟩
          refine ⟨_, rfl, .inl ⟨rfl, _, SqL.of hq2⟩, _, rfl, _, rfl, _, rfl, _, _, rfl, rfl, .inl ⟨by decide, by decide⟩, _, _, rfl, rfl, c, _, rfl, by omega, by omega, fun v => ?_⟩
          refine ⟨_, rfl, v, _, rfl, by omega, by omega, fun v2 => ?_⟩
          refine ⟨_, rfl, _, _, rfl, rfl, hzm.1, q, _, _, rfl, rfl, hq2, small, ?_⟩
          obtain ⟨a1, a2, a3, a4⟩ := step (v2 % z) (Int.emod_nonneg _ (by omega)) (Int.emod_lt_of_pos _ hzm.1)
          exact ⟨_, _, _, _, _, _, rfl, a1, a2, a3, a4⟩
      | false =>
        refine iteF ?_
        refine iteF ?_
        refine ⟨_, rfl, _, rfl, _, rfl, a, _, rfl, .inl (s2.seq hS), ?_⟩
        have hm : (0 : Int) < (if (((ns.map V.int).length : Nat) : Int) > 1 then (((ns.map V.int).length : Nat) : Int) else 1) := by
          by_cases c : (((ns.map V.int).length : Nat) : Int) > 1
          · rw [if_pos c]; omega
          · rw [if_neg c]; omega
        refine ⟨_, _, rfl, _, _, rfl, rfl, hm, a, ns, _, rfl, s2.seq hS, Int.emod_nonneg _ (by omega), fun c => ?_⟩
        refine ⟨_, rfl, .inl ⟨rfl, _, SqL.of hq2⟩, _, rfl, _, rfl, _, rfl, _, _, rfl, rfl, .inl ⟨by decide, by decide⟩, _, _, rfl, rfl, c, _, rfl, by omega, by omega, fun v => ?_⟩
        refine ⟨_, rfl, v, _, rfl, by omega, by omega, fun v2 => ?_⟩
        refine ⟨_, rfl, _, _, rfl, rfl, hzm.1, q, _, _, rfl, rfl, hq2, small, ?_⟩
        obtain ⟨a1, a2, a3, a4⟩ := step (v2 % z) (Int.emod_nonneg _ (by omega)) (Int.emod_lt_of_pos _ hzm.1)
        exact ⟨_, _, _, _, _, _, rfl, a1, a2, a3, a4⟩
    · rintro σ H' ⟨rest, pl, fs, v6, v7, v8, rfl, s1, hq1, hl, hb⟩
      rw [List.length_map] at hl
      exact ⟨_, rfl, hQ _ q fs s1 hq hq1 hl hb⟩
end
end K77

set_option Elab.async false
set_option linter.all false
set_option maxRecDepth 100000
set_option maxHeartbeats 4000000
/-! The law's names, words and deeds. -/
namespace K77
open PySem PySem.Spec PyProof.Rows L2
def spNames : Sp := fun vs H Q _ => ∃ (n : Int), vs = [.int n] ∧ 0 ≤ n ∧ ∀ (H' : Hp) (q : Addr) (ss : List Str), Same H H' → H q = none → H' q = some (.lst (ss.map V.str)) → ss.length = 6 → Q (.ref q) H'
abbrev alpha : Str := "abcdefghijklmnopqrstuvwxyz"
theorem alpha_len : alpha.length = 26 := by decide +kernel
theorem alpha_list : alpha.cps.toList.length = 26 := by decide +kernel
theorem alpha_at {i : Int} (h0 : 0 ≤ i) (h1 : i < 26) : ∃ c, atI alpha.cps.toList i = some c := by
  have hk : i.toNat < alpha.cps.toList.length := by rw [alpha_list]; omega
  refine ⟨alpha.cps.toList[i.toNat], ?_⟩
  unfold atI
  have e : ixN alpha.cps.toList.length i = some i.toNat := by
    unfold ixN
    rw [if_pos h0, if_pos (by rw [alpha_list]; omega)]
  rw [e]
  exact List.getElem?_eq_getElem hk
theorem alpha_small : alpha.length ≤ sizeLine := by
  rw [alpha_len, sizeLine_eq]
  decide
theorem mulOk_one (c : Nat) {n : Int} (h0 : 1 ≤ n) (h1 : n ≤ 8) : MulOk ⟨#[c]⟩ n := by
  have e : n = 1 ∨ n = 2 ∨ n = 3 ∨ n = 4 ∨ n = 5 ∨ n = 6 ∨ n = 7 ∨ n = 8 := by omega
  rcases e with rfl | rfl | rfl | rfl | rfl | rfl | rfl | rfl
  all_goals
    refine ⟨by decide, fun _ _ => ?_, fun _ _ => ?_⟩
    · show ¬ (((1 : Nat) : Int) > _)
      decide
    · show decide (_ > sizeLine) = false
      rw [sizeLine_eq]
      apply decide_eq_false
      show ¬ ((1 : Nat) * _ > _)
      decide
section
variable {P : Program} {w : World} {K : PySem.W.Frag} {mg : Str → Option Value} {base : Heap} {C : Addr}
abbrev NNames : List Str := ["_law_number", "_law_letters", "_law_first", "_law_size", "_law_at", "_law_stem", "_law_k"]
theorem scNames : FnScope NNames ["_law_number"] (defScope sNames) := ⟨rfl, rfl, rfl, by decide +kernel, rfl, by decide +kernel, by decide +kernel⟩
theorem ok_names {f : Addr} {fd : FuncData} (F : FnP K "_law_names" "_law_names" sNames f fd) (T : Txt K mg C) : FnOk P w K mg base CX0 1 f fd ["_law_number"] spNames := by
  refine (toFun F).ok scNames (fun vs H Q E h => ?_) (fun cdv A outer s H vs Q E hr h => ?_)
  · obtain ⟨n, rfl, _⟩ := h
    rfl
  · obtain ⟨n, rfl, h0, hQ⟩ := h
    have nd := scNames.nd
    refine ⟨_, pss_cons (ps_set (i := 1) nd rfl (Or.inr rfl) pe_str)
      (pss_cons (ps_set (i := 2) nd rfl (Or.inr rfl) (pe_op op_mod (pe_op op_fdiv (pv 0) pe_int) pe_int))
      (pss_cons (ps_if (pt_cmpR op_eq (pe_op op_mod (pv 0) pe_int) pe_int (nomark _))
        (pss_one (ps_ret (pe_lc (own := [("_law_k", 6)]) (g := gName 6) (tt := tYes) rfl nd (pi_range1 rfl T.range (pa_cons pe_int pa_nil)) (blkOk_by (own := [("_law_k", 6)]) (N := NNames) (sc := defScope sNames) (by decide +kernel)) (fun _ _ _ _ _ => pg_name (i := 6) nd rfl (Or.inl rfl)) (fun _ _ _ _ _ => pts_nil)
          (fun _ _ _ _ _ => pe_op op_mul_str (pe_ix ix_str (pv 1) (pv 2) (fun _ _ => rfl)) (pe_op op_sub pe_int (pv 6)))))) pss_nil)
      (pss_cons (ps_set (i := 3) nd rfl (Or.inl rfl) (pe_op op_mod (pe_op op_fdiv (pv 0) pe_int) pe_int))
      (pss_cons (ps_set (i := 4) nd rfl (Or.inr rfl) (pe_op op_mod (pe_op op_fdiv (pv 0) pe_int) (pe_op op_add (pv 3) pe_int)))
      (pss_cons (ps_set (i := 5) nd rfl (Or.inr rfl) (pe_join pe_str (pe_lc (own := [("_law_k", 6)]) (g := gName 6) (tt := tYes) rfl nd (pi_range1 rfl T.range (pa_cons (pv 3) pa_nil)) (blkOk_by (own := [("_law_k", 6)]) (N := NNames) (sc := defScope sNames) (by decide +kernel)) (fun _ _ _ _ _ => pg_name (i := 6) nd rfl (Or.inl rfl)) (fun _ _ _ _ _ => pts_nil)
          (fun _ _ _ _ _ => pe_ix ix_str (pv 1) (pe_op op_mod (pe_op op_add (pe_op op_fdiv (pv 0) pe_int) (pe_op op_mul pe_int (pv 6))) pe_int) (fun _ _ => rfl)))))
      (pss_one (ps_ret (pe_lc (own := [("_law_k", 6)]) (g := gName 6) (tt := tYes) rfl nd (pi_range1 rfl T.range (pa_cons pe_int pa_nil)) (blkOk_by (own := [("_law_k", 6)]) (N := NNames) (sc := defScope sNames) (by decide +kernel)) (fun _ _ _ _ _ => pg_name (i := 6) nd rfl (Or.inl rfl)) (fun _ _ _ _ _ => pts_nil)
          (fun _ _ _ _ _ => pe_op op_add_str (pe_op op_add_str (pe_slice sl_str (pv 5) po_none (po_some (pv 4))) (pe_ix ix_str (pv 1) (pe_op op_mod (pe_op op_add (pv 2) (pe_op op_mul pe_int (pv 6))) pe_int) (fun _ _ => rfl))) (pe_slice sl_str (pv 5) (po_some (pv 4)) po_none)))))))))), ?_⟩
    refine ⟨_, rfl, _, _, rfl, rfl, ⟨by decide, by decide⟩, _, _, rfl, rfl, (by show (0 : Int) < 26; decide), ?_⟩
    have f0 : 0 ≤ n / 2 % 26 := Int.emod_nonneg _ (by decide)
    have f1 : n / 2 % 26 < 26 := Int.emod_lt_of_pos _ (by decide)
    refine ⟨_, rfl, _, _, rfl, rfl, (by show (0 : Int) < 2; decide), rfl, _, rfl, ?_⟩
    refine ite2 (fun _ => ?_) (fun _ => ?_)
    · -- the beginnings of one another
      refine ⟨6, rfl, by decide, by decide, fun D hD => lc_range (n := 6) (fun i H' => Same H H' ∧ ∃ ss : List Str, H' D = some (.lst (ss.map V.str)) ∧ ss.length = i)
        ⟨fun c o e => by rw [upd_ne (ne_of_none e hD)]; exact e, [], upd_same, rfl⟩ ?_ ?_⟩
      · rintro i H' hi ⟨s1, ss, hq, hl⟩
        obtain ⟨c, hc⟩ := alpha_at f0 f1
        refine ⟨rfl, _, rfl, _, rfl, alpha, _, c, rfl, rfl, alpha_small, hc, _, rfl, _, _, rfl, rfl, _, _, rfl, rfl, mulOk_one c (by omega) (by omega), ?_⟩
        refine ⟨_, hq, by rw [List.length_map]; exact small1000 (by omega), fun c o e => ?_, ss ++ [Txt.mul ⟨#[c]⟩ (8 - (0 + (i : Int)))], ?_, by rw [List.length_append, List.length_singleton, hl]⟩
        · rw [upd_ne (ne_of_none e hD)]; exact s1 c o e
        · rw [upd_same, List.map_append]; rfl
      · rintro H' ⟨s1, ss, hq, hl⟩
        exact hQ H' D ss s1 hD hq hl
    · -- a letter within a stem
      refine ⟨_, rfl, _, _, rfl, rfl, ⟨by decide, by decide⟩, _, _, rfl, rfl, (by show (0 : Int) < 8; decide), ?_⟩
      have z0 : 0 ≤ n / 52 % 8 := Int.emod_nonneg _ (by decide)
      have z1 : n / 52 % 8 < 8 := Int.emod_lt_of_pos _ (by decide)
      refine ⟨_, rfl, _, _, rfl, rfl, ⟨by decide, by decide⟩, _, rfl, _, _, rfl, rfl, _, _, rfl, rfl, (by show (0 : Int) < n / 52 % 8 + 1; omega), ?_⟩
      refine ⟨⟨_, rfl⟩, _, rfl, n / 52 % 8, rfl, by omega, by omega, fun D hD => lc_range (n := (n / 52 % 8).toNat) (fun i H' => Same H H' ∧ ∃ ss : List Str, H' D = some (.lst (ss.map V.str)) ∧ ss.length = i ∧ ∀ y ∈ ss, y.length ≤ 1)
        ⟨fun c o e => by rw [upd_ne (ne_of_none e hD)]; exact e, [], upd_same, rfl, fun y hy => nomatch hy⟩ ?_ ?_⟩
      · rintro i H' hi ⟨s1, ss, hq, hl, hy⟩
        obtain ⟨c, hc⟩ := alpha_at (i := (n / 3328 + 5 * (0 + (i : Int))) % 26) (Int.emod_nonneg _ (by decide)) (Int.emod_lt_of_pos _ (by decide))
        refine ⟨rfl, _, rfl, _, rfl, _, _, rfl, rfl, ⟨by decide, by decide⟩, _, rfl, _, _, rfl, rfl, .inl ⟨by decide, by decide⟩, _, _, rfl, rfl, _, _, rfl, rfl, (by show (0 : Int) < 26; decide), alpha, _, c, rfl, rfl, alpha_small, hc, ?_⟩
        refine ⟨_, hq, by rw [List.length_map]; exact small1000 (by omega), fun c o e => ?_, ss ++ [⟨#[c]⟩], ?_, by rw [List.length_append, List.length_singleton, hl], fun y h => ?_⟩
        · rw [upd_ne (ne_of_none e hD)]; exact s1 c o e
        · rw [upd_same, List.map_append]; rfl
        · rcases List.mem_append.mp h with h | h
          · exact hy y h
          · have e : y = ⟨#[c]⟩ := by simpa using h
            rw [e]
            exact Nat.le_refl 1
      · rintro H' ⟨s1, ss, hq, hl, hy⟩
        have hsum := StrLaws.sumLen_le (B := 1) ss hy
        have hjl : (Txt.join ("" : Str) ss).length ≤ 7 := by
          show (Builtin.Str.glued _ ss).length ≤ 7
          rw [size_glued]
          show _ + _ * 0 ≤ 7
          omega
        refine ⟨_, _, ss, rfl, rfl, .inl (SqL.of hq), (by show _ + _ * 0 ≤ 16777216; omega), ?_⟩
        have hjs : ∀ y : Str, y.length ≤ 20 → y.length ≤ sizeLine := fun y h => Nat.le_of_lt (small1000 (by omega))
        have hjs' : ∀ k : Nat, k ≤ 20 → k ≤ sizeLine := fun k h => Nat.le_of_lt (small1000 (by omega))
        generalize Txt.join ("" : Str) ss = stem at hjl
        refine ⟨6, rfl, by decide, by decide, fun D2 hD2 => lc_range (n := 6) (fun i H2 => Same H' H2 ∧ ∃ ss : List Str, H2 D2 = some (.lst (ss.map V.str)) ∧ ss.length = i)
          ⟨fun c o e => by rw [upd_ne (ne_of_none e hD2)]; exact e, [], upd_same, rfl⟩ ?_ ?_⟩
        · rintro i H2 hi ⟨s2, ss2, hq2, hl2⟩
          obtain ⟨c, hc⟩ := alpha_at (i := (n / 2 % 26 + 7 * (0 + (i : Int))) % 26) (Int.emod_nonneg _ (by decide)) (Int.emod_lt_of_pos _ (by decide))
          have l1 := cutS_length stem none (some (n / 416 % (n / 52 % 8 + 1)))
          have l2 := cutS_length stem (some (n / 416 % (n / 52 % 8 + 1))) none
          have l3 : ((cutS stem none (some (n / 416 % (n / 52 % 8 + 1)))) ++ (⟨#[c]⟩ : Str)).length = (cutS stem none (some (n / 416 % (n / 52 % 8 + 1)))).length + 1 := by
            rw [Str.length_append]
            rfl
          refine ⟨rfl, _, rfl, _, rfl, _, rfl, stem, rfl, hjs _ (by omega), _, rfl, _, rfl, _, rfl, _, _, rfl, rfl, .inl ⟨by decide, by decide⟩, _, _, rfl, rfl, _, _, rfl, rfl, (by show (0 : Int) < 26; decide), alpha, _, c, rfl, rfl, alpha_small, hc, ?_⟩
          refine ⟨_, _, rfl, rfl, hjs' _ (by show _ + 1 ≤ 20; omega), _, rfl, _, rfl, _, rfl, stem, rfl, hjs _ (by omega), _, _, rfl, rfl, hjs' _ (by rw [l3]; omega), ?_⟩
          refine ⟨_, hq2, by rw [List.length_map]; exact small1000 (by omega), fun c o e => ?_, ss2 ++ [cutS stem none (some (n / 416 % (n / 52 % 8 + 1))) ++ (⟨#[c]⟩ : Str) ++ cutS stem (some (n / 416 % (n / 52 % 8 + 1))) none], ?_, by rw [List.length_append, List.length_singleton, hl2]⟩
          · rw [upd_ne (ne_of_none e hD2)]; exact s2 c o e
          · rw [upd_same, List.map_append]; rfl
        · rintro H2 ⟨s2, ss2, hq2, hl2⟩
          exact hQ H2 D2 ss2 (s1.trans s2) (s1.free hD2) hq2 hl2
end
end K77

set_option Elab.async false
set_option linter.all false
set_option maxRecDepth 100000
set_option maxHeartbeats 4000000
/-! The law's words and deeds. -/
namespace K77
open PySem PySem.Spec PyProof.Rows L2
def spFilled : Sp := fun vs H Q _ => ∃ (c a b : Int), vs = [.int c, .int a, .int b] ∧ 0 ≤ c ∧ c ≤ 119 ∧ 0 ≤ b ∧ b < 65536 ∧ ∀ (H' : Hp) (q : Addr) (ws : List Int), Same H H' → H q = none → H' q = some (.lst (ws.map V.int)) → ws.length ≤ 119 → Q (.ref q) H'
def spDeed (K : PySem.W.Frag) : Sp := fun vs H Q _ => ∃ (a nl : Addr) (ns : List Int) (ss : List Str) (k : Int), vs = [.ref a, .int k, .ref nl] ∧ SqL K H a (ns.map V.int) ∧ ns.length ≤ 63 ∧ 0 ≤ k ∧ k ≤ 63 ∧ SqL K H nl (ss.map V.str) ∧ ss.length = 6 ∧
  ∀ (H' : Hp) (t q : Addr) (what x : Str) (ws : List Int), Same H H' → H' t = some (.tup [.str what, .str x, .ref q]) → H' q = some (.lst (ws.map V.int)) → ws.length ≤ 119 → (what = "keep" ∨ what = "drop") → Q (.ref t) H'
theorem five {fs : List Int} (h : fs.length = 5) : ∃ a b c d e, fs = [a, b, c, d, e] := by
  match fs, h with
  | [a, b, c, d, e], _ => exact ⟨a, b, c, d, e, rfl⟩
section
variable {P : Program} {w : World} {K : PySem.W.Frag} {mg : Str → Option Value} {base : Heap} {C : Addr}
abbrev NFilled : List Str := ["_law_count", "_law_first", "_law_step", "_law_k"]
theorem scFilled : FnScope NFilled ["_law_count", "_law_first", "_law_step"] (defScope sFilled) := ⟨rfl, rfl, rfl, by decide +kernel, rfl, by decide +kernel, by decide +kernel⟩
theorem ok_filled {f : Addr} {fd : FuncData} (F : FnP K "_law_filled" "_law_filled" sFilled f fd) (T : Txt K mg C) : FnOk P w K mg base CX0 1 f fd ["_law_count", "_law_first", "_law_step"] spFilled := by
  refine (toFun F).ok scFilled (fun vs H Q E h => ?_) (fun cdv A outer s H vs Q E hr h => ?_)
  · obtain ⟨c, a, b, rfl, _⟩ := h
    rfl
  · obtain ⟨c, a, b, rfl, c0, c1, b0, b1, hQ⟩ := h
    have nd := scFilled.nd
    refine ⟨_, pss_one (ps_ret (pe_lc (own := [("_law_k", 3)]) (g := gName 3) (tt := tYes) rfl nd (pi_range1 rfl T.range (pa_cons (pv 0) pa_nil)) (blkOk_by (own := [("_law_k", 3)]) (N := NFilled) (sc := defScope sFilled) (by decide +kernel)) (fun _ _ _ _ _ => pg_name (i := 3) nd rfl (Or.inl rfl)) (fun _ _ _ _ _ => pts_nil)
      (fun _ _ _ _ _ => pe_op op_mod (pe_op op_add (pv 1) (pe_op op_mul (pv 2) (pv 3))) pe_int))), ?_⟩
    refine ⟨_, rfl, c, rfl, by omega, by omega, fun D hD => lc_range (n := c.toNat) (fun i H' => Same H H' ∧ ∃ ws : List Int, H' D = some (.lst (ws.map V.int)) ∧ ws.length = i)
      ⟨fun c o e => by rw [upd_ne (ne_of_none e hD)]; exact e, [], upd_same, rfl⟩ ?_ ?_⟩
    · rintro i H' hi ⟨s1, ws, hq, hl⟩
      refine ⟨rfl, _, rfl, _, rfl, _, rfl, _, _, rfl, rfl, .inl ⟨by omega, by omega⟩, _, _, rfl, rfl, _, _, rfl, rfl, (by show (0 : Int) < 65536; decide), ?_⟩
      refine ⟨_, hq, by rw [List.length_map]; exact small1000 (by omega), fun c o e => ?_, ws ++ [(a + b * (0 + (i : Int))) % 65536], ?_, by rw [List.length_append, List.length_singleton, hl]⟩
      · rw [upd_ne (ne_of_none e hD)]; exact s1 c o e
      · rw [upd_same, List.map_append]; rfl
    · rintro H' ⟨s1, ws, hq, hl⟩
      exact hQ H' D ws s1 hD hq (by omega)
abbrev NDeed : List Str := ["_law_script", "_law_k", "_law_names_here", "_law_how", "_law_which", "_law_count", "_law_first", "_law_step", "_law_words"]
theorem scDeed : FnScope NDeed ["_law_script", "_law_k", "_law_names_here"] (defScope sDeed) := ⟨rfl, rfl, rfl, by decide +kernel, rfl, by decide +kernel, by decide +kernel⟩
theorem ok_deed {f fP fF : Addr} {fd fdP fdF : FuncData} (F : FnP K "_law_deed" "_law_deed" sDeed f fd) (T : Txt K mg C) (CP : Cal P w K mg base CX0 2 "_law_parts" fP fdP ["_law_script", "_law_k", "_law_sizes"] (spParts K)) (CF : Cal P w K mg base CX0 1 "_law_filled" fF fdF ["_law_count", "_law_first", "_law_step"] spFilled) :
    FnOk P w K mg base CX0 3 f fd ["_law_script", "_law_k", "_law_names_here"] (spDeed K) := by
  refine (toFun F).ok scDeed (fun vs H Q E h => ?_) (fun cdv A outer s H vs Q E hr h => ?_)
  · obtain ⟨a, nl, ns, ss, k, rfl, _⟩ := h
    rfl
  · obtain ⟨a, nl, ns, ss, k, rfl, hS, hn, h0, h1, hN, hl6, hQ⟩ := h
    have nd := scDeed.nd
    have hr1 : Room 1 _ := hr.mono (by decide)
    refine ⟨_, pss_cons (ps_asg (pe_call CP.G hr rfl CP.g CP.kp CP.b .nil pass0 (pa_cons (pv 0) (pa_cons (pv 1) (pa_cons (pe_lst (pa_cons pe_int (pa_cons pe_int (pa_cons pe_int (pa_cons pe_int (pa_cons pe_int pa_nil)))))) pa_nil))))
        (pg_unl rfl (pgs_cons (pg_name (i := 3) nd rfl (Or.inl rfl)) (pgs_cons (pg_name (i := 4) nd rfl (Or.inl rfl)) (pgs_cons (pg_name (i := 5) nd rfl (Or.inl rfl)) (pgs_cons (pg_name (i := 6) nd rfl (Or.inl rfl)) (pgs_cons (pg_name (i := 7) nd rfl (Or.inl rfl)) pgs_nil)))))))
      (pss_cons (ps_set (i := 8) nd rfl (Or.inl rfl) (pe_call CF.G hr1 rfl CF.g CF.kp CF.b .nil pass0 (pa_cons (pe_ix ix_list (pe_lst (pa_cons (pv 5) (pa_cons (pe_op op_mod (pv 5) pe_int) (pa_cons (pe_op op_mod (pv 5) pe_int) pa_nil)))) (pe_op op_mod (pv 6) pe_int) (fun _ _ => rfl)) (pa_cons (pv 6) (pa_cons (pv 7) pa_nil)))))
      (pss_one (ps_ret (pe_tup (pa_cons (pe_ix ix_list (pe_lst (pa_cons pe_str (pa_cons pe_str (pa_cons pe_str (pa_cons pe_str (pa_cons pe_str (pa_cons pe_str (pa_cons pe_str (pa_cons pe_str pa_nil))))))))) (pv 3) (fun _ _ => rfl)) (pa_cons (pe_ix ix_list (pv 2) (pv 4) (fun _ _ => rfl)) (pa_cons (pv 8) pa_nil))))))), ?_⟩
    refine ⟨_, rfl, _, rfl, (by show 5 ≤ sizeLine; decide), fun zl hzl => ?_⟩
    refine ⟨a, zl, ns, [8, 6, 120, 65536, 65536], k, rfl, Same.seq (fun c o e => by rw [upd_ne (ne_of_none e hzl)]; exact e) hS, hn, h0, h1, SqL.of upd_same, by decide, by decide, fun H1 q fs s1 hq0 hq hfl hfb => ?_⟩
    obtain ⟨how, which, count, first, step, rfl⟩ := five hfl
    have b0 := hfb 0 how 8 rfl rfl
    have b1 := hfb 1 which 6 rfl rfl
    have b2 := hfb 2 count 120 rfl rfl
    have b3 := hfb 3 first 65536 rfl rfl
    have b4 := hfb 4 step 65536 rfl rfl
    have s1' : Same H H1 := fun c o e => s1 c o (by rw [upd_ne (ne_of_none e hzl)]; exact e)
    refine ⟨q, _, rfl, SqL.of hq, rfl, _, _, rfl, _, _, rfl, _, _, rfl, _, _, rfl, _, _, rfl, rfl, ?_⟩
    obtain ⟨c, hc, c0, c1⟩ : ∃ c : Int, atI [V.int count, V.int (count % 34), V.int (count % 18)] (first % 3) = some (V.int c) ∧ 0 ≤ c ∧ c ≤ 119 := by
      have e : first % 3 = 0 ∨ first % 3 = 1 ∨ first % 3 = 2 := by omega
      rcases e with e | e | e <;> rw [e]
      · exact ⟨count, rfl, by omega, by omega⟩
      · exact ⟨count % 34, rfl, by omega, by omega⟩
      · exact ⟨count % 18, rfl, by omega, by omega⟩
    refine ⟨_, rfl, _, rfl, _, _, rfl, rfl, (by show (0 : Int) < 34; decide), _, rfl, _, _, rfl, rfl, (by show (0 : Int) < 18; decide), (by show 3 ≤ sizeLine; decide), fun l3 hl3 => ?_⟩
    refine ⟨_, rfl, _, _, rfl, rfl, (by show (0 : Int) < 3; decide), l3, _, _, _, rfl, rfl, SqL.of upd_same, hc, _, rfl, _, rfl, ?_⟩
    refine ⟨c, first, step, rfl, c0, c1, b4.1, b4.2, fun H2 qw ws s2 _ hw hwl => ?_⟩
    have s2' : Same H1 H2 := fun d o e => s2 d o (by rw [upd_ne (ne_of_none e hl3)]; exact e)
    have s3 : Same H H2 := s1'.trans s2'
    refine ⟨(by show 8 ≤ sizeLine; decide), fun l8 hl8 => ?_⟩
    obtain ⟨what, hwhat, hkd⟩ : ∃ what : Str, atI [V.str "keep", V.str "keep", V.str "keep", V.str "keep", V.str "keep", V.str "drop", V.str "drop", V.str "drop"] how = some (V.str what) ∧ (what = "keep" ∨ what = "drop") := by
      have e : how = 0 ∨ how = 1 ∨ how = 2 ∨ how = 3 ∨ how = 4 ∨ how = 5 ∨ how = 6 ∨ how = 7 := by omega
      rcases e with rfl | rfl | rfl | rfl | rfl | rfl | rfl | rfl
      · exact ⟨_, rfl, .inl rfl⟩
      · exact ⟨_, rfl, .inl rfl⟩
      · exact ⟨_, rfl, .inl rfl⟩
      · exact ⟨_, rfl, .inl rfl⟩
      · exact ⟨_, rfl, .inl rfl⟩
      · exact ⟨_, rfl, .inr rfl⟩
      · exact ⟨_, rfl, .inr rfl⟩
      · exact ⟨_, rfl, .inr rfl⟩
    have hlt : which.toNat < ss.length := by omega
    have hx : atI (ss.map V.str) which = some (V.str ss[which.toNat]) := at_of (j := which.toNat) (by omega) (by rw [List.getElem?_map, List.getElem?_eq_getElem hlt]; rfl)
    have s4 : Same H2 (upd H2 l8 (.lst [V.str "keep", V.str "keep", V.str "keep", V.str "keep", V.str "keep", V.str "drop", V.str "drop", V.str "drop"])) := fun d o e => by rw [upd_ne (ne_of_none e hl8)]; exact e
    refine ⟨_, rfl, l8, _, how, _, rfl, rfl, SqL.of upd_same, hwhat, _, rfl, _, rfl, nl, _, which, _, rfl, rfl, s4.seq (s3.seq hN), hx, _, rfl, (by show 3 ≤ sizeLine; decide), fun t ht => ?_⟩
    refine hQ _ t qw what _ ws (fun d o e => ?_) upd_same ?_ hwl hkd
    · rw [upd_ne (ne_of_none (s4 _ _ (s3 d o e)) ht)]; exact s4 _ _ (s3 d o e)
    · rw [upd_ne (ne_of_none (s4 _ _ hw) ht)]; exact s4 _ _ hw
end
end K77

set_option Elab.async false
set_option linter.all false
set_option maxRecDepth 100000
set_option maxHeartbeats 4000000
/-! The floor's small defs. -/
namespace K77
open PySem PySem.Spec PyProof.Rows L2
theorem nil_get {α : Type} {i : Nat} {a : α} (e : ([] : List α)[i]? = some a) : False := by
  rw [List.getElem?_nil] at e
  cases e
def spBF : Sp := fun vs H Q _ => ∃ n : Nat, vs = [.int (n : Int)] ∧ Q (.int (nblk n : Nat)) H
def spLB (K : PySem.W.Frag) : Sp := fun vs H Q _ => ∃ (a : Addr) (xs : List V), vs = [.ref a] ∧ SqL K H a xs ∧ Q (.int (nblk xs.length : Nat)) H
theorem rep16 : (List.replicate (16 : Int).toNat [V.int 0]).flatten = zero16.map V.int := rfl
theorem zero_ne {bs : List Addr} : HO.lst (bs.map V.ref) ≠ HO.lst (zero16.map V.int) := by
  intro z
  injection z with z
  cases bs with
  | nil => cases z
  | cons a r => injection z with z; cases z
def spInit (C : Addr) : Sp := fun vs H Q _ => ∃ (p dx : Addr) (B : Nat), vs = [.ref p, .int (B : Int)] ∧ 1 ≤ B ∧ B ≤ 20 ∧ H p = some (.ins C dx []) ∧
  ∀ (lb dp dc : Addr) (bs : List Addr) (H' : Hp), H lb = none → H dp = none → H dc = none → bs.length = B → FloorAt C H' p lb dp dc bs [] (List.replicate B zero16) → (∀ b o, H b = some o → b ≠ p → H' b = some o) → Q .non H'
section
variable {P : Program} {w : World} {K : PySem.W.Frag} {mg : Str → Option Value} {base : Heap} {C : Addr}
theorem scBF : FnScope ["many"] ["many"] (defScope sBF) := ⟨rfl, rfl, rfl, by decide +kernel, rfl, by decide +kernel, by decide +kernel⟩
theorem ok_bf {f : Addr} {fd : FuncData} (F : FnP K "blocks_for" "blocks_for" sBF f fd) (T : Txt K mg C) : FnOk P w K mg base CX0 1 f fd ["many"] spBF := by
  refine (toFun F).ok scBF (fun vs H Q E h => ?_) (fun cdv A outer s H vs Q E hr h => ?_)
  · obtain ⟨n, rfl, _⟩ := h
    rfl
  · obtain ⟨n, rfl, hQ⟩ := h
    obtain ⟨tB, hB⟩ := T.blk
    refine ⟨_, pss_one (ps_ret (pe_op op_fdiv (pe_op op_sub (pe_op op_add (pv 0) (pe_glob (v := .int 16) rfl hB ⟨_, rfl⟩)) pe_int) (pe_glob (v := .int 16) rfl hB ⟨_, rfl⟩))), ?_⟩
    refine ⟨_, rfl, _, _, rfl, rfl, _, _, rfl, rfl, _, _, rfl, rfl, ⟨by decide, by decide⟩, ?_⟩
    have e : ((n : Int) + 16 - 1) / 16 = ((nblk n : Nat) : Int) := by
      unfold nblk
      omega
    show Q (.int (((n : Int) + 16 - 1) / 16)) H
    rw [e]
    exact hQ
theorem scLB : FnScope ["_law_words"] ["_law_words"] (defScope sLBlocks) := ⟨rfl, rfl, rfl, by decide +kernel, rfl, by decide +kernel, by decide +kernel⟩
theorem ok_lb {f : Addr} {fd : FuncData} (F : FnP K "_law_blocks_of" "_law_blocks_of" sLBlocks f fd) (T : Txt K mg C) : FnOk P w K mg base CX0 1 f fd ["_law_words"] (spLB K) := by
  refine (toFun F).ok scLB (fun vs H Q E h => ?_) (fun cdv A outer s H vs Q E hr h => ?_)
  · obtain ⟨n, xs, rfl, _⟩ := h
    rfl
  · obtain ⟨a, xs, rfl, hS, hQ⟩ := h
    refine ⟨_, pss_one (ps_ret (pe_op op_fdiv (pe_op op_add (pe_callB call_len_seq (by rfl) T.len PySem.boot_len (pa_cons (pv 0) pa_nil)) pe_int) pe_int)), ?_⟩
    refine ⟨_, rfl, a, xs, rfl, .inl hS, _, _, rfl, rfl, _, _, rfl, rfl, ⟨by decide, by decide⟩, ?_⟩
    have e : ((xs.length : Nat) + 15 : Int) / 16 = ((nblk xs.length : Nat) : Int) := by
      unfold nblk
      omega
    show Q (.int (((xs.length : Nat) + 15 : Int) / 16)) H
    rw [e]
    exact hQ
abbrev NInit : List Str := ["self", "blocks", "number"]
theorem scInit : FnScope NInit ["self", "blocks"] (defScope sInit) := ⟨rfl, rfl, rfl, by decide +kernel, rfl, by decide +kernel, by decide +kernel⟩
theorem ok_init {f : Addr} {fd : FuncData} (F : FnP K "__init__" "Floor.__init__" sInit f fd) (T : Txt K mg C) : FnOk P w K mg base CX0 1 f fd ["self", "blocks"] (spInit C) := by
  refine (toFun F).ok scInit (fun vs H Q E h => ?_) (fun cdv A outer s H vs Q E hr h => ?_)
  · obtain ⟨p, dx, B, rfl, _⟩ := h
    rfl
  · obtain ⟨p, dx, B, rfl, B1, B20, hp, hQ⟩ := h
    obtain ⟨tB, hB⟩ := T.blk
    have nd := scInit.nd
    refine ⟨_, pss_cons (ps_fld (pv 0) (pe_lc (own := [("number", 2)]) (g := gName 2) (tt := tYes) rfl nd (pi_range1 rfl T.range (pa_cons (pv 1) pa_nil)) (blkOk_by (own := [("number", 2)]) (N := NInit) (sc := defScope sInit) (by decide +kernel)) (fun _ _ _ _ _ => pg_name (i := 2) nd rfl (Or.inl rfl)) (fun _ _ _ _ _ => pts_nil)
        (fun _ _ _ _ _ => pe_op op_rep (pe_lst (pa_cons pe_int pa_nil)) (pe_glob (v := .int 16) rfl hB ⟨_, rfl⟩))) rfl)
      (pss_cons (ps_fld (pv 0) pe_dnewK rfl) (pss_one (ps_fld (pv 0) pe_dnewK rfl))), ?_⟩
    refine ⟨_, rfl, (B : Int), rfl, by omega, by omega, fun D hD => lc_range (n := (B : Int).toNat) (fun i H' => Same H H' ∧ ∃ bs : List Addr, H' D = some (.lst (bs.map V.ref)) ∧ bs.length = i ∧ ∀ j b, bs[j]? = some b → H' b = some (.lst (zero16.map V.int)))
      ⟨fun c o e => by rw [upd_ne (ne_of_none e hD)]; exact e, [], upd_same, rfl, fun j b e => (nil_get e).elim⟩ ?_ ?_⟩
    · rintro i H1 hi ⟨s1, bs, hq, hl, hz⟩
      refine ⟨rfl, (by show 1 ≤ sizeLine; decide), fun l hl0 => ⟨l, 16, _, rfl, rfl, upd_same, by decide, by decide, (by show 16 ≤ sizeLine; decide), fun q hq0 => ?_⟩⟩
      have lD : D ≠ l := ne_of_none hq hl0
      have hq0' : H1 q = none := by
        by_cases c : q = l
        · rw [c, upd_same] at hq0; cases hq0
        · rw [upd_ne c] at hq0; exact hq0
      have qD : D ≠ q := ne_of_none hq hq0'
      refine ⟨_, by rw [upd_ne qD, upd_ne lD]; exact hq, by rw [List.length_map]; exact small1000 (by omega), fun c o e => ?_, bs ++ [q], ?_, by rw [List.length_append, List.length_singleton, hl], fun j b e => ?_⟩
      · rw [upd_ne (ne_of_none e hD), upd_ne (ne_of_none (s1 _ _ e) hq0'), upd_ne (ne_of_none (s1 _ _ e) hl0)]; exact s1 c o e
      · rw [upd_same, List.map_append]; rfl
      · have key : ∀ c, H1 c = some (.lst (zero16.map V.int)) → (upd (upd (upd H1 l (.lst [V.int 0])) q (.lst ((List.replicate (16 : Int).toNat [V.int 0]).flatten))) D (.lst (bs.map V.ref ++ [V.ref q]))) c = some (.lst (zero16.map V.int)) := fun c e => by
          have cD : c ≠ D := ne_of e hq zero_ne.symm
          rw [upd_ne cD, upd_ne (ne_of_none e hq0'), upd_ne (ne_of_none e hl0)]
          exact e
        by_cases c : j < bs.length
        · rw [List.getElem?_append_left c] at e
          exact key b (hz j b e)
        · rw [List.getElem?_append_right (by omega)] at e
          have hb : b = q := by
            have h0 : j - bs.length = 0 := by
              have := (List.getElem?_eq_some_iff.mp e).1
              rw [List.length_singleton] at this
              omega
            rw [h0] at e
            exact (Option.some.inj e).symm
          rw [hb, upd_ne qD.symm, upd_same]
          rfl
    · rintro H1 ⟨s1, bs, hq, hl, hz⟩
      have pD : p ≠ D := ne_of_none hp hD
      have hp1 : H1 p = some (.ins C dx []) := s1 p _ hp
      refine ⟨_, rfl, p, C, dx, [], rfl, hp1, T.cl, T.nB, (by show 0 < 1000; decide), ?_⟩
      intro d1 hd1
      have pd1 : p ≠ d1 := fun z => by rw [← z, upd_same] at hd1; cases hd1
      have hd1' : H1 d1 = none := by rw [upd_ne pd1.symm] at hd1; exact hd1
      refine ⟨_, rfl, p, C, dx, _, rfl, (by rw [upd_ne pd1, upd_same]), T.cl, T.nP, (by show 1 < 1000; decide), ?_⟩
      intro d2 hd2
      have pd2 : p ≠ d2 := fun z => by rw [← z, upd_same] at hd2; cases hd2
      rw [upd_ne pd2.symm] at hd2
      have dd : d2 ≠ d1 := fun z => by rw [z, upd_same] at hd2; cases hd2
      rw [upd_ne dd, upd_ne pd2.symm] at hd2
      refine ⟨_, rfl, p, C, dx, _, rfl, (by rw [upd_ne pd2, upd_same]), T.cl, T.nC, (by rw [flds_two]; show 2 < 1000; decide), ?_⟩
      have keep : ∀ b o, H1 b = some o → b ≠ p → (upd (upd (upd (upd (upd H1 p (.ins C dx (putF "blocks" (.ref D) []))) d1 (.dK [])) p (.ins C dx (putF "places" (.ref d1) (putF "blocks" (.ref D) [])))) d2 (.dK [])) p (.ins C dx (putF "counts" (.ref d2) (putF "places" (.ref d1) (putF "blocks" (.ref D) []))))) b = some o := fun b o e hb => by
        rw [upd_ne hb, upd_ne (ne_of_none e hd2), upd_ne hb, upd_ne (ne_of_none e hd1'), upd_ne hb]
        exact e
      have hl' : bs.length = B := by omega
      refine hQ D d1 d2 bs _ hD (s1.free hd1') (s1.free hd2) hl' ⟨⟨dx, ?_⟩, keep _ _ hq pD.symm, ?_, ?_, dd.symm, (fun e he => nomatch he), fun i b hi => ?_, by rw [hl', List.length_replicate], by omega⟩ fun b o e hb => keep b o (s1 b o e) hb
      · rw [upd_same, flds_eq]
      · rw [upd_ne pd1.symm, upd_ne dd.symm, upd_ne pd1.symm, upd_same]
        rfl
      · rw [upd_ne pd2.symm, upd_same]
        rfl
      · have hb := hz i b hi
        have hil := (List.getElem?_eq_some_iff.mp hi).1
        exact ⟨zero16, by rw [List.getElem?_replicate, if_pos (by omega)], keep _ _ hb (ne_of hb hp1 (by intro z; cases z)), rfl⟩
end
end K77

set_option Elab.async false
set_option linter.all false
set_option maxRecDepth 100000
set_option maxHeartbeats 4000000
/-! taken, free, look_name, blocks_of, block. -/
namespace K77
open PySem PySem.Spec PyProof.Rows L2
def spTaken (C : Addr) : Sp := fun vs H Q _ => ∃ (p lb dp dc : Addr) (bs : List Addr) (es : List Ent') (cs : List (List Int)), vs = [.ref p] ∧ FloorAt C H p lb dp dc bs es cs ∧ (es.map Ent.nm).Nodup ∧ (tk es).length ≤ 500 ∧
  ∀ (H' : Hp) (t : Addr), Same H H' → H t = none → H' t = some (.lst (nums (tk es))) → Q (.ref t) H'
def spFree (C : Addr) : Sp := fun vs H Q _ => ∃ (p lb dp dc : Addr) (bs : List Addr) (es : List Ent') (cs : List (List Int)), vs = [.ref p] ∧ FloorAt C H p lb dp dc bs es cs ∧ (es.map Ent.nm).Nodup ∧ (tk es).length ≤ 500 ∧
  ∀ (H' : Hp), Same H H' → Q (.int ((bs.length : Int) - ((tk es).length : Int))) H'
def spLook (C CF : Addr) : Sp := fun vs H Q E => ∃ (p lb dp dc : Addr) (bs : List Addr) (es : List Ent') (cs : List (List Int)) (x : Str), vs = [.ref p, .str x] ∧ FloorAt C H p lb dp dc bs es cs ∧ (es.map Ent.nm).Nodup ∧
  (∀ e ∈ es, e.nm = x → Q .non H) ∧ ((∀ e ∈ es, e.nm ≠ x) → E (.ref CF) none H)
def spBlocksOf (C : Addr) : Sp := fun vs H Q _ => ∃ (p lb dp dc : Addr) (bs : List Addr) (es : List Ent') (cs : List (List Int)) (e : Ent'), vs = [.ref p, .str e.nm] ∧ FloorAt C H p lb dp dc bs es cs ∧ (es.map Ent.nm).Nodup ∧ e ∈ es ∧
  ∀ (H' : Hp) (q : Addr), Same H H' → H q = none → H' q = some (.lst (nums e.ns)) → Q (.ref q) H'
def spBlock (C : Addr) : Sp := fun vs H Q _ => ∃ (p lb dp dc : Addr) (bs : List Addr) (es : List Ent') (cs : List (List Int)) (n : Nat), vs = [.ref p, .int (n : Int)] ∧ FloorAt C H p lb dp dc bs es cs ∧ n < bs.length ∧
  ∀ (H' : Hp) (q : Addr) (c : List Int), Same H H' → H q = none → cs[n]? = some c → c.length = 16 → H' q = some (.lst (c.map V.int)) → Q (.ref q) H'
section
variable {P : Program} {w : World} {K : PySem.W.Frag} {mg : Str → Option Value} {base : Heap} {C : Addr}
theorem scTaken : FnScope ["self", "taken", "name"] ["self"] (defScope sTaken) := ⟨rfl, rfl, rfl, by decide +kernel, rfl, by decide +kernel, by decide +kernel⟩
theorem tk_more {es : List Ent'} {i : Nat} {e : Ent'} (h : es[i]? = some e) : tk (es.take (i + 1)) = tk (es.take i) ++ e.ns := by
  rw [List.take_add_one, h]
  show tk (es.take i ++ [e]) = _
  rw [tk_append, tk_one]
theorem tk_take_le (es : List Ent') (i : Nat) : (tk (es.take i)).length ≤ (tk es).length := by
  have e : tk es = tk (es.take i) ++ tk (es.drop i) := by rw [← tk_append, List.take_append_drop]
  rw [e, List.length_append]
  omega
theorem nums_app (a b : List Nat) : nums (a ++ b) = nums a ++ nums b := by
  unfold nums
  rw [List.map_append]
theorem ok_taken {f : Addr} {fd : FuncData} (F : FnP K "taken" "Floor.taken" sTaken f fd) (T : Txt K mg C) : FnOk P w K mg base CX0 1 f fd ["self"] (spTaken C) := by
  refine (toFun F).ok scTaken (fun vs H Q E h => ?_) (fun cdv A outer s H vs Q E hr h => ?_)
  · obtain ⟨p, lb, dp, dc, bs, es, cs, rfl, _⟩ := h
    rfl
  · obtain ⟨p, lb, dp, dc, bs, es, cs, rfl, FL, ndE, hsz, hQ⟩ := h
    have nd := scTaken.nd
    have hu := hu_of hr
    refine ⟨_, pss_cons (ps_set (i := 1) nd rfl (Or.inl rfl) (pe_lst pa_nil))
      (pss_cons (ps_lock (ps_for PassesOwn.never rfl (pi_keys (pe_fld (pv 0) rfl)) (pg_name (i := 2) nd rfl (Or.inl rfl))
        (pss_one (ps_aug (i := 1) nd rfl (Or.inl rfl) (pe_dget hu (pe_fld (pv 0) rfl) (pv 2) (fun _ _ => rfl)) iop_ext))))
      (pss_one (ps_ret (pv 1)))), ?_⟩
    refine ⟨Nat.zero_le _, fun t ht => ?_⟩
    obtain ⟨dx, hob⟩ := FL.ob
    have tdp : dp ≠ t := ne_of_none FL.hp ht
    have tp : p ≠ t := ne_of_none hob ht
    refine ⟨dp, .dK (kvP es), by rw [upd_ne tdp]; exact FL.hp, trivial, fun od => ?_⟩
    have pdp := FL.pp
    refine ⟨_, rfl, p, C, dx, _, _, rfl, (by rw [upd_ne pdp, upd_ne tp]; exact hob), T.cl, T.nP, flds_p _ _ _, dp, od, rfl, .inl ⟨kvP es, upd_same, ?_⟩⟩
    refine for_it (walk_keys (kvs := kvP es)) (fun i σ H' => ∃ v : Option V, σ = [some (.ref p), some (.ref t), v] ∧ H' dp = some (.frz od (.dK (kvP es))) ∧ H' t = some (.lst (nums (tk (es.take i)))) ∧ ∀ b o, H b = some o → b ≠ dp → H' b = some o) ?_ ?_ ?_ ?_
    · exact ⟨none, rfl, upd_same, by rw [upd_ne tdp.symm, upd_same]; rfl, fun b o e hb => by rw [upd_ne hb, upd_ne (ne_of_none e ht)]; exact e⟩
    · rintro i σ H' hi ⟨v, rfl, h1, _⟩
      exact h1
    · rintro i x σ H1 H' hi ⟨v, rfl, h1, h2, h3⟩ ⟨rfl, k, y, hk, rfl⟩
      obtain ⟨e, he, rfl, rfl⟩ := map_get _ hk
      have hm : e ∈ es := List.mem_of_getElem? he
      have eadp : e.ad ≠ dp := FL.plp hm
      have h4 : H' e.ad = some (.lst (nums e.ns)) := h3 _ _ (FL.pl e hm) eadp
      have h5 : H' p = some (.ins C dx (flds lb dp dc)) := h3 _ _ hob FL.pp
      have hz := tk_take_le es (i + 1)
      rw [tk_more he, List.length_append] at hz
      refine ⟨_, rfl, _, rfl, p, C, dx, _, _, rfl, h5, T.cl, T.nP, flds_p _ _ _, _, rfl, dp, _, rfl, .inl ⟨kvP es, Sum.inr e.nm, .inr ⟨od, h1⟩, rfl, (valV_map _ ndE hm).symm⟩, ?_⟩
      refine ⟨t, e.ad, _, _, rfl, rfl, h2, h4, ?_, ?_⟩
      · rw [nums_len, nums_len]
        exact Nat.le_of_lt (small1000 (by omega))
      · refine ⟨_, rfl, by rw [upd_ne tdp]; exact h1, ?_, fun b o e2 hb => ?_⟩
        · rw [upd_same, tk_more he, nums_app]
        · rw [upd_ne (ne_of_none e2 ht)]
          exact h3 b o e2 hb
    · rintro σ H' ⟨v, rfl, h1, h2, h3⟩
      have hl : (kvP es).length = es.length := by unfold kvP; rw [List.length_map]
      rw [hl, List.take_length] at h2
      refine ⟨h1, _, rfl, hQ _ t (fun b o e => ?_) ht (by rw [upd_ne tdp.symm]; exact h2)⟩
      by_cases c : b = dp
      · subst c
        rw [FL.hp] at e
        cases e
        exact upd_same
      · rw [upd_ne c]
        exact h3 b o e c
theorem scFree : FnScope ["self"] ["self"] (defScope sFree) := ⟨rfl, rfl, rfl, by decide +kernel, rfl, by decide +kernel, by decide +kernel⟩
theorem ok_free {f fT : Addr} {fd fdT : FuncData} (F : FnP K "free" "Floor.free" sFree f fd) (T : Txt K mg C) (CT : CalM P w K mg base CX0 1 C "taken" fT fdT ["self"] (spTaken C)) : FnOk P w K mg base CX0 2 f fd ["self"] (spFree C) := by
  refine (toFun F).ok scFree (fun vs H Q E h => ?_) (fun cdv A outer s H vs Q E hr h => ?_)
  · obtain ⟨p, lb, dp, dc, bs, es, cs, rfl, _⟩ := h
    rfl
  · obtain ⟨p, lb, dp, dc, bs, es, cs, rfl, FL, ndE, hsz, hQ⟩ := h
    refine ⟨_, pss_one (ps_ret (pe_op op_sub (pe_callB call_len_seq (by rfl) T.len PySem.boot_len (pa_cons (pe_fld (pv 0) rfl) pa_nil)) (pe_callB call_len_seq (by rfl) T.len PySem.boot_len (pa_cons (pe_meth0 (pv 0) T.cl CT.m CT.G hr CT.b .nil pass0) pa_nil)))), ?_⟩
    obtain ⟨dx, hob⟩ := id FL.ob
    refine ⟨_, rfl, p, C, dx, _, _, rfl, hob, T.cl, T.nB, flds_b _ _ _, lb, _, rfl, .inl (SqL.of FL.hb), ?_⟩
    refine ⟨_, rfl, p, dx, _, rfl, hob, flds_no _ _ _ (by decide +kernel) (by decide +kernel) (by decide +kernel), p, lb, dp, dc, bs, es, cs, rfl, FL, ndE, hsz, fun H' t s1 _ ht => ?_⟩
    refine ⟨t, _, rfl, .inl (SqL.of ht), _, _, rfl, rfl, ?_⟩
    have e1 : ((bs.map V.ref).length : Int) = (bs.length : Int) := by rw [List.length_map]
    have e2 : ((nums (tk es)).length : Int) = ((tk es).length : Int) := by rw [nums_len]
    show Q (.int (((bs.map V.ref).length : Int) - ((nums (tk es)).length : Int))) H'
    rw [e1, e2]
    exact hQ H' s1
theorem scLook : FnScope ["self", "name"] ["self", "name"] (defScope sLook) := ⟨rfl, rfl, rfl, by decide +kernel, rfl, by decide +kernel, by decide +kernel⟩
theorem ok_look {f CF CT : Addr} {fd : FuncData} (F : FnP K "look_name" "Floor.look_name" sLook f fd) (T : Txt K mg C) (X : ExcT K mg "NoFile" CF CT) : FnOk P w K mg base (L2.CX P w) 1 f fd ["self", "name"] (spLook C CF) := by
  refine (toFun F).okX scLook (fun vs H Q E h => ?_) (fun cdv A outer s H vs Q E hr h => ?_)
  · obtain ⟨p, lb, dp, dc, bs, es, cs, x, rfl, _⟩ := h
    rfl
  · obtain ⟨p, lb, dp, dc, bs, es, cs, x, rfl, FL, ndE, hq1, hq2⟩ := h
    have hu := hu_of hr
    refine ⟨_, pss_one (ps_if (pt_cmp (pc_dnotin hu (pv 1) (pe_fld (pv 0) rfl)))
      (pss_one (ps_raise rfl (takes_of rfl rfl rfl rfl) (pmk_own PySem.F.excBase_ValueError X.ex X.g X.kp (raises_own X.b X.t) (by exact rfl)))) pss_nil), ?_⟩
    obtain ⟨dx, hob⟩ := id FL.ob
    refine ⟨_, rfl, _, rfl, p, C, dx, _, _, rfl, hob, T.cl, T.nP, flds_p _ _ _, dp, _, rfl, DGet.k (k := Sum.inr x) FL.hp, _, rfl, ?_⟩
    by_cases c : ∃ e ∈ es, e.nm = x
    · obtain ⟨e, he, hx⟩ := c
      have ev : valV (kvP es) (Sum.inr x : Key) = some (.ref e.ad) := by
        rw [← hx]
        exact valV_map _ ndE he
      rw [ev]
      exact iteF (hq1 e he hx)
    · have hno : ∀ e ∈ es, e.nm ≠ x := fun e he z => c ⟨e, he, z⟩
      have ev : valV (kvP es) (Sum.inr x : Key) = none := valV_mapNone _ hno
      rw [ev]
      exact iteT (hq2 hno)
theorem scBlocksOf : FnScope ["self", "name"] ["self", "name"] (defScope sBlocksOf) := ⟨rfl, rfl, rfl, by decide +kernel, rfl, by decide +kernel, by decide +kernel⟩
theorem ok_blocksOf {f fL CF : Addr} {fd fdL : FuncData} (F : FnP K "blocks_of" "Floor.blocks_of" sBlocksOf f fd) (T : Txt K mg C) (CL : CalM P w K mg base (L2.CX P w) 1 C "look_name" fL fdL ["self", "name"] (spLook C CF)) : FnOk P w K mg base CX0 2 f fd ["self", "name"] (spBlocksOf C) := by
  refine (toFun F).ok scBlocksOf (fun vs H Q E h => ?_) (fun cdv A outer s H vs Q E hr h => ?_)
  · obtain ⟨p, lb, dp, dc, bs, es, cs, e, rfl, _⟩ := h
    rfl
  · obtain ⟨p, lb, dp, dc, bs, es, cs, e, rfl, FL, ndE, he, hQ⟩ := h
    have hu := hu_of hr
    refine ⟨_, pss_cons (ps_expr (pe_meth (pv 0) T.cl CL.m CL.G hr CL.b .nil passL (pa_cons (pv 1) pa_nil)))
      (pss_one (ps_ret (pe_callTy call_list_of (by rfl) T.list (by decide +kernel) (pa_cons (pe_dget hu (pe_fld (pv 0) rfl) (pv 1) (fun _ _ => rfl)) pa_nil)))), ?_⟩
    obtain ⟨dx, hob⟩ := id FL.ob
    refine ⟨_, rfl, p, dx, _, rfl, hob, flds_no _ _ _ (by decide +kernel) (by decide +kernel) (by decide +kernel), _, rfl, p, lb, dp, dc, bs, es, cs, e.nm, rfl, FL, ndE, fun _ _ _ => ?_, fun h => h e he rfl⟩
    refine ⟨_, rfl, p, C, dx, _, _, rfl, hob, T.cl, T.nP, flds_p _ _ _, _, rfl, dp, _, rfl, .inl ⟨kvP es, Sum.inr e.nm, .inl FL.hp, rfl, (valV_map _ ndE he).symm⟩, e.ad, _, rfl, .inl (SqL.of (FL.pl e he)), fun q hq => ?_⟩
    exact hQ _ q (fun b o z => by rw [upd_ne (ne_of_none z hq)]; exact z) hq upd_same
theorem scBlock : FnScope ["self", "number"] ["self", "number"] (defScope sBlock) := ⟨rfl, rfl, rfl, by decide +kernel, rfl, by decide +kernel, by decide +kernel⟩
theorem ok_block {f : Addr} {fd : FuncData} (F : FnP K "block" "Floor.block" sBlock f fd) (T : Txt K mg C) : FnOk P w K mg base CX0 1 f fd ["self", "number"] (spBlock C) := by
  refine (toFun F).ok scBlock (fun vs H Q E h => ?_) (fun cdv A outer s H vs Q E hr h => ?_)
  · obtain ⟨p, lb, dp, dc, bs, es, cs, n, rfl, _⟩ := h
    rfl
  · obtain ⟨p, lb, dp, dc, bs, es, cs, n, rfl, FL, hn, hQ⟩ := h
    refine ⟨_, pss_one (ps_ret (pe_callTy call_list_of (by rfl) T.list (by decide +kernel) (pa_cons (pe_ix ix_list (pe_fld (pv 0) rfl) (pv 1) (fun _ _ => rfl)) pa_nil))), ?_⟩
    obtain ⟨dx, hob⟩ := id FL.ob
    have hb : bs[n]? = some bs[n] := List.getElem?_eq_getElem hn
    obtain ⟨c, h1, h2, h3⟩ := FL.bl n _ hb
    refine ⟨_, rfl, p, C, dx, _, _, rfl, hob, T.cl, T.nB, flds_b _ _ _, _, rfl, lb, _, _, _, rfl, rfl, SqL.of FL.hb, atI_nat (map_refs hb), bs[n], _, rfl, .inl (SqL.of h2), fun q hq => ?_⟩
    exact hQ _ q c (fun b o z => by rw [upd_ne (ne_of_none z hq)]; exact z) hq h1 h3 upd_same
end
end K77

set_option Elab.async false
set_option linter.all false
set_option maxRecDepth 100000
set_option maxHeartbeats 4000000
/-! drop. -/
namespace K77
open PySem PySem.Spec PyProof.Rows L2
section
variable {C : Addr} {H : Hp} {p lb dp dc : Addr} {bs : List Addr} {es : List Ent'} {cs : List (List Int)}
theorem FloorAt.setBlock (F : FloorAt C H p lb dp dc bs es cs) {q : Addr} {c : List Int} {n : Nat} (hq : H q = some (.lst (c.map V.int))) (hl : c.length = 16) (hn : n < bs.length) :
    FloorAt C (upd H lb (.lst ((bs.map V.ref).set n (V.ref q)))) p lb dp dc (bs.set n q) es (cs.set n c) where
  ob := by obtain ⟨dx, h⟩ := F.ob; exact ⟨dx, by rw [upd_ne F.pb]; exact h⟩
  hb := by rw [upd_same, List.map_set]
  hp := by rw [upd_ne F.bp.symm]; exact F.hp
  hc := by rw [upd_ne F.bcc.symm]; exact F.hc
  pc := F.pc
  pl := fun e he => by rw [upd_ne (F.plb he)]; exact F.pl e he
  bl := fun i b hi => by
    have hcn : n < cs.length := by rw [← F.ln]; exact hn
    have qlb : q ≠ lb := (ne_of F.hb hq (refs_ne F.ps)).symm
    by_cases e : n = i
    · subst e
      rw [List.getElem?_set_self hn] at hi
      cases hi
      exact ⟨c, List.getElem?_set_self hcn, by rw [upd_ne qlb]; exact hq, hl⟩
    · rw [List.getElem?_set_ne e] at hi
      obtain ⟨d, h1, h2, h3⟩ := F.bl i b hi
      exact ⟨d, by rw [List.getElem?_set_ne e]; exact h1, by rw [upd_ne (F.lbb hi)]; exact h2, h3⟩
  ln := by rw [List.length_set, List.length_set]; exact F.ln
  ps := by rw [List.length_set]; exact F.ps
theorem FloorAt.popped (F : FloorAt C H p lb dp dc bs es cs) (x : Str) :
    FloorAt C (upd (upd H dp (.dK (dropK (kvP es) (Sum.inr x : Key)))) dc (.dK (dropK (kvC es) (Sum.inr x : Key)))) p lb dp dc bs (es.filter fun e => decide (e.nm ≠ x)) cs where
  ob := by obtain ⟨dx, h⟩ := F.ob; exact ⟨dx, by rw [upd_ne F.pcc, upd_ne F.pp]; exact h⟩
  hb := by rw [upd_ne F.bcc, upd_ne F.bp]; exact F.hb
  hp := by rw [upd_ne F.pc, upd_same]; unfold kvP; rw [dropK_map]
  hc := by rw [upd_same]; unfold kvC; rw [dropK_map]
  pc := F.pc
  pl := fun e he => by
    have hm := (List.mem_filter.mp he).1
    rw [upd_ne (F.plc hm), upd_ne (F.plp hm)]
    exact F.pl e hm
  bl := fun i b hi => by
    obtain ⟨d, h1, h2, h3⟩ := F.bl i b hi
    refine ⟨d, h1, ?_, h3⟩
    rw [upd_ne (ne_of h2 F.hc (by intro z; cases z)), upd_ne (ne_of h2 F.hp (by intro z; cases z))]
    exact h2
  ln := F.ln
  ps := F.ps
end
def spDrop (C CF : Addr) : Sp := fun vs H Q E => ∃ (p lb dp dc : Addr) (bs : List Addr) (es : List Ent') (cs : List (List Int)) (B : Nat) (w : Str → Option (List Int)) (x : Str), vs = [.ref p, .str x] ∧ FloorAt C H p lb dp dc bs es cs ∧ Good B es cs w ∧
  (∀ e ∈ es, e.nm = x → ∀ (H' : Hp) (bs' : List Addr) (cs' : List (List Int)), FloorAt C H' p lb dp dc bs' (es.filter fun y => decide (y.nm ≠ x)) cs' → Good B (es.filter fun y => decide (y.nm ≠ x)) cs' (fun y => if y = x then none else w y) → But3 H H' lb dp dc → Q .non H') ∧
  ((∀ e ∈ es, e.nm ≠ x) → E (.ref CF) none H)
section
variable {P : Program} {w : World} {K : PySem.W.Frag} {mg : Str → Option Value} {base : Heap} {C : Addr}
theorem scDrop : FnScope ["self", "name", "number"] ["self", "name"] (defScope sDrop) := ⟨rfl, rfl, rfl, by decide +kernel, rfl, by decide +kernel, by decide +kernel⟩
theorem ok_drop {f fL CF : Addr} {fd fdL : FuncData} (F : FnP K "drop" "Floor.drop" sDrop f fd) (T : Txt K mg C) (CL : CalM P w K mg base (L2.CX P w) 1 C "look_name" fL fdL ["self", "name"] (spLook C CF)) : FnOk P w K mg base (L2.CX P w) 2 f fd ["self", "name"] (spDrop C CF) := by
  refine (toFun F).okX scDrop (fun vs H Q E h => ?_) (fun cdv A outer s H vs Q E hr h => ?_)
  · obtain ⟨p, lb, dp, dc, bs, es, cs, B, w, x, rfl, _⟩ := h
    rfl
  · obtain ⟨p, lb, dp, dc, bs, es, cs, B, wf, x, rfl, FL, G, hq1, hq2⟩ := h
    have hu := hu_of hr
    have nd := scDrop.nd
    obtain ⟨tB, hB⟩ := T.blk
    refine ⟨_, pss_cons (ps_expr (pe_meth (pv 0) T.cl CL.m CL.G hr CL.b .nil (passes_call (takes_of rfl rfl rfl rfl) (fun _ _ _ _ h => h)) (pa_cons (pv 1) pa_nil)))
      (PSs.nox (pss_cons (ps_for PassesOwn.never rfl (pi_list (pe_dget hu (pe_fld (pv 0) rfl) (pv 1) (fun _ _ => rfl))) (pg_name (i := 2) nd rfl (Or.inl rfl))
        (pss_one (ps_asg (pe_op op_rep (pe_lst (pa_cons pe_int pa_nil)) (pe_glob (v := .int 16) rfl hB ⟨_, rfl⟩)) (pg_sub (pe_fld (pv 0) rfl) (pv 2) set_list))))
      (pss_cons (ps_expr (pe_dpop1 (pe_fld (pv 0) rfl) (pv 1) ⟨rfl, rfl, rfl, rfl⟩))
      (pss_one (ps_expr (pe_dpop1 (pe_fld (pv 0) rfl) (pv 1) ⟨rfl, rfl, rfl, rfl⟩)))))), ?_⟩
    obtain ⟨dx, hob⟩ := id FL.ob
    have nof : (flds lb dp dc).lookup ("look_name" : Str) = none := flds_no _ _ _ (by decide +kernel) (by decide +kernel) (by decide +kernel)
    refine ⟨_, rfl, p, dx, _, rfl, hob, nof, _, rfl, p, lb, dp, dc, bs, es, cs, x, rfl, FL, G.nd, fun e he hx => ?_, hq2⟩
    subst hx
    refine ⟨_, rfl, p, C, dx, _, _, rfl, hob, T.cl, T.nP, flds_p _ _ _, _, rfl, dp, _, rfl, .inl ⟨kvP es, Sum.inr e.nm, .inl FL.hp, rfl, (valV_map _ G.nd he).symm⟩, e.ad, rfl, ⟨_, SqL.of (FL.pl e he)⟩, ?_⟩
    refine for_list (K := K) (a := e.ad) (xs := nums e.ns) (fun i σ H' => ∃ v : Option V, σ = [some (.ref p), some (.str e.nm), v] ∧ ∃ (bs' : List Addr) (cs' : List (List Int)), FloorAt C H' p lb dp dc bs' es cs' ∧ cs'.length = cs.length ∧
      (∀ n ∈ e.ns.take i, cs'[n]? = some zero16) ∧ (∀ n, n ∉ e.ns.take i → cs'[n]? = cs[n]?) ∧ But3 H H' lb dp dc) ?_ ?_ ?_ ?_
    · exact ⟨none, rfl, bs, cs, FL, rfl, fun n hn => (nomatch hn), fun n _ => rfl, But3.of (Same.refl H)⟩
    · rintro i σ H' hi ⟨v, rfl, bs', cs', FL', _⟩
      exact SqL.of (FL'.pl e he)
    · rintro i y σ H' hi ⟨v, rfl, bs', cs', FL', hl', h1, h2, h3⟩
      obtain ⟨n, hn, rfl⟩ := nums_of hi
      have hnm := List.mem_of_getElem? hn
      have hnB : n < bs'.length := by
        rw [FL'.ln, hl', G.lenB]
        exact G.lt n (mem_tk.mpr ⟨e, he, hnm⟩)
      refine ⟨(by show 1 ≤ sizeLine; decide), fun l hl0 => ⟨l, 16, _, rfl, rfl, upd_same, by decide, by decide, (by show 16 ≤ sizeLine; decide), fun q hq0 => ?_⟩⟩
      have s1 : Same H' (upd H' l (.lst [V.int 0])) := fun b o z => by rw [upd_ne (ne_of_none z hl0)]; exact z
      have s2 : Same H' (upd (upd H' l (.lst [V.int 0])) q (.lst (List.replicate (16 : Int).toNat [V.int 0]).flatten)) := fun b o z => by rw [upd_ne (ne_of_none (s1 b o z) hq0)]; exact s1 b o z
      have FL2 := FL'.same s2
      obtain ⟨dx2, hob2⟩ := id FL2.ob
      have FL3 := FL2.setBlock (q := q) (c := zero16) (n := n) upd_same zero_len hnB
      refine ⟨_, rfl, p, C, dx2, _, _, rfl, hob2, T.cl, T.nB, flds_b _ _ _, _, rfl, lb, _, _, n, rfl, rfl, FL2.hb, ixN_nat (by rw [List.length_map]; exact hnB), ?_⟩
      refine ⟨_, rfl, _, _, FL3, by rw [List.length_set]; exact hl', fun m hm => ?_, fun m hm => ?_, fun b o z z1 z2 z3 => ?_⟩
      · rw [tk_take hn] at hm
        have hcn : n < cs'.length := by rw [← FL'.ln]; exact hnB
        by_cases c : n = m
        · subst c
          exact List.getElem?_set_self hcn
        · rw [List.getElem?_set_ne c]
          rcases List.mem_append.mp hm with hm | hm
          · exact h1 m hm
          · exact absurd (by simpa using hm : m = n).symm c
      · rw [tk_take hn] at hm
        have c : n ≠ m := fun z => hm (by simp [z])
        rw [List.getElem?_set_ne c]
        exact h2 m fun z => hm (List.mem_append_left _ z)
      · rw [upd_ne z1]
        exact s2 b o (h3 b o z z1 z2 z3)
    · rintro σ H' ⟨v, rfl, bs', cs', FL', hl', h1, h2, h3⟩
      rw [nums_len, List.take_length] at h1 h2
      obtain ⟨dx2, hob2⟩ := id FL'.ob
      refine ⟨_, rfl, p, C, dx2, _, _, rfl, hob2, T.cl, T.nP, flds_p _ _ _, dp, rfl, .inl ⟨_, .inl FL'.hp⟩, _, rfl, _, Sum.inr e.nm, _, FL'.hp, rfl, valV_map _ G.nd he, ?_⟩
      refine ⟨_, rfl, p, C, dx2, _, _, rfl, (by rw [upd_ne FL'.pp]; exact hob2), T.cl, T.nC, flds_c _ _ _, dc, rfl, .inl ⟨_, .inl (by rw [upd_ne FL'.pc.symm]; exact FL'.hc)⟩, _, rfl, _, Sum.inr e.nm, _, (by rw [upd_ne FL'.pc.symm]; exact FL'.hc), rfl, valV_map _ G.nd he, ?_⟩
      refine hq1 e he rfl _ bs' cs' (FL'.popped e.nm) (G.drop he hl' h1 h2) fun b o z z1 z2 z3 => ?_
      rw [upd_ne z3, upd_ne z2]
      exact h3 b o z z1 z2 z3
end
end K77

set_option Elab.async false
set_option linter.all false
set_option maxRecDepth 100000
set_option maxHeartbeats 4000000
/-! keep. -/
namespace K77
open PySem PySem.Spec PyProof.Rows L2
theorem inV_nums (n : Nat) (l : List Nat) : inV (V.int (n : Int)) (nums l) = decide (n ∈ l) := by
  induction l with
  | nil => rfl
  | cons a r ih =>
    show (eqV (V.int (a : Int)) (V.int (n : Int)) || inV (V.int (n : Int)) (nums r)) = _
    rw [ih]
    show (((a : Int) == (n : Int)) || decide (n ∈ r)) = _
    by_cases c : a = n
    · subst c
      simp
    · have c2 : ((a : Int) == (n : Int)) = false := beq_eq_false_iff_ne.mpr fun z => c (by omega)
      rw [c2, Bool.false_or]
      have c3 : ¬ n = a := fun z => c z.symm
      simp [c3]
theorem flat_nums (l : List Nat) : (nums l).all flatV = true := by
  rw [List.all_eq_true]
  intro v hv
  obtain ⟨n, _, rfl⟩ := List.mem_map.mp hv
  rfl
theorem fr_more (i : Nat) (l : List Nat) : fr (i + 1) l = if i ∈ l then fr i l else fr i l ++ [i] := by
  unfold fr
  rw [List.range_succ, List.filter_append]
  by_cases c : i ∈ l
  · rw [if_pos c]
    simp [c]
  · rw [if_neg c]
    simp [c]
theorem cut_take (F : List Nat) (m : Nat) : cutV (nums F) none (some (m : Int)) = nums (F.take m) := by
  unfold cutV
  rw [HT.sIx_none, HT.sIx_nat, List.drop_zero, Nat.sub_zero]
  unfold nums
  rw [← List.map_take, List.length_map]
  congr 1
  rw [List.take_eq_take_iff]
  omega
theorem cut_chunk (ws : List Int) (i : Nat) : cutV (ws.map V.int) (some (16 * (i : Int))) (some (16 * (i : Int) + 16)) = ((ws.drop (16 * i)).take 16).map V.int := by
  have e1 : (16 * (i : Int)) = ((16 * i : Nat) : Int) := by omega
  have e2 : (16 * (i : Int) + 16) = ((16 * i + 16 : Nat) : Int) := by omega
  unfold cutV
  rw [e2, e1, HT.sIx_nat, HT.sIx_nat, List.length_map, ← List.map_drop, ← List.map_take]
  congr 1
  by_cases c : 16 * i ≤ ws.length
  · rw [Nat.min_eq_left c, List.take_eq_take_iff, List.length_drop]
    omega
  · rw [Nat.min_eq_right (by omega), Nat.min_eq_right (by omega), Nat.sub_self, List.take_zero, List.drop_eq_nil_of_le (by omega)]
    rfl
theorem rep_zero (k : Int) : (List.replicate k.toNat [V.int 0]).flatten = (List.replicate k.toNat (0 : Int)).map V.int := by
  induction k.toNat with
  | zero => rfl
  | succ n ih =>
    rw [List.replicate_succ, List.flatten_cons, ih, List.replicate_succ]
    rfl
theorem chunk_is (ws : List Int) (i : Nat) : ((ws.drop (16 * i)).take 16).map V.int ++ (List.replicate (16 - ((((ws.drop (16 * i)).take 16).map V.int).length : Int)).toNat [V.int 0]).flatten = (chunk ws i).map V.int := by
  rw [rep_zero, List.length_map]
  unfold chunk
  rw [List.map_append]
  congr 3
  omega
section
variable {C : Addr} {H : Hp} {p lb dp dc : Addr} {bs : List Addr} {es : List Ent'} {cs : List (List Int)}
theorem FloorAt.added (F : FloorAt C H p lb dp dc bs es cs) {e : Ent'} (hs : H e.ad = some (.lst (nums e.ns))) (hn : ∀ a ∈ es, a.nm ≠ e.nm) :
    FloorAt C (upd (upd H dp (.dK (putK (kvP es) (Sum.inr e.nm : Key) (.ref e.ad)))) dc (.dK (putK (kvC es) (Sum.inr e.nm : Key) (.int (e.ct : Int))))) p lb dp dc bs (es ++ [e]) cs where
  ob := by obtain ⟨dx, h⟩ := F.ob; exact ⟨dx, by rw [upd_ne F.pcc, upd_ne F.pp]; exact h⟩
  hb := by rw [upd_ne F.bcc, upd_ne F.bp]; exact F.hb
  hp := by rw [upd_ne F.pc, upd_same]; unfold kvP; rw [putK_map (fun e => V.ref e.ad) hn]
  hc := by rw [upd_same]; unfold kvC; rw [putK_map (fun e => V.int (e.ct : Int)) hn]
  pc := F.pc
  pl := fun a ha => by
    have h : H a.ad = some (.lst (nums a.ns)) := by
      rcases List.mem_append.mp ha with ha | ha
      · exact F.pl a ha
      · have z : a = e := by simpa using ha
        rw [z]; exact hs
    rw [upd_ne (ne_of h F.hc (by intro z; cases z)), upd_ne (ne_of h F.hp (by intro z; cases z))]
    exact h
  bl := fun i b hi => by
    obtain ⟨d, h1, h2, h3⟩ := F.bl i b hi
    refine ⟨d, h1, ?_, h3⟩
    rw [upd_ne (ne_of h2 F.hc (by intro z; cases z)), upd_ne (ne_of h2 F.hp (by intro z; cases z))]
    exact h2
  ln := F.ln
  ps := F.ps
end
def spKeep (C CR : Addr) : Sp := fun vs H Q E => ∃ (p lb dp dc : Addr) (bs : List Addr) (es : List Ent') (cs : List (List Int)) (B : Nat) (w : Str → Option (List Int)) (x : Str) (wl : Addr) (ws : List Int),
  vs = [.ref p, .str x, .ref wl] ∧ FloorAt C H p lb dp dc bs es cs ∧ Good B es cs w ∧ H wl = some (.lst (ws.map V.int)) ∧ ws.length ≤ 119 ∧ es.length ≤ 100 ∧ B ≤ 20 ∧
  (∀ H', Same H H' → E (.ref CR) none H') ∧
  (∀ (H' : Hp) (bs' : List Addr) (es' : List Ent') (cs' : List (List Int)), FloorAt C H' p lb dp dc bs' es' cs' → Good B es' cs' (fun y => if y = x then some ws else w y) → es'.length ≤ es.length + 1 → But3 H H' lb dp dc → Q .non H')
/-- the own numbers of x, or none -/
theorem own_of {es : List Ent'} (nd : (es.map Ent.nm).Nodup) (x : Str) : (∃ e ∈ es, e.nm = x) ∨ (∀ e ∈ es, e.nm ≠ x) := by
  by_cases c : ∃ e ∈ es, e.nm = x
  · exact .inl c
  · exact .inr fun e he z => c ⟨e, he, z⟩
section
variable {P : Program} {w : World} {K : PySem.W.Frag} {mg : Str → Option Value} {base : Heap} {C : Addr}
abbrev NKeep : List Str := ["self", "name", "words", "many", "taken", "number", "some", "k", "part"]
theorem scKeep : FnScope NKeep ["self", "name", "words"] (defScope sKeep) := ⟨rfl, rfl, rfl, by decide +kernel, rfl, by decide +kernel, by decide +kernel⟩
theorem ok_keep {f fB fF fD fT CF CR CTE : Addr} {fd fdB fdF fdD fdT : FuncData} (F : FnP K "keep" "Floor.keep" sKeep f fd) (T : Txt K mg C) (X : ExcT K mg "NoRoom" CR CTE)
    (CB : Cal P w K mg base CX0 1 "blocks_for" fB fdB ["many"] spBF) (CFr : CalM P w K mg base CX0 2 C "free" fF fdF ["self"] (spFree C)) (CD : CalM P w K mg base (L2.CX P w) 2 C "drop" fD fdD ["self", "name"] (spDrop C CF)) (CT : CalM P w K mg base CX0 1 C "taken" fT fdT ["self"] (spTaken C)) :
    FnOk P w K mg base (L2.CX P w) 3 f fd ["self", "name", "words"] (spKeep C CR) := by
  refine (toFun F).okX scKeep (fun vs H Q E h => ?_) (fun cdv A outer s H vs Q E hr h => ?_)
  · obtain ⟨p, lb, dp, dc, bs, es, cs, B, w, x, wl, ws, rfl, _⟩ := h
    rfl
  · obtain ⟨p, lb, dp, dc, bs, es, cs, B, wf, x, wl, ws, rfl, FL, G, hwl, hw119, hes, hB20, hE, hQ⟩ := h
    have hu := hu_of hr
    have hr1 : Room 1 _ := hr.mono (by decide)
    have nd := scKeep.nd
    obtain ⟨tB, hB⟩ := T.blk
    refine ⟨_, pss_cons (ps_set (i := 3) nd rfl (Or.inl rfl) (pe_call CB.G hr1 rfl CB.g CB.kp CB.b .nil pass0 (pa_cons (pe_callB call_len_seq (by rfl) T.len PySem.boot_len (pa_cons (pv 2) pa_nil)) pa_nil)))
      (pss_cons (ps_if (pt_cmpR op_gt (pv 3) (pe_op op_add (pe_meth0 (pv 0) T.cl CFr.m CFr.G hr CFr.b .nil pass0) (pe_callB call_len_seq (by rfl) T.len PySem.boot_len (pa_cons (pe_dget2 hu (pe_fld (pv 0) rfl) (pv 1) (pe_lst pa_nil) ⟨rfl, rfl, rfl, rfl⟩) pa_nil))) (nomark _))
        (pss_one (ps_raise rfl (takes_of rfl rfl rfl rfl) (pmk_own PySem.F.excBase_ValueError X.ex X.g X.kp (raises_own X.b X.t) (by exact rfl)))) pss_nil)
      (PSs.nox (Evl.pss_cut (ps_if (pt_cmp (pc_din hu (pv 1) (pe_fld (pv 0) rfl))) (pss_one (ps_expr (pe_meth (pv 0) T.cl CD.m CD.G hr CD.b .nil passL (pa_cons (pv 1) pa_nil)))) pss_nil)
      (pss_cons (ps_set (i := 4) nd rfl (Or.inr rfl) (pe_meth0 (pv 0) T.cl CT.m CT.G hr1 CT.b .nil pass0))
      (pss_cons (ps_set (i := 6) nd rfl (Or.inl rfl) (pe_slice sl_list (pe_lc (own := [("number", 5)]) (g := gName 5) rfl nd (pi_range1 rfl T.range (pa_cons (pe_callB call_len_seq (by rfl) T.len PySem.boot_len (pa_cons (pe_fld (pv 0) rfl) pa_nil)) pa_nil)) (blkOk_by (own := [("number", 5)]) (N := NKeep) (sc := defScope sKeep) (by decide +kernel)) (fun _ _ _ _ _ => pg_name (i := 5) nd rfl (Or.inl rfl)) (fun _ _ _ _ _ => pts_one (pt_cmpR (r := rIn K true) op_notIn_seq (pv 5) (pv 4) (by rfl))) (fun _ _ _ _ _ => pv 5)) po_none (po_some (pv 3))))
      (pss_cons (ps_for PassesOwn.never rfl (pi_enum (by rfl) T.enum (pa_cons (pv 6) pa_nil)) (pg_tup rfl (pgs_cons (pg_name (i := 7) nd rfl (Or.inl rfl)) (pgs_cons (pg_name (i := 5) nd rfl (Or.inl rfl)) pgs_nil)))
        (pss_cons (ps_set (i := 8) nd rfl (Or.inl rfl) (pe_callTy call_list_of (by rfl) T.list (by decide +kernel) (pa_cons (pe_slice sl_list (pv 2) (po_some (pe_op op_mul (pe_glob (v := .int 16) rfl hB ⟨_, rfl⟩) (pv 7))) (po_some (pe_op op_add (pe_op op_mul (pe_glob (v := .int 16) rfl hB ⟨_, rfl⟩) (pv 7)) (pe_glob (v := .int 16) rfl hB ⟨_, rfl⟩)))) pa_nil)))
          (pss_one (ps_asg (pe_op op_cat (pv 8) (pe_op op_rep (pe_lst (pa_cons pe_int pa_nil)) (pe_op op_sub (pe_glob (v := .int 16) rfl hB ⟨_, rfl⟩) (pe_callB call_len_seq (by rfl) T.len PySem.boot_len (pa_cons (pv 8) pa_nil))))) (pg_sub (pe_fld (pv 0) rfl) (pv 5) set_list)))))
      (pss_cons (ps_dput hu (pe_fld (pv 0) rfl) (pv 1) (pv 6) rfl)
      (pss_one (ps_dput hu (pe_fld (pv 0) rfl) (pv 1) (pe_callB call_len_seq (by rfl) T.len PySem.boot_len (pa_cons (pv 2) pa_nil)) rfl))))))))), ?_⟩
    obtain ⟨dx, hob⟩ := id FL.ob
    have nof : ∀ m : Str, ¬ m = "blocks" → ¬ m = "places" → ¬ m = "counts" → (flds lb dp dc).lookup m = none := fun m a b c => flds_no _ _ _ a b c
    have htk : (tk es).length ≤ 500 := by have := G.tkLen; omega
    refine ⟨_, rfl, wl, _, rfl, .inl (SqL.of hwl), (ws.map V.int).length, rfl, ?_⟩
    rw [List.length_map]
    refine ⟨_, rfl, _, rfl, p, dx, _, rfl, hob, nof _ (by decide +kernel) (by decide +kernel) (by decide +kernel), p, lb, dp, dc, bs, es, cs, rfl, FL, G.nd, htk, fun H1 s1 => ?_⟩
    have FL1 := FL.same s1
    obtain ⟨dx1, hob1⟩ := id FL1.ob
    refine ⟨_, rfl, p, C, dx1, _, _, rfl, hob1, T.cl, T.nP, flds_p _ _ _, dp, rfl, .inl ⟨_, .inl FL1.hp⟩, _, rfl, Nat.zero_le _, fun z hz => ?_⟩
    have s2 : Same H1 (upd H1 z (.lst [])) := fun b o e => by rw [upd_ne (ne_of_none e hz)]; exact e
    have sH2 := s1.trans s2
    have FL2 := FL1.same s2
    -- the own numbers
    obtain ⟨own, a0, hval, hlist, hlen⟩ : ∃ (own : List Nat) (a0 : Addr), (valV (kvP es) (Sum.inr x : Key)).getD (.ref z) = .ref a0 ∧ (upd H1 z (.lst [])) a0 = some (.lst (nums own)) ∧ (tk (es.filter fun y => decide (y.nm ≠ x))).length + own.length = (tk es).length := by
      rcases own_of G.nd x with ⟨e, he, hx⟩ | hno
      · subst hx
        refine ⟨e.ns, e.ad, ?_, FL2.pl e he, tk_without G.nd he⟩
        unfold kvP
        rw [valV_map (fun e => V.ref e.ad) G.nd he]
        rfl
      · refine ⟨[], z, ?_, upd_same, ?_⟩
        · unfold kvP
          rw [valV_mapNone _ hno]
          rfl
        · have e : es.filter (fun y => decide (y.nm ≠ x)) = es := List.filter_eq_self.mpr fun a ha => decide_eq_true (hno a ha)
          rw [e]
          rfl
    refine ⟨_, DGet.k (k := Sum.inr x) FL2.hp, ?_⟩
    rw [hval]
    refine ⟨a0, _, rfl, .inl (SqL.of hlist), _, _, rfl, rfl, _, _, rfl, rfl, _, rfl, ?_⟩
    refine ite2 (fun _ => hE _ sH2) (fun hle => ?_)
    have hle : ¬ ((bs.length : Int) - ((tk es).length : Int) + ((nums own).length : Int) < ((nblk ws.length : Nat) : Int)) := fun z => hle (decide_eq_true z)
    rw [nums_len] at hle
    have hbl : bs.length = B := by rw [FL.ln, G.lenB]
    -- behind the drop
    refine ⟨fun σ H' => σ = [some (.ref p), some (.str x), some (.ref wl), some (.int ((nblk ws.length : Nat) : Int)), none, none, none, none, none] ∧ ∃ (bs3 : List Addr) (cs3 : List (List Int)), FloorAt C H' p lb dp dc bs3 (es.filter fun y => decide (y.nm ≠ x)) cs3 ∧
      Good B (es.filter fun y => decide (y.nm ≠ x)) cs3 (fun y => if y = x then none else wf y) ∧ But3 H H' lb dp dc, ?_, ?_⟩
    · obtain ⟨dx2, hob2⟩ := id FL2.ob
      refine ⟨_, rfl, _, rfl, p, C, dx2, _, _, rfl, hob2, T.cl, T.nP, flds_p _ _ _, dp, _, rfl, DGet.k (k := Sum.inr x) FL2.hp, _, rfl, ?_⟩
      rcases own_of G.nd x with ⟨e, he, hx⟩ | hno
      · have ev : valV (kvP es) (Sum.inr x : Key) = some (.ref e.ad) := by
          rw [← hx]
          exact valV_map (fun e => V.ref e.ad) G.nd he
        rw [ev]
        refine iteT ?_
        refine ⟨_, rfl, p, dx2, _, rfl, hob2, nof _ (by decide +kernel) (by decide +kernel) (by decide +kernel), _, rfl, p, lb, dp, dc, bs, es, cs, B, wf, x, rfl, FL2, G, fun e' he' hx' H3 bs3 cs3 FL3 G3 b3 => ?_, fun h => absurd hx (h e he)⟩
        exact ⟨rfl, bs3, cs3, FL3, G3, (But3.of sH2).trans b3⟩
      · have ev : valV (kvP es) (Sum.inr x : Key) = none := valV_mapNone _ hno
        rw [ev]
        refine iteF ?_
        have ee : es.filter (fun y => decide (y.nm ≠ x)) = es := List.filter_eq_self.mpr fun a ha => decide_eq_true (hno a ha)
        have ew : (fun y => if y = x then none else wf y) = wf := by
          funext y
          by_cases c : y = x
          · rw [if_pos c, c, G.unknown hno]
          · rw [if_neg c]
        rw [ee, ew]
        exact ⟨rfl, bs, cs, FL2, G, But3.of sH2⟩
    · rintro σ H3 ⟨rfl, bs3, cs3, FL3, G3, b3⟩
      have hno0 : ∀ a ∈ es.filter (fun y => decide (y.nm ≠ x)), a.nm ≠ x := fun a ha => of_decide_eq_true (List.mem_filter.mp ha).2
      have hl0 : (es.filter (fun y => decide (y.nm ≠ x))).length ≤ es.length := List.length_filter_le _ _
      generalize es.filter (fun y => decide (y.nm ≠ x)) = es0 at FL3 G3 hlen hno0 hl0
      obtain ⟨dx3, hob3⟩ := id FL3.ob
      have htk3 : (tk es0).length ≤ 500 := by have := G3.tkLen; omega
      have hb3 : bs3.length = B := by rw [FL3.ln, G3.lenB]
      refine ⟨_, rfl, p, dx3, _, rfl, hob3, nof _ (by decide +kernel) (by decide +kernel) (by decide +kernel), p, lb, dp, dc, bs3, es0, cs3, rfl, FL3, G3.nd, htk3, fun H4 t s4 ht0 ht => ?_⟩
      have FL4 := FL3.same s4
      obtain ⟨dx4, hob4⟩ := id FL4.ob
      refine ⟨_, rfl, p, C, dx4, _, _, rfl, hob4, T.cl, T.nB, flds_b _ _ _, lb, _, rfl, .inl (SqL.of FL4.hb), _, rfl, by omega, by rw [List.length_map]; omega, fun D hD => ?_⟩
      refine lc_range (n := (((bs3.map V.ref).length : Nat) : Int).toNat) (fun i H' => Same H4 H' ∧ H' D = some (.lst (nums (fr i (tk es0))))) ⟨fun b o e => by rw [upd_ne (ne_of_none e hD)]; exact e, upd_same⟩ ?_ ?_
      · rintro i H' hi ⟨s5, hq⟩
        have hv : inV (V.int (0 + (i : Int))) (nums (tk es0)) = decide (i ∈ tk es0) := by
          rw [Int.zero_add]
          exact inV_nums i _
        rw [List.length_map] at hi
        refine ⟨rfl, _, rfl, _, rfl, t, nums (tk es0), rfl, .inl (SqL.of (s5 _ _ ht)), rfl, flat_nums _, _, rfl, ?_⟩
        refine ite2 (fun q => ?_) (fun q => ?_)
        · have q : (!inV (V.int (0 + (i : Int))) (nums (tk es0))) = true := q
          rw [hv] at q
          have hin : i ∉ tk es0 := by simpa using q
          have hfl : (fr i (tk es0)).length ≤ i := by
            have := List.length_filter_le (fun n => decide (n ∉ tk es0)) (List.range i)
            rw [List.length_range] at this
            exact this
          refine ⟨_, rfl, _, hq, by rw [nums_len]; exact small1000 (by omega), fun b o e => ?_, ?_⟩
          · rw [upd_ne (ne_of_none e hD)]; exact s5 b o e
          · rw [upd_same, fr_more, if_neg hin, nums_app, Int.zero_add]
            rfl
        · have q : ¬ (!inV (V.int (0 + (i : Int))) (nums (tk es0))) = true := q
          rw [hv] at q
          have hin : i ∈ tk es0 := by simpa using q
          refine ⟨s5, ?_⟩
          rw [fr_more, if_pos hin]
          exact hq
      · rintro H5 ⟨s5, hq⟩
        have eB : (((bs3.map V.ref).length : Nat) : Int).toNat = B := by rw [List.length_map]; omega
        rw [eB] at hq
        refine ⟨_, rfl, _, rfl, D, _, rfl, SqL.of hq, fun sA hsA => ?_⟩
        rw [cut_take]
        have hfl := fr_len G3.nod G3.lt
        have hsl : ((fr B (tk es0)).take (nblk ws.length)).length = nblk ws.length := by
          rw [List.length_take]
          omega
        have hsn : ((fr B (tk es0)).take (nblk ws.length)).Nodup := (fr_nd B (tk es0)).sublist (List.take_sublist _ _)
        have hsm : ∀ n ∈ (fr B (tk es0)).take (nblk ws.length), n < B ∧ n ∉ tk es0 := fun n hn => mem_fr.mp ((List.take_sublist _ _).mem hn)
        generalize (fr B (tk es0)).take (nblk ws.length) = so at hsl hsn hsm
        have s6 : Same H4 (upd H5 sA (.lst (nums so))) := fun b o e => by rw [upd_ne (ne_of_none (s5 b o e) hsA)]; exact s5 b o e
        have FL6 := FL4.same s6
        have b6 : But3 H (upd H5 sA (.lst (nums so))) lb dp dc := b3.trans (But3.of (s4.trans s6))
        have wlb : wl ≠ lb := (ne_of FL.hb hwl (refs_ne FL.ps)).symm
        have wdp : wl ≠ dp := ne_of hwl FL.hp (by intro z; cases z)
        have wdc : wl ≠ dc := ne_of hwl FL.hc (by intro z; cases z)
        refine ⟨_, rfl, sA, _, rfl, SqL.of upd_same, ?_⟩
        refine for_it (walk_enum (K := K) (a := sA) (xs := nums so)) (fun i σ H' => ∃ v5 v7 v8 : Option V, σ = [some (.ref p), some (.str x), some (.ref wl), some (.int ((nblk ws.length : Nat) : Int)), some (.ref t), v5, some (.ref sA), v7, v8] ∧
          ∃ (bs' : List Addr) (cs' : List (List Int)), FloorAt C H' p lb dp dc bs' es0 cs' ∧ cs'.length = cs3.length ∧ (∀ k n, k < i → so[k]? = some n → cs'[n]? = some (chunk ws k)) ∧ (∀ n, n ∉ so.take i → cs'[n]? = cs3[n]?) ∧
            H' sA = some (.lst (nums so)) ∧ But3 H H' lb dp dc) ?_ ?_ ?_ ?_
        · exact ⟨none, none, none, rfl, bs3, cs3, FL6, rfl, fun k n hk => absurd hk (Nat.not_lt_zero k), fun n _ => rfl, upd_same, b6⟩
        · rintro i σ H' hi ⟨v5, v7, v8, rfl, bs', cs', F', h1, h2, h3, h4, h5⟩
          exact SqL.of h4
        · rintro i y σ H7 H' hi ⟨v5, v7, v8, rfl, bs', cs', F', h1, h2, h3, h4, h5⟩ ⟨TT, x1, y1, rfl, hT, rfl, e1, e2⟩
          obtain ⟨n, hn, rfl⟩ := nums_of e2
          cases e1
          have hnm := List.mem_of_getElem? hn
          have hwl7 : H7 wl = some (.lst (ws.map V.int)) := h5 wl _ hwl wlb wdp wdc
          have s7 : Same H7 (upd H7 TT (.tup [.int (i : Nat), .int (n : Int)])) := fun b o e => by rw [upd_ne (ne_of_none e hT)]; exact e
          refine ⟨TT, _, rfl, SqT.of upd_same, rfl, _, _, rfl, _, _, rfl, rfl, ?_⟩
          refine ⟨_, rfl, _, rfl, _, _, rfl, rfl, .inl ⟨by decide, by decide⟩, _, rfl, _, rfl, _, _, rfl, rfl, .inl ⟨by decide, by decide⟩, _, _, rfl, rfl, _, rfl, wl, _, rfl, SqL.of (s7 _ _ hwl7), fun q1 hq1 => ?_⟩
          rw [cut_chunk]
          generalize hpart : (ws.drop (16 * i)).take 16 = part
          have hpl : part.length ≤ 16 := by rw [← hpart, List.length_take]; omega
          have hch : part.map V.int ++ (List.replicate (16 - ((part.map V.int).length : Int)).toNat [V.int 0]).flatten = (chunk ws i).map V.int := by
            rw [← hpart]
            exact chunk_is ws i
          have s8 : Same H7 (upd (upd H7 TT (.tup [.int (i : Nat), .int (n : Int)])) q1 (.lst (part.map V.int))) := fun b o e => by rw [upd_ne (ne_of_none (s7 b o e) hq1)]; exact s7 b o e
          refine ⟨q1, _, rfl, .inl (SqL.of upd_same), fun q2 hq2 => ?_⟩
          have s9 : Same H7 (upd (upd (upd H7 TT (.tup [.int (i : Nat), .int (n : Int)])) q1 (.lst (part.map V.int))) q2 (.lst (part.map V.int))) := fun b o e => by rw [upd_ne (ne_of_none (s8 b o e) hq2)]; exact s8 b o e
          have hq2' : (upd (upd (upd H7 TT (.tup [.int (i : Nat), .int (n : Int)])) q1 (.lst (part.map V.int))) q2 (.lst (part.map V.int))) q2 = some (.lst (part.map V.int)) := upd_same
          generalize (upd (upd (upd H7 TT (.tup [.int (i : Nat), .int (n : Int)])) q1 (.lst (part.map V.int))) q2 (.lst (part.map V.int))) = H9 at s9 hq2'
          refine ⟨_, rfl, (by show 1 ≤ sizeLine; decide), fun l hl => ?_⟩
          have q2l : q2 ≠ l := ne_of_none hq2' hl
          have s10 : Same H9 (upd H9 l (.lst [V.int 0])) := fun b o e => by rw [upd_ne (ne_of_none e hl)]; exact e
          refine ⟨_, rfl, q2, _, rfl, .inl (SqL.of (s10 _ _ hq2')), _, _, rfl, rfl, l, _, [V.int 0], rfl, rfl, upd_same, by rw [List.length_map]; omega, by omega, ?_, fun r hr => ?_⟩
          · rw [List.length_map, List.length_singleton]
            exact Nat.le_of_lt (small1000 (by omega))
          have s11 : Same H9 (upd (upd H9 l (.lst [V.int 0])) r (.lst (List.replicate (16 - ((part.map V.int).length : Int)).toNat [V.int 0]).flatten)) := fun b o e => by rw [upd_ne (ne_of_none (s10 b o e) hr)]; exact s10 b o e
          refine ⟨q2, r, _, _, rfl, rfl, s11 _ _ hq2', upd_same, ?_, fun u hu9 => ?_⟩
          · rw [rep_zero, List.length_map, List.length_map, List.length_replicate]
            exact Nat.le_of_lt (small1000 (by omega))
          rw [hch]
          have s12 : Same H9 (upd (upd (upd H9 l (.lst [V.int 0])) r (.lst (List.replicate (16 - ((part.map V.int).length : Int)).toNat [V.int 0]).flatten)) u (.lst ((chunk ws i).map V.int))) := fun b o e => by rw [upd_ne (ne_of_none (s11 b o e) hu9)]; exact s11 b o e
          have hu' : (upd (upd (upd H9 l (.lst [V.int 0])) r (.lst (List.replicate (16 - ((part.map V.int).length : Int)).toNat [V.int 0]).flatten)) u (.lst ((chunk ws i).map V.int))) u = some (.lst ((chunk ws i).map V.int)) := upd_same
          generalize (upd (upd (upd H9 l (.lst [V.int 0])) r (.lst (List.replicate (16 - ((part.map V.int).length : Int)).toNat [V.int 0]).flatten)) u (.lst ((chunk ws i).map V.int))) = H12 at s12 hu'
          have FA := F'.same (s9.trans s12)
          obtain ⟨dxA, hobA⟩ := id FA.ob
          have hnB : n < bs'.length := by
            rw [F'.ln, h1, G3.lenB]
            exact (hsm n hnm).1
          have hnc : n < cs'.length := by rw [← F'.ln]; exact hnB
          refine ⟨_, rfl, p, C, dxA, _, _, rfl, hobA, T.cl, T.nB, flds_b _ _ _, _, rfl, lb, _, _, n, rfl, rfl, FA.hb, ixN_nat (by rw [List.length_map]; exact hnB), ?_⟩
          refine ⟨_, _, _, rfl, bs'.set n u, cs'.set n (chunk ws i), FA.setBlock hu' (chunk_len ws i) hnB, by rw [List.length_set]; exact h1, fun k m hk hm => ?_, fun m hm => ?_, ?_, fun b o z z1 z2 z3 => ?_⟩
          · by_cases c : k = i
            · subst c
              rw [hn] at hm
              cases hm
              exact List.getElem?_set_self hnc
            · have nm : n ≠ m := fun z => by
                subst z
                exact c (nd_ix hsn hm hn)
              rw [List.getElem?_set_ne nm]
              exact h2 k m (by omega) hm
          · rw [tk_take hn] at hm
            have c : n ≠ m := fun z => hm (by simp [z])
            rw [List.getElem?_set_ne c]
            exact h3 m fun z => hm (List.mem_append_left _ z)
          · rw [upd_ne (ne_of FA.hb (s12 _ _ (s9 _ _ h4)) (refs_ne' FA.ps)).symm]
            exact s12 _ _ (s9 _ _ h4)
          · rw [upd_ne z1]
            exact s12 _ _ (s9 _ _ (h5 b o z z1 z2 z3))
        · rintro σ H7 ⟨v5, v7, v8, rfl, bs', cs', F', h1, h2, h3, h4, h5⟩
          rw [nums_len] at h2 h3
          rw [List.take_length] at h3
          obtain ⟨dx7, hob7⟩ := id F'.ob
          have hwl7 : H7 wl = some (.lst (ws.map V.int)) := h5 wl _ hwl wlb wdp wdc
          have small : ∀ f : Ent' → V, (es0.map fun e => ((Sum.inr e.nm : Key), f e)).length < sizeLine := fun f => by rw [List.length_map]; exact small1000 (by omega)
          refine ⟨_, rfl, _, rfl, p, C, dx7, _, _, rfl, hob7, T.cl, T.nP, flds_p _ _ _, _, rfl, dp, _, rfl, DPut.k (k := Sum.inr x) F'.hp (small _), ?_⟩
          refine ⟨_, rfl, wl, _, rfl, .inl (SqL.of (by rw [upd_ne wdp]; exact hwl7)), _, rfl, p, C, dx7, _, _, rfl, (by rw [upd_ne F'.pp]; exact hob7), T.cl, T.nC, flds_c _ _ _, _, rfl, dc, _, rfl, DPut.k (k := Sum.inr x) (by rw [upd_ne F'.pc.symm]; exact F'.hc) (small _), ?_⟩
          have fin := F'.added (e := ⟨x, sA, so, (ws.map V.int).length⟩) h4 hno0
          refine hQ _ bs' _ cs' fin ?_ (by rw [List.length_append, List.length_singleton]; omega) fun b o z z1 z2 z3 => ?_
          · have gg := G3.keep (e := ⟨x, sA, so, (ws.map V.int).length⟩) (ws := ws) (by show (if x = x then none else wf x) = none; rw [if_pos rfl]) hsn (fun n hn => (hsm n hn).1) (fun n hn => (hsm n hn).2) hsl h1 (fun k n hk => h2 k n (List.getElem?_eq_some_iff.mp hk).1 hk) h3
            have ew : (fun y => if y = x then some ws else if y = x then none else wf y) = fun y => if y = x then some ws else wf y := by
              funext y
              by_cases c : y = x
              · rw [if_pos c, if_pos c]
              · rw [if_neg c, if_neg c, if_neg c]
            rw [← ew]
            exact gg
          · rw [upd_ne z3, upd_ne z2]
            exact h5 b o z z1 z2 z3
end
end K77

set_option Elab.async false
set_option linter.all false
set_option maxRecDepth 100000
set_option maxHeartbeats 4000000
/-! The law's helpers: whole, list_is, change. -/
namespace K77
open PySem PySem.Spec PyProof.Rows L2
theorem lay_nums : ∀ c : List Int, PyData.canLayAll0 (c.map PyData.int) = true
  | [] => rfl
  | a :: r => by
    show (PyData.canLay0 (.int a) && PyData.canLayAll0 (r.map PyData.int)) = true
    rw [lay_nums r]
    rfl
theorem deep_nums : ∀ c : List Int, PyData.depthAll (c.map PyData.int) = 0
  | [] => rfl
  | a :: r => by
    show max 0 (PyData.depthAll (r.map PyData.int)) = 0
    rw [deep_nums r]
    rfl
theorem shaped_nums (c : List Int) : SeqAt.shaped (.list (c.map PyData.int)) = true := by
  unfold SeqAt.shaped
  have e1 : PyData.canLay0 (.list (c.map PyData.int)) = true := lay_nums c
  have e2 : PyData.depth (.list (c.map PyData.int)) = 1 := by
    show PyData.depthAll (c.map PyData.int) + 1 = 1
    rw [deep_nums]
  rw [e1, e2]
  rfl
theorem eqv_nums : ∀ c : List Int, PyData.eqvAll (c.map PyData.int) (c.map PyData.int) = true
  | [] => rfl
  | a :: r => by
    show (PyData.eqv (.int a) (.int a) && PyData.eqvAll (r.map PyData.int) (r.map PyData.int)) = true
    rw [eqv_nums r]
    show ((a == a) && true) = true
    simp
theorem dp_nums {K : PySem.W.Frag} {H : Hp} : ∀ c : List Int, DpAll K H (c.map V.int) (c.map PyData.int)
  | [] => .nil
  | a :: r => .cons (.int a) (dp_nums r)
def spWhole : Sp := fun vs H Q _ => ∃ i : Int, vs = [.int i] ∧ Q (.bl true) H
def spListIs : Sp := fun vs H Q _ => ∃ (a b : Addr) (c : List Int), vs = [.ref a, .ref b] ∧ H a = some (.lst (c.map V.int)) ∧ H b = some (.lst (c.map V.int)) ∧ c.length = 16 ∧ ∀ H', Same H H' → Q (.bl true) H'
section
variable {P : Program} {w : World} {K : PySem.W.Frag} {mg : Str → Option Value} {base : Heap} {C : Addr}
theorem scWhole : FnScope ["_law_found"] ["_law_found"] (defScope sWhole) := ⟨rfl, rfl, rfl, by decide +kernel, rfl, by decide +kernel, by decide +kernel⟩
theorem ok_whole {f : Addr} {fd : FuncData} (F : FnP K "_law_whole" "_law_whole" sWhole f fd) (T : Txt K mg C) : FnOk P w K mg base CX0 1 f fd ["_law_found"] spWhole := by
  refine (toFun F).ok scWhole (fun vs H Q E h => ?_) (fun cdv A outer s H vs Q E hr h => ?_)
  · obtain ⟨n, rfl, _⟩ := h
    rfl
  · obtain ⟨n, rfl, hQ⟩ := h
    refine ⟨_, pss_one (ps_ret (pe_and (pe_callB call_isi (by rfl) T.isi (by decide +kernel) (pa_cons (pv 0) (pa_cons (pe_bltn (v := .ty "int") (u := .type "int") (by rfl) T.int (by decide +kernel) rfl) pa_nil)))
      (pe_one (pe_not (pe_callB call_isi (by rfl) T.isi (by decide +kernel) (pa_cons (pv 0) (pa_cons (pe_bltn (v := .ty "bool") (u := .type "bool") (by rfl) T.bool (by decide +kernel) rfl) pa_nil))))))), ?_⟩
    refine ⟨_, rfl, _, _, _, _, true, rfl, .ty "int", .base (.int n), kit_ty (by decide +kernel), true, rfl, iteT ?_⟩
    exact ⟨_, rfl, _, _, _, _, false, rfl, .ty "bool", .base (.int n), kit_ty (by decide +kernel), false, rfl, hQ⟩
abbrev NListIs : List Str := ["_law_found", "_law_due_here", "_law_one"]
theorem scListIs : FnScope NListIs ["_law_found", "_law_due_here"] (defScope sListIs) := ⟨rfl, rfl, rfl, by decide +kernel, rfl, by decide +kernel, by decide +kernel⟩
theorem ok_listIs {f fW : Addr} {fd fdW : FuncData} (F : FnP K "_law_list_is" "_law_list_is" sListIs f fd) (T : Txt K mg C) (CW : Cal P w K mg base CX0 1 "_law_whole" fW fdW ["_law_found"] spWhole) : FnOk P w K mg base CX0 2 f fd ["_law_found", "_law_due_here"] spListIs := by
  refine (toFun F).ok scListIs (fun vs H Q E h => ?_) (fun cdv A outer s H vs Q E hr h => ?_)
  · obtain ⟨a, b, c, rfl, _⟩ := h
    rfl
  · obtain ⟨a, b, c, rfl, ha, hb, hl, hQ⟩ := h
    have nd := scListIs.nd
    refine ⟨_, pss_one (ps_ret (pe_and (pe_callB call_isi (by rfl) T.isi (by decide +kernel) (pa_cons (pv 0) (pa_cons (pe_bltn (v := .ty "list") (u := .type "list") (by rfl) T.list (by decide +kernel) rfl) pa_nil)))
      (pe_and (pe_cmpR (op_eqD hr.units) (pv 0) (pv 1) (nomark _))
      (pe_one (pe_callB (cr_all rfl) (by rfl) T.all (by decide +kernel) (pa_cons (pe_lc (own := [("_law_one", 2)]) (g := gName 2) (tt := tYes) rfl nd (pi_list (pv 0)) (blkOk_by (own := [("_law_one", 2)]) (N := NListIs) (sc := defScope sListIs) (by decide +kernel)) (fun _ _ _ _ _ => pg_name (i := 2) nd rfl (Or.inl rfl)) (fun _ _ _ _ _ => pts_nil)
        (fun _ _ _ _ _ => pe_call CW.G hr rfl CW.g CW.kp CW.b .nil pass0 (pa_cons (pv 2) pa_nil))) pa_nil)))))), ?_⟩
    refine ⟨_, rfl, _, _, _, _, true, rfl, .ty "list", .base (.lst ha), kit_ty (by decide +kernel), true, rfl, iteT ?_⟩
    refine ⟨_, rfl, _, rfl, _, _, .lst (SqL.of ha) (dp_nums c), .lst (SqL.of hb) (dp_nums c), shaped_nums c, shaped_nums c, _, rfl, ?_⟩
    have ev : PyData.eqv (.list (c.map PyData.int)) (.list (c.map PyData.int)) = true := eqv_nums c
    rw [ev]
    refine iteT ?_
    refine ⟨_, rfl, a, rfl, ⟨_, SqL.of ha⟩, fun D hD => lc_list (K := K) (a := a) (xs := c.map V.int) (fun i H' => Same H H' ∧ H' D = some (.lst ((List.replicate i true).map V.bl))) ⟨fun b o e => by rw [upd_ne (ne_of_none e hD)]; exact e, upd_same⟩ ?_ ?_ ?_⟩
    · rintro i H' hi ⟨s1, _⟩
      exact s1.seq (SqL.of ha)
    · rintro i y H' hi ⟨s1, hq⟩
      obtain ⟨n, hn, rfl⟩ := map_ints hi
      have hil := (List.getElem?_eq_some_iff.mp hn).1
      refine ⟨rfl, _, rfl, n, rfl, _, hq, by rw [List.length_map, List.length_replicate]; exact small1000 (by omega), fun b o e => ?_, ?_⟩
      · rw [upd_ne (ne_of_none e hD)]; exact s1 b o e
      · rw [upd_same, List.replicate_succ', List.map_append]; rfl
    · rintro H' ⟨s1, hq⟩
      rw [List.length_map] at hq
      refine ⟨D, _, rfl, SqL.of hq, ?_⟩
      have e : ((List.replicate c.length true).all id) = true := by
        rw [List.all_eq_true]
        intro x hx
        exact (List.mem_replicate.mp hx).2
      rw [e]
      exact hQ _ s1
end
def spChange (C : Addr) : Sp := fun vs H Q _ => ∃ (p lb dp dc : Addr) (bs : List Addr) (es : List Ent') (cs : List (List Int)) (B : Nat) (w : Str → Option (List Int)) (what x : Str) (wl : Addr) (ws : List Int),
  vs = [.ref p, .str what, .str x, .ref wl] ∧ (what = "keep" ∨ what = "drop") ∧ FloorAt C H p lb dp dc bs es cs ∧ Good B es cs w ∧ H wl = some (.lst (ws.map V.int)) ∧ ws.length ≤ 119 ∧ es.length ≤ 100 ∧ B ≤ 20 ∧
  (∀ (H' : Hp) (a : Addr), Same H H' → Q (.ref a) H') ∧
  (what = "keep" → ∀ (H' : Hp) (bs' : List Addr) (es' : List Ent') (cs' : List (List Int)), FloorAt C H' p lb dp dc bs' es' cs' → Good B es' cs' (fun y => if y = x then some ws else w y) → es'.length ≤ es.length + 1 → But3 H H' lb dp dc → Q .non H') ∧
  (what = "drop" → (∃ vs, w x = some vs) → ∀ (H' : Hp) (bs' : List Addr) (es' : List Ent') (cs' : List (List Int)), FloorAt C H' p lb dp dc bs' es' cs' → Good B es' cs' (fun y => if y = x then none else w y) → es'.length ≤ es.length + 1 → But3 H H' lb dp dc → Q .non H')
section
variable {P : Program} {w : World} {K : PySem.W.Frag} {mg : Str → Option Value} {base : Heap} {C : Addr}
abbrev NChange : List Str := ["_law_floor", "_law_what", "_law_name", "_law_words", "_law_caught", "e"]
theorem scChange : FnScope NChange ["_law_floor", "_law_what", "_law_name", "_law_words"] (defScope sChange) := ⟨rfl, rfl, rfl, by decide +kernel, rfl, by decide +kernel, by decide +kernel⟩
theorem ok_change {f fK fD CF CR CTE : Addr} {fd fdK fdD : FuncData} (F : FnP K "_law_change" "_law_change" sChange f fd) (T : Txt K mg C) (gT : mg "TownError" = some (.ref CTE)) (XR : ExcT K mg "NoRoom" CR CTE) (XF : ExcT K mg "NoFile" CF CTE)
    (CK : CalM P w K mg base (L2.CX P w) 3 C "keep" fK fdK ["self", "name", "words"] (spKeep C CR)) (CD : CalM P w K mg base (L2.CX P w) 2 C "drop" fD fdD ["self", "name"] (spDrop C CF)) :
    FnOk P w K mg base CX0 4 f fd ["_law_floor", "_law_what", "_law_name", "_law_words"] (spChange C) := by
  refine (toFun F).ok scChange (fun vs H Q E h => ?_) (fun cdv A outer s H vs Q E hr h => ?_)
  · obtain ⟨p, lb, dp, dc, bs, es, cs, B, w, what, x, wl, ws, rfl, _⟩ := h
    rfl
  · obtain ⟨p, lb, dp, dc, bs, es, cs, B, wf, what, x, wl, ws, rfl, hwhat, FL, G, hwl, hwn, hes, hB, hq1, hq2, hq3⟩ := h
    have nd := scChange.nd
    have hr2 : Room 2 _ := hr.mono (by decide)
    refine ⟨_, pss_cons (ps_set (i := 4) nd rfl (Or.inl rfl) pe_non)
      (pss_cons (ps_try_as (i := 5) rfl rfl nd rfl rfl ⟨rfl, by decide, Or.inl gT⟩ takes0
        (fun W pn xe tk _ => pss_one (ps_if (pt_cmpR op_eq (pv 1) pe_str (nomark _))
          (pss_one (ps_expr (pe_methS (pv 0) T.cl CK.m CK.G hr CK.b (fun σ => passAt tk σ) (pa_cons (pv 2) (pa_cons (pv 3) pa_nil)))))
          (pss_one (ps_expr (pe_methS (pv 0) T.cl CD.m CD.G hr2 CD.b (fun σ => passAt tk σ) (pa_cons (pv 2) pa_nil))))))
        (fun a oe cls d pn hz hf => pss_one (ps_set (i := 4) nd rfl (Or.inl rfl) (pv 5))))
      (pss_one (ps_ret (pv 4)))), ?_⟩
    obtain ⟨dx, hob⟩ := id FL.ob
    refine ⟨_, rfl, rfl, _, rfl, ?_⟩
    rcases hwhat with rfl | rfl
    · have e : decide (V.str ("keep" : Str) = V.str ("keep" : Str)) = true := decide_eq_true rfl
      rw [e]
      refine iteT ?_
      refine ⟨_, rfl, p, dx, _, rfl, hob, flds_no _ _ _ (by decide +kernel) (by decide +kernel) (by decide +kernel), _, rfl, _, rfl, p, lb, dp, dc, bs, es, cs, B, wf, x, wl, ws, rfl, FL, G, hwl, hwn, hes, hB, fun H' s1 => ?_, fun H' bs' es' cs' F' G' l' b' => ?_⟩
      · exact ⟨true, XR.m, fun _ a ha => ⟨_, rfl, _, rfl, hq1 H' a s1⟩, fun q => Bool.noConfusion q⟩
      · exact ⟨_, rfl, hq2 rfl H' bs' es' cs' F' G' l' b'⟩
    · have e : decide (V.str ("drop" : Str) = V.str ("keep" : Str)) = false := by decide +kernel
      rw [e]
      refine iteF ?_
      refine ⟨_, rfl, p, dx, _, rfl, hob, flds_no _ _ _ (by decide +kernel) (by decide +kernel) (by decide +kernel), _, rfl, p, lb, dp, dc, bs, es, cs, B, wf, x, rfl, FL, G, fun e he hx H' bs' cs' F' G' b' => ?_, fun hno => ?_⟩
      · obtain ⟨vs, hv, _⟩ := G.own e he
        rw [hx] at hv
        exact ⟨_, rfl, hq3 rfl ⟨vs, hv⟩ H' bs' _ cs' F' G' (Nat.le_succ_of_le (List.length_filter_le _ _)) b'⟩
      · exact ⟨true, XF.m, fun _ a ha => ⟨_, rfl, _, rfl, hq1 H a (Same.refl H)⟩, fun q => Bool.noConfusion q⟩
end
end K77

set_option Elab.async false
set_option linter.all false
set_option maxRecDepth 100000
set_option maxHeartbeats 4000000
/-! The law's look at the floor. -/
namespace K77
open PySem PySem.Spec PyProof.Rows L2
theorem iteP {c A B : Prop} [Decidable c] (hc : c) (h : A) : if c then A else B := by
  rw [if_pos hc]
  exact h
theorem iteN {c A B : Prop} [Decidable c] (hc : ¬ c) (h : B) : if c then A else B := by
  rw [if_neg hc]
  exact h
/-- a list of blocks: at lb the list, at bs the blocks, their words cs -/
structure BlkAt (H : Hp) (lb : Addr) (bs : List Addr) (cs : List (List Int)) : Prop where
  hb : H lb = some (.lst (bs.map V.ref))
  bl : ∀ (i : Nat) (b : Addr), bs[i]? = some b → ∃ c, cs[i]? = some c ∧ H b = some (.lst (c.map V.int)) ∧ c.length = 16
  ln : bs.length = cs.length
  ps : 0 < bs.length
theorem BlkAt.same {H H' : Hp} {lb : Addr} {bs : List Addr} {cs : List (List Int)} (F : BlkAt H lb bs cs) (s : ∀ b xs, H b = some (.lst xs) → H' b = some (.lst xs)) : BlkAt H' lb bs cs where
  hb := s _ _ F.hb
  bl := fun i b hi => by obtain ⟨c, h1, h2, h3⟩ := F.bl i b hi; exact ⟨c, h1, s _ _ h2, h3⟩
  ln := F.ln
  ps := F.ps
theorem BlkAt.lbb {H : Hp} {lb : Addr} {bs : List Addr} {cs : List (List Int)} (F : BlkAt H lb bs cs) {i : Nat} {b : Addr} (hi : bs[i]? = some b) : b ≠ lb := by
  obtain ⟨c, _, h, _⟩ := F.bl i b hi
  exact (ne_of F.hb h (refs_ne F.ps)).symm
theorem BlkAt.set {H : Hp} {lb : Addr} {bs : List Addr} {cs : List (List Int)} (F : BlkAt H lb bs cs) {q : Addr} {c : List Int} {n : Nat} (hq : H q = some (.lst (c.map V.int))) (hl : c.length = 16) (hn : n < bs.length) :
    BlkAt (upd H lb (.lst ((bs.map V.ref).set n (V.ref q)))) lb (bs.set n q) (cs.set n c) where
  hb := by rw [upd_same, List.map_set]
  bl := fun i b hi => by
    have hcn : n < cs.length := by rw [← F.ln]; exact hn
    have qlb : q ≠ lb := (ne_of F.hb hq (refs_ne F.ps)).symm
    by_cases e : n = i
    · subst e
      rw [List.getElem?_set_self hn] at hi
      cases hi
      exact ⟨c, List.getElem?_set_self hcn, by rw [upd_ne qlb]; exact hq, hl⟩
    · rw [List.getElem?_set_ne e] at hi
      obtain ⟨d, h1, h2, h3⟩ := F.bl i b hi
      exact ⟨d, by rw [List.getElem?_set_ne e]; exact h1, by rw [upd_ne (F.lbb hi)]; exact h2, h3⟩
  ln := by rw [List.length_set, List.length_set]; exact F.ln
  ps := by rw [List.length_set]; exact F.ps
/-- all but one dict's place as it was -/
def But1 (H H' : Hp) (a : Addr) : Prop := ∀ q o, H q = some o → q ≠ a → H' q = some o
theorem FloorAt.but1 {C : Addr} {H H' : Hp} {p lb dp dc df : Addr} {bs : List Addr} {es : List Ent'} {cs : List (List Int)} {kvs : List (Key × V)} (F : FloorAt C H p lb dp dc bs es cs) (hd : H df = some (.dK kvs)) (n1 : df ≠ dp) (n2 : df ≠ dc) (s : But1 H H' df) : FloorAt C H' p lb dp dc bs es cs where
  ob := by obtain ⟨dx, h⟩ := F.ob; exact ⟨dx, s _ _ h (ne_of h hd (by intro z; cases z))⟩
  hb := s _ _ F.hb (ne_of F.hb hd (by intro z; cases z))
  hp := s _ _ F.hp n1.symm
  hc := s _ _ F.hc n2.symm
  pc := F.pc
  pl := fun e he => s _ _ (F.pl e he) (ne_of (F.pl e he) hd (by intro z; cases z))
  bl := fun i b hi => by obtain ⟨c, h1, h2, h3⟩ := F.bl i b hi; exact ⟨c, h1, s _ _ h2 (ne_of h2 hd (by intro z; cases z)), h3⟩
  ln := F.ln
  ps := F.ps
/-! ### dicts by places -/
theorem valV_get : ∀ {kvs : List (Key × V)} {i : Nat} {k : Key} {v : V}, (kvs.map (·.1)).Nodup → kvs[i]? = some (k, v) → valV kvs k = some v
  | [], i, k, v, _, h => (nil_get h).elim
  | (k0, v0) :: r, 0, k, v, _, h => by
    have e : (k0, v0) = (k, v) := Option.some.inj h
    cases e
    exact valV_pos (p := (k0, v0)) rfl
  | (k0, v0) :: r, i + 1, k, v, nd, h => by
    have nd' : (k0 :: r.map (·.1)).Nodup := nd
    have hc := List.nodup_cons.mp nd'
    have h' : r[i]? = some (k, v) := h
    have hne : ¬ k0 = k := fun z => hc.1 (List.mem_map.mpr ⟨(k, v), List.mem_of_getElem? h', z.symm⟩)
    rw [valV_neg (p := (k0, v0)) hne]
    exact valV_get hc.2 h'
theorem valV_place : ∀ {kvs : List (Key × V)} {k : Key} {v : V}, valV kvs k = some v → ∃ i : Nat, kvs[i]? = some (k, v)
  | [], k, v, h => nomatch (show (none : Option V) = some v from h)
  | (k0, v0) :: r, k, v, h => by
    by_cases c : k0 = k
    · rw [valV_pos (p := (k0, v0)) c] at h
      cases h
      exact ⟨0, by rw [← c]; rfl⟩
    · rw [valV_neg (p := (k0, v0)) c] at h
      obtain ⟨i, hi⟩ := valV_place h
      exact ⟨i + 1, hi⟩
theorem key_place {kvs : List (Key × V)} {i j : Nat} {k : Key} {u v : V} (nd : (kvs.map (·.1)).Nodup) (h1 : kvs[i]? = some (k, u)) (h2 : kvs[j]? = some (k, v)) : i = j := by
  refine nd_ix nd (x := k) (by rw [List.getElem?_map, h1]; rfl) (by rw [List.getElem?_map, h2]; rfl)
/-- the files that the first i places name -/
def Seen (es : List Ent') (kvs : List (Key × V)) (i : Nat) (e : Ent') : Prop := e ∈ es ∧ ∃ j v, j < i ∧ kvs[j]? = some ((Sum.inr e.nm : Key), v)
theorem Seen.more {es : List Ent'} {kvs : List (Key × V)} {i : Nat} {e a : Ent'} {v : V} (nd : (es.map Ent.nm).Nodup) (he : e ∈ es) (hi : kvs[i]? = some ((Sum.inr e.nm : Key), v)) : Seen es kvs (i + 1) a ↔ Seen es kvs i a ∨ a = e := by
  constructor
  · rintro ⟨ha, j, u, hj, hk⟩
    by_cases c : j = i
    · subst c
      rw [hi] at hk
      have q : e.nm = a.nm := Sum.inr.inj (congrArg Prod.fst (Option.some.inj hk))
      exact .inr (name_inj nd ha he q.symm)
    · exact .inl ⟨ha, j, u, by omega, hk⟩
  · rintro (⟨ha, j, u, hj, hk⟩ | rfl)
    · exact ⟨ha, j, u, by omega, hk⟩
    · exact ⟨he, i, v, by omega, hi⟩
theorem Seen.not {es : List Ent'} {kvs : List (Key × V)} {i : Nat} {e : Ent'} {v : V} (nd : (kvs.map (·.1)).Nodup) (hi : kvs[i]? = some ((Sum.inr e.nm : Key), v)) : ¬ Seen es kvs i e := by
  rintro ⟨_, j, u, hj, hk⟩
  have := key_place nd hi hk
  omega
/-- what the look has met and written: m the numbers, dcs the words due -/
structure Due (B : Nat) (cs dcs : List (List Int)) (m : List Nat) : Prop where
  len : dcs.length = B
  nd : m.Nodup
  lt : ∀ n ∈ m, n < B
  on : ∀ n, n ∈ m → dcs[n]? = cs[n]?
  off : ∀ n, n < B → n ∉ m → dcs[n]? = some zero16
theorem Due.small {B : Nat} {cs dcs : List (List Int)} {m : List Nat} (D : Due B cs dcs m) : m.length ≤ B := by
  have := fr_len D.nd D.lt
  omega
theorem Due.step {B : Nat} {cs dcs : List (List Int)} {m : List Nat} {n : Nat} {c : List Int} (D : Due B cs dcs m) (hn : n < B) (hm : n ∉ m) (hc : cs[n]? = some c) : Due B cs (dcs.set n c) (m ++ [n]) where
  len := by rw [List.length_set]; exact D.len
  nd := by
    refine List.nodup_append.mpr ⟨D.nd, by simp, ?_⟩
    intro a ha b hb q
    have : b = n := by simpa using hb
    exact hm (by rw [← this, ← q]; exact ha)
  lt := fun k hk => by
    rcases List.mem_append.mp hk with h | h
    · exact D.lt k h
    · have : k = n := by simpa using h
      omega
  on := fun k hk => by
    by_cases q : n = k
    · subst q
      rw [List.getElem?_set_self (by rw [D.len]; exact hn), hc]
    · rw [List.getElem?_set_ne q]
      rcases List.mem_append.mp hk with h | h
      · exact D.on k h
      · exact absurd (by simpa using h : k = n).symm q
  off := fun k hk hkm => by
    have q : n ≠ k := fun z => hkm (by simp [z])
    rw [List.getElem?_set_ne q]
    exact D.off k hk fun z => hkm (List.mem_append_left _ z)
def spRight (C : Addr) : Sp := fun vs H Q _ => ∃ (p lb dp dc df : Addr) (bs : List Addr) (es : List Ent') (cs : List (List Int)) (B : Nat) (w : Str → Option (List Int)) (kvs : List (Key × V)),
  vs = [.ref p, .ref df, .int (B : Int)] ∧ FloorAt C H p lb dp dc bs es cs ∧ Good B es cs w ∧ FilesAt H df kvs w ∧ df ≠ dp ∧ df ≠ dc ∧ 1 ≤ B ∧ B ≤ 20 ∧ ∀ H', Same H H' → Q (.bl true) H'
section
variable {P : Program} {w : World} {K : PySem.W.Frag} {mg : Str → Option Value} {base : Heap} {C : Addr}
abbrev NRight : List Str := ["_law_floor", "_law_files", "_law_blocks", "_law_number", "_law_due_here", "_law_met", "_law_name", "_law_own", "_law_k", "_law_part"]
theorem scRight : FnScope NRight ["_law_floor", "_law_files", "_law_blocks"] (defScope sRight) := ⟨rfl, rfl, rfl, by decide +kernel, rfl, by decide +kernel, by decide +kernel⟩
theorem ok_right {f fO fB fL fW fI : Addr} {fd fdO fdB fdL fdW fdI : FuncData} (F : FnP K "_law_right" "_law_right" sRight f fd) (T : Txt K mg C)
    (CO : CalM P w K mg base CX0 2 C "blocks_of" fO fdO ["self", "name"] (spBlocksOf C)) (CB : CalM P w K mg base CX0 1 C "block" fB fdB ["self", "number"] (spBlock C))
    (CL : Cal P w K mg base CX0 1 "_law_blocks_of" fL fdL ["_law_words"] (spLB K)) (CW : Cal P w K mg base CX0 1 "_law_whole" fW fdW ["_law_found"] spWhole) (CI : Cal P w K mg base CX0 2 "_law_list_is" fI fdI ["_law_found", "_law_due_here"] spListIs) :
    FnOk P w K mg base CX0 3 f fd ["_law_floor", "_law_files", "_law_blocks"] (spRight C) := by
  refine (toFun F).ok scRight (fun vs H Q E h => ?_) (fun cdv A outer s H vs Q E hr h => ?_)
  · obtain ⟨p, lb, dp, dc, df, bs, es, cs, B, w, kvs, rfl, _⟩ := h
    rfl
  · obtain ⟨p, lb, dp, dc, df, bs, es, cs, B, wf, kvs, rfl, FL, G, FI, nfp, nfc, B1, B20, hQ⟩ := h
    have nd := scRight.nd
    have hu := hu_of hr
    have hr1 : Room 1 _ := hr.mono (by decide)
    refine ⟨_, pss_cons (ps_setLc (i := 4) (own := [("_law_number", 3)]) (g := gName 3) (tt := tYes) rfl nd rfl rfl (sw_true rfl rfl rfl (by decide +kernel)) (pi_range1 rfl T.range (pa_cons (pv 2) pa_nil)) (blkOk_by (own := [("_law_number", 3)]) (N := NRight) (sc := defScope sRight) (by decide +kernel)) (fun _ _ _ _ _ => pg_name (i := 3) nd rfl (Or.inl rfl)) (fun _ _ _ _ _ => pts_nil)
        (fun _ _ _ _ _ => pe_op op_rep (pe_lst (pa_cons pe_int pa_nil)) pe_int))
      (pss_cons (ps_set (i := 5) nd rfl (Or.inl rfl) (pe_lst pa_nil))
      (pss_cons (ps_lock (ps_for PassesOwn.never rfl (pi_keys (pv 1)) (pg_name (i := 6) nd rfl (Or.inl rfl))
        (pss_cons (ps_set (i := 7) nd rfl (Or.inl rfl) (pe_meth (pv 0) T.cl CO.m CO.G hr CO.b .nil pass0 (pa_cons (pv 6) pa_nil)))
        (pss_cons (ps_if (PW.pt (pw_or (pt_not (pt_val (pe_callB call_isi (by rfl) T.isi (by decide +kernel) (pa_cons (pv 7) (pa_cons (pe_bltn (v := .ty "list") (u := .type "list") (by rfl) T.list (by decide +kernel) rfl) pa_nil)))))
            (pw_or1 (pt_cmpR op_ne (pe_callB call_len_seq (by rfl) T.len PySem.boot_len (pa_cons (pv 7) pa_nil)) (pe_call CL.G hr1 rfl CL.g CL.kp CL.b .nil pass0 (pa_cons (pe_dget hu (pv 1) (pv 6) (fun _ _ => rfl)) pa_nil)) (nomark _))))) (pss_one (ps_ret pe_bl)) pss_nil)
        (pss_one (ps_for PassesOwn.never rfl (pi_enum (by rfl) T.enum (pa_cons (pv 7) pa_nil)) (pg_tup rfl (pgs_cons (pg_name (i := 8) nd rfl (Or.inl rfl)) (pgs_cons (pg_name (i := 3) nd rfl (Or.inl rfl)) pgs_nil)))
          (pss_cons (ps_if (PW.pt (pw_or (pt_not (pt_val (pe_call CW.G hr1 rfl CW.g CW.kp CW.b .nil pass0 (pa_cons (pv 3) pa_nil))))
              (pw_or (pt_not (pt_chain op_le op_lt pe_int (pv 3) (pv 2))) (pw_or1 (pt_cmpR (r := rIn K false) op_in_seq (pv 3) (pv 5) (by rfl)))))) (pss_one (ps_ret pe_bl)) pss_nil)
          (pss_cons (ps_expr (pe_bm PySem.F.plainAttrs_list PySem.F.slot_list_append PySem.F.type_list_append mt_append (pv 5) (pa_cons (pv 3) pa_nil)))
          (pss_cons (ps_set (i := 9) nd rfl (Or.inl rfl) (pe_slice sl_list (pe_dget hu (pv 1) (pv 6) (fun _ _ => rfl)) (po_some (pe_op op_mul pe_int (pv 8))) (po_some (pe_op op_add (pe_op op_mul pe_int (pv 8)) pe_int))))
          (pss_one (ps_asg (pe_op op_cat (pv 9) (pe_op op_rep (pe_lst (pa_cons pe_int pa_nil)) (pe_op op_sub pe_int (pe_callB call_len_seq (by rfl) T.len PySem.boot_len (pa_cons (pv 9) pa_nil))))) (pg_sub (pv 4) (pv 3) set_list))))))))))))
      (pss_cons (ps_for PassesOwn.never rfl (pi_range1 rfl T.range (pa_cons (pv 2) pa_nil)) (pg_name (i := 3) nd rfl (Or.inl rfl))
        (pss_one (ps_if (pt_not (pt_val (pe_call CI.G hr rfl CI.g CI.kp CI.b .nil pass0 (pa_cons (pe_meth (pv 0) T.cl CB.m CB.G hr1 CB.b .nil pass0 (pa_cons (pv 3) pa_nil)) (pa_cons (pe_ix ix_list (pv 4) (pv 3) (fun _ _ => rfl)) pa_nil))))) (pss_one (ps_ret pe_bl)) pss_nil)))
      (pss_one (ps_ret pe_bl))))), ?_⟩
    obtain ⟨dx, hob⟩ := id FL.ob
    have hbl : bs.length = B := by rw [FL.ln, G.lenB]
    -- the blocks due, all of zeros
    refine ⟨_, rfl, (B : Int), rfl, by omega, by omega, fun du hdu => lc_range (n := (B : Int).toNat) (fun i H' => Same H H' ∧ ∃ ds : List Addr, H' du = some (.lst (ds.map V.ref)) ∧ ds.length = i ∧ ∀ j b, ds[j]? = some b → H' b = some (.lst (zero16.map V.int)))
      ⟨fun c o e => by rw [upd_ne (ne_of_none e hdu)]; exact e, [], upd_same, rfl, fun j b e => (nil_get e).elim⟩ ?_ ?_⟩
    · rintro i H1 hi ⟨s1, ds, hq, hl, hz⟩
      refine ⟨rfl, (by show 1 ≤ sizeLine; decide), fun l hl0 => ⟨l, 16, _, rfl, rfl, upd_same, by decide, by decide, (by show 16 ≤ sizeLine; decide), fun q hq0 => ?_⟩⟩
      have lD : du ≠ l := ne_of_none hq hl0
      have hq0' : H1 q = none := by
        by_cases c : q = l
        · rw [c, upd_same] at hq0; cases hq0
        · rw [upd_ne c] at hq0; exact hq0
      have qD : du ≠ q := ne_of_none hq hq0'
      refine ⟨_, by rw [upd_ne qD, upd_ne lD]; exact hq, by rw [List.length_map]; exact small1000 (by omega), fun c o e => ?_, ds ++ [q], ?_, by rw [List.length_append, List.length_singleton, hl], fun j b e => ?_⟩
      · rw [upd_ne (ne_of_none e hdu), upd_ne (ne_of_none (s1 _ _ e) hq0'), upd_ne (ne_of_none (s1 _ _ e) hl0)]; exact s1 c o e
      · rw [upd_same, List.map_append]; rfl
      · have key : ∀ c, H1 c = some (.lst (zero16.map V.int)) → (upd (upd (upd H1 l (.lst [V.int 0])) q (.lst ((List.replicate (16 : Int).toNat [V.int 0]).flatten))) du (.lst (ds.map V.ref ++ [V.ref q]))) c = some (.lst (zero16.map V.int)) := fun c e => by
          have cD : c ≠ du := ne_of e hq zero_ne.symm
          rw [upd_ne cD, upd_ne (ne_of_none e hq0'), upd_ne (ne_of_none e hl0)]
          exact e
        by_cases c : j < ds.length
        · rw [List.getElem?_append_left c] at e
          exact key b (hz j b e)
        · rw [List.getElem?_append_right (by omega)] at e
          have hb : b = q := by
            have h0 : j - ds.length = 0 := by
              have := (List.getElem?_eq_some_iff.mp e).1
              rw [List.length_singleton] at this
              omega
            rw [h0] at e
            exact (Option.some.inj e).symm
          rw [hb, upd_ne qD.symm, upd_same]
          rfl
    · rintro H1 ⟨s1, ds, hq, hl, hz⟩
      have hl' : ds.length = B := by omega
      have BA : BlkAt H1 du ds (List.replicate B zero16) := ⟨hq, fun i b hi => ⟨zero16, by rw [List.getElem?_replicate, if_pos (by have := (List.getElem?_eq_some_iff.mp hi).1; omega)], hz i b hi, rfl⟩, by rw [hl', List.length_replicate], by omega⟩
      refine ⟨Nat.zero_le _, fun me hme => ?_⟩
      have dufr : H du = none := hdu
      have s2 : Same H (upd H1 me (.lst [])) := fun b o e => by rw [upd_ne (ne_of_none (s1 b o e) hme)]; exact s1 b o e
      have BA2 : BlkAt (upd H1 me (.lst [])) du ds (List.replicate B zero16) := BA.same fun b xs e => by rw [upd_ne (ne_of_none e hme)]; exact e
      have hme2 : (upd H1 me (.lst [])) me = some (.lst (nums [])) := upd_same
      have mefr : H me = none := s1.free hme
      have hmeds : me ∉ ds := fun z => by
        obtain ⟨i, hi⟩ := List.getElem?_of_mem z
        have q := hz i me hi
        rw [hme] at q
        cases q
      generalize upd H1 me (.lst []) = H2 at s2 BA2 hme2
      have FI2 : H2 df = some (.dK kvs) := s2 _ _ FI.at_
      refine ⟨df, .dK kvs, FI2, trivial, fun od => ?_⟩
      have ndu : ∀ {b : Addr} {o : HO}, H b = some o → b ≠ du := fun e => ne_of_none e dufr
      have nme : ∀ {b : Addr} {o : HO}, H b = some o → b ≠ me := fun e => ne_of_none e mefr
      refine ⟨_, rfl, df, od, rfl, .inl ⟨kvs, upd_same, ?_⟩⟩
      refine for_it (walk_keys (kvs := kvs)) (fun i σ H' => ∃ (v3 v6 v7 v8 v9 : Option V) (ds : List Addr) (dcs : List (List Int)) (m : List Nat), σ = [some (.ref p), some (.ref df), some (.int (B : Int)), v3, some (.ref du), some (.ref me), v6, v7, v8, v9] ∧
        H' df = some (.frz od (.dK kvs)) ∧ BlkAt H' du ds dcs ∧ H' me = some (.lst (nums m)) ∧ But1 H H' df ∧ Due B cs dcs m ∧ me ∉ ds ∧ ∀ n, n ∈ m ↔ ∃ e, Seen es kvs i e ∧ n ∈ e.ns) ?_ ?_ ?_ ?_
      · refine ⟨none, none, none, none, none, ds, _, [], rfl, upd_same, BA2.same fun b xs e => ?_, ?_, fun b o e hb => ?_, ⟨List.length_replicate, List.nodup_nil, fun n h => (nomatch h), fun n h => (nomatch h), fun n hn _ => ?_⟩, hmeds, fun n => ⟨fun h => (nomatch h), fun ⟨e, ⟨_, j, _, hj, _⟩, _⟩ => absurd hj (Nat.not_lt_zero j)⟩⟩
        · rw [upd_ne (ne_of e FI2 (by intro z; cases z))]
          exact e
        · rw [upd_ne (ne_of hme2 FI2 (by intro z; cases z))]
          exact hme2
        · rw [upd_ne hb]
          exact s2 b o e
        · rw [List.getElem?_replicate, if_pos hn]
      · rintro i σ H' hi ⟨v3, v6, v7, v8, v9, ds, dcs, m, rfl, h1, _⟩
        exact h1
      · rintro i y σ H3 H' hi ⟨v3, v6, v7, v8, v9, ds, dcs, m, rfl, h1, h2, h3, h4, h5, h7, h6⟩ ⟨rfl, k, v, hk, rfl⟩
        obtain ⟨x, hx⟩ := FI.str (k, v) (List.mem_of_getElem? hk)
        have hx : k = Sum.inr x := hx
        subst hx
        have hv := valV_get FI.nd hk
        rcases FI.val x with ⟨z, _⟩ | ⟨a, ws, e1, e2, e3, e4⟩
        · rw [z] at hv; cases hv
        obtain ⟨e, he, hx⟩ := G.has x ws e2
        subst hx
        obtain ⟨ws', hw', hlen, hch⟩ := G.own e he
        rw [e2] at hw'
        cases hw'
        have FL3 := FL.but1 FI.at_ nfp nfc h4
        obtain ⟨dx3, hob3⟩ := id FL3.ob
        refine ⟨_, rfl, p, dx3, _, rfl, hob3, flds_no _ _ _ (by decide +kernel) (by decide +kernel) (by decide +kernel), _, rfl, p, lb, dp, dc, bs, es, cs, e, rfl, FL3, G.nd, he, fun H4 q s4 hq0 hq => ?_⟩
        have qdu : q ≠ du := fun z => by rw [z, h2.hb] at hq0; cases hq0
        have qme : q ≠ me := fun z => by rw [z, h3] at hq0; cases hq0
        have hdf4 := s4 _ _ h1
        have hws4 : H4 a = some (.lst (ws.map V.int)) := s4 _ _ (h4 _ _ e3 (ne_of e3 FI.at_ (by intro z; cases z)))
        refine ⟨_, rfl, _, _, _, _, true, rfl, .ty "list", .base (.lst hq), kit_ty (by decide +kernel), _, rfl, ?_⟩
        refine iteF ?_
        refine ⟨_, rfl, q, _, rfl, .inl (SqL.of hq), _, rfl, _, rfl, df, _, rfl, .inl ⟨kvs, Sum.inr e.nm, .inr ⟨od, hdf4⟩, rfl, e1.symm⟩, a, _, rfl, SqL.of hws4, rfl, _, rfl, ?_⟩
        refine iteNS (by rw [nums_len, List.length_map, hlen]) ?_
        refine ⟨_, rfl, q, _, rfl, SqL.of hq, ?_⟩
        refine for_it (walk_enum (K := K) (a := q) (xs := nums e.ns)) (fun j σ H' => ∃ (v3 v8 v9 : Option V) (ds : List Addr) (dcs : List (List Int)), σ = [some (.ref p), some (.ref df), some (.int (B : Int)), v3, some (.ref du), some (.ref me), some (.str e.nm), some (.ref q), v8, v9] ∧
          H' df = some (.frz od (.dK kvs)) ∧ BlkAt H' du ds dcs ∧ H' me = some (.lst (nums (m ++ e.ns.take j))) ∧ But1 H H' df ∧ Due B cs dcs (m ++ e.ns.take j) ∧ H' q = some (.lst (nums e.ns)) ∧ me ∉ ds) ?_ ?_ ?_ ?_
        · refine ⟨v3, v8, v9, ds, dcs, rfl, hdf4, h2.same fun b xs z => s4 _ _ z, ?_, fun b o z hb => s4 _ _ (h4 b o z hb), ?_, hq, h7⟩
          · rw [List.take_zero, List.append_nil]
            exact s4 _ _ h3
          · rw [List.take_zero, List.append_nil]
            exact h5
        · rintro j σ H' hj ⟨v3, v8, v9, ds, dcs, rfl, g1, g2, g3, g4, g5, g6, _⟩
          exact SqL.of g6
        · rintro j y σ H5 H' hj ⟨v3, v8, v9, ds, dcs, rfl, g1, g2, g3, g4, g5, g6, g7⟩ ⟨TT, x1, y1, rfl, hT, rfl, t1, t2⟩
          obtain ⟨n, hn, rfl⟩ := nums_of t2
          cases t1
          have hnm := List.mem_of_getElem? hn
          have hnB : n < B := G.lt n (mem_tk.mpr ⟨e, he, hnm⟩)
          have hnot : n ∉ m ++ e.ns.take j := fun z => by
            rcases List.mem_append.mp z with z | z
            · obtain ⟨b, hb, hnb⟩ := (h6 n).mp z
              have eb : b = e := ent_disj G.nod hb.1 he hnb hnm
              subst eb
              exact Seen.not FI.nd hk hb
            · exact not_in_take (ent_nd G.nod he) hn z
          have small : (nums (m ++ e.ns.take j)).length < sizeLine := by
            have := g5.small
            rw [nums_len]
            exact small1000 (by omega)
          generalize hmm : m ++ e.ns.take j = mm at g3 g5 hnot small
          have s7 : Same H5 (upd H5 TT (.tup [.int (j : Nat), .int (n : Int)])) := fun b o z => by rw [upd_ne (ne_of_none z hT)]; exact z
          refine ⟨TT, _, rfl, SqT.of upd_same, rfl, _, _, rfl, _, _, rfl, rfl, ?_⟩
          generalize upd H5 TT (.tup [.int (j : Nat), .int (n : Int)]) = H7 at s7
          have k1 := s7 _ _ g1
          have k2 := g2.same fun b xs z => s7 _ _ z
          have k3 := s7 _ _ g3
          have k4 : But1 H H7 df := fun b o z hb => s7 _ _ (g4 b o z hb)
          have k6 := s7 _ _ g6
          -- if not whole or not 0 <= number < blocks or number in met
          refine ⟨_, rfl, (n : Int), rfl, _, rfl, ?_⟩
          refine iteF ?_
          refine ⟨_, rfl, _, _, rfl, rfl, _, rfl, ?_⟩
          refine iteP (decide_eq_true (by omega : (0 : Int) ≤ (n : Int))) ?_
          refine ⟨_, rfl, _, _, rfl, rfl, _, rfl, ?_⟩
          refine iteN (fun z => ?_) ?_
          · have q : (!decide ((n : Int) < (B : Int))) = true := z
            rw [decide_eq_true (by omega : (n : Int) < (B : Int))] at q
            cases q
          refine ⟨_, rfl, _, rfl, me, _, rfl, .inl (SqL.of k3), rfl, flat_nums _, _, rfl, ?_⟩
          refine iteN (fun z => ?_) ?_
          · have q : inV (V.int (n : Int)) (nums mm) = true := z
            rw [inV_nums] at q
            exact hnot (of_decide_eq_true q)
          -- met.append(number)
          refine ⟨_, rfl, .inl ⟨rfl, _, SqL.of k3⟩, _, rfl, me, _, _, rfl, rfl, k3, small, ?_⟩
          have nmedf : df ≠ me := ne_of k1 k3 (by intro z; cases z)
          have nmedu : me ≠ du := (ne_of k2.hb k3 (refs_ne' k2.ps)).symm
          have l1 : (upd H7 me (.lst (nums mm ++ [V.int (n : Int)]))) df = some (.frz od (.dK kvs)) := by rw [upd_ne nmedf]; exact k1
          have l2 : BlkAt (upd H7 me (.lst (nums mm ++ [V.int (n : Int)]))) du ds dcs := {
            hb := by rw [upd_ne nmedu.symm]; exact k2.hb
            bl := fun i b hi => by
              obtain ⟨c, c1, c2, c3⟩ := k2.bl i b hi
              refine ⟨c, c1, ?_, c3⟩
              have nb : b ≠ me := fun z => by
                subst z
                exact g7 (List.mem_of_getElem? hi)
              rw [upd_ne nb]
              exact c2
            ln := k2.ln
            ps := k2.ps }
          have l3 : (upd H7 me (.lst (nums mm ++ [V.int (n : Int)]))) me = some (.lst (nums (mm ++ [n]))) := by
            rw [upd_same, nums_app]
            rfl
          have l4 : But1 H (upd H7 me (.lst (nums mm ++ [V.int (n : Int)]))) df := fun b o z hb => by
            rw [upd_ne (nme z)]
            exact k4 b o z hb
          have l6 : (upd H7 me (.lst (nums mm ++ [V.int (n : Int)]))) q = some (.lst (nums e.ns)) := by
            rw [upd_ne qme]
            exact k6
          generalize upd H7 me (.lst (nums mm ++ [V.int (n : Int)])) = H8 at l1 l2 l3 l4 l6
          have l7 : H8 a = some (.lst (ws.map V.int)) := l4 _ _ e3 (ne_of e3 FI.at_ (by intro z; cases z))
          refine ⟨_, rfl, _, rfl, df, _, rfl, .inl ⟨kvs, Sum.inr e.nm, .inr ⟨od, l1⟩, rfl, e1.symm⟩, _, rfl, _, _, rfl, rfl, .inl ⟨by decide, by decide⟩, _, rfl, _, rfl, _, _, rfl, rfl, .inl ⟨by decide, by decide⟩, _, _, rfl, rfl, _, rfl, a, _, rfl, SqL.of l7, fun q2 hq2 => ?_⟩
          rw [cut_chunk]
          generalize hpart : (ws.drop (16 * j)).take 16 = part
          have hpl : part.length ≤ 16 := by rw [← hpart, List.length_take]; omega
          have hchk : part.map V.int ++ (List.replicate (16 - ((part.map V.int).length : Int)).toNat [V.int 0]).flatten = (chunk ws j).map V.int := by
            rw [← hpart]
            exact chunk_is ws j
          have s9 : Same H8 (upd H8 q2 (.lst (part.map V.int))) := fun b o z => by rw [upd_ne (ne_of_none z hq2)]; exact z
          have hq2' : (upd H8 q2 (.lst (part.map V.int))) q2 = some (.lst (part.map V.int)) := upd_same
          generalize upd H8 q2 (.lst (part.map V.int)) = H9 at s9 hq2'
          refine ⟨_, rfl, (by show 1 ≤ sizeLine; decide), fun l hl => ?_⟩
          have s10 : Same H9 (upd H9 l (.lst [V.int 0])) := fun b o e => by rw [upd_ne (ne_of_none e hl)]; exact e
          refine ⟨_, rfl, q2, _, rfl, .inl (SqL.of (s10 _ _ hq2')), _, _, rfl, rfl, l, _, [V.int 0], rfl, rfl, upd_same, by rw [List.length_map]; omega, by omega, ?_, fun r hr => ?_⟩
          · rw [List.length_map, List.length_singleton]
            exact Nat.le_of_lt (small1000 (by omega))
          have s11 : Same H9 (upd (upd H9 l (.lst [V.int 0])) r (.lst (List.replicate (16 - ((part.map V.int).length : Int)).toNat [V.int 0]).flatten)) := fun b o e => by rw [upd_ne (ne_of_none (s10 b o e) hr)]; exact s10 b o e
          refine ⟨q2, r, _, _, rfl, rfl, s11 _ _ hq2', upd_same, ?_, fun u hu9 => ?_⟩
          · rw [rep_zero, List.length_map, List.length_map, List.length_replicate]
            exact Nat.le_of_lt (small1000 (by omega))
          rw [hchk]
          have s12 : Same H9 (upd (upd (upd H9 l (.lst [V.int 0])) r (.lst (List.replicate (16 - ((part.map V.int).length : Int)).toNat [V.int 0]).flatten)) u (.lst ((chunk ws j).map V.int))) := fun b o e => by rw [upd_ne (ne_of_none (s11 b o e) hu9)]; exact s11 b o e
          have hu' : (upd (upd (upd H9 l (.lst [V.int 0])) r (.lst (List.replicate (16 - ((part.map V.int).length : Int)).toNat [V.int 0]).flatten)) u (.lst ((chunk ws j).map V.int))) u = some (.lst ((chunk ws j).map V.int)) := upd_same
          have ume : me ≠ u := ne_of_none (s11 _ _ (s9 _ _ l3)) hu9
          generalize (upd (upd (upd H9 l (.lst [V.int 0])) r (.lst (List.replicate (16 - ((part.map V.int).length : Int)).toNat [V.int 0]).flatten)) u (.lst ((chunk ws j).map V.int))) = H12 at s12 hu'
          have s13 := s9.trans s12
          have BK := l2.same fun b xs z => s13 _ _ z
          have hdsl : n < ds.length := by rw [BK.ln, g5.len]; exact hnB
          refine ⟨_, rfl, _, rfl, du, _, _, n, rfl, rfl, BK.hb, ixN_nat (by rw [List.length_map]; exact hdsl), ?_⟩
          refine ⟨_, _, _, ds.set n u, dcs.set n (chunk ws j), rfl, ?_, BK.set hu' (chunk_len ws j) hdsl, ?_, fun b o z hb => ?_, ?_, ?_, fun z => ?_⟩
          · rw [upd_ne (ne_of BK.hb (s13 _ _ l1) (by intro z; cases z)).symm]
            exact s13 _ _ l1
          · rw [upd_ne nmedu, tk_take hn, ← List.append_assoc, hmm]
            exact s13 _ _ l3
          · rw [upd_ne (ndu z)]
            exact s13 _ _ (l4 b o z hb)
          · rw [tk_take hn, ← List.append_assoc, hmm]
            exact g5.step hnB hnot (hch j n hn)
          · rw [upd_ne qdu]
            exact s13 _ _ l6
          · rcases List.mem_or_eq_of_mem_set z with z | z
            · exact g7 z
            · exact ume z
        · rintro σ H5 ⟨v3, v8, v9, ds, dcs, rfl, g1, g2, g3, g4, g5, g6, g7⟩
          rw [nums_len, List.take_length] at g3 g5
          refine ⟨v3, _, _, v8, v9, ds, dcs, m ++ e.ns, rfl, g1, g2, g3, g4, g5, g7, fun n => ?_⟩
          rw [List.mem_append, h6 n]
          constructor
          · rintro (⟨b, hb, hnb⟩ | hn)
            · exact ⟨b, (Seen.more G.nd he hk).mpr (.inl hb), hnb⟩
            · exact ⟨e, (Seen.more G.nd he hk).mpr (.inr rfl), hn⟩
          · rintro ⟨b, hb, hnb⟩
            rcases (Seen.more G.nd he hk).mp hb with hb | rfl
            · exact .inl ⟨b, hb, hnb⟩
            · exact .inr hnb
      · rintro σ H3 ⟨v3, v6, v7, v8, v9, ds, dcs, m, rfl, h1, h2, h3, h4, h5, h7, h6⟩
        refine ⟨h1, ?_⟩
        have seen : ∀ e ∈ es, Seen es kvs kvs.length e := fun e he => by
          obtain ⟨ws, hw, _⟩ := G.own e he
          rcases FI.val e.nm with ⟨_, z⟩ | ⟨a, vs, e1, e2, e3, e4⟩
          · rw [z] at hw; cases hw
          · obtain ⟨i, hi⟩ := valV_place e1
            exact ⟨he, i, _, (List.getElem?_eq_some_iff.mp hi).1, hi⟩
        have hall : ∀ n, n < B → dcs[n]? = cs[n]? := fun n hn => by
          by_cases c : n ∈ m
          · exact h5.on n c
          · rw [h5.off n hn c, G.rest n hn fun z => c ((h6 n).mpr ?_)]
            obtain ⟨e, he, hne⟩ := mem_tk.mp z
            exact ⟨e, seen e he, hne⟩
        have sM : Same H (upd H3 df (.dK kvs)) := fun b o z => by
          by_cases c : b = df
          · subst c
            rw [FI.at_] at z
            cases z
            exact upd_same
          · rw [upd_ne c]
            exact h4 b o z c
        have BM : BlkAt (upd H3 df (.dK kvs)) du ds dcs := h2.same fun b xs z => by
          rw [upd_ne (ne_of z h1 (by intro z; cases z))]
          exact z
        generalize upd H3 df (.dK kvs) = HM at sM BM
        refine ⟨_, rfl, (B : Int), rfl, by omega, by omega, for_range (n := (B : Int).toNat) (fun i σ H' => ∃ (v3 v6 v7 v8 v9 : Option V), σ = [some (.ref p), some (.ref df), some (.int (B : Int)), v3, some (.ref du), some (.ref me), v6, v7, v8, v9] ∧ Same HM H') ⟨v3, v6, v7, v8, v9, rfl, Same.refl _⟩ ?_ ?_⟩
        · rintro i σ H4 hi ⟨v3, v6, v7, v8, v9, rfl, s4⟩
          have hiB : i < B := by omega
          have FL4 := FL.same (sM.trans s4)
          obtain ⟨dx4, hob4⟩ := id FL4.ob
          have BA4 := BM.same fun b xs z => s4 _ _ z
          have hdl : i < ds.length := by rw [BM.ln, h5.len]; exact hiB
          have hd : ds[i]? = some ds[i] := List.getElem?_eq_getElem hdl
          obtain ⟨c, c1, c2, c3⟩ := BA4.bl i _ hd
          refine ⟨_, rfl, p, dx4, _, rfl, hob4, flds_no _ _ _ (by decide +kernel) (by decide +kernel) (by decide +kernel), _, rfl, p, lb, dp, dc, bs, es, cs, i, (by rw [Int.zero_add]; rfl), FL4, by omega, fun H5 q c' s5 _ hc' hl' hq => ?_⟩
          have ec : c' = c := by
            rw [← hall i hiB, c1] at hc'
            exact (Option.some.inj hc').symm
          subst ec
          have hx : atI (ds.map V.ref) (0 + (i : Int)) = some (V.ref ds[i]) := at_of (j := i) (Int.zero_add _) (map_refs hd)
          refine ⟨_, rfl, _, rfl, du, _, _, _, rfl, rfl, SqL.of (s5 _ _ BA4.hb), hx, q, ds[i], c', rfl, hq, s5 _ _ c2, c3, fun H6 s6 => ?_⟩
          refine ⟨_, rfl, ?_⟩
          refine iteF ?_
          exact ⟨_, _, _, _, _, rfl, s4.trans (s5.trans s6)⟩
        · rintro σ H4 ⟨v3, v6, v7, v8, v9, rfl, s4⟩
          exact hQ _ (sM.trans s4)
end
end K77

set_option Elab.async false
set_option linter.all false
set_option maxRecDepth 100000
set_option maxHeartbeats 4000000
/-! The law. -/
namespace K77
open PySem PySem.Spec PyProof.Rows L2
theorem putK_keys {kvs : List (Key × V)} {k : Key} {v0 : V} (v : V) (h : valV kvs k = some v0) : (putK kvs k v).map (·.1) = kvs.map (·.1) := by
  unfold putK
  have e : (kvs.any fun kv => decide (kv.1 = k)) = true := by rw [valV_any, h]; rfl
  rw [if_pos e, List.map_map]
  apply List.map_congr_left
  intro p _
  show (if p.1 = k then (p.1, v) else p).1 = p.1
  by_cases c : p.1 = k
  · rw [if_pos c]
  · rw [if_neg c]
theorem putK_nd {kvs : List (Key × V)} {k : Key} (v : V) (nd : (kvs.map (·.1)).Nodup) : ((putK kvs k v).map (·.1)).Nodup := by
  cases e : valV kvs k with
  | none => exact nd_putK v nd e
  | some v0 => rw [putK_keys v e]; exact nd
theorem putK_str {kvs : List (Key × V)} {x : Str} (v : V) (h : ∀ q ∈ kvs, ∃ y, q.1 = (Sum.inr y : Key)) : ∀ q ∈ putK kvs (Sum.inr x : Key) v, ∃ y, q.1 = (Sum.inr y : Key) := fun q hq => by
  have hm : q.1 ∈ (putK kvs (Sum.inr x : Key) v).map (·.1) := List.mem_map.mpr ⟨q, hq, rfl⟩
  cases e : valV kvs (Sum.inr x : Key) with
  | none =>
    rw [putK_new v e, List.map_append] at hm
    rcases List.mem_append.mp hm with hm | hm
    · obtain ⟨r, hr, er⟩ := List.mem_map.mp hm
      rw [← er]
      exact h r hr
    · exact ⟨x, by simpa using hm⟩
  | some v0 =>
    rw [putK_keys v e] at hm
    obtain ⟨r, hr, er⟩ := List.mem_map.mp hm
    rw [← er]
    exact h r hr
theorem putK_le (kvs : List (Key × V)) (k : Key) (v : V) : (putK kvs k v).length ≤ kvs.length + 1 := by
  cases e : valV kvs k with
  | none => rw [putK_new v e, List.length_append, List.length_singleton]; exact Nat.le_refl _
  | some v0 =>
    have q := congrArg List.length (putK_keys v e)
    rw [List.length_map, List.length_map] at q
    omega
theorem valV_dropK (k j : Key) : ∀ kvs : List (Key × V), valV (dropK kvs k) j = if j = k then none else valV kvs j
  | [] => by
    show none = _
    split <;> rfl
  | p :: r => by
    by_cases c : p.1 = k
    · rw [dropK_pos c, valV_dropK k j r]
      by_cases d : j = k
      · rw [if_pos d, if_pos d]
      · rw [if_neg d, if_neg d, valV_neg (p := p) fun z => d (z.symm.trans c)]
    · rw [dropK_neg c]
      by_cases d : p.1 = j
      · rw [valV_pos (p := p) d, valV_pos (p := p) d, if_neg fun z => c (d.trans z)]
      · rw [valV_neg (p := p) d, valV_neg (p := p) d, valV_dropK k j r]
section
variable {H : Hp} {df : Addr} {kvs : List (Key × V)} {w : Str → Option (List Int)}
theorem FilesAt.put (F : FilesAt H df kvs w) {q : Addr} {ws : List Int} (x : Str) (hq : H q = some (.lst (ws.map V.int))) (hl : ws.length ≤ 119) :
    FilesAt (upd H df (.dK (putK kvs (Sum.inr x : Key) (.ref q)))) df (putK kvs (Sum.inr x : Key) (.ref q)) (fun y => if y = x then some ws else w y) where
  at_ := upd_same
  nd := putK_nd _ F.nd
  str := putK_str _ F.str
  val := fun y => by
    have nl : ∀ {a : Addr} {xs : List V}, H a = some (.lst xs) → a ≠ df := fun h => ne_of h F.at_ (by intro z; cases z)
    rw [valV_put]
    by_cases c : y = x
    · subst c
      rw [if_pos rfl, if_pos rfl]
      exact .inr ⟨q, ws, rfl, rfl, by rw [upd_ne (nl hq)]; exact hq, hl⟩
    · rw [if_neg c, if_neg fun z => c (Sum.inr.inj z)]
      rcases F.val y with h | ⟨a, vs, e1, e2, e3, e4⟩
      · exact .inl h
      · exact .inr ⟨a, vs, e1, e2, by rw [upd_ne (nl e3)]; exact e3, e4⟩
theorem FilesAt.without (F : FilesAt H df kvs w) (x : Str) :
    FilesAt (upd H df (.dK (dropK kvs (Sum.inr x : Key)))) df (dropK kvs (Sum.inr x : Key)) (fun y => if y = x then none else w y) where
  at_ := upd_same
  nd := nd_dropK F.nd
  str := fun q hq => F.str q (dropK_mem hq)
  val := fun y => by
    have nl : ∀ {a : Addr} {xs : List V}, H a = some (.lst xs) → a ≠ df := fun h => ne_of h F.at_ (by intro z; cases z)
    rw [valV_dropK]
    by_cases c : y = x
    · subst c
      rw [if_pos rfl, if_pos rfl]
      exact .inl ⟨rfl, rfl⟩
    · rw [if_neg c, if_neg fun z => c (Sum.inr.inj z)]
      rcases F.val y with h | ⟨a, vs, e1, e2, e3, e4⟩
      · exact .inl h
      · exact .inr ⟨a, vs, e1, e2, by rw [upd_ne (nl e3)]; exact e3, e4⟩
end
def spLaw (K : PySem.W.Frag) : Sp := fun vs H Q _ => ∃ (a : Addr) (ns : List Int), vs = [.ref a] ∧ SqL K H a (ns.map V.int) ∧ ns.length ≤ 63 ∧ ∀ H', Q (.bl true) H'
theorem two {fs : List Int} (h : fs.length = 2) : ∃ a b, fs = [a, b] := by
  match fs, h with
  | [a, b], _ => exact ⟨a, b, rfl⟩
section
variable {P : Program} {w : World} {K : PySem.W.Frag} {mg : Str → Option Value} {base : Heap} {C : Addr}
abbrev NLaw : List Str := ["_law_script", "_law_blocks", "_law_number", "_law_names_here", "_law_floor", "_law_files", "_law_k", "_law_what", "_law_name", "_law_words"]
theorem scLaw : FnScope NLaw ["_law_script"] (defScope sLaw) := ⟨rfl, rfl, rfl, by decide +kernel, rfl, by decide +kernel, by decide +kernel⟩
theorem ok_law {f fP fN fI fR fD fC : Addr} {fd fdP fdN fdI fdR fdD fdC : FuncData} (F : FnP K "law" "law" sLaw f fd) (T : Txt K mg C)
    (CP : Cal P w K mg base CX0 2 "_law_parts" fP fdP ["_law_script", "_law_k", "_law_sizes"] (spParts K)) (CN : Cal P w K mg base CX0 1 "_law_names" fN fdN ["_law_number"] spNames)
    (M : Mk K C fI) (GI : FnOk P w K mg base CX0 1 fI fdI ["self", "blocks"] (spInit C)) (bI : Binds K fdI ["self", "blocks"] [])
    (CR : Cal P w K mg base CX0 3 "_law_right" fR fdR ["_law_floor", "_law_files", "_law_blocks"] (spRight C)) (CD : Cal P w K mg base CX0 3 "_law_deed" fD fdD ["_law_script", "_law_k", "_law_names_here"] (spDeed K))
    (CC : Cal P w K mg base CX0 4 "_law_change" fC fdC ["_law_floor", "_law_what", "_law_name", "_law_words"] (spChange C)) : FnOk P w K mg base CX0 5 f fd ["_law_script"] (spLaw K) := by
  refine (toFun F).ok scLaw (fun vs H Q E h => ?_) (fun cdv A outer s H vs Q E hr h => ?_)
  · obtain ⟨a, ns, rfl, _⟩ := h
    rfl
  · obtain ⟨a, ns, rfl, hS, hlen, hQ⟩ := h
    have nd := scLaw.nd
    have hu := hu_of hr
    have hr1 : Room 1 _ := hr.mono (by decide)
    have hr2 : Room 2 _ := hr.mono (by decide)
    have hr3 : Room 3 _ := hr.mono (by decide)
    refine ⟨_, pss_cons (ps_asg (pe_call CP.G hr2 rfl CP.g CP.kp CP.b .nil pass0 (pa_cons (pv 0) (pa_cons pe_int (pa_cons (pe_lst (pa_cons pe_int (pa_cons pe_int pa_nil))) pa_nil)))) (pg_unl rfl (pgs_cons (pg_name (i := 1) nd rfl (Or.inl rfl)) (pgs_cons (pg_name (i := 2) nd rfl (Or.inl rfl)) pgs_nil))))
      (pss_cons (ps_set (i := 1) nd rfl (Or.inl rfl) (pe_op op_add (pv 1) pe_int))
      (pss_cons (ps_set (i := 3) nd rfl (Or.inl rfl) (pe_call CN.G hr1 rfl CN.g CN.kp CN.b .nil pass0 (pa_cons (pv 2) pa_nil)))
      (pss_cons (ps_set (i := 4) nd rfl (Or.inl rfl) (pe_make M GI hr2 rfl T.mgC bI .nil pass0 (pa_cons (pv 1) pa_nil)))
      (pss_cons (ps_set (i := 5) nd rfl (Or.inl rfl) pe_dnewK)
      (pss_cons (ps_if (pt_not (pt_val (pe_call CR.G hr3 rfl CR.g CR.kp CR.b .nil pass0 (pa_cons (pv 4) (pa_cons (pv 5) (pa_cons (pv 1) pa_nil)))))) (pss_one (ps_ret pe_bl)) pss_nil)
      (pss_cons (ps_for PassesOwn.never rfl (pi_range2 rfl T.range (pa_cons pe_int (pa_cons (pe_callB call_len_seq (by rfl) T.len PySem.boot_len (pa_cons (pv 0) pa_nil)) pa_nil))) (pg_name (i := 6) nd rfl (Or.inl rfl))
        (pss_cons (ps_asg (pe_call CD.G hr3 rfl CD.g CD.kp CD.b .nil pass0 (pa_cons (pv 0) (pa_cons (pv 6) (pa_cons (pv 3) pa_nil)))) (pg_tup rfl (pgs_cons (pg_name (i := 7) nd rfl (Or.inl rfl)) (pgs_cons (pg_name (i := 8) nd rfl (Or.inl rfl)) (pgs_cons (pg_name (i := 9) nd rfl (Or.inl rfl)) pgs_nil)))))
        (Evl.pss_cut (ps_if (pt_cmpR op_isN (pe_call CC.G hr rfl CC.g CC.kp CC.b .nil pass0 (pa_cons (pv 4) (pa_cons (pv 7) (pa_cons (pv 8) (pa_cons (pe_callTy call_list_of (by rfl) T.list (by decide +kernel) (pa_cons (pv 9) pa_nil)) pa_nil))))) pe_non (nomark _))
          (pss_one (ps_if (pt_cmpR op_eq (pv 7) pe_str (nomark _)) (pss_one (ps_dput hu (pv 5) (pv 8) (pv 9) rfl)) (pss_one (ps_expr (pe_dpop1 (pv 5) (pv 8) ⟨rfl, rfl, rfl, rfl⟩))))) pss_nil)
        (pss_one (ps_if (pt_not (pt_val (pe_call CR.G hr3 rfl CR.g CR.kp CR.b .nil pass0 (pa_cons (pv 4) (pa_cons (pv 5) (pa_cons (pv 1) pa_nil)))))) (pss_one (ps_ret pe_bl)) pss_nil)))))
      (pss_one (ps_ret pe_bl)))))))), ?_⟩
    refine ⟨_, rfl, (by show 2 ≤ sizeLine; decide), fun zl hzl => ?_⟩
    refine ⟨a, zl, ns, [20, 999983], 1, rfl, Same.seq (fun c o e => by rw [upd_ne (ne_of_none e hzl)]; exact e) hS, hlen, by decide, by decide, SqL.of upd_same, by decide, by decide, fun H1 q fs s1 hq0 hq hfl hfb => ?_⟩
    obtain ⟨b0, num, rfl⟩ := two hfl
    have g0 := hfb 0 b0 20 rfl rfl
    have g1 := hfb 1 num 999983 rfl rfl
    have s1' : Same H H1 := fun c o e => s1 c o (by rw [upd_ne (ne_of_none e hzl)]; exact e)
    obtain ⟨b0, rfl⟩ := Int.eq_ofNat_of_zero_le g0.1
    refine ⟨q, _, rfl, SqL.of hq, rfl, _, _, rfl, _, _, rfl, rfl, ?_⟩
    refine ⟨_, rfl, _, _, rfl, rfl, ?_⟩
    refine ⟨_, rfl, num, rfl, g1.1, fun H2 nl ss s2 _ hnl hss => ?_⟩
    have hS2 : SqL K H2 a (ns.map V.int) := (s1'.trans s2).seq hS
    refine ⟨_, rfl, fun x dx nx ndx nex => ?_⟩
    have sx : Same H2 (upd (upd H2 dx (.own x)) x (.ins C dx [])) := fun b o e => by
      rw [upd_ne (ne_of_none e nx), upd_ne (ne_of_none e ndx)]
      exact e
    refine ⟨x, dx, b0 + 1, rfl, by omega, by omega, upd_same, fun lb dp dc bs H3 hlb hdp hdc hbl FL keep => ⟨rfl, ?_⟩⟩
    have s3 : Same H2 H3 := fun b o e => keep b o (sx b o e) (ne_of_none e nx)
    have lb0 := sx.free hlb
    have dp0 := sx.free hdp
    have dc0 := sx.free hdc
    intro df hdf
    have df0 : H2 df = none := s3.free hdf
    have ndfp : df ≠ dp := (ne_of_none FL.hp hdf).symm
    have ndfc : df ≠ dc := (ne_of_none FL.hc hdf).symm
    have s4 : Same H3 (upd H3 df (.dK [])) := fun b o e => by rw [upd_ne (ne_of_none e hdf)]; exact e
    have FL4 := FL.same s4
    have G4 : Good (N := Str) (b0 + 1) [] (List.replicate (b0 + 1) zero16) fun _ => none := Good.new _
    have FI4 : FilesAt (upd H3 df (.dK [])) df [] fun _ => none := ⟨upd_same, List.nodup_nil, fun q hq => (nomatch hq), fun x => .inl ⟨rfl, rfl⟩⟩
    refine ⟨_, rfl, _, rfl, _, rfl, x, lb, dp, dc, df, bs, [], _, b0 + 1, _, [], rfl, FL4, G4, FI4, ndfp, ndfc, by omega, by omega, fun H5 s5 => ?_⟩
    refine ⟨_, rfl, ?_⟩
    refine iteF ?_
    have sb : Same H2 H5 := s3.trans (s4.trans s5)
    refine ⟨_, rfl, a, _, rfl, .inl (sb.seq hS2), 2, _, rfl, ⟨by decide, by decide, by omega, by rw [List.length_map]; omega⟩, ?_⟩
    have st : ∀ v : V, v = .int ((((b0 + 1 : Nat)) : Int)) → v = .int ((b0 : Int) + 1) := fun v h => h
    refine for_range (lo := 2) (n := ((((ns.map V.int).length : Nat) : Int) - 2).toNat) (fun i σ H' => ∃ (v6 v7 v8 v9 : Option V) (bs : List Addr) (es : List Ent') (cs : List (List Int)) (w : Str → Option (List Int)) (kvs : List (Key × V)),
      σ = [some (.ref a), some (.int ((b0 : Int) + 1)), some (.int num), some (.ref nl), some (.ref x), some (.ref df), v6, v7, v8, v9] ∧ Same H2 H' ∧ FloorAt C H' x lb dp dc bs es cs ∧ Good (b0 + 1) es cs w ∧ FilesAt H' df kvs w ∧ es.length ≤ i ∧ kvs.length ≤ i) ?_ ?_ ?_
    · exact ⟨none, none, none, none, bs, [], _, _, [], rfl, sb, FL4.same s5, G4, FI4.same (s5 _ _ FI4.at_) (fun b xs e _ => s5 _ _ e), Nat.le_refl _, Nat.le_refl _⟩
    · rintro i σ H6 hi ⟨v6, v7, v8, v9, bs, es, cs, wf, kvs, rfl, s6, FL6, G6, FI6, le1, le2⟩
      have hi63 : i + 2 < ns.length + 1 := by rw [List.length_map] at hi; omega
      refine ⟨_, rfl, _, rfl, _, rfl, a, nl, ns, ss, 2 + (i : Int), rfl, s6.seq hS2, hlen, by omega, by omega, SqL.of (s6 _ _ hnl), hss, fun H7 t qw what nm ws s7 ht hqw hwl hk => ?_⟩
      refine ⟨t, _, rfl, SqT.of ht, rfl, _, _, rfl, _, _, rfl, _, _, rfl, rfl, ?_⟩
      have FL7 := FL6.same s7
      have FI7 : FilesAt H7 df kvs wf := FI6.same (s7 _ _ FI6.at_) (fun b xs e _ => s7 _ _ e)
      -- the change, then what holds behind it
      refine ⟨fun σ H' => ∃ (v6 v7 v8 v9 : Option V) (bs : List Addr) (es : List Ent') (cs : List (List Int)) (w : Str → Option (List Int)) (kvs : List (Key × V)),
        σ = [some (.ref a), some (.int ((b0 : Int) + 1)), some (.int num), some (.ref nl), some (.ref x), some (.ref df), v6, v7, v8, v9] ∧ Same H2 H' ∧ FloorAt C H' x lb dp dc bs es cs ∧ Good (b0 + 1) es cs w ∧ FilesAt H' df kvs w ∧ es.length ≤ i + 1 ∧ kvs.length ≤ i + 1, ?_, ?_⟩
      · refine ⟨_, rfl, _, rfl, _, rfl, _, rfl, qw, _, rfl, .inl (SqL.of hqw), fun wl hwl0 => ?_⟩
        have s8 : Same H7 (upd H7 wl (.lst (ws.map V.int))) := fun b o e => by rw [upd_ne (ne_of_none e hwl0)]; exact e
        have FL8 := FL7.same s8
        have FI8 : FilesAt (upd H7 wl (.lst (ws.map V.int))) df kvs wf := FI7.same (s8 _ _ FI7.at_) (fun b xs e _ => s8 _ _ e)
        have hqw8 := s8 _ _ hqw
        have hw8 : (upd H7 wl (.lst (ws.map V.int))) wl = some (.lst (ws.map V.int)) := upd_same
        have s28 : Same H2 (upd H7 wl (.lst (ws.map V.int))) := s6.trans (s7.trans s8)
        generalize upd H7 wl (.lst (ws.map V.int)) = H8 at FL8 FI8 hqw8 hw8 s28
        -- what a kept or dropped file leaves
        have ndl : df ≠ lb := (ne_of FL8.hb FI8.at_ (by intro z; cases z)).symm
        have step : ∀ H9, But3 H8 H9 lb dp dc → Same H2 H9 ∧ FilesAt H9 df kvs wf ∧ H9 qw = some (.lst (ws.map V.int)) := fun H9 b9 => by
          have lst : ∀ b xs, H8 b = some (.lst xs) → (∃ vs : List Int, xs = vs.map V.int) → H9 b = some (.lst xs) := fun b xs e ⟨vs, hv⟩ => by
            subst hv
            exact b9 b _ e (ne_of FL8.hb e (refs_ne FL8.ps)).symm (ne_of e FL8.hp (by intro z; cases z)) (ne_of e FL8.hc (by intro z; cases z))
          refine ⟨fun b o e => b9 b o (s28 b o e) (ne_of_none e lb0) (ne_of_none e dp0) (ne_of_none e dc0), FI8.same (b9 _ _ FI8.at_ ndl ndfp ndfc) lst, lst _ _ hqw8 ⟨ws, rfl⟩⟩
        refine ⟨x, lb, dp, dc, bs, es, cs, b0 + 1, wf, what, nm, wl, ws, rfl, hk, FL8, G6, hw8, hwl, by omega, by omega, fun H9 ex s9 => ?_, fun hkeep H9 bs' es' cs' FL9 G9 le9 b9 => ?_, fun hdrop hthere H9 bs' es' cs' FL9 G9 le9 b9 => ?_⟩
        · -- refused
          refine ⟨rfl, _, rfl, ?_⟩
          refine iteN (fun z => nomatch (of_decide_eq_true z)) ?_
          exact ⟨_, _, _, _, bs, es, cs, wf, kvs, rfl, s28.trans s9, FL8.same s9, G6, FI8.same (s9 _ _ FI8.at_) (fun b xs e _ => s9 _ _ e), by omega, by omega⟩
        · -- kept
          subst hkeep
          obtain ⟨s29, FI9, hq9⟩ := step H9 b9
          refine ⟨rfl, _, rfl, ?_⟩
          refine iteP (decide_eq_true rfl) ?_
          refine ⟨_, rfl, rfl, _, rfl, ?_⟩
          refine iteP (decide_eq_true rfl) ?_
          refine ⟨_, rfl, _, rfl, _, rfl, df, _, rfl, DPut.k (k := Sum.inr nm) FI9.at_ (small1000 (by omega)), ?_⟩
          have b1 : But1 H9 (upd H9 df (.dK (putK kvs (Sum.inr nm : Key) (.ref qw)))) df := fun b o e hb => by rw [upd_ne hb]; exact e
          refine ⟨_, _, _, _, bs', es', cs', _, _, rfl, fun b o e => b1 b o (s29 b o e) (ne_of_none e df0), FL9.but1 FI9.at_ ndfp ndfc b1, G9, FI9.put nm hq9 hwl, by omega, ?_⟩
          have := putK_le kvs (Sum.inr nm : Key) (.ref qw)
          omega
        · -- dropped
          subst hdrop
          obtain ⟨s29, FI9, hq9⟩ := step H9 b9
          obtain ⟨vs, hvs⟩ := hthere
          obtain ⟨v, hv⟩ : ∃ v, valV kvs (Sum.inr nm : Key) = some v := by
            rcases FI9.val nm with ⟨_, z⟩ | ⟨a', vs', e1, _⟩
            · rw [z] at hvs; cases hvs
            · exact ⟨_, e1⟩
          have ne : ¬ decide (V.str ("drop" : Str) = V.str ("keep" : Str)) = true := by decide +kernel
          refine ⟨rfl, _, rfl, ?_⟩
          refine iteP (decide_eq_true rfl) ?_
          refine ⟨_, rfl, rfl, _, rfl, ?_⟩
          refine iteN ne ?_
          refine ⟨_, rfl, df, rfl, .inl ⟨_, .inl FI9.at_⟩, _, rfl, kvs, Sum.inr nm, v, FI9.at_, rfl, hv, ?_⟩
          have b1 : But1 H9 (upd H9 df (.dK (dropK kvs (Sum.inr nm : Key)))) df := fun b o e hb => by rw [upd_ne hb]; exact e
          refine ⟨_, _, _, _, bs', es', cs', _, _, rfl, fun b o e => b1 b o (s29 b o e) (ne_of_none e df0), FL9.but1 FI9.at_ ndfp ndfc b1, G9, FI9.without nm, by omega, ?_⟩
          have := dropK_le kvs (Sum.inr nm : Key)
          omega
      · -- the look behind it
        rintro σ H9 ⟨v6, v7, v8, v9, bs9, es9, cs9, w9, kvs9, rfl, s9, FL9, G9, FI9, l1, l2⟩
        refine ⟨_, rfl, _, rfl, _, rfl, x, lb, dp, dc, df, bs9, es9, cs9, b0 + 1, w9, kvs9, rfl, FL9, G9, FI9, ndfp, ndfc, by omega, by omega, fun H10 s10 => ?_⟩
        refine ⟨_, rfl, ?_⟩
        refine iteF ?_
        exact ⟨v6, v7, v8, v9, bs9, es9, cs9, w9, kvs9, rfl, s9.trans s10, FL9.same s10, G9, FI9.same (s10 _ _ FI9.at_) (fun b xs e _ => s10 _ _ e), l1, l2⟩
    · rintro σ H6 ⟨v6, v7, v8, v9, bs, es, cs, wf, kvs, rfl, s6, _⟩
      exact hQ H6
end
end K77

set_option Elab.async false
set_option linter.all false
set_option maxRecDepth 100000
set_option maxHeartbeats 0
/-! The head: what the top has left, by names. -/
namespace K77
open PySem PySem.Spec PyProof.Rows L2
abbrev dG (x : Str) (st : Stmt) : He.DefD := ⟨(x, none), x, x, defArgs st, defBody st, defScope st, [], []⟩
abbrev dM (m q : Str) (st : Stmt) : He.DefD := ⟨("Floor", some m), m, q, defArgs st, defBody st, defScope st, [], []⟩
def fn : List He.DefD := [
  dG "law" sLaw,
  dG "blocks_for" sBF,
  dG "_law_cell" sCell,
  dG "_law_mixed" sMixed,
  dG "_law_parts" sParts,
  dG "_law_names" sNames,
  dG "_law_filled" sFilled,
  dG "_law_whole" sWhole,
  dG "_law_list_is" sListIs,
  dG "_law_change" sChange,
  dG "_law_blocks_of" sLBlocks,
  dG "_law_deed" sDeed,
  dG "_law_right" sRight,
  dM "__init__" "Floor.__init__" sInit,
  dM "taken" "Floor.taken" sTaken,
  dM "free" "Floor.free" sFree,
  dM "look_name" "Floor.look_name" sLook,
  dM "keep" "Floor.keep" sKeep,
  dM "drop" "Floor.drop" sDrop,
  dM "blocks_of" "Floor.blocks_of" sBlocksOf,
  dM "block" "Floor.block" sBlock]
def fa : List He.Fa := [
  .glo "law", .glo "blocks_for", .glo "_law_cell", .glo "_law_mixed", .glo "_law_parts", .glo "_law_names", .glo "_law_filled", .glo "_law_whole", .glo "_law_list_is", .glo "_law_change", .glo "_law_blocks_of", .glo "_law_deed", .glo "_law_right",
  .glo "Floor", .glo "TownError", .glo "NoRoom", .glo "NoFile", .int "BLOCK" 16,
  .free "len", .free "range", .free "enumerate", .free "list", .free "abs", .free "max", .free "isinstance", .free "int", .free "bool", .free "all",
  .cls "Floor", .noat "Floor" "blocks", .noat "Floor" "places", .noat "Floor" "counts", .mkr "Floor",
  .meth "Floor" "taken", .meth "Floor" "free", .meth "Floor" "look_name", .meth "Floor" "keep", .meth "Floor" "drop", .meth "Floor" "blocks_of", .meth "Floor" "block",
  .exc "NoRoom", .exc "NoFile", .exm "NoRoom" "TownError" true, .exm "NoFile" "TownError" true]
abbrev R : PySem.W.OpenRow := PySem.W.OpenLaw.row PySem.Challenge.rw_gatetown_k77_no_block_is_two_files
abbrev hk : PySem.W.Hook := He.hookD 6 fa fn
def ob (s : PySem.W.SharedT) : He.AlD := He.obsDG 6 fa fn (HandSHeadRun.getT s)
theorem ob_eq (s : PySem.W.SharedT) : ob s = hk.obs s.abs := He.obsDG_eq (HandSHeadRun.getT_eq s)
def names : List Str := ["_wall", "TownError", "NoRoom", "NoFile", "BLOCK", "blocks_for", "Floor", "_law_cell", "_law_mixed", "_law_parts", "_law_names", "_law_filled", "_law_whole", "_law_list_is", "_law_change", "_law_blocks_of", "_law_due", "_law_deed", "_law_right"]
theorem run (w : World) : HandSHeadRun.RunEq R (PySem.W.view R.prog [22]) hk ob 3000 names w := by
  intro os
  kernel_rfl
end K77

set_option Elab.async false
set_option linter.all false
set_option maxRecDepth 100000
set_option maxHeartbeats 4000000
/-! The end: what the top has left, given to the promises. -/
namespace K77
open PySem PySem.Spec PyProof.Rows L2
theorem facts {P : Program} {w : World} {K : PySem.W.Frag} {h : Heap} {mg : Str → Option Value} {f : Addr} (X : K.In h) (G : h.Ns mainGlobals mg) (hfa : mg ("law" : Str) = some (.ref f)) (c : He.SaysD fa fn K) :
    ∃ fd : FuncData, (∀ (s : Shared) (v : Value), BindsTo s fd ⟨[v], []⟩ [("_law_script", v)]) ∧ ∀ base : Heap, K.In base → base.Ns mainGlobals mg → FnOk P w K mg base CX0 5 f fd ["_law_script"] (spLaw K) := by
  obtain ⟨d0, E0⟩ := c.def_ 0 (d := dG "law" sLaw) rfl
  have F0 : FnP K "law" "law" sLaw (He.ga K "law") d0 := E0
  have g0 := He.glo_ok X G (c.fact 0 (f := .glo "law") rfl)
  obtain ⟨d1, E1⟩ := c.def_ 1 (d := dG "blocks_for" sBF) rfl
  have F1 : FnP K "blocks_for" "blocks_for" sBF (He.ga K "blocks_for") d1 := E1
  have g1 := He.glo_ok X G (c.fact 1 (f := .glo "blocks_for") rfl)
  obtain ⟨d2, E2⟩ := c.def_ 2 (d := dG "_law_cell" sCell) rfl
  have F2 : FnP K "_law_cell" "_law_cell" sCell (He.ga K "_law_cell") d2 := E2
  have g2 := He.glo_ok X G (c.fact 2 (f := .glo "_law_cell") rfl)
  obtain ⟨d3, E3⟩ := c.def_ 3 (d := dG "_law_mixed" sMixed) rfl
  have F3 : FnP K "_law_mixed" "_law_mixed" sMixed (He.ga K "_law_mixed") d3 := E3
  have g3 := He.glo_ok X G (c.fact 3 (f := .glo "_law_mixed") rfl)
  obtain ⟨d4, E4⟩ := c.def_ 4 (d := dG "_law_parts" sParts) rfl
  have F4 : FnP K "_law_parts" "_law_parts" sParts (He.ga K "_law_parts") d4 := E4
  have g4 := He.glo_ok X G (c.fact 4 (f := .glo "_law_parts") rfl)
  obtain ⟨d5, E5⟩ := c.def_ 5 (d := dG "_law_names" sNames) rfl
  have F5 : FnP K "_law_names" "_law_names" sNames (He.ga K "_law_names") d5 := E5
  have g5 := He.glo_ok X G (c.fact 5 (f := .glo "_law_names") rfl)
  obtain ⟨d6, E6⟩ := c.def_ 6 (d := dG "_law_filled" sFilled) rfl
  have F6 : FnP K "_law_filled" "_law_filled" sFilled (He.ga K "_law_filled") d6 := E6
  have g6 := He.glo_ok X G (c.fact 6 (f := .glo "_law_filled") rfl)
  obtain ⟨d7, E7⟩ := c.def_ 7 (d := dG "_law_whole" sWhole) rfl
  have F7 : FnP K "_law_whole" "_law_whole" sWhole (He.ga K "_law_whole") d7 := E7
  have g7 := He.glo_ok X G (c.fact 7 (f := .glo "_law_whole") rfl)
  obtain ⟨d8, E8⟩ := c.def_ 8 (d := dG "_law_list_is" sListIs) rfl
  have F8 : FnP K "_law_list_is" "_law_list_is" sListIs (He.ga K "_law_list_is") d8 := E8
  have g8 := He.glo_ok X G (c.fact 8 (f := .glo "_law_list_is") rfl)
  obtain ⟨d9, E9⟩ := c.def_ 9 (d := dG "_law_change" sChange) rfl
  have F9 : FnP K "_law_change" "_law_change" sChange (He.ga K "_law_change") d9 := E9
  have g9 := He.glo_ok X G (c.fact 9 (f := .glo "_law_change") rfl)
  obtain ⟨d10, E10⟩ := c.def_ 10 (d := dG "_law_blocks_of" sLBlocks) rfl
  have F10 : FnP K "_law_blocks_of" "_law_blocks_of" sLBlocks (He.ga K "_law_blocks_of") d10 := E10
  have g10 := He.glo_ok X G (c.fact 10 (f := .glo "_law_blocks_of") rfl)
  obtain ⟨d11, E11⟩ := c.def_ 11 (d := dG "_law_deed" sDeed) rfl
  have F11 : FnP K "_law_deed" "_law_deed" sDeed (He.ga K "_law_deed") d11 := E11
  have g11 := He.glo_ok X G (c.fact 11 (f := .glo "_law_deed") rfl)
  obtain ⟨d12, E12⟩ := c.def_ 12 (d := dG "_law_right" sRight) rfl
  have F12 : FnP K "_law_right" "_law_right" sRight (He.ga K "_law_right") d12 := E12
  have g12 := He.glo_ok X G (c.fact 12 (f := .glo "_law_right") rfl)
  obtain ⟨d13, E13⟩ := c.def_ 13 (d := dM "__init__" "Floor.__init__" sInit) rfl
  have F13 : FnP K "__init__" "Floor.__init__" sInit (He.ma K (He.ga K "Floor") "__init__") d13 := E13
  obtain ⟨d14, E14⟩ := c.def_ 14 (d := dM "taken" "Floor.taken" sTaken) rfl
  have F14 : FnP K "taken" "Floor.taken" sTaken (He.ma K (He.ga K "Floor") "taken") d14 := E14
  have m14 := He.meth_ok (c.fact 33 (f := .meth "Floor" "taken") rfl)
  obtain ⟨d15, E15⟩ := c.def_ 15 (d := dM "free" "Floor.free" sFree) rfl
  have F15 : FnP K "free" "Floor.free" sFree (He.ma K (He.ga K "Floor") "free") d15 := E15
  have m15 := He.meth_ok (c.fact 34 (f := .meth "Floor" "free") rfl)
  obtain ⟨d16, E16⟩ := c.def_ 16 (d := dM "look_name" "Floor.look_name" sLook) rfl
  have F16 : FnP K "look_name" "Floor.look_name" sLook (He.ma K (He.ga K "Floor") "look_name") d16 := E16
  have m16 := He.meth_ok (c.fact 35 (f := .meth "Floor" "look_name") rfl)
  obtain ⟨d17, E17⟩ := c.def_ 17 (d := dM "keep" "Floor.keep" sKeep) rfl
  have F17 : FnP K "keep" "Floor.keep" sKeep (He.ma K (He.ga K "Floor") "keep") d17 := E17
  have m17 := He.meth_ok (c.fact 36 (f := .meth "Floor" "keep") rfl)
  obtain ⟨d18, E18⟩ := c.def_ 18 (d := dM "drop" "Floor.drop" sDrop) rfl
  have F18 : FnP K "drop" "Floor.drop" sDrop (He.ma K (He.ga K "Floor") "drop") d18 := E18
  have m18 := He.meth_ok (c.fact 37 (f := .meth "Floor" "drop") rfl)
  obtain ⟨d19, E19⟩ := c.def_ 19 (d := dM "blocks_of" "Floor.blocks_of" sBlocksOf) rfl
  have F19 : FnP K "blocks_of" "Floor.blocks_of" sBlocksOf (He.ma K (He.ga K "Floor") "blocks_of") d19 := E19
  have m19 := He.meth_ok (c.fact 38 (f := .meth "Floor" "blocks_of") rfl)
  obtain ⟨d20, E20⟩ := c.def_ 20 (d := dM "block" "Floor.block" sBlock) rfl
  have F20 : FnP K "block" "Floor.block" sBlock (He.ma K (He.ga K "Floor") "block") d20 := E20
  have m20 := He.meth_ok (c.fact 39 (f := .meth "Floor" "block") rfl)
  have b1 : Binds K d1 ["many"] [] := F1.bindsN fun _ _ _ _ _ _ us hl => match us, hl with | [_], _ => rfl
  have b2 : Binds K d2 ["_law_script", "_law_k"] [] := F2.bindsN fun _ _ _ _ _ _ us hl => match us, hl with | [_, _], _ => rfl
  have b3 : Binds K d3 ["_law_cell_here", "_law_k"] [] := F3.bindsN fun _ _ _ _ _ _ us hl => match us, hl with | [_, _], _ => rfl
  have b4 : Binds K d4 ["_law_script", "_law_k", "_law_sizes"] [] := F4.bindsN fun _ _ _ _ _ _ us hl => match us, hl with | [_, _, _], _ => rfl
  have b5 : Binds K d5 ["_law_number"] [] := F5.bindsN fun _ _ _ _ _ _ us hl => match us, hl with | [_], _ => rfl
  have b6 : Binds K d6 ["_law_count", "_law_first", "_law_step"] [] := F6.bindsN fun _ _ _ _ _ _ us hl => match us, hl with | [_, _, _], _ => rfl
  have b7 : Binds K d7 ["_law_found"] [] := F7.bindsN fun _ _ _ _ _ _ us hl => match us, hl with | [_], _ => rfl
  have b8 : Binds K d8 ["_law_found", "_law_due_here"] [] := F8.bindsN fun _ _ _ _ _ _ us hl => match us, hl with | [_, _], _ => rfl
  have b9 : Binds K d9 ["_law_floor", "_law_what", "_law_name", "_law_words"] [] := F9.bindsN fun _ _ _ _ _ _ us hl => match us, hl with | [_, _, _, _], _ => rfl
  have b10 : Binds K d10 ["_law_words"] [] := F10.bindsN fun _ _ _ _ _ _ us hl => match us, hl with | [_], _ => rfl
  have b11 : Binds K d11 ["_law_script", "_law_k", "_law_names_here"] [] := F11.bindsN fun _ _ _ _ _ _ us hl => match us, hl with | [_, _, _], _ => rfl
  have b12 : Binds K d12 ["_law_floor", "_law_files", "_law_blocks"] [] := F12.bindsN fun _ _ _ _ _ _ us hl => match us, hl with | [_, _, _], _ => rfl
  have b13 : Binds K d13 ["self", "blocks"] [] := F13.bindsN fun _ _ _ _ _ _ us hl => match us, hl with | [_, _], _ => rfl
  have b14 : Binds K d14 ["self"] [] := F14.bindsN fun _ _ _ _ _ _ us hl => match us, hl with | [_], _ => rfl
  have b15 : Binds K d15 ["self"] [] := F15.bindsN fun _ _ _ _ _ _ us hl => match us, hl with | [_], _ => rfl
  have b16 : Binds K d16 ["self", "name"] [] := F16.bindsN fun _ _ _ _ _ _ us hl => match us, hl with | [_, _], _ => rfl
  have b17 : Binds K d17 ["self", "name", "words"] [] := F17.bindsN fun _ _ _ _ _ _ us hl => match us, hl with | [_, _, _], _ => rfl
  have b18 : Binds K d18 ["self", "name"] [] := F18.bindsN fun _ _ _ _ _ _ us hl => match us, hl with | [_, _], _ => rfl
  have b19 : Binds K d19 ["self", "name"] [] := F19.bindsN fun _ _ _ _ _ _ us hl => match us, hl with | [_, _], _ => rfl
  have b20 : Binds K d20 ["self", "number"] [] := F20.bindsN fun _ _ _ _ _ _ us hl => match us, hl with | [_, _], _ => rfl
  have T : Txt K mg (He.ga K "Floor") := ⟨He.cls_ok (c.fact 28 (f := .cls "Floor") rfl), He.noat_ok (c.fact 29 (f := .noat "Floor" "blocks") rfl), He.noat_ok (c.fact 30 (f := .noat "Floor" "places") rfl), He.noat_ok (c.fact 31 (f := .noat "Floor" "counts") rfl),
    He.glo_ok X G (c.fact 13 (f := .glo "Floor") rfl), He.int_ok X G (c.fact 17 (f := .int "BLOCK" 16) rfl), He.free_ok X G (c.fact 18 (f := .free "len") rfl), He.free_ok X G (c.fact 19 (f := .free "range") rfl), He.free_ok X G (c.fact 20 (f := .free "enumerate") rfl), He.free_ok X G (c.fact 21 (f := .free "list") rfl),
    He.free_ok X G (c.fact 22 (f := .free "abs") rfl), He.free_ok X G (c.fact 23 (f := .free "max") rfl), He.free_ok X G (c.fact 24 (f := .free "isinstance") rfl), He.free_ok X G (c.fact 25 (f := .free "int") rfl), He.free_ok X G (c.fact 26 (f := .free "bool") rfl), He.free_ok X G (c.fact 27 (f := .free "all") rfl)⟩
  have gT := He.glo_ok X G (c.fact 14 (f := .glo "TownError") rfl)
  obtain ⟨r1, r2, r3, r4⟩ := He.exc_ok (c.fact 40 (f := .exc "NoRoom") rfl)
  obtain ⟨q1, q2, q3, q4⟩ := He.exc_ok (c.fact 41 (f := .exc "NoFile") rfl)
  have XR : ExcT K mg "NoRoom" (He.ga K "NoRoom") (He.ga K "TownError") := ⟨He.glo_ok X G (c.fact 15 (f := .glo "NoRoom") rfl), r1, r2, r3, r4, He.exm_ok (c.fact 42 (f := .exm "NoRoom" "TownError" true) rfl)⟩
  have XF : ExcT K mg "NoFile" (He.ga K "NoFile") (He.ga K "TownError") := ⟨He.glo_ok X G (c.fact 16 (f := .glo "NoFile") rfl), q1, q2, q3, q4, He.exm_ok (c.fact 43 (f := .exm "NoFile" "TownError" true) rfl)⟩
  have M := He.mkr_ok (c.fact 32 (f := .mkr "Floor") rfl)
  have e := hfa.symm.trans g0
  cases e
  have b0 := FunD.bindsA (ps := ["_law_script"]) F0 fun _ _ _ _ _ _ us hl => match us, hl with | [_], _ => rfl
  refine ⟨d0, fun s v => b0 s [v] rfl, fun base _ _ => ?_⟩
  have c1 : Cal P w K mg base CX0 1 "blocks_for" _ d1 _ spBF := ⟨ok_bf F1 T, g1, F1.kp, b1⟩
  have c2 : Cal P w K mg base CX0 1 "_law_cell" _ d2 _ (spCell K) := ⟨ok_cell F2 T, g2, F2.kp, b2⟩
  have c3 : Cal P w K mg base CX0 1 "_law_mixed" _ d3 _ spMixed := ⟨ok_mixed F3, g3, F3.kp, b3⟩
  have c4 : Cal P w K mg base CX0 2 "_law_parts" _ d4 _ (spParts K) := ⟨ok_parts F4 T c2 c3, g4, F4.kp, b4⟩
  have c5 : Cal P w K mg base CX0 1 "_law_names" _ d5 _ spNames := ⟨ok_names F5 T, g5, F5.kp, b5⟩
  have c6 : Cal P w K mg base CX0 1 "_law_filled" _ d6 _ spFilled := ⟨ok_filled F6 T, g6, F6.kp, b6⟩
  have c7 : Cal P w K mg base CX0 1 "_law_whole" _ d7 _ spWhole := ⟨ok_whole F7 T, g7, F7.kp, b7⟩
  have c8 : Cal P w K mg base CX0 2 "_law_list_is" _ d8 _ spListIs := ⟨ok_listIs F8 T c7, g8, F8.kp, b8⟩
  have c14 : CalM P w K mg base CX0 1 (He.ga K "Floor") "taken" _ d14 _ (spTaken (He.ga K "Floor")) := ⟨ok_taken F14 T, m14, b14⟩
  have c15 : CalM P w K mg base CX0 2 (He.ga K "Floor") "free" _ d15 _ (spFree (He.ga K "Floor")) := ⟨ok_free F15 T c14, m15, b15⟩
  have c16 : CalM P w K mg base (L2.CX P w) 1 (He.ga K "Floor") "look_name" _ d16 _ (spLook (He.ga K "Floor") (He.ga K "NoFile")) := ⟨ok_look F16 T XF, m16, b16⟩
  have c18 : CalM P w K mg base (L2.CX P w) 2 (He.ga K "Floor") "drop" _ d18 _ (spDrop (He.ga K "Floor") (He.ga K "NoFile")) := ⟨ok_drop F18 T c16, m18, b18⟩
  have c17 : CalM P w K mg base (L2.CX P w) 3 (He.ga K "Floor") "keep" _ d17 _ (spKeep (He.ga K "Floor") (He.ga K "NoRoom")) := ⟨ok_keep F17 T XR c1 c15 c18 c14, m17, b17⟩
  have c19 : CalM P w K mg base CX0 2 (He.ga K "Floor") "blocks_of" _ d19 _ (spBlocksOf (He.ga K "Floor")) := ⟨ok_blocksOf F19 T c16, m19, b19⟩
  have c20 : CalM P w K mg base CX0 1 (He.ga K "Floor") "block" _ d20 _ (spBlock (He.ga K "Floor")) := ⟨ok_block F20 T, m20, b20⟩
  have c9 : Cal P w K mg base CX0 4 "_law_change" _ d9 _ (spChange (He.ga K "Floor")) := ⟨ok_change F9 T gT XR XF c17 c18, g9, F9.kp, b9⟩
  have c10 : Cal P w K mg base CX0 1 "_law_blocks_of" _ d10 _ (spLB K) := ⟨ok_lb F10 T, g10, F10.kp, b10⟩
  have c11 : Cal P w K mg base CX0 3 "_law_deed" _ d11 _ (spDeed K) := ⟨ok_deed F11 T c4 c6, g11, F11.kp, b11⟩
  have c12 : Cal P w K mg base CX0 3 "_law_right" _ d12 _ (spRight (He.ga K "Floor")) := ⟨ok_right F12 T c19 c20 c10 c7 c8, g12, F12.kp, b12⟩
  exact ok_law F0 T c4 c5 M (ok_init F13 T) b13 c12 c11 c9
end K77
open PySem PySem.W PySem.Calls PyProof.Rows
theorem PySem.Challenge.cw_gatetown_k77_no_block_is_two_files_holds : PySem.Challenge.rw_gatetown_k77_no_block_is_two_files.Holds := by
  w_on; o_law
  refine HandSHeadRun.head_any (r := OpenLaw.row PySem.Challenge.rw_gatetown_k77_no_block_is_two_files) (q := view (OpenLaw.row PySem.Challenge.rw_gatetown_k77_no_block_is_two_files).prog [22]) (H := K77.hk) (ob := K77.ob) (M := 3000) (loose := K77.names) (d := HandSHeadRun.topDef (OpenLaw.row PySem.Challenge.rw_gatetown_k77_no_block_is_two_files).prog 22) (kwd := []) K77.ob_eq
    (by kernel_rfl) (fun s => by kernel_rfl) K77.run (by kernel_rfl) (by kernel_rfl) (by kernel_rfl) (by rfl) (by first | assumption | decide +kernel) (by decide +kernel) ⟨rfl, rfl, rfl, rfl, rfl, by decide +kernel⟩ ?hw ?hc
  case hw => w_witness2
  case hc =>
    refine L2.walk_ofE (l := PySem.Challenge.rw_gatetown_k77_no_block_is_two_files) (n := 63) (k := 5) (x := "_law_script") (CX := L2.CX0) rfl (by decide) (by kernel_rfl) ⟨rfl, by decide, by decide⟩ ?F (fun _ _ _ _ z => z)
    intro w mg fa h Y G hmg0
    obtain ⟨K, KX, c⟩ := Y
    have hmg : mg ("law" : PySem.Str) = some (.ref fa) := by
      have e : (HandSHeadRun.topDef (OpenLaw.row PySem.Challenge.rw_gatetown_k77_no_block_is_two_files).prog 22).name = ("law" : PySem.Str) := by kernel_rfl
      rw [← e]
      exact hmg0
    obtain ⟨fd, hb, hF⟩ := K77.facts (P := (PySem.Challenge.rw_gatetown_k77_no_block_is_two_files).prog) (w := w) KX G hmg c
    exact ⟨K, fd, K77.spLaw K, KX, hb, fun H a ns hl _ hS => ⟨a, ns, rfl, hS, hl, fun _ => rfl⟩, hF⟩
