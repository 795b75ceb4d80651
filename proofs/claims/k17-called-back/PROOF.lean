import PyProof.Rows.All
import Wide.All
import OpenK.AllK
import Wide.FinOn
import HandS.ForMost
import HandS.More
import HandS.IsInst
import HandS.Style
import HandS.TupAny
import HandS.Walk
import HandS.Codes
import KE.GoesEnum
import KE.KOpsOwn
import PySem.Challenge.RW_brimful_k17_whole_programs_are_called_ba
set_option Elab.async false
set_option linter.all false
set_option maxRecDepth 100000
set_option maxHeartbeats 4000000

/-! Rules of my own beside the layer: what is never reached; -o by an own method; d.get(k) of a written dict; enumerate of a tuple. -/
namespace Bk
open PySem PySem.Spec PyProof.Rows L2

/-! ### what is never reached -/
def tNv : TE := fun _ _ _ => False
def tNvT : TT := fun _ _ _ => False
section
variable {X : Cx}
theorem pe_nv {e : Expr} : PE X e tNv := ⟨fun _ _ _ _ _ _ z => z.elim⟩
theorem pt_nv {e : Expr} : PT X e tNvT := ⟨fun _ _ _ _ _ _ z => z.elim⟩
end

/-! ### -o, o of an own class with __neg__ -/
section
variable {X : Cx}
def rNegO (C : Addr) (sp : Sp) : V → Hp → VK → Prop := fun x H Q => ∃ a dx fs, x = .ref a ∧ H a = some (.ins C dx fs) ∧ sp [.ref a] H Q E0
theorem un_negO {k j : Nat} {C f : Addr} {fd : FuncData} {ps : List Str} {sp : Sp} (F : FnOk X.prog X.w X.K X.mg X.base CX0 k f fd ps sp) (hr : Room j X.A) (hk : k ≤ j)
    (hs : PySem.W.findIn X.K (.ref C) "__neg__" = some (some (.ref f))) (hf : PySem.W.isFn X.K (.ref f) = true) (hb : Binds X.K fd ps []) : UnR X (unaryOp .USub) (rNegO C sp) := by
  intro pins s σ H x v Q I rx h
  obtain ⟨a, dx, fs, ex, ha, q⟩ := h
  subst ex
  cases rx
  obtain ⟨mA, J, _⟩ := ins_get I.hok ha
  obtain ⟨od, J1, _⟩ := J.look
  obtain ⟨m, hF⟩ := I.fr
  refine PySem.W.ksp_neg hF I.ok.mod.kin J1 hs hf ?_
  exact run_fn (us := [.ref a]) (vs := [.ref a]) F (hr.mono hk) hb .nil pass0 I (.cons rfl .nil) (by rw [List.append_nil]; exact q)
end

/-! ### d.get(k), d a written dict with text keys -/
section
variable {X : Cx}
def tKGet (K : PySem.W.Frag) (d : Addr) (te : TE) : TE := fun σ H Q => te σ H fun y H2 => ∃ (z : Str) (u0 : Value) (v0 : V), y = .str z ∧ PySem.W.nsIn K d z = some (some u0) ∧ RelV v0 u0 ∧ Q v0 H2
theorem pe_kget {o e : Expr} {apos cpos : Pos} {te : TE} {d : Addr} {es : Array DictEntry} {n : Nat} (D : KDict X.K X.w d es n) (ho : PE X o (tC (.ref d))) (he : PE X e te) (m : M1 X o "get" apos e cpos) :
    PE X (.Call (.Attribute o "get" apos) [e] [] cpos) (tKGet X.K d te) := by
  refine ⟨fun pins s σ H Q I h => ?_⟩
  refine wpAny_Call_method m.base m.few m.line PySem.F.plainAttrs_dict PySem.F.slot_dict_get PySem.F.type_dict_get (thn (ho.run pins s σ H (fun x H1 => x = .ref d ∧ H1 = H) I ⟨rfl, rfl⟩) fun u s1 ⟨x, H1, I1, rx, ex, eH⟩ => ?_)
  subst ex eH
  obtain rfl : u = Value.ref d := rx
  have mp := PySem.W.mapOf_K (prog := X.prog) (w := X.w) I1.kIn D.at_ D.lit
  refine ⟨mp.typeIs, fun b q => ?_, ?_⟩
  · cases q
    exact ⟨_, I1.kIn _ _ D.at_, rfl⟩
  rw [m.trees]
  refine wpAny_dict_get1 (knd := strKind X.prog X.w) D.low (thn (he.run pins s1 σ H1 _ I1 h) fun iv s2 ⟨y, H2, I2, ry, z, u0, v0, ey, en, rv, q⟩ => ?_)
  subst ey
  obtain ⟨t, rfl⟩ := ry
  refine ⟨z, _, PySem.strKind_is X.prog X.w z t, PySem.W.mapOf_K (prog := X.prog) (w := X.w) I2.kIn D.at_ D.lit, ?_⟩
  have e0 : findBy Value.isStrOf es z = some u0 := PySem.W.find_K D.at_ en
  show EP X pins σ Q ((findBy Value.isStrOf es z).getD .none) _
  rw [e0]
  exact ⟨v0, H2, I2.tok _, rv, q⟩
end

/-! ### enumerate(t), t a tuple -/
theorem meets_enum1 {v : Value} {o : Obj} {H : Heap → Prop} (B : Begins v o H) :
    Meets (Builtin.«enumerate.__new__» ⟨[.type "enumerate", v], []⟩) (fun _ R s => H s.heap ∧
      R (.ok (.ret (.ref (s.heap.push o).objs.size))) { s with heap := (s.heap.push o).push { cls := .type "enumerate", data := .fields #[.none, .bool false, .ref s.heap.objs.size, rawInt 0, .none, .none] } }) :=
  .of_wp fun prog w A R s h => by
    obtain ⟨hp, g, d, tk, os⟩ := s
    obtain ⟨h1, h⟩ := h
    have hsub := sub_enumerate
    have qq : ∀ {A' : Around} {E : Value → Shared → Prop} {Q : Value → Shared → Prop}, Q (.ref hp.objs.size) ⟨hp.push o, g, d, tk, os⟩ → wpAny (model prog w) A' (pyIter v) Q E ⟨hp, g, d, tk, os⟩ :=
      fun q => B.iter prog w _ _ ⟨hp, g, d, tk, os⟩ _ h1 q
    wp_walk using qq
    refine wpAny_stack_any fun st => wpAny_pure ?_
    split
    · rename_i c _ _ _ _ _
      cases (c == Value.type "enumerate")
      · wp_walk using qq
        exact ⟨_, rfl, h⟩
      · wp_walk using qq
        exact ⟨_, rfl, h⟩
    · wp_walk using qq
      exact ⟨_, rfl, h⟩
theorem call_enum1 {prog : Program} {w : World} {A : Around} {E : Value → Shared → Prop} {s : Shared} {v : Value} {o : Obj} {H : Heap → Prop} {Q : Value → Shared → Prop} (B : Begins v o H) (h1 : H s.heap)
    (h : ∀ h', IsEnum h' (s.heap.objs.size + 1) s.heap.objs.size 0 .none → h'.get? s.heap.objs.size = some o →
      (∀ b o, s.heap.get? b = some o → h'.get? b = some o) → Q (.ref (s.heap.objs.size + 1)) { s with heap := h' }) :
    wpAny (model prog w) A (call (.type "enumerate") [v]) Q E s := by
  refine callType_new F.called_enumerate (by decide) (F.typeCall_enumerate_1 _) (F.newCall_enumerate_1 _) (fun obj => F.args_object_init_2 obj _) F.entry_enumerate_new (meets_enum1 B) ⟨h1, ?_⟩
  have hz : (s.heap.push o).objs.size = s.heap.objs.size + 1 := Heap.size_push ..
  show _ ∧ _
  rw [hz]
  have he : IsEnum ((s.heap.push o).push { cls := .type "enumerate", data := .fields #[.none, .bool false, .ref s.heap.objs.size, rawInt 0, .none, .none] }) (s.heap.objs.size + 1) s.heap.objs.size 0 .none := by
    have q := Heap.get?_push_size (s.heap.push o) (o := { cls := .type "enumerate", data := .fields #[.none, .bool false, .ref s.heap.objs.size, rawInt 0, .none, .none] }) rfl
    rw [hz] at q
    exact q
  exact ⟨⟨_, he, rfl⟩, h _ he (Heap.get?_push_of_some _ (Heap.get?_push_size _ B.free)) fun b o x => Heap.get?_push_of_some _ (Heap.get?_push_of_some _ x)⟩

/-- the tuple at a, each item in a new pair with its place -/
def Iet (K : PySem.W.Frag) (a : Addr) : It :=
  ⟨fun i H => ∃ (xs : List V) (x : V), SqT K H a xs ∧ xs[i]? = some x,
   fun i H v H' => ∃ T x, v = .ref T ∧ H T = none ∧ H' = upd H T (.tup [.int (i : Nat), x]) ∧ ∀ xs, SqT K H a xs → xs[i]? = some x,
   fun i H => ∃ xs : List V, SqT K H a xs ∧ xs.length ≤ i⟩
theorem turn_enumT {P : Program} {w : World} {K : PySem.W.Frag} {elts : List Expr} {kk : Nat} {tpos : Pos} (a e it : Addr) :
    Turn P w K (.Tuple elts kk tpos) (Iet K a) [e, it] e (fun i h => (∃ old, IsEnum h e it ((i : Nat) : Int) old) ∧ h.IsTupleIter it a i ∧ e ≠ it) where
  mem := by simp
  obj := fun i h st b hb => by
    obtain ⟨⟨old, he⟩, ⟨o, ho, hc, hd⟩, _⟩ := st
    rcases (show b = e ∨ b = it by simpa using hb) with z | z
    · rw [z]; exact ⟨_, he, fun v q => nomatch q⟩
    · rw [z]; exact ⟨o, ho, fun v q => by rw [hd] at q; cases q⟩
  keep := fun i h h' st k => ⟨let ⟨old, he⟩ := st.1; ⟨old, k e (by simp) _ he⟩, st.2.1.at fun o q => k it (by simp) o q, st.2.2⟩
  item := by
    intro X hP hw hK hc i pins s σ H E I hf st hg
    subst hP hw hK
    obtain ⟨⟨old, he⟩, hit, hne⟩ := st
    obtain ⟨xs, x, hq, hx⟩ := hg
    obtain ⟨its, rv, p, hz⟩ := I.tuple hq
    have p' : s.heap.IsTuple a its.toArray := p
    have hel : e < s.heap.objs.size := Heap.lt_size he
    have hil : it < s.heap.objs.size := by obtain ⟨_, q, _⟩ := hit; exact Heap.lt_size q
    have hea : e ≠ a := by
      intro z
      obtain ⟨o, ho, hcl, _⟩ := id p'
      have he' : s.heap.get? e = some _ := he
      rw [z, ho] at he'
      cases he'
      exact absurd hcl (fun z => by injection z with z; exact absurd z (by decide))
    have hia : a ≠ it := by
      intro z
      obtain ⟨o, ho, hcl, _⟩ := id p'
      obtain ⟨o2, ho2, hcl2, _⟩ := id hit
      rw [z, ho2] at ho
      cases ho
      rw [hcl2] at hcl
      exact absurd hcl (fun z => by injection z with z; exact absurd z (by decide))
    have D := Draws.tuple (prog := X.prog) (w := X.w) (A := X.A.in1) (I.ok.hd hc) it a hia its.toArray
    have hlt : i < its.toArray.size := by
      have q := (List.getElem?_eq_some_iff.mp hx).1
      have l := rv.length
      simp only [List.size_toArray]
      omega
    refine wpAny_pyNext_enum_itemD D he ⟨hit, p'⟩ hlt hne (by simp [hne, hea]) fun u h' tk hu ho hst' hT hsz hk => ?_
    obtain ⟨u', hu', ru⟩ := rv.get hx
    have eu : u = u' := by
      have q : its.toArray[i]? = some u := hu
      rw [List.getElem?_toArray, hu'] at q
      exact (Option.some.inj q).symm
    subst eu
    refine ⟨_, rfl, wpAny_letOwnedTupleGo_enum (s := { s with heap := h', toks := tk + 1 }) ho fun h'' he' sb => ?_⟩
    have hT2 : h''.get? s.heap.objs.size = some { cls := .type "tuple", data := .seq #[.int i tk, u] } := (sb.2 _ (Nat.ne_of_gt hel)).trans hT
    have new : ObjOk X.prog X.w (upd H s.heap.objs.size (.tup [.int (i : Nat), x])) h'' s.heap.objs.size (.tup [.int (i : Nat), x]) :=
      ⟨by show 2 ≤ sizeLine; decide, [.int i tk, u], .cons ⟨_, rfl⟩ (.cons ru .nil), ⟨_, hT2, rfl, _, rfl⟩⟩
    have I1 : Inv X pins σ (upd H s.heap.objs.size (.tup [.int (i : Nat), x])) { s with heap := h'', toks := tk + 1 } :=
      I.turnedNew (ch := [e, it]) (fun b ob hb q => (sb.2 b (fun z => hb (by simp [z]))).trans (hk b ob (fun z => hb (by simp [z])) (fun z => hb (by simp [z])) q)) hf (Nat.le_refl _) new
    refine ⟨.ref s.heap.objs.size, _, I1, rfl, ⟨_, x, rfl, I.hok.fresh (Nat.le_refl _), rfl, fun ys hy => by rw [I.tuple_inj hy hq]; exact hx⟩, ⟨⟨u, ?_⟩, hst'.1.at fun o q => (sb.2 it (Ne.symm hne)).trans q, hne⟩, fun b hb => ?_⟩
    · rw [show ((i + 1 : Nat) : Int) = (i : Int) + 1 by omega]
      exact he'
    · have hb' : b < s.heap.objs.size := by
        rcases (show b = e ∨ b = it by simpa using hb) with z | z
        · rw [z]; exact hel
        · rw [z]; exact hil
      rw [upd_ne (Nat.ne_of_lt hb')]
      exact (hf b hb).1
  done := by
    intro X hP hw hK hc i pins s σ H E I hf st hg
    subst hP hw hK
    obtain ⟨⟨old, he⟩, hit, hne⟩ := st
    obtain ⟨xs, hq, hx⟩ := hg
    obtain ⟨its, rv, p, hz⟩ := I.tuple hq
    have p' : s.heap.IsTuple a its.toArray := p
    obtain ⟨f0, f1, f2, f3, f4, f5⟩ := hf it (by simp)
    have hia : a ≠ it := by
      intro z
      obtain ⟨o, ho, hcl, _⟩ := id p'
      obtain ⟨o2, ho2, hcl2, _⟩ := id hit
      rw [z, ho2] at ho
      cases ho
      rw [hcl2] at hcl
      exact absurd hcl (fun z => by injection z with z; exact absurd z (by decide))
    have hT : s.TypeIs (.ref e) "enumerate" := ⟨_, he, rfl⟩
    unfold pyNext
    refine wpAny_bind (wpAny_attempt (wpAny_callSpecial?_slot (name := Str.ofString "__next__") hT F.slot_enumerate_next
      (wpAny_call_entry F.slot_enumerate_next hT F.entry_enumerate_next ?_ (F.args_enumerate_next_1 _))))
    show wpAny _ _ (field (.ref e) 2 >>= _) _ _ _
    refine wpAny_bind (wpAny_field he rfl (x := .ref it) rfl ?_)
    refine wpAny_bind (wpAny_nextOf_tuple_end (I.ok.hd hc) hit p' (by have l := rv.length; simp; omega) fun h' x hx' ho => ?_)
    obtain ⟨o, ho, hcl⟩ := ho
    refine wpAny_bind (wpAny_isInstance (T := "StopIteration") (b := true) ⟨o, ho, hcl⟩ isSubtype_stop ?_)
    exact wpAny_pure ⟨rfl, I.turned (t' := s.toks) (fun b o hb q => hx' b o hb q) f0 f1 f3 f4 f5⟩
  self := fun A i s Q E st h => let ⟨⟨_, he⟩, _⟩ := st; wpAny_pyIter_enum he h
def iEnumT (K : PySem.W.Frag) (ta : TA) : TI := fun σ H R => ta σ H fun vs H1 => ∃ a xs, vs = [.ref a] ∧ SqT K H1 a xs ∧ R (Iet K a) H1
theorem pi_enumT {X : Cx} {e : Expr} {ta : TA} {p pos tpos : Pos} {elts : List Expr} {kk : Nat} (hg : Gl X "enumerate") (hm : X.mg "enumerate" = none) (ha : PA X [e] ta) (hs : starEach [e] X.env = [(false, eval e X.env)] := by rfl) :
    PI X (.Tuple elts kk tpos) (.Call (.Name "enumerate" p) [e] [] pos) (iEnumT X.K ta) := by
  refine ⟨fun pins s σ H R I h => ?_⟩
  refine Call_ (ld_blt I hg hm boot_enumerate (PyProof.Rows.callWith_type1 (thn (ha.run pos pins s σ H _ I h) fun us s1 ⟨vs, H1, I1, r1, q1⟩ => ?_) hs rfl))
  obtain ⟨a, xs, ex, hq, q⟩ := q1
  subst ex
  cases r1 with
  | cons r rr =>
    cases rr
    cases r
    obtain ⟨its, rv, p', hz⟩ := I1.tuple hq
    refine call_enum1 (begins_tuple a its.toArray) (show s1.heap.IsTuple a its.toArray from p') fun h' he hit hk => wpAny_pyIter_enum he ?_
    have I2 : Inv X pins σ H1 { s1 with heap := h' } := I1.kept (t' := s1.toks) hk
    refine ⟨s1.heap.objs.size + 1, [s1.heap.objs.size + 1, s1.heap.objs.size], _, _, H1, rfl, I2, turn_enumT a (s1.heap.objs.size + 1) s1.heap.objs.size, ⟨⟨.none, he⟩, ⟨_, hit, rfl, rfl⟩, Nat.succ_ne_self _⟩, fun b hb => ?_, q⟩
    have hle : s1.heap.objs.size ≤ b := by
      rcases (show b = s1.heap.objs.size + 1 ∨ b = s1.heap.objs.size by simpa using hb) with z | z
      · rw [z]; exact Nat.le_add_right _ _
      · rw [z]; exact Nat.le_refl _
    exact I1.fpOk hle (I1.hok.fresh hle)
theorem walk_enumT {K : PySem.W.Frag} {a : Addr} {xs : List V} : Walk (Iet K a) xs.length (fun H => SqT K H a xs) (YPair (fun i => some (.int (i : Nat))) (fun i => xs[i]?)) := by
  refine ⟨fun i _ hi q => ⟨xs, xs[i], q, by simp [hi]⟩, fun _ q => ⟨xs, q, Nat.le_refl _⟩, fun i H v H' _ q y => ?_⟩
  obtain ⟨T, x, h1, h2, h3, h4⟩ := y
  exact ⟨T, .int (i : Nat), x, h1, h2, h3, rfl, h4 xs q⟩
end Bk

/-! Plain data and mathematics of brimful: steps, their inverses, nodes, costs, tasks. No program here. -/
namespace Bk

/-! ### steps -/
inductive Fac where
  | cell (i : Int)
  | inp (k : Int)
structure Stp where
  t : Int
  c : Int
  fs : List Fac

def fval (mem giv : List Int) : Fac → Int
  | .cell i => mem.getD i.toNat 0
  | .inp k => giv.getD k.toNat 0
def tot (md : Int) (mem giv : List Int) (c : Int) (fs : List Fac) : Int := fs.foldl (fun t f => t * fval mem giv f % md) c
def perf (md : Int) (giv mem : List Int) (s : Stp) : List Int := mem.set s.t.toNat ((mem.getD s.t.toNat 0 + tot md mem giv s.c s.fs) % md)
def inv (md : Int) (s : Stp) : Stp := { s with c := -s.c % md }
def runL (md : Int) (giv : List Int) (ss : List Stp) (mem : List Int) : List Int := ss.foldl (perf md giv) mem

/-- a factor that a step with the target t may have -/
def FacOk (t n : Int) : Fac → Prop
  | .cell i => 0 ≤ i ∧ i < 3 ∧ i ≠ t
  | .inp k => 0 ≤ k ∧ k < n
structure StpOk (md n : Int) (s : Stp) : Prop where
  t0 : 0 ≤ s.t
  t3 : s.t < 3
  c0 : 0 ≤ s.c
  cm : s.c < md
  few : s.fs.length ≤ 3
  fac : ∀ f ∈ s.fs, FacOk s.t n f
/-- a memory of three numbers -/
structure MemOk (md : Int) (mem : List Int) : Prop where
  len : mem.length = 3
  num : ∀ v ∈ mem, 0 ≤ v ∧ v < md

theorem runL_nil (md : Int) (giv mem : List Int) : runL md giv [] mem = mem := rfl
theorem runL_cons (md : Int) (giv mem : List Int) (s : Stp) (ss : List Stp) : runL md giv (s :: ss) mem = runL md giv ss (perf md giv mem s) := rfl
theorem runL_append (md : Int) (giv : List Int) (xs ys : List Stp) (mem : List Int) : runL md giv (xs ++ ys) mem = runL md giv ys (runL md giv xs mem) := by
  unfold runL
  rw [List.foldl_append]
theorem runL_snoc (md : Int) (giv : List Int) (xs : List Stp) (s : Stp) (mem : List Int) : runL md giv (xs ++ [s]) mem = perf md giv (runL md giv xs mem) s := by
  rw [runL_append]
  rfl

theorem memOk_perf {md : Int} (hm : 0 < md) {giv mem : List Int} {s : Stp} (h : MemOk md mem) : MemOk md (perf md giv mem s) := by
  refine ⟨by unfold perf; rw [List.length_set]; exact h.len, fun v hv => ?_⟩
  unfold perf at hv
  rcases List.mem_or_eq_of_mem_set hv with q | q
  · exact h.num v q
  · rw [q]
    exact ⟨Int.emod_nonneg _ (by omega), Int.emod_lt_of_pos _ hm⟩
theorem memOk_run {md : Int} (hm : 0 < md) {giv : List Int} (ss : List Stp) : ∀ {mem : List Int}, MemOk md mem → MemOk md (runL md giv ss mem) := by
  induction ss with
  | nil => intro mem h; exact h
  | cons s r ih => intro mem h; rw [runL_cons]; exact ih (memOk_perf hm h)

theorem tot_mod (md : Int) (mem giv : List Int) (fs : List Fac) : ∀ a b : Int, a % md = b % md → tot md mem giv a fs % md = tot md mem giv b fs % md := by
  induction fs with
  | nil => intro a b h; exact h
  | cons f r ih =>
    intro a b h
    show tot md mem giv (a * fval mem giv f % md) r % md = tot md mem giv (b * fval mem giv f % md) r % md
    refine ih _ _ ?_
    rw [Int.emod_emod, Int.emod_emod, Int.mul_emod, h, ← Int.mul_emod]
theorem tot_neg (md : Int) (mem giv : List Int) (fs : List Fac) : ∀ a b : Int, (a + b) % md = 0 → (tot md mem giv a fs + tot md mem giv b fs) % md = 0 := by
  induction fs with
  | nil => intro a b h; exact h
  | cons f r ih =>
    intro a b h
    show (tot md mem giv (a * fval mem giv f % md) r + tot md mem giv (b * fval mem giv f % md) r) % md = 0
    refine ih _ _ ?_
    rw [← Int.add_emod, ← Int.add_mul, Int.mul_emod, h, Int.zero_mul, Int.zero_emod]
theorem fval_set {mem giv : List Int} {t v : Int} {n : Int} {f : Fac} (ht : 0 ≤ t) (h : FacOk t n f) : fval (mem.set t.toNat v) giv f = fval mem giv f := by
  cases f with
  | inp k => rfl
  | cell i =>
    obtain ⟨h0, h3, hne⟩ := h
    have q : t.toNat ≠ i.toNat := by omega
    show (mem.set t.toNat v).getD i.toNat 0 = mem.getD i.toNat 0
    rw [List.getD_eq_getElem?_getD, List.getD_eq_getElem?_getD, List.getElem?_set_ne q]
theorem tot_set {md : Int} {mem giv : List Int} {t v n : Int} (ht : 0 ≤ t) : ∀ {fs : List Fac}, (∀ f ∈ fs, FacOk t n f) → ∀ c, tot md (mem.set t.toNat v) giv c fs = tot md mem giv c fs := by
  intro fs
  induction fs with
  | nil => intro _ c; rfl
  | cons f r ih =>
    intro h c
    show tot md (mem.set t.toNat v) giv (c * fval (mem.set t.toNat v) giv f % md) r = tot md mem giv (c * fval mem giv f % md) r
    rw [fval_set ht (h f (List.mem_cons_self ..)), ih (fun g hg => h g (List.mem_cons_of_mem _ hg))]

/-- a step and its inverse -/
theorem perf_inv {md n : Int} (hm : 0 < md) {giv mem : List Int} {s : Stp} (ok : StpOk md n s) (h : MemOk md mem) : perf md giv (perf md giv mem s) (inv md s) = mem := by
  have hl : s.t.toNat < mem.length := by rw [h.len]; have := ok.t3; have := ok.t0; omega
  have hv := h.num mem[s.t.toNat] (List.getElem_mem hl)
  have e0 : mem.getD s.t.toNat 0 = mem[s.t.toNat] := by rw [List.getD_eq_getElem?_getD, List.getElem?_eq_getElem hl]; rfl
  unfold perf
  show (mem.set s.t.toNat _).set s.t.toNat (((mem.set s.t.toNat _).getD s.t.toNat 0 + tot md (mem.set s.t.toNat _) giv (-s.c % md) s.fs) % md) = mem
  rw [tot_set ok.t0 ok.fac, List.set_set]
  have e1 : (mem.set s.t.toNat ((mem.getD s.t.toNat 0 + tot md mem giv s.c s.fs) % md)).getD s.t.toNat 0 = (mem.getD s.t.toNat 0 + tot md mem giv s.c s.fs) % md := by
    rw [List.getD_eq_getElem?_getD, List.getElem?_set_self hl]; rfl
  rw [e1, e0]
  have z : (tot md mem giv s.c s.fs + tot md mem giv (-s.c % md) s.fs) % md = 0 := by
    refine tot_neg md mem giv s.fs _ _ ?_
    rw [Int.add_emod, Int.emod_emod, ← Int.add_emod]
    have : s.c + -s.c = 0 := by omega
    rw [this, Int.zero_emod]
  have e2 : ((mem[s.t.toNat] + tot md mem giv s.c s.fs) % md + tot md mem giv (-s.c % md) s.fs) % md = mem[s.t.toNat] := by
    rw [Int.add_emod, Int.emod_emod, ← Int.add_emod, Int.add_assoc, Int.add_emod, z, Int.add_zero, Int.emod_emod]
    exact Int.emod_eq_of_lt hv.1 hv.2
  rw [e2]
  exact List.set_getElem_self hl
/-- the steps, then their inverses in reverse order -/
theorem run_back {md n : Int} (hm : 0 < md) {giv : List Int} (ss : List Stp) : ∀ {mem : List Int}, (∀ s ∈ ss, StpOk md n s) → MemOk md mem → runL md giv (ss.map (inv md)).reverse (runL md giv ss mem) = mem := by
  induction ss with
  | nil => intro mem _ _; rfl
  | cons s r ih =>
    intro mem ok h
    rw [runL_cons, List.map_cons, List.reverse_cons, runL_snoc, ih (fun x hx => ok x (List.mem_cons_of_mem _ hx)) (memOk_perf hm h)]
    exact perf_inv hm (ok s (List.mem_cons_self ..)) h
theorem inv_ok {md n : Int} (hm : 0 < md) {s : Stp} (h : StpOk md n s) : StpOk md n (inv md s) :=
  ⟨h.t0, h.t3, Int.emod_nonneg _ (by omega), Int.emod_lt_of_pos _ hm, h.few, h.fac⟩

/-! ### nodes and costs -/
inductive Nd where
  | const (c : Int)
  | inp (k : Int)
  | sum (i j : Nat)
  | prod (i j : Nat)
  | scaled (c : Int) (i : Nat)
  | choose (i j l : Nat)
/-- a node at the place k -/
def NdOk (k : Nat) : Nd → Prop
  | .const c => 0 ≤ c ∧ c < 1000000000
  | .inp q => 0 ≤ q ∧ q < 60
  | .sum i j => i < k ∧ j < k
  | .prod i j => i < k ∧ j < k
  | .scaled c i => (0 ≤ c ∧ c < 1000000000) ∧ i < k
  | .choose i j l => i < k ∧ j < k ∧ l < k
def ndCost (cs : List Int) : Nd → Int
  | .const _ => 1
  | .inp _ => 1
  | .sum i j => cs.getD i 0 + cs.getD j 0
  | .prod i j => 2 * (cs.getD i 0 + cs.getD j 0)
  | .scaled _ i => cs.getD i 0
  | .choose i j l => cs.getD l 0 + 2 * (cs.getD i 0 + cs.getD j 0 + cs.getD l 0)
def costsFrom (cs : List Int) (ns : List Nd) : List Int := ns.foldl (fun cs n => cs ++ [ndCost cs n]) cs
def costs (ns : List Nd) : List Int := costsFrom [] ns
def SrcOk (ns : List Nd) : Prop := ∀ (k : Nat) (n : Nd), ns[k]? = some n → NdOk k n

theorem costs_snoc (ns : List Nd) (n : Nd) : costs (ns ++ [n]) = costs ns ++ [ndCost (costs ns) n] := by
  unfold costs costsFrom
  rw [List.foldl_append]
  rfl
theorem costsFrom_length (ns : List Nd) : ∀ cs, (costsFrom cs ns).length = cs.length + ns.length := by
  induction ns with
  | nil => intro cs; rfl
  | cons n r ih =>
    intro cs
    show (costsFrom (cs ++ [ndCost cs n]) r).length = _
    rw [ih, List.length_append, List.length_cons, List.length_cons]
    simp only [List.length_nil]
    omega
theorem costs_length (ns : List Nd) : (costs ns).length = ns.length := by
  unfold costs
  rw [costsFrom_length]
  simp
theorem costs_take (ns : List Nd) {k : Nat} {n : Nd} (h : ns[k]? = some n) : costs (ns.take (k + 1)) = costs (ns.take k) ++ [ndCost (costs (ns.take k)) n] := by
  have e : ns.take (k + 1) = ns.take k ++ [n] := by
    rw [List.take_add_one, h]
    rfl
  rw [e, costs_snoc]
theorem costsFrom_pre (ns : List Nd) : ∀ cs, ∃ r, costsFrom cs ns = cs ++ r := by
  induction ns with
  | nil => intro cs; exact ⟨[], by simp [costsFrom]⟩
  | cons n r ih =>
    intro cs
    obtain ⟨q, e⟩ := ih (cs ++ [ndCost cs n])
    refine ⟨[ndCost cs n] ++ q, ?_⟩
    show costsFrom (cs ++ [ndCost cs n]) r = _
    rw [e, List.append_assoc]
theorem costs_append (xs ys : List Nd) : ∃ r, costs (xs ++ ys) = costs xs ++ r := by
  unfold costs
  have e : costsFrom [] (xs ++ ys) = costsFrom (costsFrom [] xs) ys := by
    unfold costsFrom
    rw [List.foldl_append]
  rw [e]
  exact costsFrom_pre ys _
/-- a cost below k does not hang on what comes from k on -/
theorem costs_get_take (ns : List Nd) (k i : Nat) (h : i < k) (hk : k ≤ ns.length) : (costs (ns.take k)).getD i 0 = (costs ns).getD i 0 := by
  obtain ⟨r, e⟩ := costs_append (ns.take k) (ns.drop k)
  rw [List.take_append_drop] at e
  rw [e, List.getD_eq_getElem?_getD, List.getD_eq_getElem?_getD, List.getElem?_append_left]
  rw [costs_length, List.length_take]
  omega
theorem ndCost_take (ns : List Nd) {k : Nat} {n : Nd} (h : NdOk k n) (hk : k ≤ ns.length) : ndCost (costs (ns.take k)) n = ndCost (costs ns) n := by
  cases n with
  | const c => rfl
  | inp q => rfl
  | sum i j => simp only [ndCost, costs_get_take ns k i h.1 hk, costs_get_take ns k j h.2 hk]
  | prod i j => simp only [ndCost, costs_get_take ns k i h.1 hk, costs_get_take ns k j h.2 hk]
  | scaled c i => simp only [ndCost, costs_get_take ns k i h.2 hk]
  | choose i j l => simp only [ndCost, costs_get_take ns k i h.1 hk, costs_get_take ns k j h.2.1 hk, costs_get_take ns k l h.2.2 hk]
theorem lt_of_get {α : Type} {l : List α} {i : Nat} {x : α} (h : l[i]? = some x) : i < l.length := (List.getElem?_eq_some_iff.mp h).1
/-- the cost at a place is that of its node -/
theorem cost_at {ns : List Nd} (ok : SrcOk ns) {k : Nat} {n : Nd} (h : ns[k]? = some n) : (costs ns).getD k 0 = ndCost (costs ns) n := by
  have hk := lt_of_get h
  have e := costs_get_take ns (k + 1) k (Nat.lt_succ_self k) hk
  rw [costs_take ns h] at e
  rw [← e, List.getD_eq_getElem?_getD, List.getElem?_append_right (by rw [costs_length, List.length_take]; omega)]
  have z : k - (costs (ns.take k)).length = 0 := by rw [costs_length, List.length_take]; omega
  rw [z]
  show ndCost (costs (ns.take k)) n = _
  exact ndCost_take ns (ok k n h) (by omega)
theorem ndCost_pos {cs : List Int} {k : Nat} (hk : k ≤ cs.length) (h : ∀ i, i < k → 1 ≤ cs.getD i 0) {n : Nd} (ok : NdOk k n) : 1 ≤ ndCost cs n := by
  cases n with
  | const c => exact Int.le_refl _
  | inp q => exact Int.le_refl _
  | sum i j => have := h i ok.1; have := h j ok.2; simp only [ndCost]; omega
  | prod i j => have := h i ok.1; have := h j ok.2; simp only [ndCost]; omega
  | scaled c i => exact h i ok.2
  | choose i j l => have := h i ok.1; have := h j ok.2.1; have := h l ok.2.2; simp only [ndCost]; omega
theorem cost_pos {ns : List Nd} (ok : SrcOk ns) : ∀ k, k < ns.length → 1 ≤ (costs ns).getD k 0 := by
  intro k
  induction k using Nat.strongRecOn with
  | _ k ih =>
    intro hk
    obtain ⟨n, hn⟩ : ∃ n, ns[k]? = some n := ⟨ns[k], List.getElem?_eq_getElem hk⟩
    rw [cost_at ok hn]
    exact ndCost_pos (k := k) (by rw [costs_length]; omega) (fun i hi => ih i hi (by omega)) (ok k n hn)

/-! ### tasks -/
structure Tk where
  k : Nat
  t : Int
  c : Int
  fs : List Fac
  sp : Int
/-- {t, sp} two of the three cells; the factors none, or the third one -/
structure TkOk (md : Int) (N : Nat) (x : Tk) : Prop where
  k : x.k < N
  t0 : 0 ≤ x.t
  t3 : x.t < 3
  s0 : 0 ≤ x.sp
  s3 : x.sp < 3
  ts : x.t ≠ x.sp
  c0 : 0 ≤ x.c
  cm : x.c < md
  fs : x.fs = [] ∨ ∃ u, x.fs = [Fac.cell u] ∧ 0 ≤ u ∧ u < 3 ∧ u ≠ x.t ∧ u ≠ x.sp
def tkCost (ns : List Nd) (x : Tk) : Int := (costs ns).getD x.k 0
/-- the measure of a task: what it is divided into weighs less -/
def tkMeas (ns : List Nd) (x : Tk) : Int := 400 * (costs ns).getD x.k 0 + x.k - 199
def sumC (ns : List Nd) (xs : List Tk) : Int := (xs.map (tkCost ns)).sum
def sumM (ns : List Nd) (xs : List Tk) : Int := (xs.map (tkMeas ns)).sum
theorem sumC_cons (ns : List Nd) (x : Tk) (xs : List Tk) : sumC ns (x :: xs) = tkCost ns x + sumC ns xs := by simp [sumC]
theorem sumM_cons (ns : List Nd) (x : Tk) (xs : List Tk) : sumM ns (x :: xs) = tkMeas ns x + sumM ns xs := by simp [sumM]
theorem sumC_append (ns : List Nd) (xs ys : List Tk) : sumC ns (xs ++ ys) = sumC ns xs + sumC ns ys := by
  induction xs with
  | nil => simp [sumC]
  | cons x r ih => rw [List.cons_append, sumC_cons, sumC_cons, ih]; omega
theorem sumM_append (ns : List Nd) (xs ys : List Tk) : sumM ns (xs ++ ys) = sumM ns xs + sumM ns ys := by
  induction xs with
  | nil => simp [sumM]
  | cons x r ih => rw [List.cons_append, sumM_cons, sumM_cons, ih]; omega
theorem sumC_reverse (ns : List Nd) (xs : List Tk) : sumC ns xs.reverse = sumC ns xs := by
  induction xs with
  | nil => rfl
  | cons x r ih => rw [List.reverse_cons, sumC_append, ih, sumC_cons, sumC_cons]; simp [sumC]; omega
theorem sumM_reverse (ns : List Nd) (xs : List Tk) : sumM ns xs.reverse = sumM ns xs := by
  induction xs with
  | nil => rfl
  | cons x r ih => rw [List.reverse_cons, sumM_append, ih, sumM_cons, sumM_cons]; simp [sumM]; omega
theorem sumC_ge {ns : List Nd} (ok : SrcOk ns) : ∀ {xs : List Tk}, (∀ x ∈ xs, x.k < ns.length) → (xs.length : Int) ≤ sumC ns xs := by
  intro xs
  induction xs with
  | nil => intro _; simp [sumC]
  | cons x r ih =>
    intro h
    have h1 := ih fun y hy => h y (List.mem_cons_of_mem _ hy)
    have h2 : 1 ≤ tkCost ns x := cost_pos ok x.k (h x (List.mem_cons_self ..))
    rw [sumC_cons, List.length_cons]
    omega
theorem sumM_ge {ns : List Nd} (ok : SrcOk ns) : ∀ {xs : List Tk}, (∀ x ∈ xs, x.k < ns.length) → (xs.length : Int) ≤ sumM ns xs := by
  intro xs
  induction xs with
  | nil => intro _; simp [sumM]
  | cons x r ih =>
    intro h
    have h1 := ih fun y hy => h y (List.mem_cons_of_mem _ hy)
    have h2 : 1 ≤ (costs ns).getD x.k 0 := cost_pos ok x.k (h x (List.mem_cons_self ..))
    rw [sumM_cons, List.length_cons]
    unfold tkMeas
    omega
/-- the indexes of the nodes that a node is divided into, in order -/
def kids : Nd → List Nat
  | .const _ => []
  | .inp _ => []
  | .sum i j => [i, j]
  | .prod i j => [i, j, i, j]
  | .scaled _ i => [i]
  | .choose i j l => [l, i, j, l, i, j, l]
theorem kids_cost {ns : List Nd} {x : Tk} {n : Nd} (ok : SrcOk ns) (h : ns[x.k]? = some n) {xs : List Tk} (e : xs.map (·.k) = kids n) (hn : kids n ≠ []) : sumC ns xs = tkCost ns x := by
  have e1 : sumC ns xs = ((kids n).map fun i => (costs ns).getD i 0).sum := by
    rw [← e, List.map_map]
    rfl
  rw [e1]
  unfold tkCost
  rw [cost_at ok h]
  cases n with
  | const c => exact absurd rfl hn
  | inp q => exact absurd rfl hn
  | sum i j => simp [kids, ndCost]
  | prod i j => simp [kids, ndCost]; omega
  | scaled c i => simp [kids, ndCost]
  | choose i j l => simp [kids, ndCost]; omega
theorem kids_meas {ns : List Nd} {x : Tk} {n : Nd} (ok : SrcOk ns) (hN : ns.length ≤ 200) (h : ns[x.k]? = some n) {xs : List Tk} (e : xs.map (·.k) = kids n) (hn : kids n ≠ []) : sumM ns xs < tkMeas ns x := by
  have e1 : sumM ns xs = ((kids n).map fun i => 400 * (costs ns).getD i 0 + (i : Int) - 199).sum := by
    rw [← e, List.map_map]
    rfl
  rw [e1]
  have hk := lt_of_get h
  have hok := ok _ _ h
  unfold tkMeas
  rw [cost_at ok h]
  cases n with
  | const c => exact absurd rfl hn
  | inp q => exact absurd rfl hn
  | sum i j => obtain ⟨h1, h2⟩ := hok; simp [kids, ndCost]; omega
  | prod i j => obtain ⟨h1, h2⟩ := hok; simp [kids, ndCost]; omega
  | scaled c i => obtain ⟨_, h1⟩ := hok; simp [kids, ndCost]; omega
  | choose i j l => obtain ⟨h1, h2, h3⟩ := hok; simp [kids, ndCost]; omega
theorem kids_lt {k : Nat} {n : Nd} (ok : NdOk k n) : ∀ i ∈ kids n, i < k := by
  cases n with
  | const c => intro i h; cases h
  | inp q => intro i h; cases h
  | sum i j => obtain ⟨h1, h2⟩ := ok; intro a h; simp [kids] at h; omega
  | prod i j => obtain ⟨h1, h2⟩ := ok; intro a h; simp [kids] at h; omega
  | scaled c i => obtain ⟨_, h1⟩ := ok; intro a h; simp [kids] at h; omega
  | choose i j l => obtain ⟨h1, h2, h3⟩ := ok; intro a h; simp [kids] at h; omega

/-! ### what the source needs -/
def need1 (m : Int) : Nd → Int
  | .inp k => if k + 1 > m then k + 1 else m
  | _ => m
def needs (ns : List Nd) : Int := ns.foldl need1 0
theorem needs_snoc (ns : List Nd) (n : Nd) : needs (ns ++ [n]) = need1 (needs ns) n := by
  unfold needs
  rw [List.foldl_append]
  rfl
theorem needs_take (ns : List Nd) {k : Nat} {n : Nd} (h : ns[k]? = some n) : needs (ns.take (k + 1)) = need1 (needs (ns.take k)) n := by
  have e : ns.take (k + 1) = ns.take k ++ [n] := by
    rw [List.take_add_one, h]
    rfl
  rw [e, needs_snoc]
theorem need1_le (m : Int) (n : Nd) : m ≤ need1 m n := by
  cases n <;> simp only [need1] <;> first | exact Int.le_refl _ | (split <;> omega)
theorem needs_from_le (ns : List Nd) : ∀ m, m ≤ ns.foldl need1 m := by
  induction ns with
  | nil => intro m; exact Int.le_refl _
  | cons n r ih => intro m; exact Int.le_trans (need1_le m n) (ih _)
theorem needs_nonneg (ns : List Nd) : 0 ≤ needs ns := needs_from_le ns 0
theorem needs_inp {ns : List Nd} {i : Nat} {k : Int} (h : ns[i]? = some (.inp k)) : k < needs ns := by
  have key : ∀ (ns : List Nd) (i : Nat) (m : Int), ns[i]? = some (.inp k) → k < ns.foldl need1 m := by
    intro ns
    induction ns with
    | nil => intro i m h; simp at h
    | cons n r ih =>
      intro i m h
      cases i with
      | zero =>
        have e : n = .inp k := by simpa using h
        subst e
        show k < r.foldl need1 (need1 m (.inp k))
        have q := needs_from_le r (need1 m (.inp k))
        have z : k + 1 ≤ need1 m (.inp k) := by simp only [need1]; split <;> omega
        omega
      | succ i => exact ih i _ (by simpa using h)
  exact key ns i 0 h
theorem needs_le {ns : List Nd} (ok : SrcOk ns) : needs ns ≤ 60 := by
  have key : ∀ (ns : List Nd) (m : Int), m ≤ 60 → (∀ n ∈ ns, ∀ k, n = .inp k → k < 60) → ns.foldl need1 m ≤ 60 := by
    intro ns
    induction ns with
    | nil => intro m hm _; exact hm
    | cons n r ih =>
      intro m hm h
      refine ih _ ?_ fun x hx => h x (List.mem_cons_of_mem _ hx)
      cases n with
      | inp k =>
        have := h _ (List.mem_cons_self ..) k rfl
        simp only [need1]
        split <;> omega
      | _ => exact hm
  refine key ns 0 (by omega) fun n hn k e => ?_
  subst e
  obtain ⟨i, hi⟩ := List.getElem?_of_mem hn
  exact (ok i _ hi).2
end Bk

/-! The text by places, the data over the heap, the facts of the top. -/
namespace Bk
open PySem PySem.Spec PyProof.Rows L2

/-! ### the text by places -/
def top (i : Nat) : Stmt := PySem.Challenge.pw_brimful_k17_whole_programs_are_called_ba.main.body.getD i (.Pass ⟨0, 0, 0, 0⟩)
abbrev sIsInteger : Stmt := top 7
abbrev sIsNumber : Stmt := top 8
abbrev sIsFactor : Stmt := top 15
abbrev sIsAdd : Stmt := top 17
abbrev sIsStep : Stmt := top 19
abbrev sInverseStep : Stmt := top 20
abbrev sPerform : Stmt := top 21
abbrev sCheckSteps : Stmt := top 22
abbrev sCheckNumbers : Stmt := top 28
abbrev sInit : Stmt := inClass (top 29) 0
abbrev sNeg : Stmt := inClass (top 29) 3
abbrev sRun : Stmt := inClass (top 29) 4
abbrev sPart : Stmt := inClass (top 29) 5
abbrev sBack : Stmt := inClass (top 29) 6
abbrev sIsNode : Stmt := top 35
abbrev sCheckSource : Stmt := top 36
abbrev sNeeds : Stmt := top 37
abbrev sCost : Stmt := top 38
abbrev sLeafStep : Stmt := top 41
abbrev sProductTasks : Stmt := top 42
abbrev sInnerTasks : Stmt := top 43
abbrev sCompile : Stmt := top 44
abbrev sMixed : Stmt := top 46
abbrev sNumbers : Stmt := top 47
abbrev sDraw : Stmt := top 48
abbrev sEqual : Stmt := top 49
abbrev sAllEqual : Stmt := top 50
abbrev sLarge : Stmt := top 51
abbrev sModulus : Stmt := top 52
abbrev sNumber : Stmt := top 53
abbrev sConstant : Stmt := top 54
abbrev sLeaf : Stmt := top 55
abbrev sNode : Stmt := top 56
abbrev sSource : Stmt := top 57
abbrev sLNeeds : Stmt := top 58
abbrev sLaw : Stmt := top 61

/-! ### heaps that keep the tuples; that keep all but one object -/
def TS (H H' : Hp) : Prop := ∀ a xs, H a = some (.tup xs) → H' a = some (.tup xs)
theorem TS.refl (H : Hp) : TS H H := fun _ _ h => h
theorem TS.trans {H H1 H2 : Hp} (x : TS H H1) (y : TS H1 H2) : TS H H2 := fun a xs h => y a xs (x a xs h)
theorem Same.ts {H H' : Hp} (s : Same H H') : TS H H' := fun a xs h => s a _ h
theorem Same.new {H : Hp} {p : Addr} {o : HO} (h : H p = none) : Same H (upd H p o) := fun b u e => by rw [upd_ne (ne_of_none e h)]; exact e
theorem Same.then {H H1 : Hp} {p : Addr} {o : HO} (s : Same H H1) (h : H1 p = none) : Same H (upd H1 p o) := s.trans (Same.new h)
theorem TS.new {H : Hp} {p : Addr} {o : HO} (h : H p = none) : TS H (upd H p o) := Same.ts (Same.new h)
theorem TS.lst {H : Hp} {p : Addr} {o : HO} {ys : List V} (h : H p = some (.lst ys)) : TS H (upd H p o) := fun a xs e => by
  rw [upd_ne (ne_of e h (by intro q; cases q))]
  exact e
def Exc (d : Addr) (H H' : Hp) : Prop := ∀ b o, H b = some o → b ≠ d → H' b = some o
theorem Exc.refl (d : Addr) (H : Hp) : Exc d H H := fun _ _ h _ => h
theorem Exc.trans {d : Addr} {H H1 H2 : Hp} (x : Exc d H H1) (y : Exc d H1 H2) : Exc d H H2 := fun b o h n => y b o (x b o h n) n
theorem Same.exc {d : Addr} {H H' : Hp} (s : Same H H') : Exc d H H' := fun b o h _ => s b o h
theorem Exc.at {d : Addr} {H : Hp} {o : HO} : Exc d H (upd H d o) := fun b u h n => by rw [upd_ne n]; exact h
theorem Exc.new {d p : Addr} {H : Hp} {o : HO} (h : H p = none) : Exc d H (upd H p o) := Same.exc (Same.new h)
theorem Exc.ts {d : Addr} {H H' : Hp} {ys : List V} (x : Exc d H H') (h : H d = some (.lst ys)) : TS H H' := fun a xs e => x a _ e (ne_of e h (by intro q; cases q))
theorem Exc.same {d : Addr} {H0 H H' : Hp} (x : Exc d H H') (s : Same H0 H) (h : H0 d = none) : Same H0 H' := fun b o e => x b o (s b o e) (ne_of_none e h)

/-! ### lists of objects -/
def Al {α : Type} (R : Addr → α → Prop) : List Addr → List α → Prop
  | [], [] => True
  | a :: as, x :: xs => R a x ∧ Al R as xs
  | [], _ :: _ => False
  | _ :: _, [] => False
section
variable {α : Type} {R S : Addr → α → Prop}
theorem Al.mono (h : ∀ a x, R a x → S a x) : ∀ {as : List Addr} {xs : List α}, Al R as xs → Al S as xs
  | [], [], _ => True.intro
  | _ :: _, _ :: _, q => ⟨h _ _ q.1, Al.mono h q.2⟩
  | [], _ :: _, q => q.elim
  | _ :: _, [], q => q.elim
theorem Al.length : ∀ {as : List Addr} {xs : List α}, Al R as xs → as.length = xs.length
  | [], [], _ => rfl
  | _ :: _, _ :: _, q => by rw [List.length_cons, List.length_cons, Al.length q.2]
  | [], _ :: _, q => q.elim
  | _ :: _, [], q => q.elim
theorem Al.get : ∀ {as : List Addr} {xs : List α} {i : Nat} {a : Addr}, Al R as xs → as[i]? = some a → ∃ x, xs[i]? = some x ∧ R a x
  | [], _, i, _, _, e => by simp at e
  | _ :: _, x :: _, 0, _, q, e => by
    have e' := Option.some.inj e
    subst e'
    exact ⟨x, rfl, q.1⟩
  | _ :: as, _ :: xs, i + 1, a, q, e => Al.get (as := as) (xs := xs) (i := i) q.2 e
  | _ :: _, [], _, _, q, _ => q.elim
theorem Al.got : ∀ {as : List Addr} {xs : List α} {i : Nat} {x : α}, Al R as xs → xs[i]? = some x → ∃ a, as[i]? = some a ∧ R a x
  | _, [], i, _, _, e => by simp at e
  | a :: _, _ :: _, 0, _, q, e => by
    have e' := Option.some.inj e
    subst e'
    exact ⟨a, rfl, q.1⟩
  | _ :: as, _ :: xs, i + 1, x, q, e => Al.got (as := as) (xs := xs) (i := i) q.2 e
  | [], _ :: _, _, _, q, _ => q.elim
theorem Al.app : ∀ {as bs : List Addr} {xs ys : List α}, Al R as xs → Al R bs ys → Al R (as ++ bs) (xs ++ ys)
  | [], _, [], _, _, q => q
  | _ :: _, _, _ :: _, _, p, q => ⟨p.1, Al.app p.2 q⟩
  | [], _, _ :: _, _, p, _ => p.elim
  | _ :: _, _, [], _, p, _ => p.elim
theorem Al.one {a : Addr} {x : α} (h : R a x) : Al R [a] [x] := ⟨h, True.intro⟩
theorem Al.rev : ∀ {as : List Addr} {xs : List α}, Al R as xs → Al R as.reverse xs.reverse
  | [], [], _ => True.intro
  | a :: as, x :: xs, q => by
    rw [List.reverse_cons, List.reverse_cons]
    exact (Al.rev q.2).app (Al.one q.1)
  | [], _ :: _, q => q.elim
  | _ :: _, [], q => q.elim
theorem Al.take : ∀ {as : List Addr} {xs : List α} (n : Nat), Al R as xs → Al R (as.take n) (xs.take n)
  | _, _, 0, _ => by rw [List.take_zero, List.take_zero]; exact True.intro
  | [], [], _ + 1, _ => True.intro
  | _ :: _, _ :: _, n + 1, q => ⟨q.1, Al.take n q.2⟩
  | [], _ :: _, _ + 1, q => q.elim
  | _ :: _, [], _ + 1, q => q.elim
end
theorem ref_get {as : List Addr} {i : Nat} {v : V} (h : (as.map V.ref)[i]? = some v) : ∃ a, as[i]? = some a ∧ v = .ref a := by
  rw [List.getElem?_map] at h
  cases e : as[i]? with
  | none => rw [e] at h; cases h
  | some a => rw [e] at h; exact ⟨a, rfl, (Option.some.inj h).symm⟩
theorem int_get {ns : List Int} {i : Nat} {v : V} (h : (ns.map V.int)[i]? = some v) : ∃ n, ns[i]? = some n ∧ v = .int n := by
  rw [List.getElem?_map] at h
  cases e : ns[i]? with
  | none => rw [e] at h; cases h
  | some a => rw [e] at h; exact ⟨a, rfl, (Option.some.inj h).symm⟩

/-! ### the data over the heap -/
def facTag : Fac → Str
  | .cell _ => "cell"
  | .inp _ => "input"
def facArg : Fac → Int
  | .cell i => i
  | .inp k => k
def FacAt (H : Hp) (a : Addr) (f : Fac) : Prop := H a = some (.tup [.str (facTag f), .int (facArg f)])
def FacsAt (H : Hp) (a : Addr) (fs : List Fac) : Prop := ∃ as : List Addr, H a = some (.tup (as.map V.ref)) ∧ Al (FacAt H) as fs
def StpAt (H : Hp) (a : Addr) (s : Stp) : Prop := ∃ fa, H a = some (.tup [.str "add", .int s.t, .int s.c, .ref fa]) ∧ FacsAt H fa s.fs
def ndTag : Nd → Str
  | .const _ => "const"
  | .inp _ => "input"
  | .sum _ _ => "sum"
  | .prod _ _ => "product"
  | .scaled _ _ => "scaled"
  | .choose _ _ _ => "choose"
def ndArgs : Nd → List Int
  | .const c => [c]
  | .inp k => [k]
  | .sum i j => [(i : Int), (j : Int)]
  | .prod i j => [(i : Int), (j : Int)]
  | .scaled c i => [c, (i : Int)]
  | .choose i j l => [(i : Int), (j : Int), (l : Int)]
def NdAt (H : Hp) (a : Addr) (n : Nd) : Prop := H a = some (.tup (.str (ndTag n) :: (ndArgs n).map V.int))
def SrcAt (H : Hp) (a : Addr) (ns : List Nd) : Prop := ∃ as : List Addr, H a = some (.tup (as.map V.ref)) ∧ Al (NdAt H) as ns
def TkAt (H : Hp) (a : Addr) (x : Tk) : Prop := ∃ fa, H a = some (.tup [.int (x.k : Int), .int x.t, .int x.c, .ref fa, .int x.sp]) ∧ FacsAt H fa x.fs
section
variable {H H' : Hp} {a : Addr}
theorem FacAt.mono (t : TS H H') {f : Fac} (h : FacAt H a f) : FacAt H' a f := t _ _ h
theorem FacsAt.mono (t : TS H H') {fs : List Fac} (h : FacsAt H a fs) : FacsAt H' a fs := let ⟨as, e, q⟩ := h; ⟨as, t _ _ e, q.mono fun _ _ z => z.mono t⟩
theorem StpAt.mono (t : TS H H') {s : Stp} (h : StpAt H a s) : StpAt H' a s := let ⟨fa, e, q⟩ := h; ⟨fa, t _ _ e, q.mono t⟩
theorem NdAt.mono (t : TS H H') {n : Nd} (h : NdAt H a n) : NdAt H' a n := t _ _ h
theorem SrcAt.mono (t : TS H H') {ns : List Nd} (h : SrcAt H a ns) : SrcAt H' a ns := let ⟨as, e, q⟩ := h; ⟨as, t _ _ e, q.mono fun _ _ z => z.mono t⟩
theorem TkAt.mono (t : TS H H') {x : Tk} (h : TkAt H a x) : TkAt H' a x := let ⟨fa, e, q⟩ := h; ⟨fa, t _ _ e, q.mono t⟩
end

/-! ### a program object -/
def pf (md n : Int) (l : Addr) : List (Str × V) := putF "steps" (.ref l) (putF "inputs" (.int n) (putF "cells" (.int 3) (putF "modulus" (.int md) [])))
theorem n_cm : ¬ (("cells" : Str) = "modulus") := by decide +kernel
theorem n_im : ¬ (("inputs" : Str) = "modulus") := by decide +kernel
theorem n_ic : ¬ (("inputs" : Str) = "cells") := by decide +kernel
theorem n_sm : ¬ (("steps" : Str) = "modulus") := by decide +kernel
theorem n_sc : ¬ (("steps" : Str) = "cells") := by decide +kernel
theorem n_si : ¬ (("steps" : Str) = "inputs") := by decide +kernel
section
variable {md n : Int} {l : Addr}
theorem pf_modulus : (pf md n l).lookup ("modulus" : Str) = some (.int md) := by
  unfold pf
  rw [lookup_putF, if_neg (Ne.symm n_sm), lookup_putF, if_neg (Ne.symm n_im), lookup_putF, if_neg (Ne.symm n_cm), lookup_putF, if_pos rfl]
theorem pf_cells : (pf md n l).lookup ("cells" : Str) = some (.int 3) := by
  unfold pf
  rw [lookup_putF, if_neg (Ne.symm n_sc), lookup_putF, if_neg (Ne.symm n_ic), lookup_putF, if_pos rfl]
theorem pf_inputs : (pf md n l).lookup ("inputs" : Str) = some (.int n) := by
  unfold pf
  rw [lookup_putF, if_neg (Ne.symm n_si), lookup_putF, if_pos rfl]
theorem pf_steps : (pf md n l).lookup ("steps" : Str) = some (.ref l) := by
  unfold pf
  rw [lookup_putF, if_pos rfl]
theorem pf_no {m : Str} (h1 : ¬ m = "steps") (h2 : ¬ m = "inputs") (h3 : ¬ m = "cells") (h4 : ¬ m = "modulus") : (pf md n l).lookup m = none := by
  unfold pf
  rw [lookup_putF, if_neg h1, lookup_putF, if_neg h2, lookup_putF, if_neg h3, lookup_putF, if_neg h4]
  all_goals rfl
end
/-- at p a Program with the modulus md, 3 cells, n inputs and the steps ss, its list at l -/
def ProgAt (C : Addr) (H : Hp) (p l : Addr) (md n : Int) (ss : List Stp) : Prop :=
  ∃ (dx : Addr) (as : List Addr), H p = some (.ins C dx (pf md n l)) ∧ H l = some (.lst (as.map V.ref)) ∧ Al (StpAt H) as ss
theorem ProgAt.exc {C : Addr} {H H' : Hp} {p l d : Addr} {md n : Int} {ss : List Stp} (h : ProgAt C H p l md n ss) (t : TS H H') (x : Exc d H H') (hp : p ≠ d) (hl : l ≠ d) : ProgAt C H' p l md n ss :=
  let ⟨dx, as, e1, e2, q⟩ := h
  ⟨dx, as, x _ _ e1 hp, x _ _ e2 hl, q.mono fun _ _ z => z.mono t⟩
theorem ProgAt.same {C : Addr} {H H' : Hp} {p l : Addr} {md n : Int} {ss : List Stp} (h : ProgAt C H p l md n ss) (s : Same H H') : ProgAt C H' p l md n ss :=
  let ⟨dx, as, e1, e2, q⟩ := h
  ⟨dx, as, s _ _ e1, s _ _ e2, q.mono fun _ _ z => z.mono (Same.ts s)⟩

/-! ### the facts of the top -/
structure Txt (K : PySem.W.Frag) (mg : Str → Option Value) : Prop where
  isi : mg "isinstance" = none
  int : mg "int" = none
  bool : mg "bool" = none
  list : mg "list" = none
  tuple : mg "tuple" = none
  str : mg "str" = none
  len : mg "len" = none
  max : mg "max" = none
  min : mg "min" = none
  range : mg "range" = none
  enumerate : mg "enumerate" = none
  FACTORS : ∃ u, mg "FACTORS" = some u ∧ RelV (.int 3) u
  MODULUS : ∃ u, mg "MODULUS" = some u ∧ RelV (.int 1000000000) u
  CELLS : ∃ u, mg "CELLS" = some u ∧ RelV (.int 60) u
  INPUTSp : ∃ u, mg "INPUTS_programs" = some u ∧ RelV (.int 60) u
  STEPS : ∃ u, mg "STEPS" = some u ∧ RelV (.int 20000) u
  NODES : ∃ u, mg "NODES" = some u ∧ RelV (.int 200) u
  CONSTANT : ∃ u, mg "CONSTANT" = some u ∧ RelV (.int 1000000000) u
  INPUTSs : ∃ u, mg "INPUTS_sources" = some u ∧ RelV (.int 60) u
  MOST : ∃ u, mg "MOST" = some u ∧ RelV (.int 20000) u
/-- the class Program -/
structure Pcl (K : PySem.W.Frag) (C : Addr) : Prop where
  cl : Cls K C
  nM : NoAttr K C "modulus"
  nC : NoAttr K C "cells"
  nI : NoAttr K C "inputs"
  nS : NoAttr K C "steps"
/-- a def of the module under its own name -/
structure Df (K : PySem.W.Frag) (mg : Str → Option Value) (x : Str) (st : Stmt) (ps : List Str) : Prop where
  ex : ∃ (f : Addr) (fd : FuncData), Fun K x x st f fd ∧ mg x = some (.ref f) ∧ Binds K fd ps []
section
variable {P : Program} {w : World} {K : PySem.W.Frag} {mg : Str → Option Value} {base : Heap}
theorem Df.ok {x : Str} {st : Stmt} {N ps : List Str} {k : Nat} {sp : Sp} (D : Df K mg x st ps) (S : FnScope N ps (defScope st)) (len : ∀ vs H Q E, sp vs H Q E → vs.length = ps.length)
    (hbody : ∀ (f : Addr) (cdv : Value) (A : Around) (outer : List Env) (s : Shared) (H : Hp) (vs : List V) (Q : VK) (E : XK), Room k (A.deeper (envOfC x (defScope st) s.heap.objs.size f cdv)) → sp vs H Q E →
      ∃ t, PSs (cxOf CX0 P w K mg base N x (defScope st) f cdv A outer s H E).nox (defBody st) t ∧ t { nx := fun _ H' => Q .non H', rt := Q } (start N vs) H) : C8.Cal P w K mg base (k + 1) x sp [] := by
  obtain ⟨f, fd, F, hm, b⟩ := D.ex
  exact ⟨f, fd, ps, [], F.ok S len fun cdv A outer s H vs Q E hr h => hbody f cdv A outer s H vs Q E hr h, hm, F.kp, b, .nil⟩
end
/-! ### tests, answered -/
theorem d_t {p : Prop} [Decidable p] (h : p) : V.bl (decide p) = V.bl true := by rw [decide_eq_true h]
theorem d_f {p : Prop} [Decidable p] (h : ¬ p) : V.bl (decide p) = V.bl false := by rw [decide_eq_false h]
theorem m_f {p : Prop} [Decidable p] (h : p) : V.bl (!decide p) = V.bl false := by rw [decide_eq_true h]; rfl
theorem m_t {p : Prop} [Decidable p] (h : ¬ p) : V.bl (!decide p) = V.bl true := by rw [decide_eq_false h]; rfl
theorem ine {i j : Int} (h : ¬ i = j) : ¬ V.int i = V.int j := fun e => h (V.int.inj e)
theorem ieq {i j : Int} (h : i = j) : V.int i = V.int j := congrArg V.int h
theorem s_ne {x y : Str} (h : ¬ x = y) : ¬ V.str x = V.str y := fun e => h (V.str.inj e)
theorem s_ic : ¬ (("input" : Str) = "cell") := by decide +kernel
theorem s_ci : ¬ (("cell" : Str) = "input") := by decide +kernel
theorem s_at : ¬ (("add" : Str) = "table") := by decide +kernel
/-- the tag of a node is the word w, or not -/
theorem t_const (n : Nd) : ndTag n = "const" ↔ ∃ c, n = .const c := by
  cases n with
  | const c => exact ⟨fun _ => ⟨c, rfl⟩, fun _ => rfl⟩
  | inp k => exact ⟨fun h => absurd h (by show ¬ (("input" : Str) = "const"); decide +kernel), fun ⟨_, h⟩ => by cases h⟩
  | sum i j => exact ⟨fun h => absurd h (by show ¬ (("sum" : Str) = "const"); decide +kernel), fun ⟨_, h⟩ => by cases h⟩
  | prod i j => exact ⟨fun h => absurd h (by show ¬ (("product" : Str) = "const"); decide +kernel), fun ⟨_, h⟩ => by cases h⟩
  | scaled c i => exact ⟨fun h => absurd h (by show ¬ (("scaled" : Str) = "const"); decide +kernel), fun ⟨_, h⟩ => by cases h⟩
  | choose i j l => exact ⟨fun h => absurd h (by show ¬ (("choose" : Str) = "const"); decide +kernel), fun ⟨_, h⟩ => by cases h⟩
theorem t_input (n : Nd) : ndTag n = "input" ↔ ∃ k, n = .inp k := by
  cases n with
  | const c => exact ⟨fun h => absurd h (by show ¬ (("const" : Str) = "input"); decide +kernel), fun ⟨_, h⟩ => by cases h⟩
  | inp k => exact ⟨fun _ => ⟨k, rfl⟩, fun _ => rfl⟩
  | sum i j => exact ⟨fun h => absurd h (by show ¬ (("sum" : Str) = "input"); decide +kernel), fun ⟨_, h⟩ => by cases h⟩
  | prod i j => exact ⟨fun h => absurd h (by show ¬ (("product" : Str) = "input"); decide +kernel), fun ⟨_, h⟩ => by cases h⟩
  | scaled c i => exact ⟨fun h => absurd h (by show ¬ (("scaled" : Str) = "input"); decide +kernel), fun ⟨_, h⟩ => by cases h⟩
  | choose i j l => exact ⟨fun h => absurd h (by show ¬ (("choose" : Str) = "input"); decide +kernel), fun ⟨_, h⟩ => by cases h⟩
theorem t_scaled (n : Nd) : ndTag n = "scaled" ↔ ∃ c i, n = .scaled c i := by
  cases n with
  | const c => exact ⟨fun h => absurd h (by show ¬ (("const" : Str) = "scaled"); decide +kernel), fun ⟨_, _, h⟩ => by cases h⟩
  | inp k => exact ⟨fun h => absurd h (by show ¬ (("input" : Str) = "scaled"); decide +kernel), fun ⟨_, _, h⟩ => by cases h⟩
  | sum i j => exact ⟨fun h => absurd h (by show ¬ (("sum" : Str) = "scaled"); decide +kernel), fun ⟨_, _, h⟩ => by cases h⟩
  | prod i j => exact ⟨fun h => absurd h (by show ¬ (("product" : Str) = "scaled"); decide +kernel), fun ⟨_, _, h⟩ => by cases h⟩
  | scaled c i => exact ⟨fun _ => ⟨c, i, rfl⟩, fun _ => rfl⟩
  | choose i j l => exact ⟨fun h => absurd h (by show ¬ (("choose" : Str) = "scaled"); decide +kernel), fun ⟨_, _, h⟩ => by cases h⟩
theorem t_sum (n : Nd) : ndTag n = "sum" ↔ ∃ i j, n = .sum i j := by
  cases n with
  | const c => exact ⟨fun h => absurd h (by show ¬ (("const" : Str) = "sum"); decide +kernel), fun ⟨_, _, h⟩ => by cases h⟩
  | inp k => exact ⟨fun h => absurd h (by show ¬ (("input" : Str) = "sum"); decide +kernel), fun ⟨_, _, h⟩ => by cases h⟩
  | sum i j => exact ⟨fun _ => ⟨i, j, rfl⟩, fun _ => rfl⟩
  | prod i j => exact ⟨fun h => absurd h (by show ¬ (("product" : Str) = "sum"); decide +kernel), fun ⟨_, _, h⟩ => by cases h⟩
  | scaled c i => exact ⟨fun h => absurd h (by show ¬ (("scaled" : Str) = "sum"); decide +kernel), fun ⟨_, _, h⟩ => by cases h⟩
  | choose i j l => exact ⟨fun h => absurd h (by show ¬ (("choose" : Str) = "sum"); decide +kernel), fun ⟨_, _, h⟩ => by cases h⟩
theorem t_product (n : Nd) : ndTag n = "product" ↔ ∃ i j, n = .prod i j := by
  cases n with
  | const c => exact ⟨fun h => absurd h (by show ¬ (("const" : Str) = "product"); decide +kernel), fun ⟨_, _, h⟩ => by cases h⟩
  | inp k => exact ⟨fun h => absurd h (by show ¬ (("input" : Str) = "product"); decide +kernel), fun ⟨_, _, h⟩ => by cases h⟩
  | sum i j => exact ⟨fun h => absurd h (by show ¬ (("sum" : Str) = "product"); decide +kernel), fun ⟨_, _, h⟩ => by cases h⟩
  | prod i j => exact ⟨fun _ => ⟨i, j, rfl⟩, fun _ => rfl⟩
  | scaled c i => exact ⟨fun h => absurd h (by show ¬ (("scaled" : Str) = "product"); decide +kernel), fun ⟨_, _, h⟩ => by cases h⟩
  | choose i j l => exact ⟨fun h => absurd h (by show ¬ (("choose" : Str) = "product"); decide +kernel), fun ⟨_, _, h⟩ => by cases h⟩
/-! ### isinstance, answered -/
theorem b_int : bootBuiltins "int" = some (.type "int") := by decide +kernel
theorem b_bool : bootBuiltins "bool" = some (.type "bool") := by decide +kernel
theorem b_list : bootBuiltins "list" = some (.type "list") := by decide +kernel
theorem b_tuple : bootBuiltins "tuple" = some (.type "tuple") := by decide +kernel
theorem b_str : bootBuiltins "str" = some (.type "str") := by decide +kernel
theorem kII : kitB "int" "int" = some true := by decide +kernel
theorem kIB : kitB "int" "bool" = some false := by decide +kernel
theorem kIL : kitB "int" "list" = some false := by decide +kernel
theorem kIT : kitB "int" "tuple" = some false := by decide +kernel
theorem kLL : kitB "list" "list" = some true := by decide +kernel
theorem kTT : kitB "tuple" "tuple" = some true := by decide +kernel
theorem kSS : kitB "str" "str" = some true := by decide +kernel
section
variable {K : PySem.W.Frag} {H : Hp} {Q : VK}
theorem isi_int {i : Int} {T : String} {b : Bool} (h : kitB "int" T = some b) (q : Q (.bl b) H) : rIsi K [.int i, .ty T] H Q := ⟨_, _, _, _, b, rfl, .ty T, .base (.int i), kit_ty h, q⟩
theorem isi_str {x : Str} {T : String} {b : Bool} (h : kitB "str" T = some b) (q : Q (.bl b) H) : rIsi K [.str x, .ty T] H Q := ⟨_, _, _, _, b, rfl, .ty T, .base (.str x), kit_ty h, q⟩
theorem isi_lst {a : Addr} {xs : List V} {T : String} {b : Bool} (e : H a = some (.lst xs)) (h : kitB "list" T = some b) (q : Q (.bl b) H) : rIsi K [.ref a, .ty T] H Q := ⟨_, _, _, _, b, rfl, .ty T, .base (.lst e), kit_ty h, q⟩
theorem isi_tup {a : Addr} {xs : List V} {T : String} {b : Bool} (e : H a = some (.tup xs)) (h : kitB "tuple" T = some b) (q : Q (.bl b) H) : rIsi K [.ref a, .ty T] H Q := ⟨_, _, _, _, b, rfl, .ty T, .base (.tup e), kit_ty h, q⟩
end
section
variable {X : Cx} {pos p : Pos} {e : Expr} {te : TE}
def tIsi (K : PySem.W.Frag) (n : String) (te : TE) : TE := fun σ H Q => te σ H fun x H1 => rIsi K [x, .ty n] H1 Q
/-- isinstance(e, T), T a built-in class by its name -/
theorem pe_isi {T : Str} {n : String} {p2 : Pos} (he : PE X e te) (h1 : X.mg "isinstance" = none) (h2 : X.mg T = none) (hv : bootBuiltins T = some (.type n)) (g1 : Gl X "isinstance" := by rfl) (g2 : Gl X T := by rfl)
    (hn : T ≠ "__name__" := by decide) (hd : (T == ("__debug__" : Str)) = false := by decide)
    (s1 : starEach [e, .Name T p2] X.env = (false, eval e X.env) :: starEach [.Name T p2] X.env := by rfl) (s2 : starEach [.Name T p2] X.env = (false, eval (.Name T p2) X.env) :: starEach [] X.env := by rfl)
    (s3 : (backTo pos (starEach [.Name T p2] X.env)).any (·.1) = false := by rfl) :
    PE X (.Call (.Name "isinstance" p) [e, .Name T p2] [] pos) (tIsi X.K n te) :=
  pe_callB call_isi g1 h1 (by decide +kernel) (pa_cons he (pa_cons (pe_bltn (v := .ty n) g2 h2 hv rfl hn hd) pa_nil s2) s1) (by decide) (by decide) s1 s3
end
end Bk

namespace Bk
open PySem PySem.Spec PyProof.Rows L2
section
variable {P : Program} {w : World} {K : PySem.W.Frag} {mg : Str → Option Value} {base : Heap}
/-! ### is_integer, is_number -/
def spIsInteger : Sp := fun vs H Q _ => ∃ i : Int, vs = [.int i] ∧ Q (.bl true) H
theorem scIsInteger : FnScope ["value"] ["value"] (defScope sIsInteger) := ⟨rfl, rfl, rfl, by decide +kernel, rfl, by decide +kernel, by decide +kernel⟩
theorem ok_is_integer (D : Df K mg "is_integer" sIsInteger ["value"]) (T : Txt K mg) : C8.Cal P w K mg base 1 "is_integer" spIsInteger [] := by
  refine D.ok scIsInteger (fun vs H Q E h => ?_) (fun f cdv A outer s H vs Q E hr h => ?_)
  · obtain ⟨i, rfl, _⟩ := h
    rfl
  · obtain ⟨i, rfl, k⟩ := h
    refine ⟨_, pss_one (ps_ret (pe_and (pe_isi (pv 0) T.isi T.int b_int) (pe_one (pe_not (pe_isi (pv 0) T.isi T.bool b_bool))))), ?_⟩
    exact ⟨_, rfl, isi_int kII ⟨true, rfl, iteT ⟨_, rfl, isi_int kIB ⟨false, rfl, k⟩⟩⟩⟩
def spIsNumber : Sp := fun vs H Q _ => ∃ i m : Int, vs = [.int i, .int m] ∧ 0 ≤ i ∧ i < m ∧ Q (.bl true) H
theorem scIsNumber : FnScope ["value", "modulus"] ["value", "modulus"] (defScope sIsNumber) := ⟨rfl, rfl, rfl, by decide +kernel, rfl, by decide +kernel, by decide +kernel⟩
theorem ok_is_number (D : Df K mg "is_number" sIsNumber ["value", "modulus"]) (c1 : C8.Cal P w K mg base 1 "is_integer" spIsInteger []) : C8.Cal P w K mg base 2 "is_number" spIsNumber [] := by
  refine D.ok scIsNumber (fun vs H Q E h => ?_) (fun f cdv A outer s H vs Q E hr h => ?_)
  · obtain ⟨i, m, rfl, _⟩ := h
    rfl
  · obtain ⟨i, m, rfl, h0, h1, k⟩ := h
    refine ⟨_, pss_one (ps_ret (pe_and (C8.pe_c c1 hr (by decide) rfl (pa_cons (pv 0) pa_nil)) (pe_one (pe_chain op_le op_lt pe_int (pv 0) (pv 1))))), ?_⟩
    refine ⟨_, rfl, i, rfl, true, rfl, iteT ⟨_, rfl, _, _, rfl, rfl, _, rfl, ?_⟩⟩
    rw [decide_eq_true h0]
    refine iteT ⟨_, rfl, _, _, rfl, rfl, ?_⟩
    show Q (V.bl (decide (i < m))) H
    rw [decide_eq_true h1]
    exact k
end
end Bk

namespace Bk
open PySem PySem.Spec PyProof.Rows L2
section
variable {P : Program} {w : World} {K : PySem.W.Frag} {mg : Str → Option Value} {base : Heap}
/-! ### is_factor -/
def spIsFactor : Sp := fun vs H Q _ => ∃ (a : Addr) (f : Fac) (t n : Int), vs = [.ref a, .int t, .int 3, .int n] ∧ FacAt H a f ∧ FacOk t n f ∧ Q (.bl true) H
theorem scIsFactor : FnScope ["factor", "target", "cells", "inputs"] ["factor", "target", "cells", "inputs"] (defScope sIsFactor) := ⟨rfl, rfl, rfl, by decide +kernel, rfl, by decide +kernel, by decide +kernel⟩
theorem ok_is_factor (D : Df K mg "is_factor" sIsFactor ["factor", "target", "cells", "inputs"]) (T : Txt K mg) (c1 : C8.Cal P w K mg base 2 "is_number" spIsNumber []) : C8.Cal P w K mg base 3 "is_factor" spIsFactor [] := by
  refine D.ok scIsFactor (fun vs H Q E h => ?_) (fun f cdv A outer s H vs Q E hr h => ?_)
  · obtain ⟨a, f, t, n, rfl, _⟩ := h
    rfl
  · obtain ⟨a, f, t, n, rfl, hA, hO, k⟩ := h
    refine ⟨_, pss_cons (ps_if (PW.pt (pw_or (pt_not (pt_val (pe_isi (pv 0) T.isi T.tuple b_tuple))) (pw_or1 (pt_cmpR op_ne (pe_callB call_len_seq (by rfl) T.len PySem.boot_len (pa_cons (pv 0) pa_nil)) pe_int (nomark _))))) pss_never pss_nil)
      (pss_cons (ps_if (pt_cmpR op_eq (pe_ix ix_tup (pv 0) pe_int (fun _ _ => rfl)) pe_str (nomark _))
        (pss_one (ps_ret (pe_and (C8.pe_c c1 hr (by decide) rfl (pa_cons (pe_ix ix_tup (pv 0) pe_int (fun _ _ => rfl)) (pa_cons (pv 2) pa_nil))) (pe_one (pe_cmpR op_ne (pe_ix ix_tup (pv 0) pe_int (fun _ _ => rfl)) (pv 1) (nomark _)))))) pss_nil)
      (pss_one (ps_ret (pe_and (pe_cmpR op_eq (pe_ix ix_tup (pv 0) pe_int (fun _ _ => rfl)) pe_str (nomark _)) (pe_one (C8.pe_c c1 hr (by decide) rfl (pa_cons (pe_ix ix_tup (pv 0) pe_int (fun _ _ => rfl)) (pa_cons (pv 3) pa_nil)))))))), ?_⟩
    refine ⟨_, rfl, isi_tup hA kTT ⟨true, rfl, iteF ⟨_, rfl, a, _, rfl, .inr (SqT.of hA), rfl, false, m_f rfl, iteF ?_⟩⟩⟩
    refine ⟨_, rfl, a, _, _, _, rfl, rfl, SqT.of hA, rfl, ?_⟩
    cases f with
    | cell i =>
      refine ⟨rfl, true, d_t rfl, iteT ?_⟩
      refine ⟨_, rfl, a, _, _, _, rfl, rfl, SqT.of hA, rfl, _, rfl, _, _, rfl, hO.1, hO.2.1, true, rfl, iteT ?_⟩
      refine ⟨_, rfl, a, _, _, _, rfl, rfl, SqT.of hA, rfl, _, rfl, rfl, ?_⟩
      exact Eq.mpr (congrArg (fun z => Q z H) (m_t (ine hO.2.2))) k
    | inp q =>
      refine ⟨rfl, false, d_f (s_ne s_ic), iteF ?_⟩
      refine ⟨_, rfl, a, _, _, _, rfl, rfl, SqT.of hA, rfl, rfl, true, d_t rfl, iteT ?_⟩
      exact ⟨_, rfl, a, _, _, _, rfl, rfl, SqT.of hA, rfl, _, rfl, _, _, rfl, hO.1, hO.2, k⟩
/-! ### is_add -/
def spIsAdd : Sp := fun vs H Q _ => ∃ (a : Addr) (s : Stp) (md n : Int), vs = [.ref a, .int md, .int 3, .int n] ∧ StpAt H a s ∧ StpOk md n s ∧ Q (.bl true) H
theorem scIsAdd : FnScope ["step", "modulus", "cells", "inputs", "_", "target", "coefficient", "factors", "factor"] ["step", "modulus", "cells", "inputs"] (defScope sIsAdd) := ⟨rfl, rfl, rfl, by decide +kernel, rfl, by decide +kernel, by decide +kernel⟩
theorem ok_is_add (D : Df K mg "is_add" sIsAdd ["step", "modulus", "cells", "inputs"]) (T : Txt K mg) (c1 : C8.Cal P w K mg base 2 "is_number" spIsNumber []) (c2 : C8.Cal P w K mg base 3 "is_factor" spIsFactor []) : C8.Cal P w K mg base 4 "is_add" spIsAdd [] := by
  refine D.ok scIsAdd (fun vs H Q E h => ?_) (fun f cdv A outer s H vs Q E hr h => ?_)
  · obtain ⟨a, s, md, n, rfl, _⟩ := h
    rfl
  · obtain ⟨a, st, md, n, rfl, ⟨fa, hA, as, hF, hL⟩, hO, k⟩ := h
    refine ⟨_, pss_cons (ps_asg (pv 0) (pg_tup rfl (pgs_cons (pg_name (i := 4) scIsAdd.nd rfl (.inl rfl)) (pgs_cons (pg_name (i := 5) scIsAdd.nd rfl (.inl rfl)) (pgs_cons (pg_name (i := 6) scIsAdd.nd rfl (.inl rfl)) (pgs_cons (pg_name (i := 7) scIsAdd.nd rfl (.inl rfl)) pgs_nil))))))
      (pss_cons (ps_if (PW.pt (pw_or (pt_not (pt_val (C8.pe_c c1 hr (by decide) rfl (pa_cons (pv 5) (pa_cons (pv 2) pa_nil))))) (pw_or1 (pt_not (pt_val (C8.pe_c c1 hr (by decide) rfl (pa_cons (pv 6) (pa_cons (pv 1) pa_nil)))))))) pss_never pss_nil)
      (pss_cons (ps_if (PW.pt (pw_or (pt_not (pt_val (pe_isi (pv 7) T.isi T.tuple b_tuple))) (pw_or1 (pt_cmpR op_gt (pe_callB call_len_seq (by rfl) T.len PySem.boot_len (pa_cons (pv 7) pa_nil)) (C8.pe_gc rfl T.FACTORS) (nomark _))))) pss_never pss_nil)
      (pss_cons (ps_for PassesOwn.never rfl (pi_tup (pv 7)) (pg_name (i := 8) scIsAdd.nd rfl (.inl rfl))
        (pss_one (ps_if (pt_not (pt_val (C8.pe_c c2 hr (by decide) rfl (pa_cons (pv 8) (pa_cons (pv 5) (pa_cons (pv 2) (pa_cons (pv 3) pa_nil))))))) pss_never pss_nil)))
      (pss_one (ps_ret pe_bl))))), ?_⟩
    refine ⟨_, rfl, a, _, rfl, SqT.of hA, rfl, _, _, rfl, _, _, rfl, _, _, rfl, _, _, rfl, rfl, ?_⟩
    refine ⟨_, rfl, _, rfl, _, _, rfl, hO.t0, hO.t3, true, rfl, iteF ⟨_, rfl, _, rfl, _, _, rfl, hO.c0, hO.cm, true, rfl, iteF ?_⟩⟩
    have el : (as.map V.ref).length = st.fs.length := by rw [List.length_map]; exact hL.length
    refine ⟨_, rfl, isi_tup hF kTT ⟨true, rfl, iteF ⟨_, rfl, fa, _, rfl, .inr (SqT.of hF), _, _, rfl, rfl, false, d_f (by rw [el]; have := hO.few; omega), iteF ?_⟩⟩⟩
    refine ⟨_, rfl, fa, rfl, ⟨_, SqT.of hF⟩, for_tup (K := K) (a := fa) (xs := as.map V.ref) (fun i σ H' => H' = H ∧ ∃ v, σ = [some (.ref a), some (.int md), some (.int 3), some (.int n), some (.str "add"), some (.int st.t), some (.int st.c), some (.ref fa), v]) ⟨rfl, none, rfl⟩ (fun i σ H' _ ⟨e, _⟩ => by rw [e]; exact SqT.of hF) ?_ ?_⟩
    · rintro i y σ H' hi ⟨rfl, v, rfl⟩
      obtain ⟨b, hb, rfl⟩ := ref_get hi
      obtain ⟨g, hg, hgA⟩ := hL.get hb
      exact ⟨_, rfl, _, rfl, _, rfl, _, rfl, b, g, _, _, rfl, hgA, hO.fac g (List.mem_of_getElem? hg), true, rfl, iteF ⟨rfl, _, rfl⟩⟩
    · rintro σ H' ⟨rfl, v, rfl⟩
      exact k
/-! ### is_step -/
theorem scIsStep : FnScope ["step", "modulus", "cells", "inputs"] ["step", "modulus", "cells", "inputs"] (defScope sIsStep) := ⟨rfl, rfl, rfl, by decide +kernel, rfl, by decide +kernel, by decide +kernel⟩
theorem ok_is_step (D : Df K mg "is_step" sIsStep ["step", "modulus", "cells", "inputs"]) (T : Txt K mg) (c1 : C8.Cal P w K mg base 4 "is_add" spIsAdd []) : C8.Cal P w K mg base 5 "is_step" spIsAdd [] := by
  refine D.ok scIsStep (fun vs H Q E h => ?_) (fun f cdv A outer s H vs Q E hr h => ?_)
  · obtain ⟨a, s, md, n, rfl, _⟩ := h
    rfl
  · obtain ⟨a, st, md, n, rfl, hS, hO, k⟩ := h
    obtain ⟨fa, hA, hF⟩ := id hS
    refine ⟨_, pss_cons (ps_if (PW.pt (pw_or (pt_not (pt_val (pe_isi (pv 0) T.isi T.tuple b_tuple))) (pw_or1 (pt_cmpR op_lt (pe_callB call_len_seq (by rfl) T.len PySem.boot_len (pa_cons (pv 0) pa_nil)) pe_int (nomark _))))) pss_never pss_nil)
      (pss_cons (ps_if (PW.pt (pw_and (pt_cmpR op_eq (pe_ix ix_tup (pv 0) pe_int (fun _ _ => rfl)) pe_str (nomark _)) (pw_and1 (pt_cmpR op_eq (pe_callB call_len_seq (by rfl) T.len PySem.boot_len (pa_cons (pv 0) pa_nil)) pe_int (nomark _)))))
        (pss_one (ps_ret (C8.pe_c c1 hr (by decide) rfl (pa_cons (pv 0) (pa_cons (pv 1) (pa_cons (pv 2) (pa_cons (pv 3) pa_nil))))))) pss_nil)
      pss_never), ?_⟩
    refine ⟨_, rfl, isi_tup hA kTT ⟨true, rfl, iteF ⟨_, rfl, a, _, rfl, .inr (SqT.of hA), _, _, rfl, rfl, false, rfl, iteF ?_⟩⟩⟩
    refine ⟨_, rfl, a, _, _, _, rfl, rfl, SqT.of hA, rfl, rfl, true, d_t rfl, iteT ⟨_, rfl, a, _, rfl, .inr (SqT.of hA), rfl, true, d_t rfl, iteT ?_⟩⟩
    exact ⟨_, rfl, _, rfl, _, rfl, _, rfl, a, st, _, _, rfl, hS, hO, k⟩
/-! ### inverse_step -/
def spInverse : Sp := fun vs H Q _ => ∃ (a : Addr) (s : Stp) (md : Int), vs = [.ref a, .int md] ∧ StpAt H a s ∧ 0 < md ∧ ∀ (p : Addr) (H' : Hp), Same H H' → StpAt H' p (inv md s) → Q (.ref p) H'
theorem scInverse : FnScope ["step", "modulus"] ["step", "modulus"] (defScope sInverseStep) := ⟨rfl, rfl, rfl, by decide +kernel, rfl, by decide +kernel, by decide +kernel⟩
theorem ok_inverse (D : Df K mg "inverse_step" sInverseStep ["step", "modulus"]) : C8.Cal P w K mg base 1 "inverse_step" spInverse [] := by
  refine D.ok scInverse (fun vs H Q E h => ?_) (fun f cdv A outer s H vs Q E hr h => ?_)
  · obtain ⟨a, s, md, rfl, _⟩ := h
    rfl
  · obtain ⟨a, st, md, rfl, hS, hm, k⟩ := h
    obtain ⟨fa, hA, hF⟩ := id hS
    refine ⟨_, pss_cons (ps_if (pt_cmpR op_eq (pe_ix ix_tup (pv 0) pe_int (fun _ _ => rfl)) pe_str (nomark _))
        (pss_one (ps_ret (pe_tup (pa_cons pe_str (pa_cons (pe_ix ix_tup (pv 0) pe_int (fun _ _ => rfl)) (pa_cons (pe_op op_mod (pe_un un_neg (pe_ix ix_tup (pv 0) pe_int (fun _ _ => rfl))) (pv 1)) (pa_cons (pe_ix ix_tup (pv 0) pe_int (fun _ _ => rfl)) pa_nil))))))) pss_nil)
      pss_never, ?_⟩
    refine ⟨_, rfl, a, _, _, _, rfl, rfl, SqT.of hA, rfl, rfl, true, d_t rfl, iteT ?_⟩
    refine ⟨_, rfl, a, _, _, _, rfl, rfl, SqT.of hA, rfl, _, rfl, a, _, _, _, rfl, rfl, SqT.of hA, rfl, _, rfl, _, rfl, _, _, rfl, rfl, hm, _, rfl, a, _, _, _, rfl, rfl, SqT.of hA, rfl, (by show 4 ≤ sizeLine; decide), fun p hp => ?_⟩
    exact k p _ (Same.new hp) ⟨fa, upd_same, hF.mono (TS.new hp)⟩
end
end Bk

namespace Bk
open PySem PySem.Spec PyProof.Rows L2
theorem tot_take {md : Int} {mem giv : List Int} {c : Int} {fs : List Fac} {i : Nat} {f : Fac} (h : fs[i]? = some f) : tot md mem giv c (fs.take (i + 1)) = tot md mem giv c (fs.take i) * fval mem giv f % md := by
  have e : fs.take (i + 1) = fs.take i ++ [f] := by rw [List.take_add_one, h]; rfl
  unfold tot
  rw [e, List.foldl_append]
  rfl
theorem tot_range {md : Int} (hm : 0 < md) {mem giv : List Int} {c : Int} (h0 : 0 ≤ c) (h1 : c < md) (fs : List Fac) : 0 ≤ tot md mem giv c fs ∧ tot md mem giv c fs < md := by
  have key : ∀ (fs : List Fac) (c : Int), 0 ≤ c → c < md → 0 ≤ tot md mem giv c fs ∧ tot md mem giv c fs < md := by
    intro fs
    induction fs with
    | nil => intro c h0 h1; exact ⟨h0, h1⟩
    | cons f r ih => intro c _ _; exact ih _ (Int.emod_nonneg _ (by omega)) (Int.emod_lt_of_pos _ hm)
  exact key fs c h0 h1
theorem getD_of {l : List Int} {i : Nat} {v : Int} (h : l[i]? = some v) : l.getD i 0 = v := by rw [List.getD_eq_getElem?_getD, h]; rfl
theorem int_at {ns : List Int} {i : Int} {v : Int} (h0 : 0 ≤ i) (h : ns[i.toNat]? = some v) : atI (ns.map V.int) i = some (.int v) := at_of (j := i.toNat) (by omega) (by rw [List.getElem?_map, h]; rfl)
theorem get_of_lt {ns : List Int} {i : Int} (h0 : 0 ≤ i) (h1 : i < (ns.length : Int)) : ∃ v, ns[i.toNat]? = some v := ⟨ns[i.toNat]'(by omega), List.getElem?_eq_getElem (by omega)⟩
section
variable {P : Program} {w : World} {K : PySem.W.Frag} {mg : Str → Option Value} {base : Heap}
/-! ### perform -/
def spPerform : Sp := fun vs H Q _ => ∃ (a m g : Addr) (s : Stp) (md n : Int) (mem giv : List Int), vs = [.ref a, .ref m, .ref g, .int md] ∧ StpAt H a s ∧ StpOk md n s ∧ H m = some (.lst (mem.map V.int)) ∧ H g = some (.lst (giv.map V.int)) ∧
  0 < md ∧ md ≤ 1000000000 ∧ mem.length = 3 ∧ (giv.length : Int) = n ∧ Q .non (upd H m (.lst ((perf md giv mem s).map V.int)))
theorem scPerform : FnScope ["step", "memory", "given", "modulus", "total", "kind", "index"] ["step", "memory", "given", "modulus"] (defScope sPerform) := ⟨rfl, rfl, rfl, by decide +kernel, rfl, by decide +kernel, by decide +kernel⟩
theorem ok_perform (D : Df K mg "perform" sPerform ["step", "memory", "given", "modulus"]) : C8.Cal P w K mg base 1 "perform" spPerform [] := by
  refine D.ok scPerform (fun vs H Q E h => ?_) (fun f cdv A outer s H vs Q E hr h => ?_)
  · obtain ⟨a, m, g, s, md, n, mem, giv, rfl, _⟩ := h
    rfl
  · obtain ⟨a, m, g, st, md, n, mem, giv, rfl, ⟨fa, hA, as, hF, hL⟩, hO, hM, hG, hm0, hm9, l3, lg, k⟩ := h
    obtain ⟨vt, hvt⟩ := get_of_lt (ns := mem) hO.t0 (by have := hO.t3; omega)
    refine ⟨_, pss_one (ps_if (pt_cmpR op_eq (pe_ix ix_tup (pv 0) pe_int (fun _ _ => rfl)) pe_str (nomark _))
      (pss_cons (ps_set (i := 4) scPerform.nd rfl (Or.inl rfl) (pe_ix ix_tup (pv 0) pe_int (fun _ _ => rfl)))
      (pss_cons (ps_for PassesOwn.never rfl (pi_tup (pe_ix ix_tup (pv 0) pe_int (fun _ _ => rfl))) (pg_tup rfl (pgs_cons (pg_name (i := 5) scPerform.nd rfl (.inl rfl)) (pgs_cons (pg_name (i := 6) scPerform.nd rfl (.inl rfl)) pgs_nil)))
        (pss_one (ps_set (i := 4) scPerform.nd rfl (Or.inl rfl) (pe_op op_mod (pe_op op_mul (pv 4) (pe_ifExp (pt_cmpR op_eq (pv 5) pe_str (nomark _)) (pe_ix ix_list (pv 1) (pv 6) (fun _ _ => rfl)) (pe_ix ix_list (pv 2) (pv 6) (fun _ _ => rfl)))) (pv 3)))))
      (pss_one (ps_asg (pe_op op_mod (pe_op op_add (pe_ix ix_list (pv 1) (pe_ix ix_tup (pv 0) pe_int (fun _ _ => rfl)) (fun _ _ => rfl)) (pv 4)) (pv 3)) (pg_sub (pv 1) (pe_ix ix_tup (pv 0) pe_int (fun _ _ => rfl)) set_list)))))
      pss_never), ?_⟩
    refine ⟨_, rfl, a, _, _, _, rfl, rfl, SqT.of hA, rfl, rfl, true, d_t rfl, iteT ?_⟩
    refine ⟨_, rfl, a, _, _, _, rfl, rfl, SqT.of hA, rfl, ?_⟩
    refine ⟨_, rfl, a, _, _, _, rfl, rfl, SqT.of hA, rfl, fa, rfl, ⟨_, SqT.of hF⟩, for_tup (K := K) (a := fa) (xs := as.map V.ref) (fun i σ H' => H' = H ∧ ∃ v w, σ = [some (.ref a), some (.ref m), some (.ref g), some (.int md), some (.int (tot md mem giv st.c (st.fs.take i))), v, w]) ⟨rfl, none, none, rfl⟩ (fun i σ H' _ ⟨e, _⟩ => by rw [e]; exact SqT.of hF) ?_ ?_⟩
    · rintro i y σ H' hi ⟨rfl, v, w, rfl⟩
      obtain ⟨b, hb, rfl⟩ := ref_get hi
      obtain ⟨f, hf, hfA⟩ := hL.get hb
      have hfO := hO.fac f (List.mem_of_getElem? hf)
      have hr0 := tot_range hm0 (mem := mem) (giv := giv) hO.c0 hO.cm (st.fs.take i)
      refine ⟨b, _, rfl, SqT.of hfA, rfl, _, _, rfl, _, _, rfl, rfl, ?_⟩
      refine ⟨_, rfl, _, rfl, ?_⟩
      cases f with
      | cell q =>
        obtain ⟨u, hu⟩ := get_of_lt (ns := mem) (i := q) hfO.1 (by have := hfO.2.1; omega)
        refine ⟨rfl, true, d_t rfl, iteT ⟨_, rfl, _, rfl, m, _, _, _, rfl, rfl, SqL.of hM, int_at hfO.1 hu, _, _, rfl, rfl, .inl ⟨by omega, by omega⟩, _, rfl, _, _, rfl, rfl, hm0, ?_⟩⟩
        have ev : tot md mem giv st.c (st.fs.take (i + 1)) = tot md mem giv st.c (st.fs.take i) * u % md := by
          rw [tot_take hf]
          show _ * mem.getD q.toNat 0 % md = _
          rw [getD_of hu]
        refine ⟨rfl, some (.str "cell"), some (.int q), ?_⟩
        rw [ev]
        rfl
      | inp q =>
        obtain ⟨u, hu⟩ := get_of_lt (ns := giv) (i := q) hfO.1 (by rw [lg]; exact hfO.2)
        refine ⟨rfl, false, d_f (s_ne s_ic), iteF ⟨_, rfl, _, rfl, g, _, _, _, rfl, rfl, SqL.of hG, int_at hfO.1 hu, _, _, rfl, rfl, .inl ⟨by omega, by omega⟩, _, rfl, _, _, rfl, rfl, hm0, ?_⟩⟩
        have ev : tot md mem giv st.c (st.fs.take (i + 1)) = tot md mem giv st.c (st.fs.take i) * u % md := by
          rw [tot_take hf]
          show _ * giv.getD q.toNat 0 % md = _
          rw [getD_of hu]
        refine ⟨rfl, some (.str "input"), some (.int q), ?_⟩
        rw [ev]
        rfl
    · rintro σ H' ⟨rfl, v, w, rfl⟩
      have ef : st.fs.take (as.map V.ref).length = st.fs := List.take_of_length_le (by rw [List.length_map, hL.length]; exact Nat.le_refl _)
      refine ⟨_, rfl, _, rfl, a, _, _, _, rfl, rfl, SqT.of hA, rfl, m, _, _, _, rfl, rfl, SqL.of hM, int_at hO.t0 hvt, _, rfl, _, _, rfl, rfl, _, rfl, _, _, rfl, rfl, hm0, ?_⟩
      refine ⟨_, rfl, _, rfl, a, _, _, _, rfl, rfl, SqT.of hA, rfl, m, _, _, st.t.toNat, rfl, rfl, hM, ?_, ?_⟩
      · have h1 := hO.t0
        have h2 := hO.t3
        rw [List.length_map, l3]
        rcases (show st.t = 0 ∨ st.t = 1 ∨ st.t = 2 by omega) with e | e | e <;> rw [e] <;> rfl
      · have e : (mem.map V.int).set st.t.toNat (.int ((vt + tot md mem giv st.c (st.fs.take (as.map V.ref).length)) % md)) = (perf md giv mem st).map V.int := by
          unfold perf
          rw [List.map_set, ef, getD_of hvt]
        show Q V.non (upd _ m (.lst ((mem.map V.int).set st.t.toNat (.int ((vt + tot md mem giv st.c (st.fs.take (as.map V.ref).length)) % md)))))
        rw [e]
        exact k
/-! ### check_steps -/
def spCheckSteps : Sp := fun vs H Q _ => ∃ (l : Addr) (as : List Addr) (ss : List Stp) (md n most : Int), vs = [.ref l, .int md, .int 3, .int n, .int most] ∧ H l = some (.lst (as.map V.ref)) ∧ Al (StpAt H) as ss ∧ (∀ s ∈ ss, StpOk md n s) ∧ (ss.length : Int) ≤ most ∧ Q .non H
theorem scCheckSteps : FnScope ["steps", "modulus", "cells", "inputs", "most", "looks", "step"] ["steps", "modulus", "cells", "inputs", "most"] (defScope sCheckSteps) := ⟨rfl, rfl, rfl, by decide +kernel, rfl, by decide +kernel, by decide +kernel⟩
theorem ok_check_steps (D : Df K mg "check_steps" sCheckSteps ["steps", "modulus", "cells", "inputs", "most"]) (T : Txt K mg) (c1 : C8.Cal P w K mg base 5 "is_step" spIsAdd []) : C8.Cal P w K mg base 6 "check_steps" spCheckSteps [] := by
  refine D.ok scCheckSteps (fun vs H Q E h => ?_) (fun f cdv A outer s H vs Q E hr h => ?_)
  · obtain ⟨l, as, ss, md, n, most, rfl, _⟩ := h
    rfl
  · obtain ⟨l, as, ss, md, n, most, rfl, hl, hL, hO, hz, k⟩ := h
    have el : (as.map V.ref).length = ss.length := by rw [List.length_map]; exact hL.length
    refine ⟨_, pss_cons (ps_if (PW.pt (pw_or (pt_not (pt_val (pe_isi (pv 0) T.isi T.list b_list))) (pw_or1 (pt_cmpR op_gt (pe_callB call_len_seq (by rfl) T.len PySem.boot_len (pa_cons (pv 0) pa_nil)) (pv 4) (nomark _))))) pss_never pss_nil)
      (pss_cons (ps_set (i := 5) scCheckSteps.nd rfl (Or.inl rfl) pe_bl)
      (pss_cons (ps_for PassesOwn.never rfl (pi_list (pv 0)) (pg_name (i := 6) scCheckSteps.nd rfl (.inl rfl))
        (pss_cons (ps_if (pt_not (pt_val (C8.pe_c c1 hr (by decide) rfl (pa_cons (pv 6) (pa_cons (pv 1) (pa_cons (pv 2) (pa_cons (pv 3) pa_nil))))))) pss_never pss_nil)
        (pss_one (ps_set (i := 5) scCheckSteps.nd rfl (Or.inl rfl) (pe_or (pv 5) (pe_one (pe_cmpR op_eq (pe_ix ix_tup (pv 6) pe_int (fun _ _ => rfl)) pe_str (nomark _))))))))
      (pss_one (ps_if (PW.pt (pw_and (pt_val (pv 5)) (pw_and1 pt_nv))) pss_never pss_nil)))), ?_⟩
    refine ⟨_, rfl, isi_lst hl kLL ⟨true, rfl, iteF ⟨_, rfl, l, _, rfl, .inl (SqL.of hl), _, rfl, _, _, rfl, rfl, false, d_f (by rw [el]; omega), iteF ?_⟩⟩⟩
    refine ⟨_, rfl, l, rfl, ⟨_, SqL.of hl⟩, for_list (K := K) (a := l) (xs := as.map V.ref) (fun i σ H' => H' = H ∧ ∃ v, σ = [some (.ref l), some (.int md), some (.int 3), some (.int n), some (.int most), some (.bl false), v]) ⟨rfl, none, rfl⟩ (fun i σ H' _ ⟨e, _⟩ => by rw [e]; exact SqL.of hl) ?_ ?_⟩
    · rintro i y σ H' hi ⟨rfl, v, rfl⟩
      obtain ⟨b, hb, rfl⟩ := ref_get hi
      obtain ⟨st, hs, hsA⟩ := hL.get hb
      obtain ⟨fa, hA, _⟩ := id hsA
      refine ⟨_, rfl, _, rfl, _, rfl, _, rfl, b, st, _, _, rfl, hsA, hO st (List.mem_of_getElem? hs), true, rfl, iteF ?_⟩
      refine ⟨_, rfl, false, rfl, iteF ⟨_, rfl, b, _, _, _, rfl, rfl, SqT.of hA, rfl, rfl, ?_⟩⟩
      refine ⟨rfl, some (.ref b), ?_⟩
      show [_, _, _, _, _, some (V.bl (decide (V.str "add" = V.str "table"))), _] = _
      rw [d_f (s_ne s_at)]
    · rintro σ H' ⟨rfl, v, rfl⟩
      exact ⟨_, rfl, false, rfl, iteF (iteF k)⟩
/-! ### check_numbers -/
def spCheckNumbers : Sp := fun vs H Q _ => ∃ (l : Addr) (ns : List Int) (md many : Int), vs = [.ref l, .int many, .int md] ∧ H l = some (.lst (ns.map V.int)) ∧ (ns.length : Int) = many ∧ (∀ v ∈ ns, 0 ≤ v ∧ v < md) ∧ Q .non H
theorem scCheckNumbers : FnScope ["values", "many", "modulus", "value"] ["values", "many", "modulus"] (defScope sCheckNumbers) := ⟨rfl, rfl, rfl, by decide +kernel, rfl, by decide +kernel, by decide +kernel⟩
theorem ok_check_numbers (D : Df K mg "check_numbers" sCheckNumbers ["values", "many", "modulus"]) (T : Txt K mg) (c1 : C8.Cal P w K mg base 2 "is_number" spIsNumber []) : C8.Cal P w K mg base 3 "check_numbers" spCheckNumbers [] := by
  refine D.ok scCheckNumbers (fun vs H Q E h => ?_) (fun f cdv A outer s H vs Q E hr h => ?_)
  · obtain ⟨l, ns, md, many, rfl, _⟩ := h
    rfl
  · obtain ⟨l, ns, md, many, rfl, hl, hz, hO, k⟩ := h
    refine ⟨_, pss_cons (ps_if (PW.pt (pw_or (pt_not (pt_val (pe_isi (pv 0) T.isi T.list b_list))) (pw_or1 (pt_cmpR op_ne (pe_callB call_len_seq (by rfl) T.len PySem.boot_len (pa_cons (pv 0) pa_nil)) (pv 1) (nomark _))))) pss_never pss_nil)
      (pss_one (ps_for PassesOwn.never rfl (pi_list (pv 0)) (pg_name (i := 3) scCheckNumbers.nd rfl (.inl rfl))
        (pss_one (ps_if (pt_not (pt_val (C8.pe_c c1 hr (by decide) rfl (pa_cons (pv 3) (pa_cons (pv 2) pa_nil))))) pss_never pss_nil)))), ?_⟩
    refine ⟨_, rfl, isi_lst hl kLL ⟨true, rfl, iteF ⟨_, rfl, l, _, rfl, .inl (SqL.of hl), _, rfl, rfl, false, m_f (ieq (by rw [List.length_map]; exact hz)), iteF ?_⟩⟩⟩
    refine ⟨_, rfl, l, rfl, ⟨_, SqL.of hl⟩, for_list (K := K) (a := l) (xs := ns.map V.int) (fun i σ H' => H' = H ∧ ∃ v, σ = [some (.ref l), some (.int many), some (.int md), v]) ⟨rfl, none, rfl⟩ (fun i σ H' _ ⟨e, _⟩ => by rw [e]; exact SqL.of hl) ?_ ?_⟩
    · rintro i y σ H' hi ⟨rfl, v, rfl⟩
      obtain ⟨u, hu, rfl⟩ := int_get hi
      have hq := hO u (List.mem_of_getElem? hu)
      exact ⟨_, rfl, _, rfl, _, _, rfl, hq.1, hq.2, true, rfl, iteF ⟨rfl, _, rfl⟩⟩
    · rintro σ H' ⟨rfl, v, rfl⟩
      exact k
end
end Bk

namespace Bk
open PySem PySem.Spec PyProof.Rows L2
theorem Same.keep {H H' : Hp} {D : Addr} {o : HO} (s : Same H H') (h : H D = none) : Same H (upd H' D o) := fun b u e => by
  rw [upd_ne (ne_of_none e h)]
  exact s b u e
theorem fits {n : Nat} (h : n ≤ 100000) : n < sizeLine := Nat.lt_of_le_of_lt h (by decide)
theorem cut_to {xs : List V} {k : Int} (h0 : 0 ≤ k) (h1 : k ≤ (xs.length : Int)) : cutV xs none (some k) = xs.take k.toNat := by
  unfold cutV
  have e : k = ((k.toNat : Nat) : Int) := by omega
  have e1 : HT.sIx xs.length 0 none = 0 := HT.sIx_none _ _
  have e2 : HT.sIx xs.length xs.length (some k) = min k.toNat xs.length := by
    rw [e, HT.sIx_nat, Int.toNat_natCast]
  rw [e1, e2, List.drop_zero, Nat.sub_zero, Nat.min_eq_left (by omega)]
/-- a field, in a comprehension's block: the written part named -/
theorem pe_fldK {X : Cx} {K : PySem.W.Frag} {e : Expr} {f : Str} {pos : Pos} {ta : TE} (he : PE X e ta) (hb : attributeBase e f X.env (eval e X.env) = eval e X.env) (hK : X.K = K) : PE X (.Attribute e f pos) (tFld K ta f) := by
  subst hK
  exact pe_fld he hb
/-- a method of the class at C -/
structure Dm (K : PySem.W.Frag) (C : Addr) (x qual : Str) (st : Stmt) (ps : List Str) : Prop where
  ex : ∃ (f : Addr) (fd : FuncData), Fun K x qual st f fd ∧ Meth K C x f ∧ Binds K fd ps []
section
variable {P : Program} {w : World} {K : PySem.W.Frag} {mg : Str → Option Value} {base : Heap} {C : Addr}
theorem Dm.ok {x qual : Str} {st : Stmt} {N ps : List Str} {k : Nat} {sp : Sp} (D : Dm K C x qual st ps) (c : Cls K C) (S : FnScope N ps (defScope st)) (len : ∀ vs H Q E, sp vs H Q E → vs.length = ps.length)
    (hbody : ∀ (f : Addr) (cdv : Value) (A : Around) (outer : List Env) (s : Shared) (H : Hp) (vs : List V) (Q : VK) (E : XK), Room k (A.deeper (envOfC qual (defScope st) s.heap.objs.size f cdv)) → sp vs H Q E →
      ∃ t, PSs (cxOf CX0 P w K mg base N qual (defScope st) f cdv A outer s H E).nox (defBody st) t ∧ t { nx := fun _ H' => Q .non H', rt := Q } (start N vs) H) : C8.Met P w K mg base (k + 1) C x sp [] := by
  obtain ⟨f, fd, F, hm, b⟩ := D.ex
  exact ⟨f, fd, ps, [], c, hm, F.ok S len fun cdv A outer s H vs Q E hr h => hbody f cdv A outer s H vs Q E hr h, b, .nil⟩
/-! ### Program.__init__ -/
def spInit (C : Addr) : Sp := fun vs H Q _ => ∃ (p dx l : Addr) (as : List Addr) (ss : List Stp) (md n : Int), vs = [.ref p, .int md, .int 3, .int n, .ref l] ∧ H p = some (.ins C dx []) ∧ H l = some (.lst (as.map V.ref)) ∧ Al (StpAt H) as ss ∧ (∀ s ∈ ss, StpOk md n s) ∧
  2 ≤ md ∧ md ≤ 1000000000 ∧ 0 ≤ n ∧ n ≤ 60 ∧ (ss.length : Int) ≤ 20000 ∧ ∀ (l' : Addr) (H' : Hp), H l' = none → H' p = some (.ins C dx (pf md n l')) → H' l' = some (.lst (as.map V.ref)) → Exc p H H' → Q .non H'
theorem scInit : FnScope ["self", "modulus", "cells", "inputs", "steps"] ["self", "modulus", "cells", "inputs", "steps"] (defScope sInit) := ⟨rfl, rfl, rfl, by decide +kernel, rfl, by decide +kernel, by decide +kernel⟩
theorem ok_init (M : ∃ (f : Addr) (fd : FuncData), Fun K "__init__" "Program.__init__" sInit f fd ∧ Mk K C f ∧ Binds K fd ["self", "modulus", "cells", "inputs", "steps"] []) (hm : mg "Program" = some (.ref C)) (T : Txt K mg) (PC : Pcl K C)
    (c1 : C8.Cal P w K mg base 1 "is_integer" spIsInteger []) (c2 : C8.Cal P w K mg base 6 "check_steps" spCheckSteps []) : C8.Mak P w K mg base 7 "Program" C (spInit C) [] := by
  obtain ⟨f, fd, F, mk, b⟩ := M
  refine ⟨f, fd, _, [], mk, F.ok scInit (fun vs H Q E h => ?_) (fun cdv A outer s H vs Q E hr h => ?_), hm, b, .nil⟩
  · obtain ⟨p, dx, l, as, ss, md, n, rfl, _⟩ := h
    rfl
  · obtain ⟨p, dx, l, as, ss, md, n, rfl, hp, hl, hL, hO, b1, b2, b3, b4, b5, k⟩ := h
    refine ⟨_, pss_cons (ps_if (PW.pt (pw_or (pt_not (pt_val (C8.pe_c c1 hr (by decide) rfl (pa_cons (pv 1) pa_nil)))) (pw_or1 (pt_not (pt_chain op_le op_le pe_int (pv 1) (C8.pe_gc rfl T.MODULUS)))))) pss_never pss_nil)
      (pss_cons (ps_if (PW.pt (pw_or (pt_not (pt_val (C8.pe_c c1 hr (by decide) rfl (pa_cons (pv 2) pa_nil)))) (pw_or1 (pt_not (pt_chain op_le op_le pe_int (pv 2) (C8.pe_gc rfl T.CELLS)))))) pss_never pss_nil)
      (pss_cons (ps_if (PW.pt (pw_or (pt_not (pt_val (C8.pe_c c1 hr (by decide) rfl (pa_cons (pv 3) pa_nil)))) (pw_or1 (pt_not (pt_chain op_le op_le pe_int (pv 3) (C8.pe_gc rfl T.INPUTSp)))))) pss_never pss_nil)
      (pss_cons (ps_expr (C8.pe_c c2 hr (by decide) rfl (pa_cons (pv 4) (pa_cons (pv 1) (pa_cons (pv 2) (pa_cons (pv 3) (pa_cons (C8.pe_gc rfl T.STEPS) pa_nil)))))))
      (pss_cons (ps_fld (pv 0) (pv 1) rfl)
      (pss_cons (ps_fld (pv 0) (pv 2) rfl)
      (pss_cons (ps_fld (pv 0) (pv 3) rfl)
      (pss_one (ps_fld (pv 0) (pe_callTy call_list_of (by rfl) T.list b_list (pa_cons (pv 4) pa_nil)) rfl)))))))), ?_⟩
    refine ⟨_, rfl, md, rfl, true, rfl, iteF ⟨_, rfl, _, _, rfl, rfl, _, rfl, ?_⟩⟩
    rw [decide_eq_true b1]
    refine iteT ⟨_, _, rfl, rfl, true, d_t b2, iteF ?_⟩
    refine ⟨_, rfl, 3, rfl, true, rfl, iteF ⟨_, rfl, _, _, rfl, rfl, true, rfl, iteT ⟨_, _, rfl, rfl, true, rfl, iteF ?_⟩⟩⟩
    refine ⟨_, rfl, n, rfl, true, rfl, iteF ⟨_, rfl, _, _, rfl, rfl, _, rfl, ?_⟩⟩
    rw [decide_eq_true b3]
    refine iteT ⟨_, _, rfl, rfl, true, d_t b4, iteF ?_⟩
    refine ⟨_, rfl, _, rfl, _, rfl, _, rfl, l, as, ss, md, n, 20000, rfl, hl, hL, hO, b5, ?_⟩
    refine ⟨_, rfl, _, rfl, p, C, dx, _, rfl, hp, PC.cl, PC.nM, (by show 0 < 1000; decide), ?_⟩
    refine ⟨_, rfl, _, rfl, p, C, dx, _, rfl, upd_same, PC.cl, PC.nC, (by show 1 < 1000; decide), ?_⟩
    refine ⟨_, rfl, _, rfl, p, C, dx, _, rfl, upd_same, PC.cl, PC.nI, Nat.lt_of_le_of_lt (length_putF _ _ _) (by show 2 < 1000; decide), ?_⟩
    have npl : l ≠ p := ne_of hl hp (by intro q; cases q)
    refine ⟨_, rfl, l, _, rfl, .inl (SqL.of (by rw [upd_ne npl, upd_ne npl, upd_ne npl]; exact hl)), fun l' hl' => ?_⟩
    have npl' : p ≠ l' := ne_of_none upd_same hl'
    have hl0 : H l' = none := by
      rw [upd_ne npl'.symm, upd_ne npl'.symm, upd_ne npl'.symm] at hl'
      exact hl'
    refine ⟨_, rfl, p, C, dx, _, rfl, Eq.trans (upd_ne npl') upd_same, PC.cl, PC.nS, Nat.lt_of_le_of_lt (length_putF _ _ _) (Nat.lt_of_le_of_lt (Nat.succ_le_succ (length_putF _ _ _)) (by show 3 < 1000; decide)), ?_⟩
    refine k l' _ hl0 upd_same ?_ fun b u e nb => ?_
    · rw [upd_ne npl'.symm, upd_same]
    · rw [upd_ne nb, upd_ne (ne_of_none e hl0), upd_ne nb, upd_ne nb, upd_ne nb]
      exact e
/-- Program(md, 3, n, [..]) as it is made -/
theorem made {H : Hp} {l : Addr} {as : List Addr} {ss : List Stp} {md n : Int} {Q : VK} (hl : H l = some (.lst (as.map V.ref))) (hL : Al (StpAt H) as ss) (hO : ∀ s ∈ ss, StpOk md n s) (b1 : 2 ≤ md) (b2 : md ≤ 1000000000) (b3 : 0 ≤ n) (b4 : n ≤ 60) (b5 : (ss.length : Int) ≤ 20000)
    (k : ∀ (p l' : Addr) (H' : Hp), H p = none → H l' = none → Same H H' → ProgAt C H' p l' md n ss → Q (.ref p) H') :
    ∀ x dx, H x = none → H dx = none → dx ≠ x → spInit C [.ref x, .int md, .int 3, .int n, .ref l] (upd (upd H dx (.own x)) x (.ins C dx [])) (fun v H2 => v = .non ∧ Q (.ref x) H2) E0 := by
  intro x dx nx ndx ne
  have s0 : Same H (upd (upd H dx (.own x)) x (.ins C dx [])) := fun b o e => by
    rw [upd_ne (ne_of_none e nx), upd_ne (ne_of_none e ndx)]
    exact e
  refine ⟨x, dx, l, as, ss, md, n, rfl, upd_same, s0 _ _ hl, hL.mono fun _ _ z => z.mono (Same.ts s0), hO, b1, b2, b3, b4, b5, fun l' H' hl' hp' hll' hx => ⟨rfl, ?_⟩⟩
  have s1 : Same H H' := fun b o e => hx b o (s0 b o e) (ne_of_none e nx)
  exact k x l' H' nx (s0.free hl') s1 ⟨dx, as, hp', hll', hL.mono fun _ _ z => z.mono (Same.ts s1)⟩
structure PrgOk (md n : Int) (ss : List Stp) : Prop where
  b1 : 2 ≤ md
  b2 : md ≤ 1000000000
  b3 : 0 ≤ n
  b4 : n ≤ 60
  b5 : (ss.length : Int) ≤ 20000
  ok : ∀ s ∈ ss, StpOk md n s
/-! ### Program.__neg__ -/
def spNeg (C : Addr) : Sp := fun vs H Q _ => ∃ (p l : Addr) (ss : List Stp) (md n : Int), vs = [.ref p] ∧ ProgAt C H p l md n ss ∧ PrgOk md n ss ∧
  ∀ (p' l' : Addr) (H' : Hp), Same H H' → ProgAt C H' p' l' md n (ss.map (inv md)).reverse → Q (.ref p') H'
theorem scNeg : FnScope ["self", "steps", "step"] ["self"] (defScope sNeg) := ⟨rfl, rfl, rfl, by decide +kernel, rfl, by decide +kernel, by decide +kernel⟩
theorem ok_neg (D : Dm K C "__neg__" "Program.__neg__" sNeg ["self"]) (PC : Pcl K C) (c1 : C8.Cal P w K mg base 1 "inverse_step" spInverse []) (m : C8.Mak P w K mg base 7 "Program" C (spInit C) []) : C8.Met P w K mg base 9 C "__neg__" (spNeg C) [] := by
  refine D.ok PC.cl scNeg (fun vs H Q E h => ?_) (fun f cdv A outer s H vs Q E hr h => ?_)
  · obtain ⟨p, l, ss, md, n, rfl, _⟩ := h
    rfl
  · obtain ⟨p, l, ss, md, n, rfl, ⟨dx, as, hp, hl, hL⟩, hO, k⟩ := h
    refine ⟨_, pss_cons (ps_setLc (i := 1) (own := [("step", 2)]) (g := gName 2) (tt := tYes) rfl scNeg.nd rfl rfl (sw_true rfl rfl rfl (by decide +kernel)) (pi_list (pe_fld (pv 0) rfl)) (blkOk_by (N := ["self", "steps", "step"]) (sc := defScope sNeg) (by decide +kernel))
        (fun _ _ _ _ _ => pg_name (i := 2) scNeg.nd rfl (Or.inl rfl)) (fun _ _ _ _ _ => pts_nil) (fun _ _ _ _ _ => C8.pe_c c1 hr (by decide) rfl (pa_cons (pv 2) (pa_cons (pe_fldK (K := K) (pv 0) rfl rfl) pa_nil))))
      (pss_one (ps_ret (C8.pe_mk m hr (by decide) rfl (pa_cons (pe_fld (pv 0) rfl) (pa_cons (pe_fld (pv 0) rfl) (pa_cons (pe_fld (pv 0) rfl) (pa_cons (pe_revL (pv 1)) pa_nil))))))), ?_⟩
    refine ⟨_, rfl, p, C, dx, _, _, rfl, hp, PC.cl, PC.nS, pf_steps, l, rfl, ⟨_, SqL.of hl⟩, fun D hD => ?_⟩
    refine lc_list (K := K) (a := l) (xs := as.map V.ref) (fun i H' => Same H H' ∧ ∃ bs : List Addr, bs.length = i ∧ H' D = some (.lst (bs.map V.ref)) ∧ Al (StpAt H') bs ((ss.take i).map (inv md))) ?_ (fun i H' _ q => SqL.of (q.1 _ _ hl)) ?_ ?_
    · exact ⟨Same.new hD, [], rfl, upd_same, by rw [List.take_zero]; exact True.intro⟩
    · rintro i y H' hi ⟨s1, bs, hbl, hbD, hbL⟩
      obtain ⟨b, hb, rfl⟩ := ref_get hi
      obtain ⟨st, hs, hsA⟩ := hL.get hb
      have hi' : i < ss.length := lt_of_get hs
      have h5 := hO.b5
      refine ⟨rfl, _, rfl, _, rfl, p, C, dx, _, _, rfl, s1 _ _ hp, PC.cl, PC.nM, pf_modulus, b, st, md, rfl, hsA.mono (Same.ts s1), by have := hO.b1; omega, fun q H4 s4 hq => ?_⟩
      have hD4 : H4 D = some (.lst (bs.map V.ref)) := s4 _ _ hbD
      refine ⟨_, hD4, fits (by rw [List.length_map]; omega), Same.keep (s1.trans s4) hD, bs ++ [q], by rw [List.length_append, hbl]; rfl, ?_, ?_⟩
      · rw [upd_same, List.map_append]
        rfl
      · have e : (ss.take (i + 1)).map (inv md) = (ss.take i).map (inv md) ++ [inv md st] := by rw [List.take_add_one, hs, List.map_append]; rfl
        rw [e]
        have t4 : TS H' (upd H4 D (.lst (bs.map V.ref ++ [V.ref q]))) := (Same.ts s4).trans (TS.lst hD4)
        exact (hbL.mono fun _ _ z => z.mono t4).app (Al.one (hq.mono (TS.lst hD4)))
    · rintro H' ⟨s1, bs, hbl, hbD, hbL⟩
      have ef : ss.take (as.map V.ref).length = ss := List.take_of_length_le (by rw [List.length_map, hL.length]; exact Nat.le_refl _)
      rw [ef] at hbL
      have hp' := s1 _ _ hp
      refine ⟨_, rfl, p, C, dx, _, _, rfl, hp', PC.cl, PC.nM, pf_modulus, _, rfl, p, C, dx, _, _, rfl, hp', PC.cl, PC.nC, pf_cells, _, rfl, p, C, dx, _, _, rfl, hp', PC.cl, PC.nI, pf_inputs, _, rfl, D, _, rfl, SqL.of hbD, fun r hr' => ?_⟩
      have hm0 : 0 < md := by have := hO.b1; omega
      exact made (as := bs.reverse) (ss := (ss.map (inv md)).reverse) (by rw [List.map_reverse]; exact upd_same) ((hbL.mono fun _ _ z => z.mono (TS.new hr')).rev) (fun x hx => by
          obtain ⟨z, hz, rfl⟩ := List.mem_map.mp (List.mem_reverse.mp hx)
          exact inv_ok hm0 (hO.ok z hz)) hO.b1 hO.b2 hO.b3 hO.b4 (by rw [List.length_reverse, List.length_map]; exact hO.b5)
        fun p2 l2 H2 hp2 hl2 s2 hP => k p2 l2 H2 ((Same.then s1 hr').trans s2) hP
end
end Bk

namespace Bk
open PySem PySem.Spec PyProof.Rows L2
theorem run_take {md : Int} {giv mem : List Int} {ss : List Stp} {i : Nat} {s : Stp} (h : ss[i]? = some s) : runL md giv (ss.take (i + 1)) mem = perf md giv (runL md giv (ss.take i) mem) s := by
  have e : ss.take (i + 1) = ss.take i ++ [s] := by rw [List.take_add_one, h]; rfl
  rw [e, runL_snoc]
theorem ref_take (as : List Addr) (k : Nat) : (as.map V.ref).take k = (as.take k).map V.ref := (List.map_take ..).symm
theorem PrgOk.take {md n : Int} {ss : List Stp} (h : PrgOk md n ss) (k : Nat) : PrgOk md n (ss.take k) :=
  ⟨h.b1, h.b2, h.b3, h.b4, by have := h.b5; rw [List.length_take]; omega, fun s hs => h.ok s (List.mem_of_mem_take hs)⟩
theorem PrgOk.back {md n : Int} {ss : List Stp} (h : PrgOk md n ss) : PrgOk md n (ss.map (inv md)).reverse :=
  ⟨h.b1, h.b2, h.b3, h.b4, by rw [List.length_reverse, List.length_map]; exact h.b5, fun x hx => by
    obtain ⟨z, hz, rfl⟩ := List.mem_map.mp (List.mem_reverse.mp hx)
    exact inv_ok (by have := h.b1; omega) (h.ok z hz)⟩
section
variable {P : Program} {w : World} {K : PySem.W.Frag} {mg : Str → Option Value} {base : Heap} {C : Addr}
/-! ### Program.run -/
def spRun (C : Addr) : Sp := fun vs H Q _ => ∃ (p l m g : Addr) (ss : List Stp) (md n : Int) (mem giv : List Int), vs = [.ref p, .ref m, .ref g] ∧ ProgAt C H p l md n ss ∧ PrgOk md n ss ∧ H m = some (.lst (mem.map V.int)) ∧ H g = some (.lst (giv.map V.int)) ∧
  MemOk md mem ∧ (giv.length : Int) = n ∧ (∀ v ∈ giv, 0 ≤ v ∧ v < md) ∧ ∀ (r : Addr) (H' : Hp), H r = none → Same H H' → H' r = some (.lst ((runL md giv ss mem).map V.int)) → Q (.ref r) H'
theorem scRun : FnScope ["self", "memory", "given", "cells", "step"] ["self", "memory", "given"] (defScope sRun) := ⟨rfl, rfl, rfl, by decide +kernel, rfl, by decide +kernel, by decide +kernel⟩
theorem ok_run (D : Dm K C "run" "Program.run" sRun ["self", "memory", "given"]) (T : Txt K mg) (PC : Pcl K C) (c1 : C8.Cal P w K mg base 3 "check_numbers" spCheckNumbers []) (c2 : C8.Cal P w K mg base 1 "perform" spPerform []) : C8.Met P w K mg base 4 C "run" (spRun C) [] := by
  refine D.ok PC.cl scRun (fun vs H Q E h => ?_) (fun f cdv A outer s H vs Q E hr h => ?_)
  · obtain ⟨p, l, m, g, ss, md, n, mem, giv, rfl, _⟩ := h
    rfl
  · obtain ⟨p, l, m, g, ss, md, n, mem, giv, rfl, ⟨dx, as, hp, hl, hL⟩, hO, hM, hG, hm, lg, hgv, k⟩ := h
    have hm0 : 0 < md := by have := hO.b1; omega
    refine ⟨_, pss_cons (ps_expr (C8.pe_c c1 hr (by decide) rfl (pa_cons (pv 1) (pa_cons (pe_fld (pv 0) rfl) (pa_cons (pe_fld (pv 0) rfl) pa_nil)))))
      (pss_cons (ps_expr (C8.pe_c c1 hr (by decide) rfl (pa_cons (pv 2) (pa_cons (pe_fld (pv 0) rfl) (pa_cons (pe_fld (pv 0) rfl) pa_nil)))))
      (pss_cons (ps_set (i := 3) scRun.nd rfl (Or.inl rfl) (pe_callTy call_list_of (by rfl) T.list b_list (pa_cons (pv 1) pa_nil)))
      (pss_cons (ps_for PassesOwn.never rfl (pi_list (pe_fld (pv 0) rfl)) (pg_name (i := 4) scRun.nd rfl (.inl rfl))
        (pss_one (ps_expr (C8.pe_c c2 hr (by decide) rfl (pa_cons (pv 4) (pa_cons (pv 3) (pa_cons (pv 2) (pa_cons (pe_fld (pv 0) rfl) pa_nil))))))))
      (pss_one (ps_ret (pv 3)))))), ?_⟩
    refine ⟨_, rfl, _, rfl, p, C, dx, _, _, rfl, hp, PC.cl, PC.nC, pf_cells, _, rfl, p, C, dx, _, _, rfl, hp, PC.cl, PC.nM, pf_modulus, m, mem, md, 3, rfl, hM, by rw [hm.len]; rfl, hm.num, ?_⟩
    refine ⟨_, rfl, _, rfl, p, C, dx, _, _, rfl, hp, PC.cl, PC.nI, pf_inputs, _, rfl, p, C, dx, _, _, rfl, hp, PC.cl, PC.nM, pf_modulus, g, giv, md, n, rfl, hG, lg, hgv, ?_⟩
    refine ⟨_, rfl, m, _, rfl, .inl (SqL.of hM), fun r hr' => ?_⟩
    have s0 : Same H (upd H r (.lst (mem.map V.int))) := Same.new hr'
    refine ⟨_, rfl, p, C, dx, _, _, rfl, s0 _ _ hp, PC.cl, PC.nS, pf_steps, l, rfl, ⟨_, SqL.of (s0 _ _ hl)⟩, for_list (K := K) (a := l) (xs := as.map V.ref)
      (fun i σ H' => Same H H' ∧ H' r = some (.lst ((runL md giv (ss.take i) mem).map V.int)) ∧ ∃ v, σ = [some (.ref p), some (.ref m), some (.ref g), some (.ref r), v]) ⟨s0, by rw [upd_same]; rfl, none, rfl⟩ (fun i σ H' _ q => SqL.of (q.1 _ _ hl)) ?_ ?_⟩
    · rintro i y σ H' hi ⟨s1, hr1, v, rfl⟩
      obtain ⟨b, hb, rfl⟩ := ref_get hi
      obtain ⟨st, hs, hsA⟩ := hL.get hb
      have mk := memOk_run hm0 (giv := giv) (ss.take i) hm
      refine ⟨_, rfl, _, rfl, _, rfl, _, rfl, p, C, dx, _, _, rfl, s1 _ _ hp, PC.cl, PC.nM, pf_modulus, b, r, g, st, md, n, _, giv, rfl, hsA.mono (Same.ts s1), hO.ok st (List.mem_of_getElem? hs), hr1, s1 _ _ hG, hm0, hO.b2, mk.len, lg, ?_⟩
      refine ⟨Same.keep s1 hr', ?_, some (.ref b), rfl⟩
      rw [upd_same, run_take hs]
    · rintro σ H' ⟨s1, hr1, v, rfl⟩
      have ef : ss.take (as.map V.ref).length = ss := List.take_of_length_le (by rw [List.length_map, hL.length]; exact Nat.le_refl _)
      rw [ef] at hr1
      exact ⟨_, rfl, k r H' hr' s1 hr1⟩
/-! ### Program.part, Program.called_back -/
def spPart (C : Addr) : Sp := fun vs H Q _ => ∃ (p l : Addr) (ss : List Stp) (md n k : Int), vs = [.ref p, .int k] ∧ ProgAt C H p l md n ss ∧ PrgOk md n ss ∧ 0 ≤ k ∧ k ≤ (ss.length : Int) ∧
  ∀ (p' l' : Addr) (H' : Hp), Same H H' → ProgAt C H' p' l' md n (ss.take k.toNat) → Q (.ref p') H'
theorem scPart : FnScope ["self", "n"] ["self", "n"] (defScope sPart) := ⟨rfl, rfl, rfl, by decide +kernel, rfl, by decide +kernel, by decide +kernel⟩
theorem ok_part (D : Dm K C "part" "Program.part" sPart ["self", "n"]) (T : Txt K mg) (PC : Pcl K C) (c1 : C8.Cal P w K mg base 1 "is_integer" spIsInteger []) (m : C8.Mak P w K mg base 7 "Program" C (spInit C) []) : C8.Met P w K mg base 9 C "part" (spPart C) [] := by
  refine D.ok PC.cl scPart (fun vs H Q E h => ?_) (fun f cdv A outer s H vs Q E hr h => ?_)
  · obtain ⟨p, l, ss, md, n, k, rfl, _⟩ := h
    rfl
  · obtain ⟨p, l, ss, md, n, j, rfl, ⟨dx, as, hp, hl, hL⟩, hO, j0, j1, k⟩ := h
    have el : (as.map V.ref).length = ss.length := by rw [List.length_map]; exact hL.length
    refine ⟨_, pss_cons (ps_if (PW.pt (pw_or (pt_not (pt_val (C8.pe_c c1 hr (by decide) rfl (pa_cons (pv 1) pa_nil)))) (pw_or1 (pt_not (pt_chain op_le op_le pe_int (pv 1) (pe_callB call_len_seq (by rfl) T.len PySem.boot_len (pa_cons (pe_fld (pv 0) rfl) pa_nil))))))) pss_never pss_nil)
      (pss_one (ps_ret (C8.pe_mk m hr (by decide) rfl (pa_cons (pe_fld (pv 0) rfl) (pa_cons (pe_fld (pv 0) rfl) (pa_cons (pe_fld (pv 0) rfl) (pa_cons (pe_slice sl_list (pe_fld (pv 0) rfl) po_none (po_some (pv 1))) pa_nil))))))), ?_⟩
    refine ⟨_, rfl, j, rfl, true, rfl, iteF ⟨_, rfl, _, _, rfl, rfl, _, rfl, ?_⟩⟩
    rw [decide_eq_true j0]
    refine iteT ⟨_, rfl, p, C, dx, _, _, rfl, hp, PC.cl, PC.nS, pf_steps, l, _, rfl, .inl (SqL.of hl), _, _, rfl, rfl, true, d_t (by rw [el]; exact j1), iteF ?_⟩
    refine ⟨_, rfl, p, C, dx, _, _, rfl, hp, PC.cl, PC.nM, pf_modulus, _, rfl, p, C, dx, _, _, rfl, hp, PC.cl, PC.nC, pf_cells, _, rfl, p, C, dx, _, _, rfl, hp, PC.cl, PC.nI, pf_inputs, _, rfl, p, C, dx, _, _, rfl, hp, PC.cl, PC.nS, pf_steps, ?_⟩
    refine ⟨_, rfl, _, rfl, l, _, rfl, SqL.of hl, fun r hr' => ?_⟩
    have h1 := hO.take j.toNat
    refine made (as := as.take j.toNat) (ss := ss.take j.toNat) (by rw [upd_same, cut_to j0 (by rw [el]; exact j1), ref_take]) ((hL.mono fun _ _ z => z.mono (TS.new hr')).take _) h1.ok h1.b1 h1.b2 h1.b3 h1.b4 h1.b5
      fun p2 l2 H2 hp2 hl2 s2 hP => k p2 l2 H2 ((Same.new hr').trans s2) hP
def spBack (C : Addr) : Sp := fun vs H Q _ => ∃ (p l : Addr) (ss : List Stp) (md n k : Int), vs = [.ref p, .int k] ∧ ProgAt C H p l md n ss ∧ PrgOk md n ss ∧ 0 ≤ k ∧ k ≤ (ss.length : Int) ∧
  ∀ (p' l' : Addr) (H' : Hp), Same H H' → ProgAt C H' p' l' md n ((ss.take k.toNat).map (inv md)).reverse → Q (.ref p') H'
theorem scBack : FnScope ["self", "n"] ["self", "n"] (defScope sBack) := ⟨rfl, rfl, rfl, by decide +kernel, rfl, by decide +kernel, by decide +kernel⟩
theorem ok_back (D : Dm K C "called_back" "Program.called_back" sBack ["self", "n"]) (PC : Pcl K C) (c1 : C8.Met P w K mg base 9 C "part" (spPart C) []) (c2 : C8.Met P w K mg base 9 C "__neg__" (spNeg C) []) : C8.Met P w K mg base 10 C "called_back" (spBack C) [] := by
  refine D.ok PC.cl scBack (fun vs H Q E h => ?_) (fun f cdv A outer s H vs Q E hr h => ?_)
  · obtain ⟨p, l, ss, md, n, k, rfl, _⟩ := h
    rfl
  · obtain ⟨p, l, ss, md, n, j, rfl, hP, hO, j0, j1, k⟩ := h
    obtain ⟨f2, fd2, ps2, ds2, hc, hm, F, b, d⟩ := c2.ex
    cases d
    refine ⟨_, pss_one (ps_ret (pe_un (un_negO F hr (by decide) hm.at_ hm.fn b) (C8.pe_mt c1 hr (by decide) (pv 0) (pa_cons (pv 1) pa_nil)))), ?_⟩
    obtain ⟨dx, as, hp, hl, hL⟩ := id hP
    refine ⟨_, rfl, p, dx, _, rfl, hp, pf_no (by decide +kernel) (by decide +kernel) (by decide +kernel) (by decide +kernel), _, rfl, p, l, ss, md, n, j, rfl, hP, hO, j0, j1, fun p1 l1 H1 s1 hP1 => ?_⟩
    obtain ⟨dx1, as1, hp1, hl1, hL1⟩ := id hP1
    exact ⟨p1, dx1, _, rfl, hp1, p1, l1, _, md, n, rfl, hP1, hO.take _, fun p2 l2 H2 s2 hP2 => k p2 l2 H2 (s1.trans s2) hP2⟩
end
end Bk

namespace Bk
open PySem PySem.Spec PyProof.Rows L2
theorem cut_tail {v : V} {r : List V} : cutV (v :: r) (some 1) none = r := by
  unfold cutV
  have e1 : HT.sIx (v :: r).length 0 (some ((1 : Nat) : Int)) = 1 := by
    rw [HT.sIx_nat, List.length_cons]
    omega
  have e2 : HT.sIx (v :: r).length (v :: r).length none = (v :: r).length := HT.sIx_none _ _
  have e1' : HT.sIx (v :: r).length 0 (some 1) = 1 := e1
  rw [e1', e2]
  show r.take ((v :: r).length - 1) = r
  rw [List.length_cons, Nat.add_sub_cancel, List.take_length]
theorem cut_part {v : V} {r : List V} : ¬ (HT.sIx (v :: r).length 0 (some 1) = 0 ∧ HT.sIx (v :: r).length (v :: r).length none = (v :: r).length) := by
  have e1 : HT.sIx (v :: r).length 0 (some ((1 : Nat) : Int)) = 1 := by
    rw [HT.sIx_nat, List.length_cons]
    omega
  have e1' : HT.sIx (v :: r).length 0 (some 1) = 1 := e1
  rw [e1']
  intro h
  exact absurd h.1 (by decide)
theorem at_getD {ns : List Int} {j : Nat} (h : j < ns.length) : atI (ns.map V.int) (j : Int) = some (.int (ns.getD j 0)) := by
  refine at_of (j := j) rfl ?_
  rw [List.getElem?_map, List.getD_eq_getElem?_getD, List.getElem?_eq_getElem h]
  rfl
/-- LENGTHS as the top leaves it -/
structure Lens (K : PySem.W.Frag) (w : World) (mg : Str → Option Value) : Prop where
  ex : ∃ (d : Addr) (es : Array DictEntry) (n : Nat), mg "LENGTHS" = some (.ref d) ∧ KDict K w d es n ∧ ∀ nd : Nd, ∃ u, PySem.W.nsIn K d (ndTag nd) = some (some u) ∧ RelV (.int (((ndArgs nd).length + 1 : Nat) : Int)) u
section
variable {P : Program} {w : World} {K : PySem.W.Frag} {mg : Str → Option Value} {base : Heap}
/-! ### is_node -/
def spIsNode : Sp := fun vs H Q _ => ∃ (a : Addr) (nd : Nd) (k : Nat), vs = [.ref a, .int (k : Int)] ∧ NdAt H a nd ∧ NdOk k nd ∧ ∀ H', Same H H' → Q (.bl true) H'
theorem scIsNode : FnScope ["node", "at", "index"] ["node", "at"] (defScope sIsNode) := ⟨rfl, rfl, rfl, by decide +kernel, rfl, by decide +kernel, by decide +kernel⟩
theorem args_ok {nd : Nd} {k : Nat} (h : NdOk k nd) (h1 : ¬ ndTag nd = "const") (h2 : ¬ ndTag nd = "input") (h3 : ¬ ndTag nd = "scaled") : ∀ i ∈ ndArgs nd, 0 ≤ i ∧ i < (k : Int) := by
  cases nd with
  | const c => exact absurd rfl h1
  | inp q => exact absurd rfl h2
  | scaled c i => exact absurd rfl h3
  | sum i j => intro a ha; simp [ndArgs] at ha; obtain ⟨q1, q2⟩ := h; omega
  | prod i j => intro a ha; simp [ndArgs] at ha; obtain ⟨q1, q2⟩ := h; omega
  | choose i j l => intro a ha; simp [ndArgs] at ha; obtain ⟨q1, q2, q3⟩ := h; omega
theorem ok_is_node (D : Df K mg "is_node" sIsNode ["node", "at"]) (T : Txt K mg) (L : Lens K w mg) (c1 : C8.Cal P w K mg base 2 "is_number" spIsNumber []) : C8.Cal P w K mg base 3 "is_node" spIsNode [] := by
  refine D.ok scIsNode (fun vs H Q E h => ?_) (fun f cdv A outer s H vs Q E hr h => ?_)
  · obtain ⟨a, nd, k, rfl, _⟩ := h
    rfl
  · obtain ⟨a, nd, at_, rfl, hA, hO, k⟩ := h
    obtain ⟨d, es, n, hd, KD, hlen⟩ := L.ex
    obtain ⟨u0, hu0, ru0⟩ := hlen nd
    have hA' : H a = some (.tup (.str (ndTag nd) :: (ndArgs nd).map V.int)) := hA
    have el : (((V.str (ndTag nd) :: (ndArgs nd).map V.int).length : Nat) : Int) = (((ndArgs nd).length + 1 : Nat) : Int) := by rw [List.length_cons, List.length_map]
    have hpos : 1 ≤ (ndArgs nd).length := by cases nd <;> simp [ndArgs]
    refine ⟨_, pss_cons (ps_if (PW.pt (pw_or (pt_not (pt_val (pe_isi (pv 0) T.isi T.tuple b_tuple))) (pw_or (pt_cmpR op_lt (pe_callB call_len_seq (by rfl) T.len PySem.boot_len (pa_cons (pv 0) pa_nil)) pe_int (nomark _)) (pw_or1 (pt_not (pt_val (pe_isi (pe_ix ix_tup (pv 0) pe_int (fun _ _ => rfl)) T.isi T.str b_str))))))) pss_never pss_nil)
      (pss_cons (ps_if (pt_cmpR op_ne (pe_kget KD (pe_glob rfl hd rfl) (pe_ix ix_tup (pv 0) pe_int (fun _ _ => rfl)) ⟨rfl, rfl, rfl, rfl⟩) (pe_callB call_len_seq (by rfl) T.len PySem.boot_len (pa_cons (pv 0) pa_nil)) (nomark _)) pss_never pss_nil)
      (pss_cons (ps_if (pt_cmpR op_eq (pe_ix ix_tup (pv 0) pe_int (fun _ _ => rfl)) pe_str (nomark _)) (pss_one (ps_ret (C8.pe_c c1 hr (by decide) rfl (pa_cons (pe_ix ix_tup (pv 0) pe_int (fun _ _ => rfl)) (pa_cons (C8.pe_gc rfl T.CONSTANT) pa_nil))))) pss_nil)
      (pss_cons (ps_if (pt_cmpR op_eq (pe_ix ix_tup (pv 0) pe_int (fun _ _ => rfl)) pe_str (nomark _)) (pss_one (ps_ret (C8.pe_c c1 hr (by decide) rfl (pa_cons (pe_ix ix_tup (pv 0) pe_int (fun _ _ => rfl)) (pa_cons (C8.pe_gc rfl T.INPUTSs) pa_nil))))) pss_nil)
      (pss_cons (ps_if (pt_cmpR op_eq (pe_ix ix_tup (pv 0) pe_int (fun _ _ => rfl)) pe_str (nomark _)) (pss_one (ps_ret (pe_and (C8.pe_c c1 hr (by decide) rfl (pa_cons (pe_ix ix_tup (pv 0) pe_int (fun _ _ => rfl)) (pa_cons (C8.pe_gc rfl T.CONSTANT) pa_nil)))
          (pe_one (C8.pe_c c1 hr (by decide) rfl (pa_cons (pe_ix ix_tup (pv 0) pe_int (fun _ _ => rfl)) (pa_cons (pv 1) pa_nil))))))) pss_nil)
      (pss_cons (ps_for PassesOwn.never rfl (pi_tup (pe_slice sl_tup (pv 0) (po_some pe_int) po_none)) (pg_name (i := 2) scIsNode.nd rfl (.inl rfl))
        (pss_one (ps_if (pt_not (pt_val (C8.pe_c c1 hr (by decide) rfl (pa_cons (pv 2) (pa_cons (pv 1) pa_nil))))) pss_never pss_nil)))
      (pss_one (ps_ret pe_bl))))))), ?_⟩
    refine ⟨_, rfl, isi_tup hA' kTT ⟨true, rfl, iteF ⟨_, rfl, a, _, rfl, .inr (SqT.of hA'), _, _, rfl, rfl, false, d_f (by rw [el]; omega), iteF ⟨_, rfl, a, _, _, _, rfl, rfl, SqT.of hA', at_of (j := 0) rfl rfl, isi_str kSS ⟨true, rfl, iteF ?_⟩⟩⟩⟩⟩
    refine ⟨_, rfl, a, _, _, _, rfl, rfl, SqT.of hA', at_of (j := 0) rfl rfl, _, u0, _, rfl, hu0, ru0, _, rfl, a, _, rfl, .inr (SqT.of hA'), rfl, false, m_f (ieq el.symm), iteF ?_⟩
    refine ⟨_, rfl, a, _, _, _, rfl, rfl, SqT.of hA', at_of (j := 0) rfl rfl, rfl, _, rfl, ?_⟩
    by_cases h1 : ndTag nd = "const"
    · obtain ⟨c, rfl⟩ := (t_const nd).mp h1
      rw [decide_eq_true (congrArg V.str h1)]
      exact iteT ⟨_, rfl, a, _, _, _, rfl, rfl, SqT.of hA', at_of (j := 1) rfl rfl, _, _, rfl, hO.1, hO.2, k H (Same.refl H)⟩
    · rw [decide_eq_false (s_ne h1)]
      refine iteF ⟨_, rfl, a, _, _, _, rfl, rfl, SqT.of hA', at_of (j := 0) rfl rfl, rfl, _, rfl, ?_⟩
      by_cases h2 : ndTag nd = "input"
      · obtain ⟨c, rfl⟩ := (t_input nd).mp h2
        rw [decide_eq_true (congrArg V.str h2)]
        exact iteT ⟨_, rfl, a, _, _, _, rfl, rfl, SqT.of hA', at_of (j := 1) rfl rfl, _, _, rfl, hO.1, hO.2, k H (Same.refl H)⟩
      · rw [decide_eq_false (s_ne h2)]
        refine iteF ⟨_, rfl, a, _, _, _, rfl, rfl, SqT.of hA', at_of (j := 0) rfl rfl, rfl, _, rfl, ?_⟩
        by_cases h3 : ndTag nd = "scaled"
        · obtain ⟨c, i, rfl⟩ := (t_scaled nd).mp h3
          rw [decide_eq_true (congrArg V.str h3)]
          exact iteT ⟨_, rfl, a, _, _, _, rfl, rfl, SqT.of hA', at_of (j := 1) rfl rfl, _, _, rfl, hO.1.1, hO.1.2, true, rfl, iteT ⟨_, rfl, a, _, _, _, rfl, rfl, SqT.of hA', at_of (j := 2) rfl rfl, _, rfl, _, _, rfl, by omega, by have := hO.2; omega, k H (Same.refl H)⟩⟩
        · rw [decide_eq_false (s_ne h3)]
          have hall := args_ok hO h1 h2 h3
          refine iteF ⟨_, rfl, _, rfl, a, _, rfl, SqT.of hA', cut_part, fun p hp => ?_⟩
          have hp1 : upd H p (.tup (cutV (V.str (ndTag nd) :: (ndArgs nd).map V.int) (some 1) none)) p = some (.tup ((ndArgs nd).map V.int)) := by rw [upd_same, cut_tail]
          have s1 : Same H (upd H p (.tup (cutV (V.str (ndTag nd) :: (ndArgs nd).map V.int) (some 1) none))) := Same.new hp
          refine ⟨p, rfl, ⟨_, SqT.of hp1⟩, for_tup (K := K) (a := p) (xs := (ndArgs nd).map V.int) (fun i σ H' => H' = upd H p (.tup (cutV (V.str (ndTag nd) :: (ndArgs nd).map V.int) (some 1) none)) ∧ ∃ v, σ = [some (.ref a), some (.int (at_ : Int)), v]) ⟨rfl, none, rfl⟩ (fun i σ H' _ ⟨e, _⟩ => by rw [e]; exact SqT.of hp1) ?_ ?_⟩
          · rintro i y σ H' hi ⟨e, v, rfl⟩
            obtain ⟨u, hu, rfl⟩ := int_get hi
            have hq := hall u (List.mem_of_getElem? hu)
            exact ⟨_, rfl, _, rfl, _, _, rfl, hq.1, hq.2, true, rfl, iteF ⟨e, _, rfl⟩⟩
          · rintro σ H' ⟨e, v, rfl⟩
            rw [e]
            exact k _ s1
end
end Bk

namespace Bk
open PySem PySem.Spec PyProof.Rows L2
theorem cost_got {ns : List Nd} {i j : Nat} (h : j < i) (hi : i ≤ ns.length) : atI ((costs (ns.take i)).map V.int) (j : Int) = some (.int ((costs (ns.take i)).getD j 0)) :=
  at_getD (by rw [costs_length, List.length_take]; omega)
theorem costs_step {ns : List Nd} {i : Nat} {nd : Nd} (h : ns[i]? = some nd) {v : Int} (e : v = ndCost (costs (ns.take i)) nd) : (costs (ns.take i)).map V.int ++ [V.int v] = (costs (ns.take (i + 1))).map V.int := by
  rw [costs_take ns h, List.map_append, e]
  rfl
section
variable {P : Program} {w : World} {K : PySem.W.Frag} {mg : Str → Option Value} {base : Heap}
/-! ### check_source -/
def spCheckSource : Sp := fun vs H Q _ => ∃ (a : Addr) (ns : List Nd), vs = [.ref a] ∧ SrcAt H a ns ∧ SrcOk ns ∧ 1 ≤ ns.length ∧ ns.length ≤ 200 ∧ ∀ H', Same H H' → Q .non H'
theorem scCheckSource : FnScope ["source", "at", "node"] ["source"] (defScope sCheckSource) := ⟨rfl, rfl, rfl, by decide +kernel, rfl, by decide +kernel, by decide +kernel⟩
theorem ok_check_source (D : Df K mg "check_source" sCheckSource ["source"]) (T : Txt K mg) (c1 : C8.Cal P w K mg base 3 "is_node" spIsNode []) : C8.Cal P w K mg base 4 "check_source" spCheckSource [] := by
  refine D.ok scCheckSource (fun vs H Q E h => ?_) (fun f cdv A outer s H vs Q E hr h => ?_)
  · obtain ⟨a, ns, rfl, _⟩ := h
    rfl
  · obtain ⟨a, ns, rfl, ⟨as, hA, hL⟩, hO, z1, z2, k⟩ := h
    have el : (as.map V.ref).length = ns.length := by rw [List.length_map]; exact hL.length
    refine ⟨_, pss_cons (ps_if (PW.pt (pw_or (pt_not (pt_val (pe_isi (pv 0) T.isi T.tuple b_tuple))) (pw_or1 (pt_not (pt_chain op_le op_le pe_int (pe_callB call_len_seq (by rfl) T.len PySem.boot_len (pa_cons (pv 0) pa_nil)) (C8.pe_gc rfl T.NODES)))))) pss_never pss_nil)
      (pss_one (ps_for PassesOwn.never rfl (pi_enumT (by rfl) T.enumerate (pa_cons (pv 0) pa_nil)) (pg_tup rfl (pgs_cons (pg_name (i := 1) scCheckSource.nd rfl (.inl rfl)) (pgs_cons (pg_name (i := 2) scCheckSource.nd rfl (.inl rfl)) pgs_nil)))
        (pss_one (ps_if (pt_not (pt_val (C8.pe_c c1 hr (by decide) rfl (pa_cons (pv 2) (pa_cons (pv 1) pa_nil))))) pss_never pss_nil)))), ?_⟩
    refine ⟨_, rfl, isi_tup hA kTT ⟨true, rfl, iteF ⟨_, rfl, a, _, rfl, .inr (SqT.of hA), _, _, rfl, rfl, true, d_t (by rw [el]; omega), iteT ⟨_, _, rfl, rfl, true, d_t (by rw [el]; omega), iteF ?_⟩⟩⟩⟩
    refine ⟨_, rfl, a, _, rfl, SqT.of hA, for_it walk_enumT (fun i σ H' => Same H H' ∧ ∃ v w, σ = [some (.ref a), v, w]) ⟨Same.refl H, none, none, rfl⟩ (fun i σ H' _ q => SqT.of (q.1 _ _ hA)) ?_ ?_⟩
    · rintro i x σ H1 H2 hi ⟨s1, v, w, rfl⟩ ⟨Tp, x1, y1, rfl, hT, rfl, e1, e2⟩
      obtain ⟨b, hb, rfl⟩ := ref_get e2
      cases e1
      obtain ⟨nd, hn, hnA⟩ := hL.get hb
      refine ⟨Tp, _, rfl, SqT.of upd_same, rfl, _, _, rfl, _, _, rfl, rfl, ?_⟩
      refine ⟨_, rfl, _, rfl, b, nd, i, rfl, (hnA.mono (Same.ts s1)).mono (TS.new hT), hO i nd hn, fun H3 s3 => ⟨true, rfl, iteF ⟨(Same.then s1 hT).trans s3, some (.int (i : Int)), some (.ref b), rfl⟩⟩⟩
    · rintro σ H' ⟨s1, v, w, rfl⟩
      exact k H' s1
/-! ### needs -/
def spNeeds : Sp := fun vs H Q _ => ∃ (a : Addr) (ns : List Nd), vs = [.ref a] ∧ SrcAt H a ns ∧ SrcOk ns ∧ 1 ≤ ns.length ∧ ns.length ≤ 200 ∧ ∀ H', Same H H' → Q (.int (needs ns)) H'
theorem scNeeds : FnScope ["source", "many", "node"] ["source"] (defScope sNeeds) := ⟨rfl, rfl, rfl, by decide +kernel, rfl, by decide +kernel, by decide +kernel⟩
theorem need_not {m : Int} {nd : Nd} (h : ¬ ndTag nd = "input") : need1 m nd = m := by
  cases nd with
  | inp k => exact absurd rfl h
  | _ => rfl
theorem ok_needs (D : Df K mg "needs" sNeeds ["source"]) (T : Txt K mg) (c1 : C8.Cal P w K mg base 4 "check_source" spCheckSource []) : C8.Cal P w K mg base 5 "needs" spNeeds [] := by
  refine D.ok scNeeds (fun vs H Q E h => ?_) (fun f cdv A outer s H vs Q E hr h => ?_)
  · obtain ⟨a, ns, rfl, _⟩ := h
    rfl
  · obtain ⟨a, ns, rfl, hS, hO, z1, z2, k⟩ := h
    obtain ⟨as, hA, hL⟩ := id hS
    refine ⟨_, pss_cons (ps_expr (C8.pe_c c1 hr (by decide) rfl (pa_cons (pv 0) pa_nil)))
      (pss_cons (ps_set (i := 1) scNeeds.nd rfl (Or.inl rfl) pe_int)
      (pss_cons (ps_for PassesOwn.never rfl (pi_tup (pv 0)) (pg_name (i := 2) scNeeds.nd rfl (.inl rfl))
        (pss_one (ps_if (pt_cmpR op_eq (pe_ix ix_tup (pv 2) pe_int (fun _ _ => rfl)) pe_str (nomark _))
          (pss_one (ps_set (i := 1) scNeeds.nd rfl (Or.inl rfl) (pe_callB (call_max2 rfl) (by rfl) T.max (by decide +kernel) (pa_cons (pv 1) (pa_cons (pe_op op_add (pe_ix ix_tup (pv 2) pe_int (fun _ _ => rfl)) pe_int) pa_nil))))) pss_nil)))
      (pss_one (ps_ret (pv 1))))), ?_⟩
    refine ⟨_, rfl, a, ns, rfl, hS, hO, z1, z2, fun H1 s1 => ?_⟩
    have hA1 := s1 _ _ hA
    refine ⟨_, rfl, a, rfl, ⟨_, SqT.of hA1⟩, for_tup (K := K) (a := a) (xs := as.map V.ref) (fun i σ H' => H' = H1 ∧ ∃ v, σ = [some (.ref a), some (.int (needs (ns.take i))), v]) ⟨rfl, none, rfl⟩ (fun i σ H' _ ⟨e, _⟩ => by rw [e]; exact SqT.of hA1) ?_ ?_⟩
    · rintro i y σ H' hi ⟨rfl, v, rfl⟩
      obtain ⟨b, hb, rfl⟩ := ref_get hi
      obtain ⟨nd, hn, hnA⟩ := hL.get hb
      have hn1 : H' b = some (.tup (.str (ndTag nd) :: (ndArgs nd).map V.int)) := hnA.mono (Same.ts s1)
      refine ⟨_, rfl, b, _, _, _, rfl, rfl, SqT.of hn1, at_of (j := 0) rfl rfl, rfl, _, rfl, ?_⟩
      by_cases h2 : ndTag nd = "input"
      · obtain ⟨c, rfl⟩ := (t_input nd).mp h2
        rw [decide_eq_true (congrArg V.str h2)]
        refine iteT ⟨_, rfl, _, rfl, b, _, _, _, rfl, rfl, SqT.of hn1, at_of (j := 1) rfl rfl, _, _, rfl, rfl, _, _, rfl, ?_⟩
        refine ⟨rfl, some (.ref b), ?_⟩
        rw [needs_take ns hn]
        rfl
      · rw [decide_eq_false (s_ne h2)]
        refine iteF ⟨rfl, some (.ref b), ?_⟩
        rw [needs_take ns hn, need_not h2]
        rfl
    · rintro σ H' ⟨rfl, v, rfl⟩
      have ef : ns.take (as.map V.ref).length = ns := List.take_of_length_le (by rw [List.length_map, hL.length]; exact Nat.le_refl _)
      rw [ef]
      exact ⟨_, rfl, k H' s1⟩
/-! ### cost -/
def spCost : Sp := fun vs H Q _ => ∃ (a : Addr) (ns : List Nd), vs = [.ref a] ∧ SrcAt H a ns ∧ SrcOk ns ∧ 1 ≤ ns.length ∧ ns.length ≤ 200 ∧ ∀ H', Same H H' → Q (.int ((costs ns).getD (ns.length - 1) 0)) H'
theorem scCost : FnScope ["source", "costs", "node", "third"] ["source"] (defScope sCost) := ⟨rfl, rfl, rfl, by decide +kernel, rfl, by decide +kernel, by decide +kernel⟩
theorem ok_cost (D : Df K mg "cost" sCost ["source"]) (c1 : C8.Cal P w K mg base 4 "check_source" spCheckSource []) : C8.Cal P w K mg base 5 "cost" spCost [] := by
  refine D.ok scCost (fun vs H Q E h => ?_) (fun f cdv A outer s H vs Q E hr h => ?_)
  · obtain ⟨a, ns, rfl, _⟩ := h
    rfl
  · obtain ⟨a, ns, rfl, hS, hO, z1, z2, k⟩ := h
    obtain ⟨as, hA, hL⟩ := id hS
    refine ⟨_, pss_cons (ps_expr (C8.pe_c c1 hr (by decide) rfl (pa_cons (pv 0) pa_nil)))
      (pss_cons (ps_set (i := 1) scCost.nd rfl (Or.inl rfl) (pe_lst pa_nil))
      (pss_cons (ps_for PassesOwn.never rfl (pi_tup (pv 0)) (pg_name (i := 2) scCost.nd rfl (.inl rfl))
        (pss_one (ps_if (PW.pt (pw_or (pt_cmpR op_eq (pe_ix ix_tup (pv 2) pe_int (fun _ _ => rfl)) pe_str (nomark _)) (pw_or1 (pt_cmpR op_eq (pe_ix ix_tup (pv 2) pe_int (fun _ _ => rfl)) pe_str (nomark _)))))
          (pss_one (ps_expr (pe_bm PySem.F.plainAttrs_list PySem.F.slot_list_append PySem.F.type_list_append mt_append (pv 1) (pa_cons pe_int pa_nil))))
          (pss_one (ps_if (pt_cmpR op_eq (pe_ix ix_tup (pv 2) pe_int (fun _ _ => rfl)) pe_str (nomark _))
            (pss_one (ps_expr (pe_bm PySem.F.plainAttrs_list PySem.F.slot_list_append PySem.F.type_list_append mt_append (pv 1) (pa_cons (pe_ix ix_list (pv 1) (pe_ix ix_tup (pv 2) pe_int (fun _ _ => rfl)) (fun _ _ => rfl)) pa_nil))))
            (pss_one (ps_if (pt_cmpR op_eq (pe_ix ix_tup (pv 2) pe_int (fun _ _ => rfl)) pe_str (nomark _))
              (pss_one (ps_expr (pe_bm PySem.F.plainAttrs_list PySem.F.slot_list_append PySem.F.type_list_append mt_append (pv 1) (pa_cons (pe_op op_add (pe_ix ix_list (pv 1) (pe_ix ix_tup (pv 2) pe_int (fun _ _ => rfl)) (fun _ _ => rfl)) (pe_ix ix_list (pv 1) (pe_ix ix_tup (pv 2) pe_int (fun _ _ => rfl)) (fun _ _ => rfl))) pa_nil))))
              (pss_one (ps_if (pt_cmpR op_eq (pe_ix ix_tup (pv 2) pe_int (fun _ _ => rfl)) pe_str (nomark _))
                (pss_one (ps_expr (pe_bm PySem.F.plainAttrs_list PySem.F.slot_list_append PySem.F.type_list_append mt_append (pv 1) (pa_cons (pe_op op_mul pe_int (pe_op op_add (pe_ix ix_list (pv 1) (pe_ix ix_tup (pv 2) pe_int (fun _ _ => rfl)) (fun _ _ => rfl)) (pe_ix ix_list (pv 1) (pe_ix ix_tup (pv 2) pe_int (fun _ _ => rfl)) (fun _ _ => rfl)))) pa_nil))))
                (pss_cons (ps_set (i := 3) scCost.nd rfl (Or.inl rfl) (pe_ix ix_list (pv 1) (pe_ix ix_tup (pv 2) pe_int (fun _ _ => rfl)) (fun _ _ => rfl)))
                (pss_one (ps_expr (pe_bm PySem.F.plainAttrs_list PySem.F.slot_list_append PySem.F.type_list_append mt_append (pv 1) (pa_cons (pe_op op_add (pv 3) (pe_op op_mul pe_int (pe_op op_add (pe_op op_add (pe_ix ix_list (pv 1) (pe_ix ix_tup (pv 2) pe_int (fun _ _ => rfl)) (fun _ _ => rfl)) (pe_ix ix_list (pv 1) (pe_ix ix_tup (pv 2) pe_int (fun _ _ => rfl)) (fun _ _ => rfl))) (pv 3)))) pa_nil))))))))))))))
      (pss_one (ps_ret (pe_ix ix_list (pv 1) (pe_un un_neg pe_int) (fun _ _ => rfl)))))), ?_⟩
    refine ⟨_, rfl, a, ns, rfl, hS, hO, z1, z2, fun H1 s1 => ?_⟩
    refine ⟨Nat.zero_le _, fun c hc => ?_⟩
    have s2 : Same H (upd H1 c (.lst [])) := Same.then s1 hc
    have c0 : H c = none := s1.free hc
    refine ⟨_, rfl, a, rfl, ⟨_, SqT.of (s2 _ _ hA)⟩, for_tup (K := K) (a := a) (xs := as.map V.ref) (fun i σ H' => Same H H' ∧ H' c = some (.lst ((costs (ns.take i)).map V.int)) ∧ ∃ v u, σ = [some (.ref a), some (.ref c), v, u]) ⟨s2, upd_same, none, none, rfl⟩ (fun i σ H' _ q => SqT.of (q.1 _ _ hA)) ?_ ?_⟩
    · rintro i y σ H' hi ⟨s3, hc3, v, u, rfl⟩
      obtain ⟨b, hb, rfl⟩ := ref_get hi
      obtain ⟨nd, hn, hnA⟩ := hL.get hb
      have hi' := lt_of_get hn
      have hok := hO i nd hn
      have hn1 : H' b = some (.tup (.str (ndTag nd) :: (ndArgs nd).map V.int)) := hnA.mono (Same.ts s3)
      have hz : ((costs (ns.take i)).map V.int).length < sizeLine := fits (by rw [List.length_map, costs_length, List.length_take]; omega)
      have hle : i ≤ ns.length := by omega
      have fin : ∀ (v1 : Int) (q r : Option V), v1 = ndCost (costs (ns.take i)) nd → (Same H (upd H' c (.lst ((costs (ns.take i)).map V.int ++ [V.int v1]))) ∧ upd H' c (.lst ((costs (ns.take i)).map V.int ++ [V.int v1])) c = some (.lst ((costs (ns.take (i + 1))).map V.int)) ∧
          ∃ v u, [some (V.ref a), some (.ref c), q, r] = [some (V.ref a), some (.ref c), v, u]) := fun v1 q r e => ⟨Same.keep s3 c0, by rw [upd_same, costs_step hn e], q, r, rfl⟩
      refine ⟨_, rfl, b, _, _, _, rfl, rfl, SqT.of hn1, at_of (j := 0) rfl rfl, rfl, _, rfl, ?_⟩
      by_cases h1 : ndTag nd = "const"
      · obtain ⟨k1, rfl⟩ := (t_const nd).mp h1
        rw [decide_eq_true (congrArg V.str h1)]
        refine iteT (iteT ⟨_, rfl, .inl ⟨rfl, _, SqL.of hc3⟩, c, _, _, rfl, rfl, hc3, hz, ?_⟩)
        exact fin 1 _ _ rfl
      · rw [decide_eq_false (s_ne h1)]
        refine iteF ⟨_, rfl, b, _, _, _, rfl, rfl, SqT.of hn1, at_of (j := 0) rfl rfl, rfl, _, rfl, ?_⟩
        by_cases h2 : ndTag nd = "input"
        · obtain ⟨k1, rfl⟩ := (t_input nd).mp h2
          rw [decide_eq_true (congrArg V.str h2)]
          refine iteT ⟨_, rfl, .inl ⟨rfl, _, SqL.of hc3⟩, c, _, _, rfl, rfl, hc3, hz, ?_⟩
          exact fin 1 _ _ rfl
        · rw [decide_eq_false (s_ne h2)]
          refine iteF ⟨_, rfl, b, _, _, _, rfl, rfl, SqT.of hn1, at_of (j := 0) rfl rfl, rfl, _, rfl, ?_⟩
          by_cases h3 : ndTag nd = "scaled"
          · obtain ⟨k1, j, rfl⟩ := (t_scaled nd).mp h3
            rw [decide_eq_true (congrArg V.str h3)]
            refine iteT ⟨_, rfl, .inl ⟨rfl, _, SqL.of hc3⟩, _, rfl, _, rfl, b, _, _, _, rfl, rfl, SqT.of hn1, at_of (j := 2) rfl rfl, c, _, _, _, rfl, rfl, SqL.of hc3, cost_got hok.2 hle, c, _, _, rfl, rfl, hc3, hz, ?_⟩
            exact fin _ _ _ rfl
          · rw [decide_eq_false (s_ne h3)]
            refine iteF ⟨_, rfl, b, _, _, _, rfl, rfl, SqT.of hn1, at_of (j := 0) rfl rfl, rfl, _, rfl, ?_⟩
            by_cases h4 : ndTag nd = "sum"
            · obtain ⟨j1, j2, rfl⟩ := (t_sum nd).mp h4
              rw [decide_eq_true (congrArg V.str h4)]
              refine iteT ⟨_, rfl, .inl ⟨rfl, _, SqL.of hc3⟩, _, rfl, _, rfl, b, _, _, _, rfl, rfl, SqT.of hn1, at_of (j := 1) rfl rfl, c, _, _, _, rfl, rfl, SqL.of hc3, cost_got hok.1 hle,
                _, rfl, _, rfl, b, _, _, _, rfl, rfl, SqT.of hn1, at_of (j := 2) rfl rfl, c, _, _, _, rfl, rfl, SqL.of hc3, cost_got hok.2 hle, _, _, rfl, rfl, c, _, _, rfl, rfl, hc3, hz, ?_⟩
              exact fin _ _ _ rfl
            · rw [decide_eq_false (s_ne h4)]
              refine iteF ⟨_, rfl, b, _, _, _, rfl, rfl, SqT.of hn1, at_of (j := 0) rfl rfl, rfl, _, rfl, ?_⟩
              by_cases h5 : ndTag nd = "product"
              · obtain ⟨j1, j2, rfl⟩ := (t_product nd).mp h5
                rw [decide_eq_true (congrArg V.str h5)]
                refine iteT ⟨_, rfl, .inl ⟨rfl, _, SqL.of hc3⟩, _, rfl, _, rfl, b, _, _, _, rfl, rfl, SqT.of hn1, at_of (j := 1) rfl rfl, c, _, _, _, rfl, rfl, SqL.of hc3, cost_got hok.1 hle,
                  _, rfl, _, rfl, b, _, _, _, rfl, rfl, SqT.of hn1, at_of (j := 2) rfl rfl, c, _, _, _, rfl, rfl, SqL.of hc3, cost_got hok.2 hle, _, _, rfl, rfl, _, _, rfl, rfl, .inl ⟨by decide, by decide⟩, c, _, _, rfl, rfl, hc3, hz, ?_⟩
                exact fin _ _ _ rfl
              · rw [decide_eq_false (s_ne h5)]
                obtain ⟨j1, j2, j3, rfl⟩ : ∃ i j l, nd = .choose i j l := by
                  cases nd with
                  | const c => exact absurd rfl h1
                  | inp q => exact absurd rfl h2
                  | scaled c i => exact absurd rfl h3
                  | sum i j => exact absurd rfl h4
                  | prod i j => exact absurd rfl h5
                  | choose i j l => exact ⟨i, j, l, rfl⟩
                refine iteF ⟨_, rfl, _, rfl, b, _, _, _, rfl, rfl, SqT.of hn1, at_of (j := 3) rfl rfl, c, _, _, _, rfl, rfl, SqL.of hc3, cost_got hok.2.2 hle, ?_⟩
                refine ⟨_, rfl, .inl ⟨rfl, _, SqL.of hc3⟩, _, rfl, _, rfl, _, rfl, b, _, _, _, rfl, rfl, SqT.of hn1, at_of (j := 1) rfl rfl, c, _, _, _, rfl, rfl, SqL.of hc3, cost_got hok.1 hle,
                  _, rfl, _, rfl, b, _, _, _, rfl, rfl, SqT.of hn1, at_of (j := 2) rfl rfl, c, _, _, _, rfl, rfl, SqL.of hc3, cost_got hok.2.1 hle, _, _, rfl, rfl, _, rfl, _, _, rfl, rfl, _, _, rfl, rfl, .inl ⟨by decide, by decide⟩, _, _, rfl, rfl, c, _, _, rfl, rfl, hc3, hz, ?_⟩
                exact fin _ _ _ rfl
    · rintro σ H' ⟨s3, hc3, v, u, rfl⟩
      have ef : ns.take (as.map V.ref).length = ns := List.take_of_length_le (by rw [List.length_map, hL.length]; exact Nat.le_refl _)
      rw [ef] at hc3
      have hlast : atI ((costs ns).map V.int) (-1) = some (.int ((costs ns).getD (ns.length - 1) 0)) := by
        have hne : costs ns ≠ [] := fun e => by
          have q := costs_length ns
          rw [e] at q
          simp at q
          omega
        obtain ⟨xs, x, e⟩ : ∃ xs x, costs ns = xs ++ [x] := ⟨_, _, (List.dropLast_concat_getLast hne).symm⟩
        have hl : xs.length = ns.length - 1 := by
          have q := costs_length ns
          rw [e, List.length_append] at q
          simp at q
          omega
        rw [e, List.map_append]
        refine Eq.trans (atI_last _ _) ?_
        rw [List.getD_eq_getElem?_getD, List.getElem?_append_right (by omega), hl, Nat.sub_self]
        rfl
      exact ⟨_, rfl, 1, rfl, c, _, _, _, rfl, rfl, SqL.of hc3, hlast, k H' s3⟩
end
end Bk

namespace Bk
open PySem PySem.Spec PyProof.Rows L2
theorem mod_range {a md : Int} (h : 0 < md) : 0 ≤ a % md ∧ a % md < md := ⟨Int.emod_nonneg _ (by omega), Int.emod_lt_of_pos _ h⟩
theorem TkOk.facOk {md : Int} {N : Nat} {x : Tk} (h : TkOk md N x) (n : Int) : ∀ f ∈ x.fs, FacOk x.t n f := by
  rcases h.fs with e | ⟨u, e, u0, u3, ut, us⟩
  · rw [e]; intro f hf; cases hf
  · rw [e]
    intro f hf
    have q : f = .cell u := by simpa using hf
    subst q
    exact ⟨u0, u3, ut⟩
theorem TkOk.few {md : Int} {N : Nat} {x : Tk} (h : TkOk md N x) : x.fs.length ≤ 1 := by
  rcases h.fs with e | ⟨u, e, _⟩ <;> rw [e] <;> simp
section
variable {P : Program} {w : World} {K : PySem.W.Frag} {mg : Str → Option Value} {base : Heap}
/-! ### leaf_step -/
def LeafOk (n : Int) (nd : Nd) : Prop := (∃ c, nd = .const c ∧ 0 ≤ c ∧ c < 1000000000) ∨ ∃ k, nd = .inp k ∧ 0 ≤ k ∧ k < n
def spLeafStep : Sp := fun vs H Q _ => ∃ (na ta : Addr) (nd : Nd) (x : Tk) (md n : Int) (N : Nat), vs = [.ref na, .ref ta, .int md] ∧ NdAt H na nd ∧ LeafOk n nd ∧ TkAt H ta x ∧ TkOk md N x ∧ 2 ≤ md ∧ md ≤ 1000000000 ∧
  ∀ (p : Addr) (s : Stp) (H' : Hp), Same H H' → StpAt H' p s → StpOk md n s → Q (.ref p) H'
theorem scLeafStep : FnScope ["node", "task", "modulus", "_", "target", "coefficient", "factors"] ["node", "task", "modulus"] (defScope sLeafStep) := ⟨rfl, rfl, rfl, by decide +kernel, rfl, by decide +kernel, by decide +kernel⟩
theorem ok_leaf_step (D : Df K mg "leaf_step" sLeafStep ["node", "task", "modulus"]) : C8.Cal P w K mg base 1 "leaf_step" spLeafStep [] := by
  refine D.ok scLeafStep (fun vs H Q E h => ?_) (fun f cdv A outer s H vs Q E hr h => ?_)
  · obtain ⟨na, ta, nd, x, md, n, N, rfl, _⟩ := h
    rfl
  · obtain ⟨na, ta, nd, x, md, n, N, rfl, hN, hlf, ⟨fa, hT, as, hF, hL⟩, hO, b1, b2, k⟩ := h
    have hm0 : 0 < md := by omega
    refine ⟨_, pss_cons (ps_asg (pv 1) (pg_tup rfl (pgs_cons (pg_name (i := 3) scLeafStep.nd rfl (.inl rfl)) (pgs_cons (pg_name (i := 4) scLeafStep.nd rfl (.inl rfl)) (pgs_cons (pg_name (i := 5) scLeafStep.nd rfl (.inl rfl)) (pgs_cons (pg_name (i := 6) scLeafStep.nd rfl (.inl rfl)) (pgs_cons (pg_name (i := 3) scLeafStep.nd rfl (.inl rfl)) pgs_nil)))))))
      (pss_cons (ps_if (pt_cmpR op_eq (pe_ix ix_tup (pv 0) pe_int (fun _ _ => rfl)) pe_str (nomark _))
        (pss_one (ps_ret (pe_tup (pa_cons pe_str (pa_cons (pv 4) (pa_cons (pe_op op_mod (pe_op op_mul (pv 5) (pe_ix ix_tup (pv 0) pe_int (fun _ _ => rfl))) (pv 2)) (pa_cons (pv 6) pa_nil))))))) pss_nil)
      (pss_one (ps_ret (pe_tup (pa_cons pe_str (pa_cons (pv 4) (pa_cons (pv 5) (pa_cons (pe_op op_catA (pv 6) (pe_tup (pa_cons (pe_tup (pa_cons pe_str (pa_cons (pe_ix ix_tup (pv 0) pe_int (fun _ _ => rfl)) pa_nil))) pa_nil))) pa_nil)))))))), ?_⟩
    refine ⟨_, rfl, ta, _, rfl, SqT.of hT, rfl, _, _, rfl, _, _, rfl, _, _, rfl, _, _, rfl, _, _, rfl, rfl, ?_⟩
    have hN' : H na = some (.tup (.str (ndTag nd) :: (ndArgs nd).map V.int)) := hN
    refine ⟨_, rfl, na, _, _, _, rfl, rfl, SqT.of hN', at_of (j := 0) rfl rfl, rfl, _, rfl, ?_⟩
    have h0 := hO.c0
    have h1 := hO.cm
    rcases hlf with ⟨c, rfl, c0, c9⟩ | ⟨q, rfl, q0, qn⟩
    · rw [decide_eq_true (show V.str (ndTag (.const c)) = V.str "const" from rfl)]
      refine iteT ⟨_, rfl, _, rfl, _, rfl, na, _, _, _, rfl, rfl, SqT.of hN', at_of (j := 1) rfl rfl, _, _, rfl, rfl, .inl ⟨by omega, by omega⟩, _, rfl, _, _, rfl, rfl, hm0, _, rfl, (by show 4 ≤ sizeLine; decide), fun p hp => ?_⟩
      refine k p ⟨x.t, x.c * c % md, x.fs⟩ _ (Same.new hp) ⟨fa, upd_same, as, (Same.new hp) _ _ hF, hL.mono fun _ _ z => z.mono (TS.new hp)⟩ ⟨hO.t0, hO.t3, (mod_range hm0).1, (mod_range hm0).2, ?_, hO.facOk n⟩
      have h2 := hO.few
      show x.fs.length ≤ 3
      omega
    · rw [decide_eq_false (s_ne (show ¬ ndTag (.inp q) = "const" by show ¬ (("input" : Str) = "const"); decide +kernel))]
      refine iteF ⟨_, rfl, _, rfl, _, rfl, _, rfl, na, _, _, _, rfl, rfl, SqT.of hN', at_of (j := 1) rfl rfl, (by show 2 ≤ sizeLine; decide), fun q1 hq1 => ⟨(by show 1 ≤ sizeLine; decide), fun q2 hq2 => ?_⟩⟩
      have s1 : Same H (upd H q1 (.tup [.str "input", .int q])) := Same.new hq1
      have s2 : Same H (upd (upd H q1 (.tup [.str "input", .int q])) q2 (.tup [.ref q1])) := Same.then s1 hq2
      have hq1' : upd (upd H q1 (.tup [.str "input", .int q])) q2 (.tup [.ref q1]) q1 = some (.tup [.str "input", .int q]) := (Same.new hq2) _ _ upd_same
      have hq2' : upd (upd H q1 (.tup [.str "input", .int q])) q2 (.tup [.ref q1]) q2 = some (.tup [.ref q1]) := upd_same
      have key : ∀ (r : Addr) (H3 : Hp), Same (upd (upd H q1 (.tup [.str "input", .int q])) q2 (.tup [.ref q1])) H3 → H3 r = some (.tup ((as ++ [q1]).map V.ref)) → ∀ p, H3 p = none → Q (.ref p) (upd H3 p (.tup [.str "add", .int x.t, .int x.c, .ref r])) := by
        intro r H3 s3 hr3 p hp
        have s5 : Same H (upd H3 p (.tup [.str "add", .int x.t, .int x.c, .ref r])) := Same.then (s2.trans s3) hp
        refine k p ⟨x.t, x.c, x.fs ++ [.inp q]⟩ _ s5 ⟨r, upd_same, as ++ [q1], (Same.new hp) _ _ hr3, Al.app (hL.mono fun _ _ z => z.mono (Same.ts s5)) (Al.one (show FacAt _ q1 (.inp q) from (Same.new hp) _ _ (s3 _ _ hq1')))⟩ ⟨hO.t0, hO.t3, h0, h1, ?_, ?_⟩
        · have h2 := hO.few
          show (x.fs ++ [Fac.inp q]).length ≤ 3
          rw [List.length_append, List.length_singleton]
          omega
        · intro f hf
          rcases List.mem_append.mp hf with hf | hf
          · exact hO.facOk n f hf
          · have e : f = .inp q := by simpa using hf
            subst e
            exact ⟨q0, qn⟩
      refine ⟨fa, q2, _, _, rfl, rfl, SqT.of (s2 _ _ hF), SqT.of hq2', ?_, ?_, ?_, ?_⟩
      · have h2 := hO.few
        have h3 := hL.length
        show (as.map V.ref).length + 1 ≤ sizeLine
        rw [List.length_map]
        exact Nat.le_trans (show as.length + 1 ≤ 2 by omega) (by decide)
      · intro e
        have e' : as = [] := by simpa using e
        subst e'
        exact ⟨(by show 4 ≤ sizeLine; decide), fun p hp => key q2 _ (Same.refl _) hq2' p hp⟩
      · intro _ e
        cases e
      · intro _ _ q3 hq3
        exact ⟨(by show 4 ≤ sizeLine; decide), fun p hp => key q3 _ (Same.new hq3) (by rw [upd_same, List.map_append]; rfl) p hp⟩
end
end Bk

namespace Bk
open PySem PySem.Spec PyProof.Rows L2
/-- i times the list L -/
def rep (L : List Nat) : Nat → List Nat
  | 0 => []
  | i + 1 => rep L i ++ L
def PairAt (H : Hp) (a : Addr) (p : Int × Nat) : Prop := H a = some (.tup [.int p.1, .int (p.2 : Int)])
theorem PairAt.mono {H H' : Hp} {a : Addr} {p : Int × Nat} (t : TS H H') (h : PairAt H a p) : PairAt H' a p := t _ _ h
def PairsAt (H : Hp) (l : Addr) (ps : List (Int × Nat)) : Prop := ∃ as : List Addr, H l = some (.lst (as.map V.ref)) ∧ Al (PairAt H) as ps
def PairOk (N : Nat) (p : Int × Nat) : Prop := (p.1 = 1 ∨ p.1 = -1) ∧ p.2 < N
/-- the tasks made so far -/
def Made (N : Nat) (md : Int) (H : Hp) (T : Addr) (ks : List Nat) : Prop := ∃ (bs : List Addr) (xs : List Tk), H T = some (.lst (bs.map V.ref)) ∧ Al (TkAt H) bs xs ∧ xs.map (·.k) = ks ∧ ∀ y ∈ xs, TkOk md N y
theorem Made.snoc {N : Nat} {md : Int} {H4 : Hp} {T q : Addr} {ks : List Nat} {y : Tk} {bs : List Addr} {xs : List Tk} (h1 : H4 T = some (.lst (bs.map V.ref))) (h2 : Al (TkAt H4) bs xs) (h3 : xs.map (·.k) = ks) (h4 : ∀ y ∈ xs, TkOk md N y) (hq : TkAt H4 q y) (ok : TkOk md N y) :
    Made N md (upd H4 T (.lst (bs.map V.ref ++ [.ref q]))) T (ks ++ [y.k]) := by
  refine ⟨bs ++ [q], xs ++ [y], ?_, Al.app (h2.mono fun _ _ z => z.mono (TS.lst h1)) (Al.one (hq.mono (TS.lst h1))), by rw [List.map_append, h3]; rfl, fun z hz => ?_⟩
  · rw [upd_same, List.map_append]
    rfl
  · rcases List.mem_append.mp hz with hz | hz
    · exact h4 z hz
    · rw [show z = y by simpa using hz]
      exact ok
theorem third_ok {md : Int} {N : Nat} {x : Tk} (h : TkOk md N x) : 0 ≤ 3 - x.t - x.sp ∧ 3 - x.t - x.sp < 3 ∧ 3 - x.t - x.sp ≠ x.t ∧ 3 - x.t - x.sp ≠ x.sp := by
  obtain ⟨_, h1, h2, h3, h4, h5, _, _, _⟩ := h
  rcases (show x.t = 0 ∨ x.t = 1 ∨ x.t = 2 by omega) with e | e | e <;> rcases (show x.sp = 0 ∨ x.sp = 1 ∨ x.sp = 2 by omega) with f | f | f <;> omega
section
variable {P : Program} {w : World} {K : PySem.W.Frag} {mg : Str → Option Value} {base : Heap}
/-! ### product_tasks -/
def spProduct : Sp := fun vs H Q _ => ∃ (l1 l2 ta : Addr) (ps qs : List (Int × Nat)) (x : Tk) (md : Int) (N : Nat), vs = [.ref l1, .ref l2, .ref ta, .int md] ∧ PairsAt H l1 ps ∧ PairsAt H l2 qs ∧ (∀ p ∈ ps, PairOk N p) ∧ (∀ p ∈ qs, PairOk N p) ∧ ps.length ≤ 2 ∧ qs.length ≤ 2 ∧
  TkAt H ta x ∧ TkOk md N x ∧ 2 ≤ md ∧ md ≤ 1000000000 ∧ ∀ (r : Addr) (H' : Hp), Same H H' → H r = none → Made N md H' r (rep (ps.map (·.2) ++ qs.map (·.2)) 2) → Q (.ref r) H'
abbrev nProduct : List Str := ["first", "second", "task", "modulus", "_", "target", "coefficient", "factors", "spare", "used", "through", "tasks", "passes", "sign", "part", "node"]
theorem scProduct : FnScope nProduct ["first", "second", "task", "modulus"] (defScope sProductTasks) := ⟨rfl, rfl, rfl, by decide +kernel, rfl, by decide +kernel, by decide +kernel⟩
theorem rep_len {L : List Nat} {i : Nat} : (rep L i).length = i * L.length := by
  induction i with
  | zero => simp [rep]
  | succ i ih => rw [rep, List.length_append, ih, Nat.succ_mul]
theorem ok_product (D : Df K mg "product_tasks" sProductTasks ["first", "second", "task", "modulus"]) (T : Txt K mg) : C8.Cal P w K mg base 1 "product_tasks" spProduct [] := by
  refine D.ok scProduct (fun vs H Q E h => ?_) (fun f cdv A outer s H vs Q E hr h => ?_)
  · obtain ⟨l1, l2, ta, ps, qs, x, md, N, rfl, _⟩ := h
    rfl
  · obtain ⟨l1, l2, ta, ps, qs, x, md, N, rfl, ⟨as1, h1, hL1⟩, ⟨as2, h2, hL2⟩, hp1, hp2, z1, z2, hT, hO, b1, b2, k⟩ := h
    obtain ⟨fa, hTa, as, hF, hL⟩ := id hT
    have hm0 : 0 < md := by omega
    have hc0 := hO.c0
    have hcm := hO.cm
    refine ⟨_, pss_cons (ps_asg (pv 2) (pg_tup rfl (pgs_cons (pg_name (i := 4) scProduct.nd rfl (.inl rfl)) (pgs_cons (pg_name (i := 5) scProduct.nd rfl (.inl rfl)) (pgs_cons (pg_name (i := 6) scProduct.nd rfl (.inl rfl)) (pgs_cons (pg_name (i := 7) scProduct.nd rfl (.inl rfl)) (pgs_cons (pg_name (i := 8) scProduct.nd rfl (.inl rfl)) pgs_nil)))))))
      (C8.pss_cut (ps_set (i := 9) scProduct.nd rfl (Or.inl rfl) (pe_ifExp (pt_truth (pv 7) (by intro _; rfl)) (pe_ix ix_tup (pe_ix ix_tup (pv 7) pe_int (fun _ _ => rfl)) pe_int (fun _ _ => rfl)) (pe_op op_sub (pe_op op_sub pe_int (pv 5)) (pv 8))))
      (pss_cons (ps_set (i := 10) scProduct.nd rfl (Or.inl rfl) (pe_tup (pa_cons (pe_tup (pa_cons pe_str (pa_cons (pv 8) pa_nil))) pa_nil)))
      (pss_cons (ps_set (i := 11) scProduct.nd rfl (Or.inl rfl) (pe_lst pa_nil))
      (pss_cons (ps_for PassesOwn.never rfl (pi_range1 rfl T.range (pa_cons pe_int pa_nil)) (pg_name (i := 12) scProduct.nd rfl (Or.inl rfl))
        (C8.pss_cut (ps_set (i := 13) scProduct.nd rfl (Or.inl rfl) (pe_ifExp (pt_cmpR op_eq (pv 12) pe_int (nomark _)) (pe_un un_neg pe_int) pe_int))
        (pss_cons (ps_for PassesOwn.never rfl (pi_list (pv 0)) (pg_tup rfl (pgs_cons (pg_name (i := 14) scProduct.nd rfl (.inl rfl)) (pgs_cons (pg_name (i := 15) scProduct.nd rfl (.inl rfl)) pgs_nil)))
          (pss_one (ps_expr (pe_bm PySem.F.plainAttrs_list PySem.F.slot_list_append PySem.F.type_list_append mt_append (pv 11) (pa_cons
            (pe_tup (pa_cons (pv 15) (pa_cons (pv 5) (pa_cons (pe_op op_mod (pe_op op_mul (pe_op op_mul (pv 13) (pv 14)) (pv 6)) (pv 3)) (pa_cons (pv 10) (pa_cons (pv 9) pa_nil)))))) pa_nil)))))
        (pss_one (ps_for PassesOwn.never rfl (pi_list (pv 1)) (pg_tup rfl (pgs_cons (pg_name (i := 14) scProduct.nd rfl (.inl rfl)) (pgs_cons (pg_name (i := 15) scProduct.nd rfl (.inl rfl)) pgs_nil)))
          (pss_one (ps_expr (pe_bm PySem.F.plainAttrs_list PySem.F.slot_list_append PySem.F.type_list_append mt_append (pv 11) (pa_cons
            (pe_tup (pa_cons (pv 15) (pa_cons (pv 8) (pa_cons (pe_op op_mod (pe_op op_mul (pe_un un_neg (pv 13)) (pv 14)) (pv 3)) (pa_cons (pv 7) (pa_cons (pv 5) pa_nil)))))) pa_nil)))))))))
      (pss_one (ps_ret (pv 11))))))), ?_⟩
    refine ⟨_, rfl, ta, _, rfl, SqT.of hTa, rfl, _, _, rfl, _, _, rfl, _, _, rfl, _, _, rfl, _, _, rfl, rfl, ?_⟩
    -- used
    refine ⟨fun σ' H' => H' = H ∧ ∃ us : Int, (0 ≤ us ∧ us < 3 ∧ us ≠ x.t ∧ us ≠ x.sp) ∧ σ' = [some (.ref l1), some (.ref l2), some (.ref ta), some (.int md), some (.int (x.k : Int)), some (.int x.t), some (.int x.c), some (.ref fa), some (.int x.sp), some (.int us), none, none, none, none, none, none], ?_, ?_⟩
    · refine ⟨_, rfl, !(as.map V.ref).isEmpty, .inr (.inl ⟨_, SqT.of hF, rfl⟩), ?_⟩
      rcases hO.fs with e | ⟨u, e, u0, u3, ut, us⟩
      · rw [e] at hL
        have e' : as = [] := List.eq_nil_of_length_eq_zero hL.length
        subst e'
        refine iteF ⟨_, rfl, _, _, rfl, rfl, _, rfl, _, _, rfl, rfl, ?_⟩
        exact ⟨rfl, 3 - x.t - x.sp, third_ok hO, rfl⟩
      · rw [e] at hL
        obtain ⟨q, hq, hqA⟩ := hL.got (show ([Fac.cell u] : List Fac)[0]? = some (.cell u) from rfl)
        have e' : as = [q] := by
          have l := hL.length
          match as, l, hq with
          | [z], _, hq => rw [Option.some.inj hq]
        subst e'
        exact iteT ⟨_, rfl, fa, _, _, _, rfl, rfl, SqT.of hF, at_of (j := 0) rfl rfl, q, _, _, _, rfl, rfl, SqT.of hqA, at_of (j := 1) rfl rfl, rfl, u, ⟨u0, u3, ut, us⟩, rfl⟩
    · rintro σ' H' ⟨rfl, us, ⟨us0, us3, ust, uss⟩, rfl⟩
      refine ⟨_, rfl, (by show 2 ≤ sizeLine; decide), fun q1 hq1 => ⟨(by show 1 ≤ sizeLine; decide), fun th hth => ?_⟩⟩
      refine ⟨Nat.zero_le _, fun TL hTL => ?_⟩
      have s1 : Same H' (upd H' q1 (.tup [.str "cell", .int x.sp])) := Same.new hq1
      have s2 := Same.then s1 hth (o := .tup [.ref q1])
      have s3 := Same.then s2 hTL (o := .lst [])
      have hth3 : FacsAt (upd (upd (upd H' q1 (.tup [.str "cell", .int x.sp])) th (.tup [.ref q1])) TL (.lst [])) th [.cell x.sp] := by
        refine ⟨[q1], (Same.new hTL) _ _ upd_same, Al.one ?_⟩
        exact (Same.new hTL) _ _ ((Same.new hth) _ _ upd_same)
      have hTL0 : H' TL = none := s2.free hTL
      have hF3 : ∀ H4, Same H' H4 → FacsAt H4 fa x.fs := fun H4 s4 => FacsAt.mono (Same.ts s4) ⟨as, hF, hL⟩
      generalize hH3 : upd (upd (upd H' q1 (.tup [.str "cell", .int x.sp])) th (.tup [.ref q1])) TL (.lst []) = H3 at s3 hth3
      have hTL3 : H3 TL = some (.lst []) := by rw [← hH3]; exact upd_same
      clear hH3
      refine ⟨2, rfl, by decide, by decide, for_range (n := 2) (fun i σ H4 => Same H' H4 ∧ FacsAt H4 th [.cell x.sp] ∧ Made N md H4 TL (rep (ps.map (·.2) ++ qs.map (·.2)) i) ∧ i ≤ 2 ∧
        ∃ v12 v13 v14 v15, σ = [some (.ref l1), some (.ref l2), some (.ref ta), some (.int md), some (.int (x.k : Int)), some (.int x.t), some (.int x.c), some (.ref fa), some (.int x.sp), some (.int us), some (.ref th), some (.ref TL), v12, v13, v14, v15])
        ⟨s3, hth3, ⟨[], [], hTL3, True.intro, rfl, fun y hy => by cases hy⟩, by omega, none, none, none, none, rfl⟩ ?_ ?_⟩
      · rintro i σ H4 hi ⟨s4, hth4, hM4, _, v12, v13, v14, v15, rfl⟩
        -- sign
        refine ⟨fun σ' H5 => H5 = H4 ∧ ∃ sg : Int, (sg = 1 ∨ sg = -1) ∧ σ' = [some (.ref l1), some (.ref l2), some (.ref ta), some (.int md), some (.int (x.k : Int)), some (.int x.t), some (.int x.c), some (.ref fa), some (.int x.sp), some (.int us), some (.ref th), some (.ref TL), some (.int (0 + (i : Int))), some (.int sg), v14, v15], ?_, ?_⟩
        · refine ⟨_, rfl, rfl, _, rfl, ?_⟩
          by_cases e : (0 + (i : Int)) = 0
          · rw [decide_eq_true (congrArg V.int e)]
            exact iteT ⟨_, rfl, rfl, -1, .inr rfl, rfl⟩
          · rw [decide_eq_false (ine e)]
            exact iteF ⟨rfl, 1, .inl rfl, rfl⟩
        · rintro σ' H5 ⟨rfl, sg, hsg, rfl⟩
          have hl1 := s4 _ _ h1
          refine ⟨_, rfl, l1, rfl, ⟨_, SqL.of hl1⟩, for_list (K := K) (a := l1) (xs := as1.map V.ref) (fun j σ H6 => Same H' H6 ∧ FacsAt H6 th [.cell x.sp] ∧ Made N md H6 TL (rep (ps.map (·.2) ++ qs.map (·.2)) i ++ (ps.take j).map (·.2)) ∧
            ∃ v14 v15, σ = [some (.ref l1), some (.ref l2), some (.ref ta), some (.int md), some (.int (x.k : Int)), some (.int x.t), some (.int x.c), some (.ref fa), some (.int x.sp), some (.int us), some (.ref th), some (.ref TL), some (.int (0 + (i : Int))), some (.int sg), v14, v15])
            ⟨s4, hth4, by rw [List.take_zero, List.map_nil, List.append_nil]; exact hM4, v14, v15, rfl⟩ (fun j σ H6 _ q => SqL.of (q.1 _ _ h1)) ?_ ?_⟩
          · rintro j y σ H6 hj ⟨s6, hth6, ⟨bs, xs, hb6, hx6, hk6, ho6⟩, v14, v15, rfl⟩
            obtain ⟨b, hb, rfl⟩ := ref_get hj
            obtain ⟨⟨pt, nd⟩, hpn, hpA⟩ := hL1.get hb
            have hpo := hp1 _ (List.mem_of_getElem? hpn)
            have hpA6 : H6 b = some (.tup [.int pt, .int (nd : Int)]) := hpA.mono (Same.ts s6)
            refine ⟨b, _, rfl, SqT.of hpA6, rfl, _, _, rfl, _, _, rfl, rfl, ?_⟩
            have hsp : sg * pt = 1 ∨ sg * pt = -1 := by
              rcases hsg with rfl | rfl <;> rcases hpo.1 with e | e <;> simp only at e <;> rw [e] <;> decide
            refine ⟨_, rfl, .inl ⟨rfl, _, SqL.of hb6⟩, _, rfl, _, rfl, _, rfl, _, rfl, _, _, rfl, rfl, .inl (by rcases hsg with rfl | rfl <;> decide), _, rfl, _, _, rfl, rfl, .inl (by rcases hsp with e | e <;> rw [e] <;> decide), _, rfl, _, _, rfl, rfl, hm0, _, rfl, _, rfl,
              (by show 5 ≤ sizeLine; decide), fun q hq => ?_⟩
            have s7 := Same.new hq (o := .tup [.int (nd : Int), .int x.t, .int (sg * pt * x.c % md), .ref th, .int us])
            have hlen : (bs.map V.ref).length < sizeLine := by
              have l1 := hx6.length
              have l2 := congrArg List.length hk6
              rw [List.length_map, List.length_append, rep_len, List.length_map, List.length_take, List.length_append, List.length_map, List.length_map] at l2
              refine fits ?_
              rw [List.length_map, l1, l2]
              have : i * (ps.length + qs.length) ≤ 2 * 4 := Nat.mul_le_mul (by omega) (by omega)
              omega
            refine ⟨TL, _, _, rfl, rfl, s7 _ _ hb6, hlen, ?_⟩
            refine ⟨Same.keep (s6.trans s7) hTL0, (hth6.mono (Same.ts s7)).mono (TS.lst (s7 _ _ hb6)), ?_, some (.int pt), some (.int (nd : Int)), rfl⟩
            have e : (ps.take (j + 1)).map (·.2) = (ps.take j).map (·.2) ++ [nd] := by rw [List.take_add_one, hpn, List.map_append]; rfl
            rw [e, ← List.append_assoc]
            refine Made.snoc (y := ⟨nd, x.t, sg * pt * x.c % md, [.cell x.sp], us⟩) (s7 _ _ hb6) (hx6.mono fun _ _ z => z.mono (Same.ts s7)) hk6 ho6 ⟨th, upd_same, hth6.mono (Same.ts s7)⟩ ?_
            exact ⟨hpo.2, hO.t0, hO.t3, us0, us3, fun z => ust z.symm, (mod_range hm0).1, (mod_range hm0).2, .inr ⟨x.sp, rfl, hO.s0, hO.s3, fun z => hO.ts z.symm, fun z => uss z.symm⟩⟩
          · rintro σ H6 ⟨s6, hth6, hM6, v14', v15', rfl⟩
            have ef : ps.take (as1.map V.ref).length = ps := List.take_of_length_le (by rw [List.length_map, hL1.length]; exact Nat.le_refl _)
            rw [ef] at hM6
            refine ⟨_, rfl, l2, rfl, ⟨_, SqL.of (s6 _ _ h2)⟩, for_list (K := K) (a := l2) (xs := as2.map V.ref) (fun j σ H6 => Same H' H6 ∧ FacsAt H6 th [.cell x.sp] ∧ Made N md H6 TL (rep (ps.map (·.2) ++ qs.map (·.2)) i ++ ps.map (·.2) ++ (qs.take j).map (·.2)) ∧
              ∃ v14 v15, σ = [some (.ref l1), some (.ref l2), some (.ref ta), some (.int md), some (.int (x.k : Int)), some (.int x.t), some (.int x.c), some (.ref fa), some (.int x.sp), some (.int us), some (.ref th), some (.ref TL), some (.int (0 + (i : Int))), some (.int sg), v14, v15])
              ⟨s6, hth6, by rw [List.take_zero, List.map_nil, List.append_nil]; exact hM6, v14', v15', rfl⟩ (fun j σ H6 _ q => SqL.of (q.1 _ _ h2)) ?_ ?_⟩
            · rintro j y σ H6 hj ⟨s6, hth6, ⟨bs, xs, hb6, hx6, hk6, ho6⟩, v14, v15, rfl⟩
              obtain ⟨b, hb, rfl⟩ := ref_get hj
              obtain ⟨⟨pt, nd⟩, hpn, hpA⟩ := hL2.get hb
              have hpo := hp2 _ (List.mem_of_getElem? hpn)
              have hpA6 : H6 b = some (.tup [.int pt, .int (nd : Int)]) := hpA.mono (Same.ts s6)
              refine ⟨b, _, rfl, SqT.of hpA6, rfl, _, _, rfl, _, _, rfl, rfl, ?_⟩
              refine ⟨_, rfl, .inl ⟨rfl, _, SqL.of hb6⟩, _, rfl, _, rfl, _, rfl, _, rfl, _, rfl, _, _, rfl, rfl, .inl (by rcases hsg with rfl | rfl <;> decide), _, rfl, _, _, rfl, rfl, hm0, _, rfl, _, rfl,
                (by show 5 ≤ sizeLine; decide), fun q hq => ?_⟩
              have s7 := Same.new hq (o := .tup [.int (nd : Int), .int x.sp, .int (-sg * pt % md), .ref fa, .int x.t])
              have hlen : (bs.map V.ref).length < sizeLine := by
                have l1 := hx6.length
                have l2 := congrArg List.length hk6
                rw [List.length_map, List.length_append, List.length_append, rep_len, List.length_map, List.length_map, List.length_take, List.length_append, List.length_map, List.length_map] at l2
                refine fits ?_
                rw [List.length_map, l1, l2]
                have : i * (ps.length + qs.length) ≤ 2 * 4 := Nat.mul_le_mul (by omega) (by omega)
                omega
              refine ⟨TL, _, _, rfl, rfl, s7 _ _ hb6, hlen, ?_⟩
              refine ⟨Same.keep (s6.trans s7) hTL0, (hth6.mono (Same.ts s7)).mono (TS.lst (s7 _ _ hb6)), ?_, some (.int pt), some (.int (nd : Int)), rfl⟩
              have e : (qs.take (j + 1)).map (·.2) = (qs.take j).map (·.2) ++ [nd] := by rw [List.take_add_one, hpn, List.map_append]; rfl
              rw [e, ← List.append_assoc]
              refine Made.snoc (y := ⟨nd, x.sp, -sg * pt % md, x.fs, x.t⟩) (s7 _ _ hb6) (hx6.mono fun _ _ z => z.mono (Same.ts s7)) hk6 ho6 ⟨fa, upd_same, hF3 _ (s6.trans s7)⟩ ?_
              refine ⟨hpo.2, hO.s0, hO.s3, hO.t0, hO.t3, fun z => hO.ts z.symm, (mod_range hm0).1, (mod_range hm0).2, ?_⟩
              rcases hO.fs with e | ⟨u, e, u0, u3, ut, us⟩
              · exact .inl e
              · exact .inr ⟨u, e, u0, u3, us, ut⟩
            · rintro σ H6 ⟨s6, hth6, hM6, v14', v15', rfl⟩
              have ef : qs.take (as2.map V.ref).length = qs := List.take_of_length_le (by rw [List.length_map, hL2.length]; exact Nat.le_refl _)
              rw [ef] at hM6
              refine ⟨s6, hth6, ?_, by omega, _, _, _, _, rfl⟩
              show Made N md H6 TL (rep (ps.map (·.2) ++ qs.map (·.2)) i ++ (ps.map (·.2) ++ qs.map (·.2)))
              rw [← List.append_assoc]
              exact hM6
      · rintro σ H4 ⟨s4, hth4, hM4, _, v12, v13, v14, v15, rfl⟩
        exact ⟨_, rfl, k TL H4 s4 hTL0 hM4⟩
end
end Bk

namespace Bk
open PySem PySem.Spec PyProof.Rows L2
theorem TkOk.at {md : Int} {N : Nat} {x : Tk} (h : TkOk md N x) {i : Nat} (hi : i < N) {c : Int} (c0 : 0 ≤ c) (cm : c < md) : TkOk md N ⟨i, x.t, c, x.fs, x.sp⟩ := ⟨hi, h.t0, h.t3, h.s0, h.s3, h.ts, c0, cm, h.fs⟩
theorem Made.cons {N : Nat} {md : Int} {H : Hp} {ks : List Nat} {y : Tk} {q p : Addr} {zs : List V} (hM : ∃ (bs : List Addr) (xs : List Tk), zs = bs.map V.ref ∧ Al (TkAt H) bs xs ∧ xs.map (·.k) = ks ∧ ∀ y ∈ xs, TkOk md N y) (hq : TkAt H q y) (ok : TkOk md N y) (hp : H p = none) :
    Made N md (upd H p (.lst ([V.ref q] ++ zs))) p (y.k :: ks) := by
  obtain ⟨bs, xs, rfl, h2, h3, h4⟩ := hM
  refine ⟨q :: bs, y :: xs, upd_same, ⟨hq.mono (TS.new hp), h2.mono fun _ _ z => z.mono (TS.new hp)⟩, by rw [List.map_cons, h3], fun z hz => ?_⟩
  rcases List.mem_cons.mp hz with rfl | hz
  · exact ok
  · exact h4 z hz
section
variable {P : Program} {w : World} {K : PySem.W.Frag} {mg : Str → Option Value} {base : Heap}
/-! ### inner_tasks -/
def spInner : Sp := fun vs H Q _ => ∃ (na ta : Addr) (nd : Nd) (x : Tk) (md : Int) (N : Nat), vs = [.ref na, .ref ta, .int md] ∧ NdAt H na nd ∧ NdOk x.k nd ∧ kids nd ≠ [] ∧ TkAt H ta x ∧ TkOk md N x ∧ 2 ≤ md ∧ md ≤ 1000000000 ∧
  ∀ (r : Addr) (H' : Hp), Same H H' → H r = none → Made N md H' r (kids nd) → Q (.ref r) H'
abbrev nInner : List Str := ["node", "task", "modulus", "_", "target", "coefficient", "factors", "spare", "part", "alone", "both"]
theorem scInner : FnScope nInner ["node", "task", "modulus"] (defScope sInnerTasks) := ⟨rfl, rfl, rfl, by decide +kernel, rfl, by decide +kernel, by decide +kernel⟩
theorem ok_inner (D : Df K mg "inner_tasks" sInnerTasks ["node", "task", "modulus"]) (c1 : C8.Cal P w K mg base 1 "product_tasks" spProduct []) : C8.Cal P w K mg base 2 "inner_tasks" spInner [] := by
  refine D.ok scInner (fun vs H Q E h => ?_) (fun f cdv A outer s H vs Q E hr h => ?_)
  · obtain ⟨na, ta, nd, x, md, N, rfl, _⟩ := h
    rfl
  · obtain ⟨na, ta, nd, x, md, N, rfl, hN, hNd, hkids, hT, hO, b1, b2, k⟩ := h
    obtain ⟨fa, hTa, hF⟩ := id hT
    have hm0 : 0 < md := by omega
    have hc0 := hO.c0
    have hcm := hO.cm
    have hN' : H na = some (.tup (.str (ndTag nd) :: (ndArgs nd).map V.int)) := hN
    have hlt : ∀ i ∈ kids nd, i < N := fun i hi => Nat.lt_trans (kids_lt hNd i hi) hO.k
    refine ⟨_, pss_cons (ps_asg (pv 1) (pg_tup rfl (pgs_cons (pg_name (i := 3) scInner.nd rfl (.inl rfl)) (pgs_cons (pg_name (i := 4) scInner.nd rfl (.inr rfl)) (pgs_cons (pg_name (i := 5) scInner.nd rfl (.inr rfl)) (pgs_cons (pg_name (i := 6) scInner.nd rfl (.inr rfl)) (pgs_cons (pg_name (i := 7) scInner.nd rfl (.inr rfl)) pgs_nil)))))))
      (pss_cons (ps_if (pt_cmpR op_eq (pe_ix ix_tup (pv 0) pe_int (fun _ _ => rfl)) pe_str (nomark _))
        (pss_one (ps_ret (pe_lst (pa_cons (pe_tup (pa_cons (pe_ix ix_tup (pv 0) pe_int (fun _ _ => rfl)) (pa_cons (pv 4) (pa_cons (pe_op op_mod (pe_op op_mul (pv 5) (pe_ix ix_tup (pv 0) pe_int (fun _ _ => rfl))) (pv 2)) (pa_cons (pv 6) (pa_cons (pv 7) pa_nil)))))) pa_nil)))) pss_nil)
      (pss_cons (ps_if (pt_cmpR op_eq (pe_ix ix_tup (pv 0) pe_int (fun _ _ => rfl)) pe_str (nomark _))
        (pss_one (ps_ret (pe_lc (own := [("part", 8)]) (g := gName 8) (tt := tYes) rfl scInner.nd (pi_tup (pe_slice sl_tup (pv 0) (po_some pe_int) po_none)) (blkOk_by (N := nInner) (sc := defScope sInnerTasks) (by decide +kernel))
          (fun _ _ _ _ _ => pg_name (i := 8) scInner.nd rfl (Or.inl rfl)) (fun _ _ _ _ _ => pts_nil) (fun _ _ _ _ _ => pe_tup (pa_cons (pv 8) (pa_cons (pv 4) (pa_cons (pv 5) (pa_cons (pv 6) (pa_cons (pv 7) pa_nil))))))))) pss_nil)
      (pss_cons (ps_if (pt_cmpR op_eq (pe_ix ix_tup (pv 0) pe_int (fun _ _ => rfl)) pe_str (nomark _))
        (pss_one (ps_ret (C8.pe_c c1 hr (by decide) rfl (pa_cons (pe_lst (pa_cons (pe_tup (pa_cons pe_int (pa_cons (pe_ix ix_tup (pv 0) pe_int (fun _ _ => rfl)) pa_nil))) pa_nil)) (pa_cons (pe_lst (pa_cons (pe_tup (pa_cons pe_int (pa_cons (pe_ix ix_tup (pv 0) pe_int (fun _ _ => rfl)) pa_nil))) pa_nil)) (pa_cons (pv 1) (pa_cons (pv 2) pa_nil))))))) pss_nil)
      (pss_cons (ps_set (i := 9) scInner.nd rfl (Or.inl rfl) (pe_lst (pa_cons (pe_tup (pa_cons (pe_ix ix_tup (pv 0) pe_int (fun _ _ => rfl)) (pa_cons (pv 4) (pa_cons (pv 5) (pa_cons (pv 6) (pa_cons (pv 7) pa_nil)))))) pa_nil)))
      (pss_cons (ps_set (i := 10) scInner.nd rfl (Or.inl rfl) (pe_lst (pa_cons (pe_tup (pa_cons pe_int (pa_cons (pe_ix ix_tup (pv 0) pe_int (fun _ _ => rfl)) pa_nil))) (pa_cons (pe_tup (pa_cons (pe_un un_neg pe_int) (pa_cons (pe_ix ix_tup (pv 0) pe_int (fun _ _ => rfl)) pa_nil))) pa_nil))))
      (pss_one (ps_ret (pe_op op_cat (pv 9) (C8.pe_c c1 hr (by decide) rfl (pa_cons (pe_lst (pa_cons (pe_tup (pa_cons pe_int (pa_cons (pe_ix ix_tup (pv 0) pe_int (fun _ _ => rfl)) pa_nil))) pa_nil)) (pa_cons (pv 10) (pa_cons (pv 1) (pa_cons (pv 2) pa_nil)))))))))))))
      , ?_⟩
    refine ⟨_, rfl, ta, _, rfl, SqT.of hTa, rfl, _, _, rfl, _, _, rfl, _, _, rfl, _, _, rfl, _, _, rfl, rfl, ?_⟩
    refine ⟨_, rfl, na, _, _, _, rfl, rfl, SqT.of hN', at_of (j := 0) rfl rfl, rfl, _, rfl, ?_⟩
    by_cases h3 : ndTag nd = "scaled"
    · obtain ⟨c, i, rfl⟩ := (t_scaled nd).mp h3
      rw [decide_eq_true (congrArg V.str h3)]
      refine iteT ⟨_, rfl, na, _, _, _, rfl, rfl, SqT.of hN', at_of (j := 2) rfl rfl, _, rfl, _, rfl, _, rfl, na, _, _, _, rfl, rfl, SqT.of hN', at_of (j := 1) rfl rfl, _, _, rfl, rfl, .inl ⟨by omega, by omega⟩, _, rfl, _, _, rfl, rfl, hm0, _, rfl, _, rfl,
        (by show 5 ≤ sizeLine; decide), fun q hq => ⟨(by show 1 ≤ sizeLine; decide), fun r hr' => ?_⟩⟩
      have s1 := Same.new hq (o := .tup [.int (i : Int), .int x.t, .int (x.c * c % md), .ref fa, .int x.sp])
      have s2 := Same.then s1 hr' (o := .lst [.ref q])
      refine k r _ s2 (s1.free hr') ⟨[q], [⟨i, x.t, x.c * c % md, x.fs, x.sp⟩], upd_same, Al.one ⟨fa, (Same.new hr') _ _ upd_same, hF.mono (Same.ts s2)⟩, rfl, fun y hy => ?_⟩
      have e : y = ⟨i, x.t, x.c * c % md, x.fs, x.sp⟩ := by simpa using hy
      subst e
      exact hO.at (hlt i (by simp [kids])) (mod_range hm0).1 (mod_range hm0).2
    · rw [decide_eq_false (s_ne h3)]
      refine iteF ⟨_, rfl, na, _, _, _, rfl, rfl, SqT.of hN', at_of (j := 0) rfl rfl, rfl, _, rfl, ?_⟩
      by_cases h4 : ndTag nd = "sum"
      · obtain ⟨j1, j2, rfl⟩ := (t_sum nd).mp h4
        rw [decide_eq_true (congrArg V.str h4)]
        refine iteT ⟨_, rfl, _, rfl, na, _, rfl, SqT.of hN', cut_part, fun u hu => ?_⟩
        have hu1 : upd H u (.tup (cutV (V.str (ndTag (.sum j1 j2)) :: (ndArgs (.sum j1 j2)).map V.int) (some 1) none)) u = some (.tup ([j1, j2].map fun i : Nat => V.int (i : Int))) := by rw [upd_same, cut_tail]; rfl
        have s1 := Same.new hu (o := .tup (cutV (V.str (ndTag (.sum j1 j2)) :: (ndArgs (.sum j1 j2)).map V.int) (some 1) none))
        generalize upd H u (.tup (cutV (V.str (ndTag (.sum j1 j2)) :: (ndArgs (.sum j1 j2)).map V.int) (some 1) none)) = H1 at hu1 s1
        refine ⟨u, rfl, ⟨_, SqT.of hu1⟩, fun R hR => ?_⟩
        have hR0 : H R = none := s1.free hR
        refine lc_tup (K := K) (a := u) (xs := [j1, j2].map fun i : Nat => V.int (i : Int)) (fun i H' => Same H1 H' ∧ Made N md H' R ([j1, j2].take i)) ?_ (fun i H' _ q => SqT.of (q.1 _ _ hu1)) ?_ ?_
        · exact ⟨Same.new hR, [], [], upd_same, True.intro, rfl, fun y hy => by cases hy⟩
        · rintro i y H' hi ⟨s2, bs, xs, hb6, hx6, hk6, ho6⟩
          rw [List.getElem?_map] at hi
          obtain ⟨j, hj, ey⟩ : ∃ j, [j1, j2][i]? = some j ∧ V.int (j : Int) = y := by
            cases e : ([j1, j2] : List Nat)[i]? with
            | none => rw [e] at hi; cases hi
            | some j => rw [e] at hi; exact ⟨j, rfl, Option.some.inj hi⟩
          subst ey
          refine ⟨rfl, _, rfl, _, rfl, _, rfl, _, rfl, _, rfl, (by show 5 ≤ sizeLine; decide), fun q hq => ?_⟩
          have s3 := Same.new hq (o := .tup [.int (j : Int), .int x.t, .int x.c, .ref fa, .int x.sp])
          refine ⟨_, s3 _ _ hb6, fits ?_, Same.keep (s2.trans s3) hR, ?_⟩
          · have l1 := hx6.length
            have l2 := congrArg List.length hk6
            rw [List.length_map, List.length_take] at l2
            rw [List.length_map, l1, l2]
            show min i 2 ≤ _
            omega
          · have e : ([j1, j2] : List Nat).take (i + 1) = [j1, j2].take i ++ [j] := by rw [List.take_add_one, hj]; rfl
            rw [e]
            have hj' : j ∈ kids (.sum j1 j2) := List.mem_of_getElem? hj
            exact Made.snoc (y := ⟨j, x.t, x.c, x.fs, x.sp⟩) (s3 _ _ hb6) (hx6.mono fun _ _ z => z.mono (Same.ts s3)) hk6 ho6 ⟨fa, upd_same, hF.mono (Same.ts (s1.trans (s2.trans s3)))⟩ (hO.at (hlt j hj') hc0 hcm)
        · rintro H' ⟨s2, hM⟩
          exact k R H' (s1.trans s2) hR0 hM
      · rw [decide_eq_false (s_ne h4)]
        refine iteF ⟨_, rfl, na, _, _, _, rfl, rfl, SqT.of hN', at_of (j := 0) rfl rfl, rfl, _, rfl, ?_⟩
        by_cases h5 : ndTag nd = "product"
        · obtain ⟨j1, j2, rfl⟩ := (t_product nd).mp h5
          rw [decide_eq_true (congrArg V.str h5)]
          refine iteT ⟨_, rfl, na, _, _, _, rfl, rfl, SqT.of hN', at_of (j := 1) rfl rfl, (by show 2 ≤ sizeLine; decide), fun q1 hq1 => ⟨(by show 1 ≤ sizeLine; decide), fun l1 hl1 => ?_⟩⟩
          have s1 := Same.new hq1 (o := .tup [.int 1, .int (j1 : Int)])
          have s2 := Same.then s1 hl1 (o := .lst [.ref q1])
          refine ⟨_, rfl, na, _, _, _, rfl, rfl, SqT.of (s2 _ _ hN'), at_of (j := 2) rfl rfl, (by show 2 ≤ sizeLine; decide), fun q2 hq2 => ⟨(by show 1 ≤ sizeLine; decide), fun l2 hl2 => ?_⟩⟩
          have t3 := Same.new hq2 (o := .tup [.int 1, .int (j2 : Int)])
          have t4 := Same.then t3 hl2 (o := .lst [.ref q2])
          have s4 := s2.trans t4
          refine ⟨_, rfl, _, rfl, l1, l2, ta, [(1, j1)], [(1, j2)], x, md, N, rfl, ⟨[q1], t4 _ _ upd_same, Al.one ?_⟩, ⟨[q2], upd_same, Al.one ?_⟩, ?_, ?_, by simp, by simp, hT.mono (Same.ts s4), hO, b1, b2, fun r H' s5 hr' hM => ?_⟩
          · exact t4 _ _ ((Same.new hl1) _ _ upd_same)
          · exact (Same.new hl2) _ _ upd_same
          · intro p hp
            have e : p = (1, j1) := by simpa using hp
            subst e
            exact ⟨.inl rfl, hlt j1 (by simp [kids])⟩
          · intro p hp
            have e : p = (1, j2) := by simpa using hp
            subst e
            exact ⟨.inl rfl, hlt j2 (by simp [kids])⟩
          · exact k r H' (s4.trans s5) (s4.free hr') hM
        · rw [decide_eq_false (s_ne h5)]
          obtain ⟨j1, j2, j3, rfl⟩ : ∃ i j l, nd = .choose i j l := by
            cases nd with
            | const c => exact absurd rfl hkids
            | inp q => exact absurd rfl hkids
            | scaled c i => exact absurd rfl h3
            | sum i j => exact absurd rfl h4
            | prod i j => exact absurd rfl h5
            | choose i j l => exact ⟨i, j, l, rfl⟩
          refine iteF ⟨_, rfl, na, _, _, _, rfl, rfl, SqT.of hN', at_of (j := 3) rfl rfl, _, rfl, _, rfl, _, rfl, _, rfl, (by show 5 ≤ sizeLine; decide), fun qa hqa => ⟨(by show 1 ≤ sizeLine; decide), fun la hla => ?_⟩⟩
          have s1 := Same.new hqa (o := .tup [.int (j3 : Int), .int x.t, .int x.c, .ref fa, .int x.sp])
          have s2 := Same.then s1 hla (o := .lst [.ref qa])
          have hqa2 : upd (upd H qa (.tup [.int (j3 : Int), .int x.t, .int x.c, .ref fa, .int x.sp])) la (.lst [.ref qa]) qa = some (.tup [.int (j3 : Int), .int x.t, .int x.c, .ref fa, .int x.sp]) := (Same.new hla) _ _ upd_same
          have hla2 : upd (upd H qa (.tup [.int (j3 : Int), .int x.t, .int x.c, .ref fa, .int x.sp])) la (.lst [.ref qa]) la = some (.lst [.ref qa]) := upd_same
          refine ⟨_, rfl, na, _, _, _, rfl, rfl, SqT.of (s2 _ _ hN'), at_of (j := 2) rfl rfl, (by show 2 ≤ sizeLine; decide), fun q1 hq1 => ?_⟩
          have t3 := Same.new hq1 (o := .tup [.int 1, .int (j2 : Int)])
          refine ⟨1, rfl, _, rfl, na, _, _, _, rfl, rfl, SqT.of (t3 _ _ (s2 _ _ hN')), at_of (j := 3) rfl rfl, (by show 2 ≤ sizeLine; decide), fun q2 hq2 => ⟨(by show 2 ≤ sizeLine; decide), fun lb hlb => ?_⟩⟩
          have t4 := Same.then t3 hq2 (o := .tup [.int (-1), .int (j3 : Int)])
          have t5 := Same.then t4 hlb (o := .lst [.ref q1, .ref q2])
          have s5 := s2.trans t5
          refine ⟨_, rfl, _, rfl, na, _, _, _, rfl, rfl, SqT.of (s5 _ _ hN'), at_of (j := 1) rfl rfl, (by show 2 ≤ sizeLine; decide), fun q3 hq3 => ⟨(by show 1 ≤ sizeLine; decide), fun lc hlc => ?_⟩⟩
          have t6 := Same.new hq3 (o := .tup [.int 1, .int (j1 : Int)])
          have t7 := Same.then t6 hlc (o := .lst [.ref q3])
          have s7 := s5.trans t7
          refine ⟨_, rfl, _, rfl, _, rfl, lc, lb, ta, [(1, j1)], [(1, j2), (-1, j3)], x, md, N, rfl, ⟨[q3], upd_same, Al.one ?_⟩, ⟨[q1, q2], t7 _ _ upd_same, ?_, Al.one ?_⟩, ?_, ?_, by simp, by simp, hT.mono (Same.ts s7), hO, b1, b2, fun r H' s8 hr' hM => ?_⟩
          · exact (Same.new hlc) _ _ upd_same
          · exact t7 _ _ ((Same.new hlb) _ _ ((Same.new hq2) _ _ upd_same))
          · exact t7 _ _ ((Same.new hlb) _ _ upd_same)
          · intro p hp
            have e : p = (1, j1) := by simpa using hp
            subst e
            exact ⟨.inl rfl, hlt j1 (by simp [kids])⟩
          · intro p hp
            have e : p = (1, j2) ∨ p = (-1, j3) := by simpa using hp
            rcases e with e | e <;> subst e
            · exact ⟨.inl rfl, hlt j2 (by simp [kids])⟩
            · exact ⟨.inr rfl, hlt j3 (by simp [kids])⟩
          · obtain ⟨bs, xs, hb, hx, hk, ho⟩ := hM
            have s9 := s7.trans s8
            refine ⟨la, r, _, _, rfl, rfl, s8 _ _ (t7 _ _ (t5 _ _ hla2)), hb, ?_, fun p hp => ?_⟩
            · have l1 := hx.length
              have l2 := congrArg List.length hk
              rw [List.length_map] at l2
              rw [List.length_map, l1, l2]
              show 1 + 6 ≤ _
              decide
            · refine k p _ (Same.then s9 hp) (s9.free hp) ?_
              exact Made.cons (y := ⟨j3, x.t, x.c, x.fs, x.sp⟩) ⟨bs, xs, rfl, hx, hk, ho⟩ ⟨fa, s8 _ _ (t7 _ _ (t5 _ _ hqa2)), hF.mono (Same.ts s9)⟩ (hO.at (hlt j3 (by simp [kids])) hc0 hcm) hp
end
end Bk

namespace Bk
open PySem PySem.Spec PyProof.Rows L2
theorem Al.unsnoc {α : Type} {R : Addr → α → Prop} : ∀ {as : List Addr} {xs : List α} {x : α}, Al R as (xs ++ [x]) → ∃ bs a, as = bs ++ [a] ∧ Al R bs xs ∧ R a x
  | [], [], _, q => q.elim
  | [], _ :: _, _, q => q.elim
  | [a], [], _, q => ⟨[], a, rfl, True.intro, q.1⟩
  | _ :: _ :: _, [], _, q => q.2.elim
  | a :: as, y :: xs, x, q => by
    obtain ⟨bs, b, e, h1, h2⟩ := Al.unsnoc (as := as) (xs := xs) (x := x) q.2
    exact ⟨a :: bs, b, by rw [e]; rfl, ⟨q.1, h1⟩, h2⟩
theorem leaf_cost {ns : List Nd} {x : Tk} {nd : Nd} (ok : SrcOk ns) (h : ns[x.k]? = some nd) (hl : kids nd = []) : tkCost ns x = 1 := by
  unfold tkCost
  rw [cost_at ok h]
  cases nd with
  | const c => rfl
  | inp q => rfl
  | sum i j => cases hl
  | prod i j => cases hl
  | scaled c i => cases hl
  | choose i j l => cases hl
theorem meas_pos {ns : List Nd} {x : Tk} (ok : SrcOk ns) (h : x.k < ns.length) : 0 < tkMeas ns x := by
  have := cost_pos ok x.k h
  unfold tkMeas
  omega
theorem kids_ne {nd : Nd} (h1 : ¬ ndTag nd = "const") (h2 : ¬ ndTag nd = "input") : kids nd ≠ [] := by
  cases nd with
  | const c => exact absurd rfl h1
  | inp q => exact absurd rfl h2
  | sum i j => simp [kids]
  | prod i j => simp [kids]
  | scaled c i => simp [kids]
  | choose i j l => simp [kids]
section
variable {P : Program} {w : World} {K : PySem.W.Frag} {mg : Str → Option Value} {base : Heap} {C : Addr}
/-- the same, the instance's address told -/
theorem made_at {H : Hp} {l x dx : Addr} {as : List Addr} {ss : List Stp} {md n : Int} {R : Hp → Prop} (nx : H x = none) (ndx : H dx = none) (ne : dx ≠ x) (hl : H l = some (.lst (as.map V.ref))) (hL : Al (StpAt H) as ss) (hO : ∀ s ∈ ss, StpOk md n s) (b1 : 2 ≤ md) (b2 : md ≤ 1000000000) (b3 : 0 ≤ n) (b4 : n ≤ 60)
    (b5 : (ss.length : Int) ≤ 20000) (k : ∀ (l' : Addr) (H' : Hp), H l' = none → Same H H' → ProgAt C H' x l' md n ss → R H') :
    spInit C [.ref x, .int md, .int 3, .int n, .ref l] (upd (upd H dx (.own x)) x (.ins C dx [])) (fun v H2 => v = .non ∧ R H2) E0 := by
  obtain ⟨p, d2, l2, as2, ss2, md2, n2, e, h⟩ := made (C := C) (Q := fun v H2 => v = .ref x → R H2) hl hL hO b1 b2 b3 b4 b5 (fun p l' H' _ h2 h3 h4 e => k l' H' h2 h3 (by cases e; exact h4)) x dx nx ndx ne
  cases e
  obtain ⟨h1, h2, h3, h4, h5, h6, h7, h8, h9, h10⟩ := h
  exact ⟨x, d2, l, as2, ss2, md, n, rfl, h1, h2, h3, h4, h5, h6, h7, h8, h9, fun l' H' q1 q2 q3 q4 => ⟨rfl, (h10 l' H' q1 q2 q3 q4).2 rfl⟩⟩
/-! ### compile_source -/
def spCompile (C : Addr) : Sp := fun vs H Q _ => ∃ (a : Addr) (ns : List Nd) (md : Int), vs = [.ref a, .int md] ∧ SrcAt H a ns ∧ SrcOk ns ∧ 1 ≤ ns.length ∧ ns.length ≤ 200 ∧ 2 ≤ md ∧ md ≤ 1000000000 ∧ (costs ns).getD (ns.length - 1) 0 ≤ 20000 ∧
  ∀ (p l : Addr) (ss : List Stp) (H' : Hp), Same H H' → H p = none → H l = none → ProgAt C H' p l md (needs ns) ss → PrgOk md (needs ns) ss → (ss.length : Int) = (costs ns).getD (ns.length - 1) 0 → Q (.ref p) H'
abbrev nCompile : List Str := ["source", "modulus", "total", "empty", "steps", "tasks", "task", "node"]
theorem scCompile : FnScope nCompile ["source", "modulus"] (defScope sCompile) := ⟨rfl, rfl, rfl, by decide +kernel, rfl, by decide +kernel, by decide +kernel⟩
/-- what holds between two turns of the while: S the steps, TL the tasks -/
def Turns (md : Int) (ns : List Nd) (H3 : Hp) (S TL : Addr) (m : Nat) (H4 : Hp) : Prop :=
  Same H3 H4 ∧ ∃ (sa ta : List Addr) (ss : List Stp) (xs : List Tk), H4 S = some (.lst (sa.map V.ref)) ∧ Al (StpAt H4) sa ss ∧ (∀ s ∈ ss, StpOk md (needs ns) s) ∧ H4 TL = some (.lst (ta.map V.ref)) ∧ Al (TkAt H4) ta xs ∧ (∀ x ∈ xs, TkOk md ns.length x) ∧
    (ss.length : Int) + sumC ns xs = (costs ns).getD (ns.length - 1) 0 ∧ m = (sumM ns xs).toNat
theorem ok_compile (D : Df K mg "compile_source" sCompile ["source", "modulus"]) (T : Txt K mg) (PC : Pcl K C) (c1 : C8.Cal P w K mg base 5 "cost" spCost []) (c2 : C8.Cal P w K mg base 5 "needs" spNeeds []) (c3 : C8.Cal P w K mg base 1 "leaf_step" spLeafStep [])
    (c4 : C8.Cal P w K mg base 2 "inner_tasks" spInner []) (m : C8.Mak P w K mg base 7 "Program" C (spInit C) []) : C8.Cal P w K mg base 9 "compile_source" (spCompile C) [] := by
  refine D.ok scCompile (fun vs H Q E h => ?_) (fun f cdv A outer s H vs Q E hr h => ?_)
  · obtain ⟨a, ns, md, rfl, _⟩ := h
    rfl
  · obtain ⟨a, ns, md, rfl, hS, hO, z1, z2, b1, b2, hc, k⟩ := h
    have hn0 := needs_nonneg ns
    have hn60 := needs_le hO
    refine ⟨_, pss_cons (ps_set (i := 2) scCompile.nd rfl (Or.inl rfl) (C8.pe_c c1 hr (by decide) rfl (pa_cons (pv 0) pa_nil)))
      (pss_cons (ps_set (i := 3) scCompile.nd rfl (Or.inl rfl) (C8.pe_mk m hr (by decide) rfl (pa_cons (pv 1) (pa_cons pe_int (pa_cons (C8.pe_c c2 hr (by decide) rfl (pa_cons (pv 0) pa_nil)) (pa_cons (pe_lst pa_nil) pa_nil))))))
      (pss_cons (ps_if (pt_cmpR op_gt (pv 2) (C8.pe_gc rfl T.MOST) (nomark _)) pss_never pss_nil)
      (pss_cons (ps_set (i := 4) scCompile.nd rfl (Or.inl rfl) (pe_lst pa_nil))
      (pss_cons (ps_set (i := 5) scCompile.nd rfl (Or.inl rfl) (pe_lst (pa_cons (pe_tup (pa_cons (pe_op op_sub (pe_callB call_len_seq (by rfl) T.len PySem.boot_len (pa_cons (pv 0) pa_nil)) pe_int) (pa_cons pe_int (pa_cons pe_int (pa_cons (pe_tup pa_nil) (pa_cons pe_int pa_nil)))))) pa_nil)))
      (pss_cons (ps_while PassesOwn.never (pt_truth (pv 5) (by intro _; rfl))
        (pss_cons (ps_set (i := 6) scCompile.nd rfl (Or.inl rfl) (pe_bm0 PySem.F.plainAttrs_list PySem.F.slot_list_pop PySem.F.type_list_pop mt_pop (pv 5)))
        (pss_cons (ps_set (i := 7) scCompile.nd rfl (Or.inl rfl) (pe_ix ix_tup (pv 0) (pe_ix ix_tup (pv 6) pe_int (fun _ _ => rfl)) (fun _ _ => rfl)))
        (pss_one (ps_if (PW.pt (pw_or (pt_cmpR op_eq (pe_ix ix_tup (pv 7) pe_int (fun _ _ => rfl)) pe_str (nomark _)) (pw_or1 (pt_cmpR op_eq (pe_ix ix_tup (pv 7) pe_int (fun _ _ => rfl)) pe_str (nomark _)))))
          (pss_one (ps_expr (pe_bm PySem.F.plainAttrs_list PySem.F.slot_list_append PySem.F.type_list_append mt_append (pv 4) (pa_cons (C8.pe_c c3 hr (by decide) rfl (pa_cons (pv 7) (pa_cons (pv 6) (pa_cons (pv 1) pa_nil)))) pa_nil))))
          (pss_one (ps_expr (pe_bm PySem.F.plainAttrs_list PySem.F.slot_list_extend PySem.F.type_list_extend mt_extend (pv 5) (pa_cons (pe_revL (C8.pe_c c4 hr (by decide) rfl (pa_cons (pv 7) (pa_cons (pv 6) (pa_cons (pv 1) pa_nil))))) pa_nil)))))))))
      (pss_one (ps_ret (C8.pe_mk m hr (by decide) rfl (pa_cons (pv 1) (pa_cons pe_int (pa_cons (pe_fld (pv 3) rfl) (pa_cons (pv 4) pa_nil)))))))))))), ?_⟩
    refine ⟨_, rfl, a, ns, rfl, hS, hO, z1, z2, fun H1 s1 => ?_⟩
    refine ⟨_, rfl, _, rfl, a, ns, rfl, hS.mono (Same.ts s1), hO, z1, z2, fun H2 s2 => ⟨Nat.zero_le _, fun l0 hl0 => ?_⟩⟩
    have s2' := Same.then (s1.trans s2) hl0 (o := .lst [])
    intro e de he hde hne
    refine made_at he hde hne (as := []) (ss := []) (md := md) (n := needs ns) upd_same True.intro (fun s hs => by cases hs) b1 b2 hn0 hn60 (by decide) fun l1 H3 hl1 s3 hP3 => ?_
    have s3' := s2'.trans s3
    refine ⟨_, rfl, _, _, rfl, rfl, false, d_f (by omega), iteF ?_⟩
    refine ⟨Nat.zero_le _, fun S hS3 => ?_⟩
    have s4 := Same.new hS3 (o := .lst [])
    obtain ⟨as, hA, hL⟩ := id hS
    have hA4 := s4 _ _ (s3' _ _ hA)
    have el : (as.map V.ref).length = ns.length := by rw [List.length_map]; exact hL.length
    refine ⟨_, rfl, a, _, rfl, .inr (SqT.of hA4), _, _, rfl, rfl, Nat.zero_le _, fun u hu => ⟨(by show 5 ≤ sizeLine; decide), fun q hq => ⟨(by show 1 ≤ sizeLine; decide), fun TL hTL => ?_⟩⟩⟩
    have t5 := Same.new hu (o := .tup [])
    have t6 := Same.then t5 hq (o := .tup [.int (((as.map V.ref).length : Nat) - 1), .int 0, .int 1, .ref u, .int 1])
    have t7 := Same.then t6 hTL (o := .lst [.ref q])
    have s7 := s4.trans t7
    have nS : H3 TL = none := (s4.trans t6).free hTL
    have hneST : S ≠ TL := ne_of_none (t6 _ _ (upd_same (H := H3) (a := S) (o := .lst []))) hTL
    have hSrc : ∀ H4, Same H3 H4 → SrcAt H4 a ns := fun H4 x => hS.mono (Same.ts (s3'.trans x))
    refine ⟨fun mm σ H4 => Turns md ns H3 S TL mm H4 ∧ ∃ v6 v7, σ = [some (.ref a), some (.int md), some (.int ((costs ns).getD (ns.length - 1) 0)), some (.ref e), some (.ref S), some (.ref TL), v6, v7], ?_, ?_⟩
    · refine ⟨_, ⟨s7, [], [q], [], [⟨ns.length - 1, 0, 1, [], 1⟩], t7 _ _ upd_same, True.intro, (fun s hs => by cases hs), upd_same, Al.one ⟨u, ?_, [], ?_, True.intro⟩, ?_, ?_, rfl⟩, none, none, rfl⟩
      · refine Eq.trans ((Same.new hTL) _ _ upd_same) ?_
        have e1 : ((((as.map V.ref).length : Nat) : Int) - 1) = ((ns.length - 1 : Nat) : Int) := by rw [el]; omega
        show some (HO.tup [V.int ((((as.map V.ref).length : Nat) : Int) - 1), _, _, _, _]) = _
        rw [e1]
      · exact (Same.new hTL) _ _ ((Same.new hq) _ _ upd_same)
      · intro x hx
        have ex : x = ⟨ns.length - 1, 0, 1, [], 1⟩ := by simpa using hx
        subst ex
        exact ⟨by show ns.length - 1 < ns.length; omega, by show (0 : Int) ≤ 0; decide, by show (0 : Int) < 3; decide, by show (0 : Int) ≤ 1; decide, by show (1 : Int) < 3; decide, by show (0 : Int) ≠ 1; decide, by show (0 : Int) ≤ 1; decide, by show (1 : Int) < md; omega, .inl rfl⟩
      · show ((0 : Nat) : Int) + sumC ns [_] = _
        simp [sumC, tkCost]
    · rintro mm σ H4 ⟨⟨s8, sa, ta, ss, xs, hS4, hsA, hsO, hT4, htA, htO, hsum, hmm⟩, v6, v7, rfl⟩
      refine ⟨_, rfl, _, .inl ⟨_, SqL.of hT4, rfl⟩, ?_⟩
      rcases List.eq_nil_or_concat xs with rfl | ⟨ys, x, rfl⟩
      · have e' : ta = [] := List.eq_nil_of_length_eq_zero htA.length
        subst e'
        refine iteF ?_
        obtain ⟨dx, as0, hpe, _, _⟩ := id hP3
        have hlen : (ss.length : Int) = (costs ns).getD (ns.length - 1) 0 := by
          have q0 : sumC ns [] = 0 := rfl
          omega
        refine ⟨_, rfl, _, rfl, e, C, dx, _, _, rfl, s8 _ _ hpe, PC.cl, PC.nI, pf_inputs, _, rfl, ?_⟩
        refine made (ss := ss) (md := md) (n := needs ns) hS4 hsA hsO b1 b2 hn0 hn60 (by omega) fun p l H5 hp hl s9 hP => ?_
        have s10 := (s3'.trans s8)
        exact k p l ss H5 (s10.trans s9) (s10.free hp) (s10.free hl) hP ⟨b1, b2, hn0, hn60, by omega, hsO⟩ hlen
      · rw [List.concat_eq_append] at htA htO hsum hmm
        obtain ⟨tb, b, rfl, htB, hbA⟩ := htA.unsnoc
        have hxO := htO x (List.mem_append_right _ (List.mem_singleton.mpr rfl))
        have hyO : ∀ y ∈ ys, TkOk md ns.length y := fun y hy => htO y (List.mem_append_left _ hy)
        have ee : ((tb ++ [b]).map V.ref) = tb.map V.ref ++ [V.ref b] := by rw [List.map_append]; rfl
        rw [ee] at hT4 ⊢
        have hie : (!(tb.map V.ref ++ [V.ref b]).isEmpty) = true := by simp
        rw [hie]
        refine iteT ⟨fun σ' H' => ∃ m', m' < mm ∧ Turns md ns H3 S TL m' H' ∧ ∃ v6 v7, σ' = [some (.ref a), some (.int md), some (.int ((costs ns).getD (ns.length - 1) 0)), some (.ref e), some (.ref S), some (.ref TL), v6, v7], fun σ' H' q => q, ?_⟩
        refine ⟨_, rfl, .inl ⟨rfl, _, SqL.of hT4⟩, TL, _, .ref b, rfl, rfl, hT4, by simp, ?_⟩
        rw [List.dropLast_concat]
        have s9 : Same H3 (upd H4 TL (.lst (tb.map V.ref))) := Same.keep s8 nS
        have t9 : TS H4 (upd H4 TL (.lst (tb.map V.ref))) := TS.lst hT4
        have hS9 : upd H4 TL (.lst (tb.map V.ref)) S = some (.lst (sa.map V.ref)) := by rw [upd_ne hneST]; exact hS4
        have hT9 : upd H4 TL (.lst (tb.map V.ref)) TL = some (.lst (tb.map V.ref)) := upd_same
        have hsA9 : Al (StpAt (upd H4 TL (.lst (tb.map V.ref)))) sa ss := hsA.mono fun _ _ z => z.mono t9
        have htB9 : Al (TkAt (upd H4 TL (.lst (tb.map V.ref)))) tb ys := htB.mono fun _ _ z => z.mono t9
        have hb9 : TkAt (upd H4 TL (.lst (tb.map V.ref))) b x := hbA.mono t9
        generalize upd H4 TL (.lst (tb.map V.ref)) = H5 at s9 hS9 hT9 hsA9 htB9 hb9
        clear hS4 hsA hT4 htB hbA t9 s8
        obtain ⟨fa, hbT, _⟩ := id hb9
        obtain ⟨as', hA5, hL5⟩ := hSrc H5 s9
        obtain ⟨nd, hnd⟩ : ∃ nd, ns[x.k]? = some nd := ⟨ns[x.k]'hxO.k, List.getElem?_eq_getElem hxO.k⟩
        obtain ⟨na, hna, hnA⟩ := hL5.got hnd
        have hnT : H5 na = some (.tup (.str (ndTag nd) :: (ndArgs nd).map V.int)) := hnA
        have hxk := hO _ _ hnd
        rw [sumC_append] at hsum
        rw [sumM_append] at hmm
        have q1 : sumC ns [x] = tkCost ns x := by simp [sumC]
        have q2 : sumM ns [x] = tkMeas ns x := by simp [sumM]
        have q3 := meas_pos hO hxO.k
        have q4 := sumM_ge hO (xs := ys) fun y hy => (hyO y hy).k
        have q5 := sumC_ge hO (xs := ys) fun y hy => (hyO y hy).k
        have q6 : 1 ≤ tkCost ns x := cost_pos hO x.k hxO.k
        refine ⟨_, rfl, _, rfl, b, _, _, _, rfl, rfl, SqT.of hbT, at_of (j := 0) rfl rfl, a, _, _, _, rfl, rfl, SqT.of hA5, at_of (j := x.k) rfl (by rw [List.getElem?_map, hna]; rfl), ?_⟩
        refine ⟨_, rfl, na, _, _, _, rfl, rfl, SqT.of hnT, at_of (j := 0) rfl rfl, rfl, _, rfl, ?_⟩
        have leafy : LeafOk (needs ns) nd → kids nd = [] → ∀ (v6 v7 : V), v6 = .ref b → v7 = .ref na → spLeafStep [v7, v6, .int md] H5 (fun y H6 => rAppend (.ref S) [y] H6 fun _ H7 => ∃ m', m' < mm ∧ Turns md ns H3 S TL m' H7 ∧
            ∃ w6 w7, [some (V.ref a), some (.int md), some (.int ((costs ns).getD (ns.length - 1) 0)), some (.ref e), some (.ref S), some (.ref TL), some v6, some v7] = [some (V.ref a), some (.int md), some (.int ((costs ns).getD (ns.length - 1) 0)), some (.ref e), some (.ref S), some (.ref TL), w6, w7]) C8.E0 := by
          rintro lf hk v6 v7 rfl rfl
          have q7 := leaf_cost hO hnd hk
          refine ⟨na, b, nd, x, md, needs ns, ns.length, rfl, hnA, lf, hb9, hxO, b1, b2, fun p st H6 s10 hp hst => ?_⟩
          have hS10 := s10 _ _ hS9
          refine ⟨S, _, _, rfl, rfl, hS10, ?_, ?_⟩
          · refine fits ?_
            rw [List.length_map, hsA9.length]
            omega
          · have t11 : TS H6 (upd H6 S (.lst (sa.map V.ref ++ [.ref p]))) := TS.lst hS10
            have nS3 : H3 S = none := hS3
            refine ⟨_, ?_, ⟨Same.keep (s9.trans s10) nS3, sa ++ [p], tb, ss ++ [st], ys, ?_, ?_, ?_, ?_, ?_, hyO, ?_, rfl⟩, _, _, rfl⟩
            · omega
            · rw [upd_same, List.map_append]; rfl
            · exact Al.app (hsA9.mono fun _ _ z => (z.mono (Same.ts s10)).mono t11) (Al.one (hp.mono t11))
            · intro z hz
              rcases List.mem_append.mp hz with hz | hz
              · exact hsO z hz
              · rw [show z = st by simpa using hz]; exact hst
            · rw [upd_ne hneST.symm]; exact s10 _ _ hT9
            · exact htB9.mono fun _ _ z => (z.mono (Same.ts s10)).mono t11
            · rw [List.length_append, List.length_singleton]
              omega
        by_cases g1 : ndTag nd = "const"
        · obtain ⟨c, rfl⟩ := (t_const nd).mp g1
          rw [decide_eq_true (congrArg V.str g1)]
          exact iteT (iteT ⟨_, rfl, .inl ⟨rfl, _, SqL.of hS9⟩, _, rfl, _, rfl, _, rfl, leafy (.inl ⟨c, rfl, hxk.1, hxk.2⟩) rfl _ _ rfl rfl⟩)
        · rw [decide_eq_false (s_ne g1)]
          refine iteF ⟨_, rfl, na, _, _, _, rfl, rfl, SqT.of hnT, at_of (j := 0) rfl rfl, rfl, _, rfl, ?_⟩
          by_cases g2 : ndTag nd = "input"
          · obtain ⟨c, rfl⟩ := (t_input nd).mp g2
            rw [decide_eq_true (congrArg V.str g2)]
            exact iteT ⟨_, rfl, .inl ⟨rfl, _, SqL.of hS9⟩, _, rfl, _, rfl, _, rfl, leafy (.inr ⟨c, rfl, hxk.1, needs_inp hnd⟩) rfl _ _ rfl rfl⟩
          · rw [decide_eq_false (s_ne g2)]
            have hk := kids_ne g1 g2
            refine iteF ⟨_, rfl, .inl ⟨rfl, _, SqL.of hT9⟩, _, rfl, _, rfl, _, rfl, na, b, nd, x, md, ns.length, rfl, hnA, hxk, hk, hb9, hxO, b1, b2, fun r H6 s10 hr6 hM => ?_⟩
            obtain ⟨bs, zs, hb6, hz6, hk6, hzO⟩ := hM
            refine ⟨r, _, rfl, SqL.of hb6, fun r2 hr2 => ?_⟩
            have s11 := Same.then s10 hr2 (o := .lst (bs.map V.ref).reverse)
            have w1 := kids_cost hO hnd hk6 hk
            have w2 := kids_meas hO z2 hnd hk6 hk
            have w3 := sumM_ge hO (xs := zs) fun y hy => (hzO y hy).k
            have w4 := sumC_ge hO (xs := zs) fun y hy => (hzO y hy).k
            refine ⟨TL, r2, _, _, rfl, rfl, s11 _ _ hT9, upd_same, ?_, ?_⟩
            · rw [List.length_reverse, List.length_map, List.length_map, hz6.length, htB9.length]
              exact Nat.le_of_lt (fits (by omega))
            · have hT11 := s11 _ _ hT9
              have t12 : TS (upd H6 r2 (.lst (bs.map V.ref).reverse)) (upd (upd H6 r2 (.lst (bs.map V.ref).reverse)) TL (.lst (tb.map V.ref ++ (bs.map V.ref).reverse))) := TS.lst hT11
              have t13 : TS H6 (upd H6 r2 (.lst (bs.map V.ref).reverse)) := TS.new hr2
              refine ⟨_, ?_, ⟨Same.keep (s9.trans s11) nS, sa, tb ++ bs.reverse, ss, ys ++ zs.reverse, ?_, ?_, hsO, ?_, ?_, ?_, ?_, rfl⟩, _, _, rfl⟩
              · rw [sumM_append, sumM_reverse]
                omega
              · rw [upd_ne hneST]; exact s11 _ _ hS9
              · exact hsA9.mono fun _ _ z => (z.mono (Same.ts s11)).mono t12
              · rw [upd_same, List.map_append, List.map_reverse]
              · exact Al.app (htB9.mono fun _ _ z => (z.mono (Same.ts s11)).mono t12) ((hz6.mono fun _ _ z => (z.mono t13).mono t12).rev)
              · intro y hy
                rcases List.mem_append.mp hy with hy | hy
                · exact hyO y hy
                · exact hzO y (List.mem_reverse.mp hy)
              · rw [sumC_append, sumC_reverse]
                omega
end
end Bk

namespace Bk
open PySem PySem.Spec PyProof.Rows L2
/-- all but the list at d stands, and this keeps its first item -/
structure Exd (d : Addr) (H H' : Hp) : Prop where
  k : Exc d H H'
  hd : ∀ v r, H d = some (.lst (v :: r)) → ∃ r', H' d = some (.lst (v :: r'))
theorem Exd.refl (d : Addr) (H : Hp) : Exd d H H := ⟨Exc.refl d H, fun v r h => ⟨r, h⟩⟩
theorem Exd.trans {d : Addr} {H H1 H2 : Hp} (x : Exd d H H1) (y : Exd d H1 H2) : Exd d H H2 := ⟨x.k.trans y.k, fun v r h => let ⟨r1, h1⟩ := x.hd v r h; y.hd v r1 h1⟩
theorem Same.exd {d : Addr} {H H' : Hp} (s : Same H H') : Exd d H H' := ⟨Same.exc s, fun v r h => ⟨r, s _ _ h⟩⟩
theorem Exd.new {d p : Addr} {H : Hp} {o : HO} (h : H p = none) : Exd d H (upd H p o) := Same.exd (Same.new h)
theorem Exd.keep {d D : Addr} {H H' : Hp} {o : HO} (x : Exd d H H') (h : H D = none) : Exd d H (upd H' D o) :=
  ⟨fun b u e n => by rw [upd_ne (ne_of_none e h)]; exact x.k b u e n, fun v r e => by
    obtain ⟨r', e'⟩ := x.hd v r e
    exact ⟨r', by rw [upd_ne (ne_of_none e h)]; exact e'⟩⟩
/-- the law's numbers to draw from, at d -/
def Dr (H : Hp) (d : Addr) : Prop := ∃ (l : Addr) (xs : List Int) (n : Int), H d = some (.lst [.ref l, .int n]) ∧ H l = some (.lst (xs.map V.int)) ∧ 0 ≤ n ∧ ∀ v ∈ xs, 0 ≤ v ∧ v < 1000000
theorem Dr.same {H H' : Hp} {d : Addr} (h : Dr H d) (s : Same H H') : Dr H' d := let ⟨l, xs, n, h1, h2, h3⟩ := h; ⟨l, xs, n, s _ _ h1, s _ _ h2, h3⟩
theorem Dr.lst {H : Hp} {d : Addr} (h : Dr H d) : ∃ ys, H d = some (.lst ys) := let ⟨_, _, _, h1, _⟩ := h; ⟨_, h1⟩
theorem Dr.ts {H H' : Hp} {d : Addr} (h : Dr H d) (x : Exd d H H') : TS H H' := let ⟨_, h1⟩ := h.lst; x.k.ts h1
theorem dr_ne {l : Addr} {n : Int} {xs : List Int} : HO.lst (xs.map V.int) ≠ HO.lst [.ref l, .int n] := by
  intro q
  have q' := HO.lst.inj q
  cases xs with
  | nil => cases q'
  | cons x r =>
    rw [List.map_cons] at q'
    have := (List.cons.inj q').1
    cases this
section
variable {P : Program} {w : World} {K : PySem.W.Frag} {mg : Str → Option Value} {base : Heap}
/-! ### _law_mixed -/
def spMixed : Sp := fun vs H Q _ => ∃ (a b : Int), vs = [.int a, .int b] ∧ ∀ r : Int, 0 ≤ r → r < 2147483647 → Q (.int r) H
theorem scMixed : FnScope ["_law_number_here", "_law_k", "_law_step"] ["_law_number_here", "_law_k"] (defScope sMixed) := ⟨rfl, rfl, rfl, by decide +kernel, rfl, by decide +kernel, by decide +kernel⟩
theorem ok_mixed (D : Df K mg "_law_mixed" sMixed ["_law_number_here", "_law_k"]) : C8.Cal P w K mg base 1 "_law_mixed" spMixed [] := by
  refine D.ok scMixed (fun vs H Q E h => ?_) (fun f cdv A outer s H vs Q E hr h => ?_)
  · obtain ⟨a, b, rfl, _⟩ := h
    rfl
  · obtain ⟨a, b, rfl, k⟩ := h
    refine ⟨_, C8.pss_cut (ps_set (i := 2) scMixed.nd rfl (Or.inl rfl) (pe_op op_mod (pe_op op_add (pe_op op_add (pe_op op_mul (pv 0) pe_int) (pe_op op_mul (pv 1) pe_int)) pe_int) pe_int))
      (pss_one (ps_ret (pe_op op_mod (pe_op op_add (pe_op op_mul (pv 2) (pe_op op_add (pe_op op_fdiv (pv 2) pe_int) pe_int)) (pv 1)) pe_int))), ?_⟩
    refine ⟨fun σ' H' => H' = H ∧ ∃ st : Int, 0 ≤ st ∧ st < 2147483647 ∧ σ' = [some (.int a), some (.int b), some (.int st)], ?_, ?_⟩
    · refine ⟨_, rfl, _, _, rfl, rfl, .inr ⟨by decide, by decide⟩, _, rfl, _, _, rfl, rfl, .inr ⟨by decide, by decide⟩, _, _, rfl, rfl, _, _, rfl, rfl, _, _, rfl, rfl, (by show (0 : Int) < 2147483647; decide), ?_⟩
      exact ⟨rfl, _, (mod_range (by decide)).1, (mod_range (by decide)).2, rfl⟩
    · rintro σ' H' ⟨rfl, st, h0, h1, rfl⟩
      refine ⟨_, rfl, _, rfl, _, _, rfl, rfl, ⟨by decide, by decide⟩, _, _, rfl, rfl, _, _, rfl, rfl, .inl ⟨by omega, by omega⟩, _, rfl, _, _, rfl, rfl, _, _, rfl, rfl, (by show (0 : Int) < 2147483647; decide), ?_⟩
      exact k _ (mod_range (by decide)).1 (mod_range (by decide)).2
/-! ### _law_numbers -/
def spNumbers (K : PySem.W.Frag) : Sp := fun vs H Q _ => ∃ (a : Addr) (ns : List Int), vs = [.ref a] ∧ SqL K H a (ns.map V.int) ∧ ns.length ≤ 63 ∧
  ∀ (l : Addr) (xs : List Int) (H' : Hp), H l = none → Same H H' → H' l = some (.lst (xs.map V.int)) → (∀ v ∈ xs, 0 ≤ v ∧ v < 1000000) → Q (.ref l) H'
abbrev nNumbers : List Str := ["_law_script", "_law_numbers_here", "_law_cell", "_law_rest", "_law_k"]
theorem scNumbers : FnScope nNumbers ["_law_script"] (defScope sNumbers) := ⟨rfl, rfl, rfl, by decide +kernel, rfl, by decide +kernel, by decide +kernel⟩
/-- the numbers so far, n at most -/
def Nums (H : Hp) (l : Addr) (n : Nat) : Prop := ∃ xs : List Int, H l = some (.lst (xs.map V.int)) ∧ (∀ v ∈ xs, 0 ≤ v ∧ v < 1000000) ∧ xs.length ≤ n
theorem Nums.snoc {H : Hp} {l : Addr} {n : Nat} {xs : List Int} {v : Int} (h1 : ∀ v ∈ xs, 0 ≤ v ∧ v < 1000000) (h2 : xs.length ≤ n) (h3 : 0 ≤ v ∧ v < 1000000) : Nums (upd H l (.lst (xs.map V.int ++ [.int v]))) l (n + 1) := by
  refine ⟨xs ++ [v], by rw [upd_same, List.map_append]; rfl, fun u hu => ?_, by rw [List.length_append]; exact Nat.succ_le_succ h2⟩
  rcases List.mem_append.mp hu with hu | hu
  · exact h1 u hu
  · rw [show u = v by simpa using hu]; exact h3
theorem ok_numbers (D : Df K mg "_law_numbers" sNumbers ["_law_script"]) (T : Txt K mg) (c1 : C8.Cal P w K mg base 1 "_law_mixed" spMixed []) : C8.Cal P w K mg base 2 "_law_numbers" (spNumbers K) [] := by
  refine D.ok scNumbers (fun vs H Q E h => ?_) (fun f cdv A outer s H vs Q E hr h => ?_)
  · obtain ⟨a, ns, rfl, _⟩ := h
    rfl
  · obtain ⟨a, ns, rfl, hS, hlen, k⟩ := h
    refine ⟨_, pss_cons (ps_set (i := 1) scNumbers.nd rfl (Or.inl rfl) (pe_lst pa_nil))
      (pss_cons (ps_for PassesOwn.never rfl (pi_list (pv 0)) (pg_name (i := 2) scNumbers.nd rfl (Or.inl rfl))
        (pss_one (ps_if (pt_cmpR op_ge (pv 2) (pe_op op_pow pe_int pe_int) (nomark _))
          (pss_cons (ps_set (i := 3) scNumbers.nd rfl (Or.inl rfl) (pv 2))
          (pss_one (ps_for PassesOwn.never rfl (pi_range1 rfl T.range (pa_cons pe_int pa_nil)) (pg_name (i := 4) scNumbers.nd rfl (Or.inl rfl))
            (pss_one (ps_if (pt_cmpR op_gt (pv 3) pe_int (nomark _))
              (pss_cons (ps_expr (pe_bm PySem.F.plainAttrs_list PySem.F.slot_list_append PySem.F.type_list_append mt_append (pv 1) (pa_cons (pe_op op_mod (pv 3) pe_int) pa_nil)))
              (pss_one (ps_set (i := 3) scNumbers.nd rfl (Or.inl rfl) (pe_op op_fdiv (pv 3) pe_int)))) pss_nil)))))
          (pss_cons (ps_expr (pe_bm PySem.F.plainAttrs_list PySem.F.slot_list_append PySem.F.type_list_append mt_append (pv 1) (pa_cons (pe_op op_mod (pv 2) pe_int) pa_nil)))
          (pss_one (ps_for PassesOwn.never rfl (pi_range1 rfl T.range (pa_cons pe_int pa_nil)) (pg_name (i := 4) scNumbers.nd rfl (Or.inl rfl))
            (pss_one (ps_expr (pe_bm PySem.F.plainAttrs_list PySem.F.slot_list_append PySem.F.type_list_append mt_append (pv 1) (pa_cons (pe_op op_mod (C8.pe_c c1 hr (by decide) rfl (pa_cons (C8.pe_c c1 hr (by decide) rfl (pa_cons (pe_op op_mod (pv 2) pe_int) (pa_cons (pv 4) pa_nil))) (pa_cons (pe_op op_add (pv 4) pe_int) pa_nil))) pe_int) pa_nil))))))))))
      (pss_one (ps_ret (pv 1)))), ?_⟩
    refine ⟨Nat.zero_le _, fun l hl => ?_⟩
    have s0 := Same.new hl (o := .lst [])
    refine ⟨_, rfl, a, rfl, ⟨_, s0.seq hS⟩, for_list (K := K) (a := a) (xs := ns.map V.int) (fun i σ H' => Same H H' ∧ Nums H' l (60 * i) ∧ ∃ v2 v3 v4, σ = [some (.ref a), some (.ref l), v2, v3, v4]) ⟨s0, ⟨[], upd_same, (fun v hv => by cases hv), Nat.le_refl _⟩, none, none, none, rfl⟩ (fun i σ H' _ q => q.1.seq hS) ?_ ?_⟩
    · rintro i y σ H' hi ⟨s1, ⟨xs, hx, hx1, hx2⟩, v2, v3, v4, rfl⟩
      obtain ⟨z, hz, rfl⟩ := int_get hi
      have hi63 : i < ns.length := lt_of_get hz
      refine ⟨_, rfl, _, _, rfl, rfl, ⟨by decide, by decide, by decide⟩, _, _, rfl, rfl, _, rfl, ?_⟩
      refine ite2 (fun _ => ?_) (fun _ => ?_)
      · refine ⟨_, rfl, 60, rfl, by decide, by decide, for_range (n := 60) (fun j σ H' => Same H H' ∧ Nums H' l (60 * i + j) ∧ ∃ r v4, σ = [some (.ref a), some (.ref l), some (.int z), some (.int r), v4]) ⟨s1, ⟨xs, hx, hx1, hx2⟩, z, v4, rfl⟩ ?_ ?_⟩
        · rintro j σ H2 hj ⟨s2, ⟨ys, hy, hy1, hy2⟩, r, v4, rfl⟩
          refine ⟨_, rfl, _, _, rfl, rfl, _, rfl, ?_⟩
          refine ite2 (fun _ => ?_) (fun _ => ?_)
          · refine ⟨_, rfl, .inl ⟨rfl, _, SqL.of hy⟩, _, rfl, _, _, rfl, rfl, (by show (0 : Int) < 1000000; decide), l, _, _, rfl, rfl, hy, fits (by rw [List.length_map]; omega), ?_⟩
            refine ⟨_, rfl, _, _, rfl, rfl, ⟨by decide, by decide⟩, Same.keep s2 hl, ?_, _, _, rfl⟩
            exact Nums.snoc hy1 hy2 (mod_range (by decide))
          · exact ⟨s2, ⟨ys, hy, hy1, by omega⟩, r, some (.int (0 + (j : Int))), rfl⟩
        · rintro σ H2 ⟨s2, ⟨ys, hy, hy1, hy2⟩, r, v4, rfl⟩
          exact ⟨s2, ⟨ys, hy, hy1, by omega⟩, _, _, _, rfl⟩
      · refine ⟨_, rfl, .inl ⟨rfl, _, SqL.of hx⟩, _, rfl, _, _, rfl, rfl, (by show (0 : Int) < 1000000; decide), l, _, _, rfl, rfl, hx, fits (by rw [List.length_map]; omega), ?_⟩
        refine ⟨5, rfl, by decide, by decide, for_range (n := 5) (fun j σ H' => Same H H' ∧ Nums H' l (60 * i + 1 + j) ∧ ∃ v3 v4, σ = [some (.ref a), some (.ref l), some (.int z), v3, v4]) ⟨Same.keep s1 hl, Nums.snoc hx1 hx2 (mod_range (by decide)), v3, v4, rfl⟩ ?_ ?_⟩
        · rintro j σ H2 hj ⟨s2, ⟨ys, hy, hy1, hy2⟩, v3, v4, rfl⟩
          refine ⟨_, rfl, .inl ⟨rfl, _, SqL.of hy⟩, _, rfl, _, _, rfl, rfl, (by show (0 : Int) < 2147483647; decide), _, rfl, _, _, rfl, fun r1 _ _ => ?_⟩
          refine ⟨_, rfl, _, _, rfl, rfl, _, _, rfl, fun r2 _ _ => ?_⟩
          refine ⟨_, _, rfl, rfl, (by show (0 : Int) < 1000000; decide), l, _, _, rfl, rfl, hy, fits (by rw [List.length_map]; omega), ?_⟩
          exact ⟨Same.keep s2 hl, Nums.snoc hy1 hy2 (mod_range (by decide)), _, _, rfl⟩
        · rintro σ H2 ⟨s2, ⟨ys, hy, hy1, hy2⟩, v3, v4, rfl⟩
          exact ⟨s2, ⟨ys, hy, hy1, by omega⟩, _, _, _, rfl⟩
    · rintro σ H' ⟨s1, ⟨xs, hx, hx1, hx2⟩, v2, v3, v4, rfl⟩
      exact ⟨_, rfl, k l xs H' hl s1 hx hx1⟩
/-! ### _law_draw -/
def spDraw : Sp := fun vs H Q _ => ∃ d : Addr, vs = [.ref d] ∧ Dr H d ∧ ∀ (v : Int) (H' : Hp), Dr H' d → Exd d H H' → 0 ≤ v → v < 1000000 → Q (.int v) H'
theorem scDraw : FnScope ["_law_draws", "_law_at", "_law_first"] ["_law_draws"] (defScope sDraw) := ⟨rfl, rfl, rfl, by decide +kernel, rfl, by decide +kernel, by decide +kernel⟩
theorem ok_draw (D : Df K mg "_law_draw" sDraw ["_law_draws"]) (T : Txt K mg) (c1 : C8.Cal P w K mg base 1 "_law_mixed" spMixed []) : C8.Cal P w K mg base 2 "_law_draw" spDraw [] := by
  refine D.ok scDraw (fun vs H Q E h => ?_) (fun f cdv A outer s H vs Q E hr h => ?_)
  · obtain ⟨d, rfl, _⟩ := h
    rfl
  · obtain ⟨d, rfl, ⟨l, xs, n, hd, hl, hn, hx⟩, k⟩ := h
    refine ⟨_, pss_cons (ps_set (i := 1) scDraw.nd rfl (Or.inl rfl) (pe_ix ix_list (pv 0) pe_int (fun _ _ => rfl)))
      (pss_cons (ps_asg (pe_op op_add (pv 1) pe_int) (pg_sub (pv 0) pe_int set_list))
      (pss_cons (ps_if (pt_cmpR op_lt (pv 1) (pe_callB call_len_seq (by rfl) T.len PySem.boot_len (pa_cons (pe_ix ix_list (pv 0) pe_int (fun _ _ => rfl)) pa_nil)) (nomark _)) (pss_one (ps_ret (pe_ix ix_list (pe_ix ix_list (pv 0) pe_int (fun _ _ => rfl)) (pv 1) (fun _ _ => rfl)))) pss_nil)
      (pss_cons (ps_set (i := 2) scDraw.nd rfl (Or.inl rfl) (pe_op op_add pe_int (pv 1)))
      (C8.pss_cut (ps_if (pt_cmpR op_gt (pe_callB call_len_seq (by rfl) T.len PySem.boot_len (pa_cons (pe_ix ix_list (pv 0) pe_int (fun _ _ => rfl)) pa_nil)) pe_int (nomark _))
        (pss_one (ps_set (i := 2) scDraw.nd rfl (Or.inl rfl) (pe_op op_add (pv 2) (pe_op op_mul pe_int (pe_ix ix_list (pe_ix ix_list (pv 0) pe_int (fun _ _ => rfl)) pe_int (fun _ _ => rfl)))))) pss_nil)
      (pss_one (ps_ret (pe_op op_mod (C8.pe_c c1 hr (by decide) rfl (pa_cons (C8.pe_c c1 hr (by decide) rfl (pa_cons (pv 2) (pa_cons (pv 1) pa_nil))) (pa_cons pe_int pa_nil))) pe_int))))))), ?_⟩
    refine ⟨_, rfl, d, _, _, _, rfl, rfl, SqL.of hd, at_of (j := 1) rfl rfl, ?_⟩
    refine ⟨_, rfl, _, _, rfl, rfl, _, rfl, d, _, _, 1, rfl, rfl, hd, rfl, ?_⟩
    have nld : l ≠ d := ne_of hl hd dr_ne
    have hd1 : upd H d (.lst ([V.ref l, .int n].set 1 (.int (n + 1)))) d = some (.lst [.ref l, .int (n + 1)]) := upd_same
    have hl1 : upd H d (.lst ([V.ref l, .int n].set 1 (.int (n + 1)))) l = some (.lst (xs.map V.int)) := by rw [upd_ne nld]; exact hl
    have x1 : Exd d H (upd H d (.lst ([V.ref l, .int n].set 1 (.int (n + 1))))) := ⟨Exc.at, fun v r h => ⟨[.int (n + 1)], by
      rw [hd] at h
      have q := HO.lst.inj (Option.some.inj h)
      rw [← (List.cons.inj q).1]
      exact upd_same⟩⟩
    have dr1 : Dr (upd H d (.lst ([V.ref l, .int n].set 1 (.int (n + 1))))) d := ⟨l, xs, n + 1, hd1, hl1, by omega, hx⟩
    refine ⟨_, rfl, _, rfl, d, _, _, _, rfl, rfl, SqL.of hd1, at_of (j := 0) rfl rfl, l, _, rfl, .inl (SqL.of hl1), _, _, rfl, rfl, _, rfl, ?_⟩
    refine ite2 (fun c => ?_) (fun _ => ?_)
    · have hc : n < (((xs.map V.int).length : Nat) : Int) := of_decide_eq_true c
      rw [List.length_map] at hc
      obtain ⟨v, hv⟩ := get_of_lt (ns := xs) hn hc
      have hr := hx v (List.mem_of_getElem? hv)
      exact ⟨_, rfl, d, _, _, _, rfl, rfl, SqL.of hd1, at_of (j := 0) rfl rfl, _, rfl, l, _, _, _, rfl, rfl, SqL.of hl1, int_at hn hv, k v _ dr1 x1 hr.1 hr.2⟩
    · refine ⟨_, rfl, _, _, rfl, rfl, ?_⟩
      refine ⟨fun σ' H' => H' = upd H d (.lst ([V.ref l, .int n].set 1 (.int (n + 1)))) ∧ ∃ f : Int, σ' = [some (.ref d), some (.int n), some (.int f)], ?_, ?_⟩
      · refine ⟨_, rfl, d, _, _, _, rfl, rfl, SqL.of hd1, at_of (j := 0) rfl rfl, l, _, rfl, .inl (SqL.of hl1), _, _, rfl, rfl, _, rfl, ?_⟩
        refine ite2 (fun c => ?_) (fun _ => ⟨rfl, _, rfl⟩)
        have hc : (0 : Int) < (((xs.map V.int).length : Nat) : Int) := of_decide_eq_true c
        rw [List.length_map] at hc
        obtain ⟨v, hv⟩ := get_of_lt (ns := xs) (i := 0) (Int.le_refl _) hc
        exact ⟨_, rfl, _, rfl, d, _, _, _, rfl, rfl, SqL.of hd1, at_of (j := 0) rfl rfl, l, _, _, _, rfl, rfl, SqL.of hl1, int_at (Int.le_refl _) hv, _, _, rfl, rfl, .inl ⟨by decide, by decide⟩, _, _, rfl, rfl, rfl, _, rfl⟩
      · rintro σ' H' ⟨rfl, f, rfl⟩
        refine ⟨_, rfl, _, rfl, _, _, rfl, fun r1 _ _ => ⟨_, _, rfl, fun r2 _ _ => ⟨_, _, rfl, rfl, (by show (0 : Int) < 1000000; decide), ?_⟩⟩⟩
        exact k _ _ dr1 x1 (mod_range (by decide)).1 (mod_range (by decide)).2
end
end Bk

namespace Bk
open PySem PySem.Spec PyProof.Rows L2
section
variable {P : Program} {w : World} {K : PySem.W.Frag} {mg : Str → Option Value} {base : Heap}
/-! ### _law_large -/
def spLarge : Sp := fun vs H Q _ => ∃ (d : Addr) (b : Int), vs = [.ref d, .int b] ∧ Dr H d ∧ 0 < b ∧ ∀ (v : Int) (H' : Hp), Dr H' d → Exd d H H' → 0 ≤ v → v < b → Q (.int v) H'
theorem scLarge : FnScope ["_law_draws", "_law_bound", "_law_number_here"] ["_law_draws", "_law_bound"] (defScope sLarge) := ⟨rfl, rfl, rfl, by decide +kernel, rfl, by decide +kernel, by decide +kernel⟩
theorem ok_large (D : Df K mg "_law_large" sLarge ["_law_draws", "_law_bound"]) (c1 : C8.Cal P w K mg base 2 "_law_draw" spDraw []) : C8.Cal P w K mg base 3 "_law_large" spLarge [] := by
  refine D.ok scLarge (fun vs H Q E h => ?_) (fun f cdv A outer s H vs Q E hr h => ?_)
  · obtain ⟨d, b, rfl, _⟩ := h
    rfl
  · obtain ⟨d, b, rfl, hD, hb, k⟩ := h
    refine ⟨_, pss_cons (ps_set (i := 2) scLarge.nd rfl (Or.inl rfl) (pe_op op_add (C8.pe_c c1 hr (by decide) rfl (pa_cons (pv 0) pa_nil)) (pe_op op_mul (pe_op op_pow pe_int pe_int) (pe_op op_mod (C8.pe_c c1 hr (by decide) rfl (pa_cons (pv 0) pa_nil)) pe_int))))
      (pss_one (ps_ret (pe_op op_mod (pv 2) (pv 1)))), ?_⟩
    refine ⟨_, rfl, d, rfl, hD, fun v1 H1 d1 x1 _ _ => ?_⟩
    refine ⟨_, _, rfl, rfl, ⟨by decide, by decide, by decide⟩, _, rfl, d, rfl, d1, fun v2 H2 d2 x2 _ _ => ?_⟩
    refine ⟨_, _, rfl, rfl, (by show (0 : Int) < 1000; decide), _, _, rfl, rfl, .inl ⟨by decide, by decide⟩, _, _, rfl, rfl, ?_⟩
    refine ⟨_, rfl, _, rfl, _, _, rfl, rfl, hb, ?_⟩
    exact k _ H2 d2 (x1.trans x2) (mod_range hb).1 (mod_range hb).2
/-! ### _law_modulus -/
def spModulus : Sp := fun vs H Q _ => ∃ d : Addr, vs = [.ref d] ∧ Dr H d ∧ ∀ (v : Int) (H' : Hp), Dr H' d → Exd d H H' → 2 ≤ v → v ≤ 1000000000 → Q (.int v) H'
theorem scModulus : FnScope ["_law_draws", "_law_pick"] ["_law_draws"] (defScope sModulus) := ⟨rfl, rfl, rfl, by decide +kernel, rfl, by decide +kernel, by decide +kernel⟩
theorem ok_modulus (D : Df K mg "_law_modulus" sModulus ["_law_draws"]) (c1 : C8.Cal P w K mg base 2 "_law_draw" spDraw []) (c2 : C8.Cal P w K mg base 3 "_law_large" spLarge []) : C8.Cal P w K mg base 4 "_law_modulus" spModulus [] := by
  refine D.ok scModulus (fun vs H Q E h => ?_) (fun f cdv A outer s H vs Q E hr h => ?_)
  · obtain ⟨d, rfl, _⟩ := h
    rfl
  · obtain ⟨d, rfl, hD, k⟩ := h
    refine ⟨_, C8.pss_cut (ps_set (i := 1) scModulus.nd rfl (Or.inl rfl) (pe_op op_mod (C8.pe_c c1 hr (by decide) rfl (pa_cons (pv 0) pa_nil)) pe_int))
      (pss_cons (ps_if (pt_cmpR op_lt (pv 1) pe_int (nomark _)) (pss_one (ps_ret (pe_ix ix_list (pe_lst (pa_cons pe_int (pa_cons pe_int (pa_cons (pe_op op_pow pe_int pe_int) (pa_cons pe_int pa_nil))))) (pv 1) (fun _ _ => rfl)))) pss_nil)
      (pss_cons (ps_if (pt_cmpR op_lt (pv 1) pe_int (nomark _)) (pss_one (ps_ret (pe_op op_add pe_int (pe_op op_mod (C8.pe_c c1 hr (by decide) rfl (pa_cons (pv 0) pa_nil)) pe_int)))) pss_nil)
      (pss_one (ps_ret (pe_op op_add pe_int (C8.pe_c c2 hr (by decide) rfl (pa_cons (pv 0) (pa_cons (pe_op op_sub (pe_op op_pow pe_int pe_int) pe_int) pa_nil)))))))), ?_⟩
    refine ⟨fun σ' H' => Dr H' d ∧ Exd d H H' ∧ ∃ q : Int, 0 ≤ q ∧ q < 8 ∧ σ' = [some (.ref d), some (.int q)], ?_, ?_⟩
    · refine ⟨_, rfl, d, rfl, hD, fun v1 H1 d1 x1 _ _ => ⟨_, _, rfl, rfl, (by show (0 : Int) < 8; decide), d1, x1, _, (mod_range (by decide)).1, (mod_range (by decide)).2, rfl⟩⟩
    · rintro σ' H1 ⟨d1, x1, q, q0, q8, rfl⟩
      refine ⟨_, rfl, _, _, rfl, rfl, _, rfl, ite2 (fun c => ?_) (fun _ => ?_)⟩
      · have hc : q < 4 := of_decide_eq_true c
        refine ⟨_, _, rfl, rfl, ⟨by decide, by decide, by decide⟩, (by show 4 ≤ sizeLine; decide), fun r hr' => ?_⟩
        have d2 := d1.same (Same.new hr' (o := .lst [.int 2, .int 3, .int (10 ^ (9 : Int).toNat), .int 999999937]))
        have x2 := x1.trans (Exd.new hr' (o := .lst [.int 2, .int 3, .int (10 ^ (9 : Int).toNat), .int 999999937]))
        rcases (show q = 0 ∨ q = 1 ∨ q = 2 ∨ q = 3 by omega) with rfl | rfl | rfl | rfl
        · exact ⟨_, rfl, r, _, _, _, rfl, rfl, SqL.of upd_same, at_of (j := 0) rfl rfl, k _ _ d2 x2 (by decide) (by decide)⟩
        · exact ⟨_, rfl, r, _, _, _, rfl, rfl, SqL.of upd_same, at_of (j := 1) rfl rfl, k _ _ d2 x2 (by decide) (by decide)⟩
        · exact ⟨_, rfl, r, _, _, _, rfl, rfl, SqL.of upd_same, at_of (j := 2) rfl rfl, k _ _ d2 x2 (by decide) (by decide)⟩
        · exact ⟨_, rfl, r, _, _, _, rfl, rfl, SqL.of upd_same, at_of (j := 3) rfl rfl, k _ _ d2 x2 (by decide) (by decide)⟩
      · refine ⟨_, rfl, _, _, rfl, rfl, _, rfl, ite2 (fun _ => ?_) (fun _ => ?_)⟩
        · refine ⟨_, rfl, d, rfl, d1, fun v2 H2 d2 x2 _ _ => ⟨_, _, rfl, rfl, (by show (0 : Int) < 60; decide), _, _, rfl, rfl, ?_⟩⟩
          have hm := mod_range (a := v2) (md := 60) (by decide)
          exact k _ H2 d2 (x1.trans x2) (by show 2 ≤ 2 + v2 % 60; omega) (by show 2 + v2 % 60 ≤ _; omega)
        · refine ⟨_, rfl, _, _, rfl, rfl, ⟨by decide, by decide, by decide⟩, _, _, rfl, rfl, d, _, rfl, d1, (by show (0 : Int) < 10 ^ (9 : Int).toNat - 1; decide), fun v2 H2 d2 x2 h0 h1 => ⟨_, _, rfl, rfl, ?_⟩⟩
          have h1' : v2 < 999999999 := Int.lt_of_lt_of_le h1 (by show (10 : Int) ^ (9 : Int).toNat - 1 ≤ _; decide)
          exact k _ H2 d2 (x1.trans x2) (by show 2 ≤ 2 + v2; omega) (by show 2 + v2 ≤ _; omega)
/-! ### _law_number -/
def spNumber : Sp := fun vs H Q _ => ∃ (d : Addr) (md : Int), vs = [.ref d, .int md] ∧ Dr H d ∧ 2 ≤ md ∧ ∀ (v : Int) (H' : Hp), Dr H' d → Exd d H H' → 0 ≤ v → v < md → Q (.int v) H'
theorem scNumber : FnScope ["_law_draws", "_law_modulus_here", "_law_pick"] ["_law_draws", "_law_modulus_here"] (defScope sNumber) := ⟨rfl, rfl, rfl, by decide +kernel, rfl, by decide +kernel, by decide +kernel⟩
theorem ok_number (D : Df K mg "_law_number" sNumber ["_law_draws", "_law_modulus_here"]) (c1 : C8.Cal P w K mg base 2 "_law_draw" spDraw []) (c2 : C8.Cal P w K mg base 3 "_law_large" spLarge []) : C8.Cal P w K mg base 4 "_law_number" spNumber [] := by
  refine D.ok scNumber (fun vs H Q E h => ?_) (fun f cdv A outer s H vs Q E hr h => ?_)
  · obtain ⟨d, md, rfl, _⟩ := h
    rfl
  · obtain ⟨d, md, rfl, hD, hm, k⟩ := h
    refine ⟨_, C8.pss_cut (ps_set (i := 2) scNumber.nd rfl (Or.inl rfl) (pe_op op_mod (C8.pe_c c1 hr (by decide) rfl (pa_cons (pv 0) pa_nil)) pe_int))
      (pss_cons (ps_if (pt_cmpR op_lt (pv 2) pe_int (nomark _)) (pss_one (ps_ret (pe_ix ix_list (pe_lst (pa_cons pe_int (pa_cons pe_int (pa_cons (pe_op op_sub (pv 1) pe_int) pa_nil)))) (pv 2) (fun _ _ => rfl)))) pss_nil)
      (pss_one (ps_ret (C8.pe_c c2 hr (by decide) rfl (pa_cons (pv 0) (pa_cons (pv 1) pa_nil)))))), ?_⟩
    refine ⟨fun σ' H' => Dr H' d ∧ Exd d H H' ∧ ∃ q : Int, 0 ≤ q ∧ q < 6 ∧ σ' = [some (.ref d), some (.int md), some (.int q)], ?_, ?_⟩
    · refine ⟨_, rfl, d, rfl, hD, fun v1 H1 d1 x1 _ _ => ⟨_, _, rfl, rfl, (by show (0 : Int) < 6; decide), d1, x1, _, (mod_range (by decide)).1, (mod_range (by decide)).2, rfl⟩⟩
    · rintro σ' H1 ⟨d1, x1, q, q0, q8, rfl⟩
      refine ⟨_, rfl, _, _, rfl, rfl, _, rfl, ite2 (fun c => ?_) (fun _ => ?_)⟩
      · have hc : q < 3 := of_decide_eq_true c
        refine ⟨_, rfl, _, _, rfl, rfl, (by show 3 ≤ sizeLine; decide), fun r hr' => ?_⟩
        have d2 := d1.same (Same.new hr' (o := .lst [.int 0, .int 1, .int (md - 1)]))
        have x2 := x1.trans (Exd.new hr' (o := .lst [.int 0, .int 1, .int (md - 1)]))
        rcases (show q = 0 ∨ q = 1 ∨ q = 2 by omega) with rfl | rfl | rfl
        · exact ⟨_, rfl, r, _, _, _, rfl, rfl, SqL.of upd_same, at_of (j := 0) rfl rfl, k _ _ d2 x2 (by decide) (by omega)⟩
        · exact ⟨_, rfl, r, _, _, _, rfl, rfl, SqL.of upd_same, at_of (j := 1) rfl rfl, k _ _ d2 x2 (by decide) (by omega)⟩
        · exact ⟨_, rfl, r, _, _, _, rfl, rfl, SqL.of upd_same, at_of (j := 2) rfl rfl, k _ _ d2 x2 (by show 0 ≤ md - 1; omega) (by show md - 1 < md; omega)⟩
      · exact ⟨_, rfl, _, rfl, d, md, rfl, d1, by omega, fun v2 H2 d2 x2 h0 h1 => k v2 H2 d2 (x1.trans x2) h0 h1⟩
/-! ### _law_constant -/
def spConstant : Sp := fun vs H Q _ => ∃ d : Addr, vs = [.ref d] ∧ Dr H d ∧ ∀ (v : Int) (H' : Hp), Dr H' d → Exd d H H' → 0 ≤ v → v < 1000000000 → Q (.int v) H'
theorem scConstant : FnScope ["_law_draws", "_law_pick"] ["_law_draws"] (defScope sConstant) := ⟨rfl, rfl, rfl, by decide +kernel, rfl, by decide +kernel, by decide +kernel⟩
theorem ok_constant (D : Df K mg "_law_constant" sConstant ["_law_draws"]) (c1 : C8.Cal P w K mg base 2 "_law_draw" spDraw []) (c2 : C8.Cal P w K mg base 3 "_law_large" spLarge []) : C8.Cal P w K mg base 4 "_law_constant" spConstant [] := by
  refine D.ok scConstant (fun vs H Q E h => ?_) (fun f cdv A outer s H vs Q E hr h => ?_)
  · obtain ⟨d, rfl, _⟩ := h
    rfl
  · obtain ⟨d, rfl, hD, k⟩ := h
    refine ⟨_, C8.pss_cut (ps_set (i := 1) scConstant.nd rfl (Or.inl rfl) (pe_op op_mod (C8.pe_c c1 hr (by decide) rfl (pa_cons (pv 0) pa_nil)) pe_int))
      (pss_cons (ps_if (pt_cmpR op_lt (pv 1) pe_int (nomark _)) (pss_one (ps_ret (pe_ix ix_list (pe_lst (pa_cons pe_int (pa_cons pe_int (pa_cons (pe_op op_sub (pe_op op_pow pe_int pe_int) pe_int) pa_nil)))) (pv 1) (fun _ _ => rfl)))) pss_nil)
      (pss_one (ps_ret (C8.pe_c c2 hr (by decide) rfl (pa_cons (pv 0) (pa_cons (pe_op op_pow pe_int pe_int) pa_nil)))))), ?_⟩
    refine ⟨fun σ' H' => Dr H' d ∧ Exd d H H' ∧ ∃ q : Int, 0 ≤ q ∧ q < 5 ∧ σ' = [some (.ref d), some (.int q)], ?_, ?_⟩
    · refine ⟨_, rfl, d, rfl, hD, fun v1 H1 d1 x1 _ _ => ⟨_, _, rfl, rfl, (by show (0 : Int) < 5; decide), d1, x1, _, (mod_range (by decide)).1, (mod_range (by decide)).2, rfl⟩⟩
    · rintro σ' H1 ⟨d1, x1, q, q0, q8, rfl⟩
      refine ⟨_, rfl, _, _, rfl, rfl, _, rfl, ite2 (fun c => ?_) (fun _ => ?_)⟩
      · have hc : q < 3 := of_decide_eq_true c
        refine ⟨_, _, rfl, rfl, ⟨by decide, by decide, by decide⟩, _, _, rfl, rfl, (by show 3 ≤ sizeLine; decide), fun r hr' => ?_⟩
        have d2 := d1.same (Same.new hr' (o := .lst [.int 0, .int 1, .int (10 ^ (9 : Int).toNat - 1)]))
        have x2 := x1.trans (Exd.new hr' (o := .lst [.int 0, .int 1, .int (10 ^ (9 : Int).toNat - 1)]))
        rcases (show q = 0 ∨ q = 1 ∨ q = 2 by omega) with rfl | rfl | rfl
        · exact ⟨_, rfl, r, _, _, _, rfl, rfl, SqL.of upd_same, at_of (j := 0) rfl rfl, k _ _ d2 x2 (by decide) (by decide)⟩
        · exact ⟨_, rfl, r, _, _, _, rfl, rfl, SqL.of upd_same, at_of (j := 1) rfl rfl, k _ _ d2 x2 (by decide) (by decide)⟩
        · exact ⟨_, rfl, r, _, _, _, rfl, rfl, SqL.of upd_same, at_of (j := 2) rfl rfl, k _ _ d2 x2 (by decide) (by decide)⟩
      · refine ⟨_, rfl, _, _, rfl, rfl, ⟨by decide, by decide, by decide⟩, d, _, rfl, d1, (by show (0 : Int) < 10 ^ (9 : Int).toNat; decide), fun v2 H2 d2 x2 h0 h1 => k v2 H2 d2 (x1.trans x2) h0 (Int.lt_of_lt_of_le h1 (by show (10 : Int) ^ (9 : Int).toNat ≤ _; decide))⟩
/-! ### _law_leaf -/
def spLeaf : Sp := fun vs H Q _ => ∃ d : Addr, vs = [.ref d] ∧ Dr H d ∧ ∀ (p : Addr) (nd : Nd) (H' : Hp), Dr H' d → Exd d H H' → NdAt H' p nd → LeafOk 60 nd → Q (.ref p) H'
theorem scLeaf : FnScope ["_law_draws", "_law_number_here"] ["_law_draws"] (defScope sLeaf) := ⟨rfl, rfl, rfl, by decide +kernel, rfl, by decide +kernel, by decide +kernel⟩
theorem ok_leaf (D : Df K mg "_law_leaf" sLeaf ["_law_draws"]) (c1 : C8.Cal P w K mg base 2 "_law_draw" spDraw []) (c2 : C8.Cal P w K mg base 4 "_law_constant" spConstant []) : C8.Cal P w K mg base 5 "_law_leaf" spLeaf [] := by
  refine D.ok scLeaf (fun vs H Q E h => ?_) (fun f cdv A outer s H vs Q E hr h => ?_)
  · obtain ⟨d, rfl, _⟩ := h
    rfl
  · obtain ⟨d, rfl, hD, k⟩ := h
    refine ⟨_, pss_cons (ps_if (pt_cmpR op_eq (pe_op op_mod (C8.pe_c c1 hr (by decide) rfl (pa_cons (pv 0) pa_nil)) pe_int) pe_int (nomark _)) (pss_one (ps_ret (pe_tup (pa_cons pe_str (pa_cons (C8.pe_c c2 hr (by decide) rfl (pa_cons (pv 0) pa_nil)) pa_nil))))) pss_nil)
      (C8.pss_cut (ps_set (i := 1) scLeaf.nd rfl (Or.inl rfl) (pe_op op_mod (C8.pe_c c1 hr (by decide) rfl (pa_cons (pv 0) pa_nil)) pe_int))
      (C8.pss_cut (ps_if (pt_cmpR op_gt (pv 1) pe_int (nomark _)) (pss_one (ps_set (i := 1) scLeaf.nd rfl (Or.inl rfl) (pe_op op_mod (pv 1) pe_int))) pss_nil)
      (pss_one (ps_ret (pe_tup (pa_cons pe_str (pa_cons (pv 1) pa_nil))))))), ?_⟩
    refine ⟨_, rfl, d, rfl, hD, fun v1 H1 d1 x1 _ _ => ⟨_, _, rfl, rfl, (by show (0 : Int) < 3; decide), rfl, _, rfl, ite2 (fun _ => ?_) (fun _ => ?_)⟩⟩
    · refine ⟨_, rfl, d, rfl, d1, fun c H2 d2 x2 h0 h1 => ⟨(by show 2 ≤ sizeLine; decide), fun p hp => ?_⟩⟩
      exact k p (.const c) _ (d2.same (Same.new hp)) ((x1.trans x2).trans (Exd.new hp)) upd_same (.inl ⟨c, rfl, h0, h1⟩)
    · refine ⟨fun σ' H' => Dr H' d ∧ Exd d H H' ∧ ∃ q : Int, 0 ≤ q ∧ q < 120 ∧ σ' = [some (.ref d), some (.int q)], ?_, ?_⟩
      · exact ⟨_, rfl, d, rfl, d1, fun v2 H2 d2 x2 _ _ => ⟨_, _, rfl, rfl, (by show (0 : Int) < 120; decide), d2, x1.trans x2, _, (mod_range (by decide)).1, (mod_range (by decide)).2, rfl⟩⟩
      · rintro σ' H2 ⟨d2, x2, q, q0, q8, rfl⟩
        refine ⟨fun σ' H' => H' = H2 ∧ ∃ q : Int, 0 ≤ q ∧ q < 60 ∧ σ' = [some (.ref d), some (.int q)], ?_, ?_⟩
        · refine ⟨_, rfl, _, _, rfl, rfl, _, rfl, ite2 (fun _ => ?_) (fun c => ?_)⟩
          · have hm := mod_range (a := q) (md := 5) (by decide)
            exact ⟨_, rfl, _, _, rfl, rfl, (by show (0 : Int) < 5; decide), rfl, _, hm.1, (by omega), rfl⟩
          · have hc : ¬ (59 < q) := fun z => c (decide_eq_true z)
            exact ⟨rfl, q, q0, by omega, rfl⟩
        · rintro σ' H3 ⟨rfl, q, q0, q6, rfl⟩
          exact ⟨_, rfl, (by show 2 ≤ sizeLine; decide), fun p hp => k p (.inp q) _ (d2.same (Same.new hp)) (x2.trans (Exd.new hp)) upd_same (.inr ⟨q, rfl, q0, q6⟩)⟩
/-! ### _law_needs -/
def spLNeeds : Sp := fun vs H Q _ => ∃ (a : Addr) (ns : List Nd), vs = [.ref a] ∧ SrcAt H a ns ∧ Q (.int (needs ns)) H
theorem scLNeeds : FnScope ["_law_source_here", "_law_most", "_law_node_here"] ["_law_source_here"] (defScope sLNeeds) := ⟨rfl, rfl, rfl, by decide +kernel, rfl, by decide +kernel, by decide +kernel⟩
theorem ok_lneeds (D : Df K mg "_law_needs" sLNeeds ["_law_source_here"]) (T : Txt K mg) : C8.Cal P w K mg base 1 "_law_needs" spLNeeds [] := by
  refine D.ok scLNeeds (fun vs H Q E h => ?_) (fun f cdv A outer s H vs Q E hr h => ?_)
  · obtain ⟨a, ns, rfl, _⟩ := h
    rfl
  · obtain ⟨a, ns, rfl, ⟨as, hA, hL⟩, k⟩ := h
    refine ⟨_, pss_cons (ps_set (i := 1) scLNeeds.nd rfl (Or.inl rfl) pe_int)
      (pss_cons (ps_for PassesOwn.never rfl (pi_tup (pv 0)) (pg_name (i := 2) scLNeeds.nd rfl (.inl rfl))
        (pss_one (ps_if (pt_cmpR op_eq (pe_ix ix_tup (pv 2) pe_int (fun _ _ => rfl)) pe_str (nomark _))
          (pss_one (ps_set (i := 1) scLNeeds.nd rfl (Or.inl rfl) (pe_callB (call_max2 rfl) (by rfl) T.max (by decide +kernel) (pa_cons (pv 1) (pa_cons (pe_op op_add (pe_ix ix_tup (pv 2) pe_int (fun _ _ => rfl)) pe_int) pa_nil))))) pss_nil)))
      (pss_one (ps_ret (pv 1)))), ?_⟩
    refine ⟨_, rfl, a, rfl, ⟨_, SqT.of hA⟩, for_tup (K := K) (a := a) (xs := as.map V.ref) (fun i σ H' => H' = H ∧ ∃ v, σ = [some (.ref a), some (.int (needs (ns.take i))), v]) ⟨rfl, none, rfl⟩ (fun i σ H' _ ⟨e, _⟩ => by rw [e]; exact SqT.of hA) ?_ ?_⟩
    · rintro i y σ H' hi ⟨rfl, v, rfl⟩
      obtain ⟨b, hb, rfl⟩ := ref_get hi
      obtain ⟨nd, hn, hnA⟩ := hL.get hb
      have hn1 : H' b = some (.tup (.str (ndTag nd) :: (ndArgs nd).map V.int)) := hnA
      refine ⟨_, rfl, b, _, _, _, rfl, rfl, SqT.of hn1, at_of (j := 0) rfl rfl, rfl, _, rfl, ?_⟩
      by_cases h2 : ndTag nd = "input"
      · obtain ⟨c, rfl⟩ := (t_input nd).mp h2
        rw [decide_eq_true (congrArg V.str h2)]
        refine iteT ⟨_, rfl, _, rfl, b, _, _, _, rfl, rfl, SqT.of hn1, at_of (j := 1) rfl rfl, _, _, rfl, rfl, _, _, rfl, rfl, some (.ref b), ?_⟩
        rw [needs_take ns hn]
        rfl
      · rw [decide_eq_false (s_ne h2)]
        refine iteF ⟨rfl, some (.ref b), ?_⟩
        rw [needs_take ns hn, need_not h2]
        rfl
    · rintro σ H' ⟨rfl, v, rfl⟩
      have ef : ns.take (as.map V.ref).length = ns := List.take_of_length_le (by rw [List.length_map, hL.length]; exact Nat.le_refl _)
      rw [ef]
      exact ⟨_, rfl, k⟩
end
end Bk

namespace Bk
open PySem PySem.Spec PyProof.Rows L2
theorem leaf_ok {nd : Nd} (h : LeafOk 60 nd) (k : Nat) (cs : List Int) : NdOk k nd ∧ ndCost cs nd = 1 := by
  rcases h with ⟨c, rfl, h0, h1⟩ | ⟨q, rfl, h0, h1⟩
  · exact ⟨⟨h0, h1⟩, rfl⟩
  · exact ⟨⟨h0, h1⟩, rfl⟩
theorem SrcOk.snoc {ns : List Nd} {nd : Nd} (h : SrcOk ns) (hn : NdOk ns.length nd) : SrcOk (ns ++ [nd]) := by
  intro k n hk
  by_cases c : k < ns.length
  · rw [List.getElem?_append_left c] at hk
    exact h k n hk
  · have e : k = ns.length := by
      have := lt_of_get hk
      rw [List.length_append, List.length_singleton] at this
      omega
    subst e
    rw [List.getElem?_append_right (Nat.le_refl _), Nat.sub_self] at hk
    have e2 : nd = n := Option.some.inj hk
    subst e2
    exact hn
theorem nat_mod {v : Int} {n : Nat} (h : 0 < n) : ∃ j : Nat, v % (n : Int) = (j : Int) ∧ j < n := by
  have hm := mod_range (a := v) (md := (n : Int)) (by omega)
  exact ⟨(v % (n : Int)).toNat, by omega, by omega⟩
section
variable {P : Program} {w : World} {K : PySem.W.Frag} {mg : Str → Option Value} {base : Heap}
/-! ### _law_node -/
/-- behind some draws: the costs stand -/
structure Go (H H' : Hp) (d c : Addr) (cs : List Int) : Prop where
  dr : Dr H' d
  x : Exd d H H'
  cs : H' c = some (.lst (cs.map V.int))
theorem Go.step {H H1 H2 : Hp} {d c : Addr} {cs : List Int} (g : Go H H1 d c cs) (d2 : Dr H2 d) (x2 : Exd d H1 H2) : Go H H2 d c cs := by
  refine ⟨d2, g.x.trans x2, x2.k _ _ g.cs ?_⟩
  obtain ⟨l, xs, n, h1, _⟩ := g.dr
  exact ne_of g.cs h1 dr_ne
theorem Go.same {H H1 H2 : Hp} {d c : Addr} {cs : List Int} (g : Go H H1 d c cs) (s : Same H1 H2) : Go H H2 d c cs := ⟨g.dr.same s, g.x.trans (Same.exd s), s _ _ g.cs⟩
def spNode : Sp := fun vs H Q _ => ∃ (d c : Addr) (ns : List Nd) (most : Int), vs = [.ref d, .ref c, .int most] ∧ Dr H d ∧ H c = some (.lst ((costs ns).map V.int)) ∧ 1 ≤ most ∧
  ∀ (r p : Addr) (nd : Nd) (H' : Hp), Dr H' d → Exd d H H' → H' r = some (.lst [.ref p, .int (ndCost (costs ns) nd)]) → NdAt H' p nd → NdOk ns.length nd → ndCost (costs ns) nd ≤ most → Q (.ref r) H'
abbrev nNode : List Str := ["_law_draws", "_law_costs", "_law_most", "_law_many", "_law_pick", "_law_i", "_law_j", "_law_l", "_law_node_here", "_law_price"]
theorem scNode : FnScope nNode ["_law_draws", "_law_costs", "_law_most"] (defScope sNode) := ⟨rfl, rfl, rfl, by decide +kernel, rfl, by decide +kernel, by decide +kernel⟩
theorem ok_node (D : Df K mg "_law_node" sNode ["_law_draws", "_law_costs", "_law_most"]) (T : Txt K mg) (c1 : C8.Cal P w K mg base 2 "_law_draw" spDraw []) (c2 : C8.Cal P w K mg base 4 "_law_constant" spConstant []) (c3 : C8.Cal P w K mg base 5 "_law_leaf" spLeaf []) : C8.Cal P w K mg base 6 "_law_node" spNode [] := by
  refine D.ok scNode (fun vs H Q E h => ?_) (fun f cdv A outer s H vs Q E hr h => ?_)
  · obtain ⟨d, c, ns, most, rfl, _⟩ := h
    rfl
  · obtain ⟨d, c, ns, most, rfl, hD, hc, hm1, k⟩ := h
    have el : (((costs ns).map V.int).length : Nat) = ns.length := by rw [List.length_map, costs_length]
    refine ⟨_, C8.pss_cut (ps_set (i := 3) scNode.nd rfl (Or.inl rfl) (pe_callB call_len_seq (by rfl) T.len PySem.boot_len (pa_cons (pv 1) pa_nil)))
      (C8.pss_cut (ps_set (i := 4) scNode.nd rfl (Or.inl rfl) (pe_op op_mod (C8.pe_c c1 hr (by decide) rfl (pa_cons (pv 0) pa_nil)) pe_int))
      (C8.pss_cut (ps_if (PW.pt (pw_or (pt_cmpR op_eq (pv 3) pe_int (nomark _)) (pw_or1 (pt_cmpR op_lt (pv 4) pe_int (nomark _))))) (pss_one (ps_ret (pe_lst (pa_cons (C8.pe_c c3 hr (by decide) rfl (pa_cons (pv 0) pa_nil)) (pa_cons pe_int pa_nil))))) pss_nil)
      (C8.pss_cut (ps_set (i := 5) scNode.nd rfl (Or.inl rfl) (pe_op op_sub (pe_op op_sub (pv 3) pe_int) (pe_op op_mod (C8.pe_c c1 hr (by decide) rfl (pa_cons (pv 0) pa_nil)) (pe_callB (call_min2 rfl) (by rfl) T.min (by decide +kernel) (pa_cons (pv 3) (pa_cons pe_int pa_nil))))))
      (C8.pss_cut (ps_set (i := 6) scNode.nd rfl (Or.inl rfl) (pe_op op_mod (C8.pe_c c1 hr (by decide) rfl (pa_cons (pv 0) pa_nil)) (pv 3)))
      (C8.pss_cut (ps_set (i := 7) scNode.nd rfl (Or.inl rfl) (pe_op op_mod (C8.pe_c c1 hr (by decide) rfl (pa_cons (pv 0) pa_nil)) (pv 3)))
      (pss_cons (ps_set (i := 8) scNode.nd rfl (Or.inl rfl) (pe_tup (pa_cons pe_str (pa_cons (C8.pe_c c2 hr (by decide) rfl (pa_cons (pv 0) pa_nil)) (pa_cons (pv 5) pa_nil)))))
      (pss_cons (ps_set (i := 9) scNode.nd rfl (Or.inl rfl) (pe_ix ix_list (pv 1) (pv 5) (fun _ _ => rfl)))
      (C8.pss_cut (ps_if (pt_cmpR op_lt (pv 4) pe_int (nomark _))
          (pss_cons (ps_set (i := 8) scNode.nd rfl (Or.inl rfl) (pe_tup (pa_cons pe_str (pa_cons (pv 5) (pa_cons (pv 6) pa_nil)))))
          (pss_one (ps_set (i := 9) scNode.nd rfl (Or.inl rfl) (pe_op op_add (pe_ix ix_list (pv 1) (pv 5) (fun _ _ => rfl)) (pe_ix ix_list (pv 1) (pv 6) (fun _ _ => rfl))))))
          (pss_one (ps_if (pt_cmpR op_lt (pv 4) pe_int (nomark _))
            (pss_cons (ps_set (i := 8) scNode.nd rfl (Or.inl rfl) (pe_tup (pa_cons pe_str (pa_cons (pv 5) (pa_cons (pv 6) pa_nil)))))
            (pss_one (ps_set (i := 9) scNode.nd rfl (Or.inl rfl) (pe_op op_mul pe_int (pe_op op_add (pe_ix ix_list (pv 1) (pv 5) (fun _ _ => rfl)) (pe_ix ix_list (pv 1) (pv 6) (fun _ _ => rfl)))))))
            (pss_one (ps_if (pt_cmpR op_eq (pv 4) pe_int (nomark _))
              (pss_cons (ps_set (i := 8) scNode.nd rfl (Or.inl rfl) (pe_tup (pa_cons pe_str (pa_cons (pv 5) (pa_cons (pv 6) (pa_cons (pv 7) pa_nil))))))
              (pss_one (ps_set (i := 9) scNode.nd rfl (Or.inl rfl) (pe_op op_add (pe_ix ix_list (pv 1) (pv 7) (fun _ _ => rfl)) (pe_op op_mul pe_int (pe_op op_add (pe_op op_add (pe_ix ix_list (pv 1) (pv 5) (fun _ _ => rfl)) (pe_ix ix_list (pv 1) (pv 6) (fun _ _ => rfl))) (pe_ix ix_list (pv 1) (pv 7) (fun _ _ => rfl)))))))) pss_nil)))))
      (pss_cons (ps_if (pt_cmpR op_gt (pv 9) (pv 2) (nomark _)) (pss_one (ps_ret (pe_lst (pa_cons (C8.pe_c c3 hr (by decide) rfl (pa_cons (pv 0) pa_nil)) (pa_cons pe_int pa_nil))))) pss_nil)
      (pss_one (ps_ret (pe_lst (pa_cons (pv 8) (pa_cons (pv 9) pa_nil)))))))))))))), ?_⟩
    have leafEnd : ∀ H1, Go H H1 d c (costs ns) → spLeaf [.ref d] H1 (fun v H2 => 2 ≤ sizeLine ∧ ∀ r, H2 r = none → Q (.ref r) (upd H2 r (.lst [v, .int 1]))) C8.E0 := by
      intro H1 g
      refine ⟨d, rfl, g.dr, fun p nd H2 d2 x2 hp hl => ⟨by decide, fun r hr' => ?_⟩⟩
      have lo := leaf_ok hl ns.length (costs ns)
      have g2 := (g.step d2 x2).same (Same.new hr' (o := .lst [.ref p, .int 1]))
      exact k r p nd _ g2.dr g2.x (by rw [lo.2]; exact upd_same) (hp.mono (TS.new hr')) lo.1 (by rw [lo.2]; exact hm1)
    -- many
    refine ⟨fun σ' H' => H' = H ∧ σ' = [some (.ref d), some (.ref c), some (.int most), some (.int (ns.length : Int)), none, none, none, none, none, none], ?_, ?_⟩
    · refine ⟨_, rfl, c, _, rfl, .inl (SqL.of hc), rfl, ?_⟩
      show [_, _, _, some (V.int ((((costs ns).map V.int).length : Nat) : Int)), _, _, _, _, _, _] = _
      rw [el]
    rintro _ _ ⟨rfl, rfl⟩
    rename_i H
    -- pick
    refine ⟨fun σ' H' => Go H H' d c (costs ns) ∧ ∃ q : Int, 0 ≤ q ∧ σ' = [some (.ref d), some (.ref c), some (.int most), some (.int (ns.length : Int)), some (.int q), none, none, none, none, none], ?_, ?_⟩
    · exact ⟨_, rfl, d, rfl, hD, fun v1 H1 d1 x1 _ _ => ⟨_, _, rfl, rfl, (by show (0 : Int) < 9; decide), Go.step ⟨hD, Exd.refl d H, hc⟩ d1 x1, _, (mod_range (by decide)).1, rfl⟩⟩
    rintro _ H1 ⟨g1, q, q0, rfl⟩
    -- leaf at once
    refine ⟨fun σ' H' => H' = H1 ∧ 0 < ns.length ∧ σ' = [some (.ref d), some (.ref c), some (.int most), some (.int (ns.length : Int)), some (.int q), none, none, none, none, none], ?_, ?_⟩
    · refine ⟨_, rfl, rfl, _, rfl, ?_⟩
      by_cases z : ns.length = 0
      · rw [decide_eq_true (ieq (show (ns.length : Int) = 0 by omega))]
        exact iteT (iteT ⟨_, rfl, leafEnd H1 g1⟩)
      · rw [decide_eq_false (ine (show ¬ (ns.length : Int) = 0 by omega))]
        refine iteF ⟨_, rfl, _, _, rfl, rfl, _, rfl, ite2 (fun _ => ⟨_, rfl, leafEnd H1 g1⟩) (fun _ => ⟨rfl, by omega, rfl⟩)⟩
    rintro _ _ ⟨rfl, hpos, rfl⟩
    rename_i H1
    -- i
    refine ⟨fun σ' H' => Go H H' d c (costs ns) ∧ ∃ i : Nat, i < ns.length ∧ σ' = [some (.ref d), some (.ref c), some (.int most), some (.int (ns.length : Int)), some (.int q), some (.int (i : Int)), none, none, none, none], ?_, ?_⟩
    · refine ⟨_, rfl, _, _, rfl, rfl, _, rfl, d, rfl, g1.dr, fun v2 H2 d2 x2 _ _ => ⟨_, rfl, _, _, rfl, ?_⟩⟩
      have hmn : (0 : Int) < (if (3 : Int) < (ns.length : Int) then 3 else (ns.length : Int)) := by split <;> omega
      refine ⟨_, _, rfl, rfl, hmn, _, _, rfl, rfl, g1.step d2 x2, ((ns.length : Int) - 1 - v2 % (if (3 : Int) < (ns.length : Int) then 3 else (ns.length : Int))).toNat, ?_, ?_⟩
      · have hm := mod_range (a := v2) hmn
        have hmx : (if (3 : Int) < (ns.length : Int) then 3 else (ns.length : Int)) ≤ (ns.length : Int) := by split <;> omega
        omega
      · have hm := mod_range (a := v2) hmn
        have hmx : (if (3 : Int) < (ns.length : Int) then 3 else (ns.length : Int)) ≤ (ns.length : Int) := by split <;> omega
        have e : (((ns.length : Int) - 1 - v2 % (if (3 : Int) < (ns.length : Int) then 3 else (ns.length : Int))).toNat : Int) = (ns.length : Int) - 1 - v2 % (if (3 : Int) < (ns.length : Int) then 3 else (ns.length : Int)) := by omega
        rw [e]
        rfl
    rintro _ H2 ⟨g2, i, hi, rfl⟩
    -- j
    refine ⟨fun σ' H' => Go H H' d c (costs ns) ∧ ∃ j : Nat, j < ns.length ∧ σ' = [some (.ref d), some (.ref c), some (.int most), some (.int (ns.length : Int)), some (.int q), some (.int (i : Int)), some (.int (j : Int)), none, none, none], ?_, ?_⟩
    · refine ⟨_, rfl, d, rfl, g2.dr, fun v2 H3 d3 x3 _ _ => ⟨_, rfl, _, _, rfl, rfl, (by show (0 : Int) < (ns.length : Int); omega), ?_⟩⟩
      obtain ⟨j, ej, hj⟩ := nat_mod (v := v2) hpos
      refine ⟨g2.step d3 x3, j, hj, ?_⟩
      show [_, _, _, _, _, _, some (V.int (v2 % (ns.length : Int))), _, _, _] = _
      rw [ej]
    rintro _ H3 ⟨g3, j, hj, rfl⟩
    -- l
    refine ⟨fun σ' H' => Go H H' d c (costs ns) ∧ ∃ l : Nat, l < ns.length ∧ σ' = [some (.ref d), some (.ref c), some (.int most), some (.int (ns.length : Int)), some (.int q), some (.int (i : Int)), some (.int (j : Int)), some (.int (l : Int)), none, none], ?_, ?_⟩
    · refine ⟨_, rfl, d, rfl, g3.dr, fun v2 H4 d4 x4 _ _ => ⟨_, rfl, _, _, rfl, rfl, (by show (0 : Int) < (ns.length : Int); omega), ?_⟩⟩
      obtain ⟨l, ej, hl⟩ := nat_mod (v := v2) hpos
      refine ⟨g3.step d4 x4, l, hl, ?_⟩
      show [_, _, _, _, _, _, _, some (V.int (v2 % (ns.length : Int))), _, _] = _
      rw [ej]
    rintro _ H4 ⟨g4, l, hl, rfl⟩
    have cg : ∀ {t : Nat}, t < ns.length → atI ((costs ns).map V.int) (t : Int) = some (.int ((costs ns).getD t 0)) := fun h => at_getD (by rw [costs_length]; exact h)
    -- scaled
    refine ⟨_, rfl, d, rfl, g4.dr, fun cst H5 d5 x5 k0 k9 => ⟨_, rfl, (by show 3 ≤ sizeLine; decide), fun p hp => ?_⟩⟩
    have g5 := g4.step d5 x5
    have g6 := g5.same (Same.new hp (o := .tup [.str "scaled", .int cst, .int (i : Int)]))
    have hp6 : NdAt (upd H5 p (.tup [.str "scaled", .int cst, .int (i : Int)])) p (.scaled cst i) := upd_same
    generalize upd H5 p (.tup [.str "scaled", .int cst, .int (i : Int)]) = H6 at g6 hp6
    refine ⟨_, rfl, _, rfl, c, _, _, _, rfl, rfl, SqL.of g6.cs, cg hi, ?_⟩
    -- the node and its price
    refine ⟨fun σ' H' => Go H H' d c (costs ns) ∧ ∃ (p : Addr) (nd : Nd), NdAt H' p nd ∧ NdOk ns.length nd ∧ σ' = [some (.ref d), some (.ref c), some (.int most), some (.int (ns.length : Int)), some (.int q), some (.int (i : Int)), some (.int (j : Int)), some (.int (l : Int)), some (.ref p), some (.int (ndCost (costs ns) nd))], ?_, ?_⟩
    · refine ⟨_, rfl, _, _, rfl, rfl, _, rfl, ite2 (fun _ => ?_) (fun _ => ?_)⟩
      · refine ⟨_, rfl, _, rfl, (by show 3 ≤ sizeLine; decide), fun p2 hp2 => ?_⟩
        have g7 := g6.same (Same.new hp2 (o := .tup [.str "sum", .int (i : Int), .int (j : Int)]))
        exact ⟨_, rfl, _, rfl, c, _, _, _, rfl, rfl, SqL.of g7.cs, cg hi, _, rfl, _, rfl, c, _, _, _, rfl, rfl, SqL.of g7.cs, cg hj, _, _, rfl, rfl, g7, p2, .sum i j, upd_same, ⟨hi, hj⟩, rfl⟩
      · refine ⟨_, rfl, _, _, rfl, rfl, _, rfl, ite2 (fun _ => ?_) (fun _ => ?_)⟩
        · refine ⟨_, rfl, _, rfl, (by show 3 ≤ sizeLine; decide), fun p2 hp2 => ?_⟩
          have g7 := g6.same (Same.new hp2 (o := .tup [.str "product", .int (i : Int), .int (j : Int)]))
          exact ⟨_, rfl, _, rfl, c, _, _, _, rfl, rfl, SqL.of g7.cs, cg hi, _, rfl, _, rfl, c, _, _, _, rfl, rfl, SqL.of g7.cs, cg hj, _, _, rfl, rfl, _, _, rfl, rfl, .inl ⟨by decide, by decide⟩, g7, p2, .prod i j, upd_same, ⟨hi, hj⟩, rfl⟩
        · refine ⟨_, rfl, rfl, _, rfl, ite2 (fun _ => ?_) (fun _ => ?_)⟩
          · refine ⟨_, rfl, _, rfl, _, rfl, (by show 4 ≤ sizeLine; decide), fun p2 hp2 => ?_⟩
            have g7 := g6.same (Same.new hp2 (o := .tup [.str "choose", .int (i : Int), .int (j : Int), .int (l : Int)]))
            exact ⟨_, rfl, _, rfl, c, _, _, _, rfl, rfl, SqL.of g7.cs, cg hl, _, rfl, _, rfl, c, _, _, _, rfl, rfl, SqL.of g7.cs, cg hi, _, rfl, _, rfl, c, _, _, _, rfl, rfl, SqL.of g7.cs, cg hj, _, _, rfl, rfl,
              _, rfl, _, rfl, c, _, _, _, rfl, rfl, SqL.of g7.cs, cg hl, _, _, rfl, rfl, _, _, rfl, rfl, .inl ⟨by decide, by decide⟩, _, _, rfl, rfl, g7, p2, .choose i j l, upd_same, ⟨hi, hj, hl⟩, rfl⟩
          · exact ⟨g6, p, .scaled cst i, hp6, ⟨⟨k0, k9⟩, hi⟩, rfl⟩
    rintro _ H7 ⟨g7, p2, nd, hA, hO, rfl⟩
    refine ⟨_, rfl, _, rfl, _, _, rfl, rfl, _, rfl, ite2 (fun _ => ⟨_, rfl, leafEnd H7 g7⟩) (fun c => ?_)⟩
    have hc' : ¬ most < ndCost (costs ns) nd := fun z => c (decide_eq_true z)
    refine ⟨_, rfl, _, rfl, (by show 2 ≤ sizeLine; decide), fun r hr' => ?_⟩
    have g8 := g7.same (Same.new hr' (o := .lst [.ref p2, .int (ndCost (costs ns) nd)]))
    exact k r p2 nd _ g8.dr g8.x upd_same (hA.mono (TS.new hr')) hO (by omega)
end
end Bk

namespace Bk
open PySem PySem.Spec PyProof.Rows L2
section
variable {P : Program} {w : World} {K : PySem.W.Frag} {mg : Str → Option Value} {base : Heap}
/-! ### _law_equal, _law_all_equal -/
def spEqInt : Sp := fun vs H Q _ => ∃ i : Int, vs = [.int i, .int i] ∧ Q (.bl true) H
def spEqList : Sp := fun vs H Q _ => ∃ (a b : Addr) (ns : List Int), vs = [.ref a, .ref b] ∧ H a = some (.lst (ns.map V.int)) ∧ H b = some (.lst (ns.map V.int)) ∧ ns.length ≤ 1000 ∧ Q (.bl true) H
theorem scEqual : FnScope ["_law_actual", "_law_due"] ["_law_actual", "_law_due"] (defScope sEqual) := ⟨rfl, rfl, rfl, by decide +kernel, rfl, by decide +kernel, by decide +kernel⟩
theorem ok_eq_int (D : Df K mg "_law_equal" sEqual ["_law_actual", "_law_due"]) (T : Txt K mg) : C8.Cal P w K mg base 1 "_law_equal" spEqInt [] := by
  refine D.ok scEqual (fun vs H Q E h => ?_) (fun f cdv A outer s H vs Q E hr h => ?_)
  · obtain ⟨i, rfl, _⟩ := h
    rfl
  · obtain ⟨i, rfl, k⟩ := h
    refine ⟨_, pss_cons (ps_if (pt_val (pe_isi (pv 1) T.isi T.list b_list)) pss_never pss_nil)
      (pss_cons (ps_if (pt_val (pe_isi (pv 1) T.isi T.tuple b_tuple)) pss_never pss_nil)
      (pss_cons (ps_if (pt_val (pe_isi (pv 1) T.isi T.bool b_bool)) pss_never pss_nil)
      (pss_cons (ps_if (pt_val (pe_isi (pv 1) T.isi T.int b_int)) (pss_one (ps_ret (pe_and (pe_isi (pv 0) T.isi T.int b_int) (pe_and (pe_not (pe_isi (pv 0) T.isi T.bool b_bool)) (pe_one (pe_cmpR op_eq (pv 0) (pv 1) (nomark _))))))) pss_nil)
      pss_never))), ?_⟩
    refine ⟨_, rfl, isi_int kIL ⟨false, rfl, iteF ⟨_, rfl, isi_int kIT ⟨false, rfl, iteF ⟨_, rfl, isi_int kIB ⟨false, rfl, iteF ⟨_, rfl, isi_int kII ⟨true, rfl, iteT ?_⟩⟩⟩⟩⟩⟩⟩⟩
    refine ⟨_, rfl, isi_int kII ⟨true, rfl, iteT ⟨_, rfl, isi_int kIB ⟨false, rfl, true, rfl, iteT ⟨_, rfl, _, rfl, rfl, ?_⟩⟩⟩⟩⟩
    exact Eq.mpr (congrArg (fun z => Q z H) (d_t rfl)) k
theorem scAllEqual : FnScope ["_law_actual", "_law_due", "_law_k"] ["_law_actual", "_law_due"] (defScope sAllEqual) := ⟨rfl, rfl, rfl, by decide +kernel, rfl, by decide +kernel, by decide +kernel⟩
theorem ok_all_equal (D : Df K mg "_law_all_equal" sAllEqual ["_law_actual", "_law_due"]) (T : Txt K mg) (c1 : C8.Cal P w K mg base 1 "_law_equal" spEqInt []) : C8.Cal P w K mg base 2 "_law_all_equal" spEqList [] := by
  refine D.ok scAllEqual (fun vs H Q E h => ?_) (fun f cdv A outer s H vs Q E hr h => ?_)
  · obtain ⟨a, b, ns, rfl, _⟩ := h
    rfl
  · obtain ⟨a, b, ns, rfl, ha, hb, hz, k⟩ := h
    refine ⟨_, pss_cons (ps_for PassesOwn.never rfl (pi_range1 rfl T.range (pa_cons (pe_callB call_len_seq (by rfl) T.len PySem.boot_len (pa_cons (pv 1) pa_nil)) pa_nil)) (pg_name (i := 2) scAllEqual.nd rfl (.inl rfl))
        (pss_one (ps_if (pt_not (pt_val (C8.pe_c c1 hr (by decide) rfl (pa_cons (pe_ix ix_list (pv 0) (pv 2) (fun _ _ => rfl)) (pa_cons (pe_ix ix_list (pv 1) (pv 2) (fun _ _ => rfl)) pa_nil))))) pss_never pss_nil)))
      (pss_one (ps_ret pe_bl)), ?_⟩
    have el : (((ns.map V.int).length : Nat) : Int) = (ns.length : Int) := by rw [List.length_map]
    refine ⟨_, rfl, b, _, rfl, .inl (SqL.of hb), _, rfl, (by rw [el]; omega), (by rw [el]; omega), for_range (n := ((((ns.map V.int).length : Nat) : Int)).toNat) (fun i σ H' => H' = H ∧ ∃ v, σ = [some (.ref a), some (.ref b), v]) ⟨rfl, none, rfl⟩ ?_ ?_⟩
    · rintro i σ H' hi ⟨rfl, v, rfl⟩
      rw [el, Int.toNat_natCast] at hi
      obtain ⟨z, hz'⟩ : ∃ z, ns[i]? = some z := ⟨ns[i], List.getElem?_eq_getElem hi⟩
      have hat : atI (ns.map V.int) (0 + (i : Int)) = some (.int z) := at_of (j := i) (by omega) (by rw [List.getElem?_map, hz']; rfl)
      exact ⟨_, rfl, _, rfl, a, _, _, _, rfl, rfl, SqL.of ha, hat, _, rfl, _, rfl, b, _, _, _, rfl, rfl, SqL.of hb, hat, z, rfl, true, rfl, iteF ⟨rfl, _, rfl⟩⟩
    · rintro σ H' ⟨rfl, v, rfl⟩
      exact k
theorem ok_eq_list (D : Df K mg "_law_equal" sEqual ["_law_actual", "_law_due"]) (T : Txt K mg) (c1 : C8.Cal P w K mg base 2 "_law_all_equal" spEqList []) : C8.Cal P w K mg base 3 "_law_equal" spEqList [] := by
  refine D.ok scEqual (fun vs H Q E h => ?_) (fun f cdv A outer s H vs Q E hr h => ?_)
  · obtain ⟨a, b, ns, rfl, _⟩ := h
    rfl
  · obtain ⟨a, b, ns, rfl, ha, hb, hz, k⟩ := h
    refine ⟨_, pss_cons (ps_if (pt_val (pe_isi (pv 1) T.isi T.list b_list))
        (pss_cons (ps_if (PW.pt (pw_or (pt_not (pt_val (pe_isi (pv 0) T.isi T.list b_list))) (pw_or1 (pt_cmpR op_ne (pe_callB call_len_seq (by rfl) T.len PySem.boot_len (pa_cons (pv 0) pa_nil)) (pe_callB call_len_seq (by rfl) T.len PySem.boot_len (pa_cons (pv 1) pa_nil)) (nomark _))))) pss_never pss_nil)
        (pss_one (ps_ret (C8.pe_c c1 hr (by decide) rfl (pa_cons (pv 0) (pa_cons (pv 1) pa_nil)))))) pss_nil)
      pss_never, ?_⟩
    refine ⟨_, rfl, isi_lst hb kLL ⟨true, rfl, iteT ⟨_, rfl, isi_lst ha kLL ⟨true, rfl, iteF ⟨_, rfl, a, _, rfl, .inl (SqL.of ha), _, rfl, b, _, rfl, .inl (SqL.of hb), rfl, false, m_f rfl, iteF ?_⟩⟩⟩⟩⟩
    exact ⟨_, rfl, _, rfl, a, b, ns, rfl, ha, hb, hz, k⟩
/-! ### _law_source -/
def spSource : Sp := fun vs H Q _ => ∃ (d : Addr) (most : Int), vs = [.ref d, .int most] ∧ Dr H d ∧ 1 ≤ most ∧ ∀ (r p : Addr) (ns : List Nd) (H' : Hp), Dr H' d → Exd d H H' → H r = none → H' r = some (.lst [.ref p, .int ((costs ns).getD (ns.length - 1) 0)]) →
  SrcAt H' p ns → SrcOk ns → 1 ≤ ns.length → ns.length ≤ 200 → (costs ns).getD (ns.length - 1) 0 ≤ most → Q (.ref r) H'
abbrev nSource : List Str := ["_law_draws", "_law_most", "_law_nodes", "_law_costs", "_law_many", "_law_k", "_law_pair"]
theorem scSource : FnScope nSource ["_law_draws", "_law_most"] (defScope sSource) := ⟨rfl, rfl, rfl, by decide +kernel, rfl, by decide +kernel, by decide +kernel⟩
theorem ok_source (D : Df K mg "_law_source" sSource ["_law_draws", "_law_most"]) (T : Txt K mg) (c1 : C8.Cal P w K mg base 2 "_law_draw" spDraw []) (c2 : C8.Cal P w K mg base 6 "_law_node" spNode []) : C8.Cal P w K mg base 7 "_law_source" spSource [] := by
  refine D.ok scSource (fun vs H Q E h => ?_) (fun f cdv A outer s H vs Q E hr h => ?_)
  · obtain ⟨d, most, rfl, _⟩ := h
    rfl
  · obtain ⟨d, most, rfl, hD, hm1, k⟩ := h
    refine ⟨_, pss_cons (ps_set (i := 2) scSource.nd rfl (Or.inl rfl) (pe_lst pa_nil))
      (pss_cons (ps_set (i := 3) scSource.nd rfl (Or.inl rfl) (pe_lst pa_nil))
      (C8.pss_cut (ps_set (i := 4) scSource.nd rfl (Or.inl rfl) (pe_op op_add pe_int (pe_op op_mod (C8.pe_c c1 hr (by decide) rfl (pa_cons (pv 0) pa_nil)) pe_int)))
      (C8.pss_cut (ps_if (pt_cmpR op_eq (pe_op op_mod (C8.pe_c c1 hr (by decide) rfl (pa_cons (pv 0) pa_nil)) pe_int) pe_int (nomark _)) (pss_one (ps_set (i := 4) scSource.nd rfl (Or.inl rfl) (pe_op op_add pe_int (pe_op op_mod (C8.pe_c c1 hr (by decide) rfl (pa_cons (pv 0) pa_nil)) pe_int)))) pss_nil)
      (pss_cons (ps_for PassesOwn.never rfl (pi_range1 rfl T.range (pa_cons (pv 4) pa_nil)) (pg_name (i := 5) scSource.nd rfl (.inl rfl))
        (pss_cons (ps_set (i := 6) scSource.nd rfl (Or.inl rfl) (C8.pe_c c2 hr (by decide) rfl (pa_cons (pv 0) (pa_cons (pv 3) (pa_cons (pv 1) pa_nil)))))
        (pss_cons (ps_expr (pe_bm PySem.F.plainAttrs_list PySem.F.slot_list_append PySem.F.type_list_append mt_append (pv 2) (pa_cons (pe_ix ix_list (pv 6) pe_int (fun _ _ => rfl)) pa_nil)))
        (pss_one (ps_expr (pe_bm PySem.F.plainAttrs_list PySem.F.slot_list_append PySem.F.type_list_append mt_append (pv 3) (pa_cons (pe_ix ix_list (pv 6) pe_int (fun _ _ => rfl)) pa_nil)))))))
      (pss_one (ps_ret (pe_lst (pa_cons (pe_callTy call_tuple_of (by rfl) T.tuple b_tuple (pa_cons (pv 2) pa_nil)) (pa_cons (pe_ix ix_list (pv 3) (pe_op op_sub (pe_callB call_len_seq (by rfl) T.len PySem.boot_len (pa_cons (pv 3) pa_nil)) pe_int) (fun _ _ => rfl)) pa_nil))))))))), ?_⟩
    obtain ⟨ld, xd, nd0, hd0, hld0, hn0, hx0⟩ := id hD
    refine ⟨Nat.zero_le _, fun N0 hN0 => ⟨Nat.zero_le _, fun C0 hC0 => ?_⟩⟩
    have s1 := Same.new hN0 (o := .lst [])
    have s2 := Same.then s1 hC0 (o := .lst [])
    have hC0' : H C0 = none := s1.free hC0
    have nNC : N0 ≠ C0 := ne_of_none (upd_same (H := H) (a := N0) (o := .lst [])) hC0
    have ndN : d ≠ N0 := ne_of_none hd0 hN0
    have ndC : d ≠ C0 := ne_of_none hd0 hC0'
    have nlN : ld ≠ N0 := ne_of_none hld0 hN0
    have nlC : ld ≠ C0 := ne_of_none hld0 hC0'
    have hN2 : upd (upd H N0 (.lst [])) C0 (.lst []) N0 = some (.lst []) := by rw [upd_ne nNC, upd_same]
    have hC2 : upd (upd H N0 (.lst [])) C0 (.lst []) C0 = some (.lst []) := upd_same
    have d2 := hD.same s2
    generalize upd (upd H N0 (.lst [])) C0 (.lst []) = H2 at s2 hN2 hC2 d2
    -- many
    refine ⟨fun σ' H' => Dr H' d ∧ Exd d H2 H' ∧ ∃ m : Int, 1 ≤ m ∧ m ≤ 199 ∧ σ' = [some (.ref d), some (.int most), some (.ref N0), some (.ref C0), some (.int m), none, none], ?_, ?_⟩
    · refine ⟨_, rfl, d, rfl, d2, fun v H3 d3 x3 _ _ => ⟨_, _, rfl, rfl, (by show (0 : Int) < 9; decide), _, _, rfl, rfl, d3, x3, 1 + v % 9, ?_, ?_, rfl⟩⟩
      · have := mod_range (a := v) (md := 9) (by decide); omega
      · have := mod_range (a := v) (md := 9) (by decide); omega
    rintro _ H3 ⟨d3, x3, m, m1, m9, rfl⟩
    refine ⟨fun σ' H' => Dr H' d ∧ Exd d H2 H' ∧ ∃ m : Int, 1 ≤ m ∧ m ≤ 199 ∧ σ' = [some (.ref d), some (.int most), some (.ref N0), some (.ref C0), some (.int m), none, none], ?_, ?_⟩
    · refine ⟨_, rfl, d, rfl, d3, fun v H4 d4 x4 _ _ => ⟨_, _, rfl, rfl, (by show (0 : Int) < 12; decide), rfl, _, rfl, ite2 (fun _ => ?_) (fun _ => ⟨d4, x3.trans x4, m, m1, m9, rfl⟩)⟩⟩
      refine ⟨_, rfl, d, rfl, d4, fun v H5 d5 x5 _ _ => ⟨_, _, rfl, rfl, (by show (0 : Int) < 190; decide), _, _, rfl, rfl, d5, (x3.trans x4).trans x5, 10 + v % 190, ?_, ?_, rfl⟩⟩
      · have := mod_range (a := v) (md := 190) (by decide); omega
      · have := mod_range (a := v) (md := 190) (by decide); omega
    rintro _ H4 ⟨d4, x4, m, m1, m9, rfl⟩
    have hN4 := x4.k _ _ hN2 ndN.symm
    have hC4 := x4.k _ _ hC2 ndC.symm
    -- what does not move: where the draws' numbers stand
    refine ⟨_, rfl, m, rfl, by omega, by omega, for_range (n := m.toNat) (fun i σ H' => Dr H' d ∧ Exd d H H' ∧ (∃ (as : List Addr) (ns : List Nd), H' N0 = some (.lst (as.map V.ref)) ∧ Al (NdAt H') as ns ∧ ns.length = i ∧ SrcOk ns ∧ H' C0 = some (.lst ((costs ns).map V.int)) ∧ (∀ v ∈ costs ns, v ≤ most)) ∧
      ∃ v5 v6, σ = [some (.ref d), some (.int most), some (.ref N0), some (.ref C0), some (.int m), v5, v6]) ⟨d4, (Same.exd s2).trans x4, ⟨[], [], hN4, True.intro, rfl, (fun k n hk => by simp at hk), hC4, (fun v hv => by cases hv)⟩, none, none, rfl⟩ ?_ ?_⟩
    · rintro i σ H5 hi ⟨d5, x5, ⟨as, ns, hN5, hA5, hns, hO5, hC5, hle5⟩, v5, v6, rfl⟩
      refine ⟨_, rfl, _, rfl, _, rfl, d, C0, ns, most, rfl, d5, hC5, hm1, fun r p nd H6 d6 x6 hr6 hp6 hndO hnle => ?_⟩
      have hN6 := x6.k _ _ hN5 ndN.symm
      have hC6 := x6.k _ _ hC5 ndC.symm
      have t6 := d5.ts x6
      obtain ⟨l6, xs6, n6, e1, e2, e3, e4⟩ := id d6
      have hz1 : (as.map V.ref).length < sizeLine := fits (by rw [List.length_map, hA5.length, hns]; omega)
      refine ⟨_, rfl, .inl ⟨rfl, _, SqL.of hN6⟩, _, rfl, r, _, _, _, rfl, rfl, SqL.of hr6, at_of (j := 0) rfl rfl, N0, _, _, rfl, rfl, hN6, hz1, ?_⟩
      have nrN : r ≠ N0 := by
        intro z
        rw [z, hN6] at hr6
        have q := HO.lst.inj (Option.some.inj hr6)
        rcases as with _ | ⟨a1, _ | ⟨a2, ar⟩⟩
        · cases q
        · cases q
        · rw [List.map_cons, List.map_cons] at q
          have q2 := (List.cons.inj (List.cons.inj q).2).1
          cases q2
      have hr7 : upd H6 N0 (.lst (as.map V.ref ++ [.ref p])) r = some (.lst [.ref p, .int (ndCost (costs ns) nd)]) := by rw [upd_ne nrN]; exact hr6
      have hC7 : upd H6 N0 (.lst (as.map V.ref ++ [.ref p])) C0 = some (.lst ((costs ns).map V.int)) := by rw [upd_ne nNC.symm]; exact hC6
      refine ⟨_, rfl, .inl ⟨rfl, _, SqL.of hC7⟩, _, rfl, r, _, _, _, rfl, rfl, SqL.of hr7, at_of (j := 1) rfl rfl, C0, _, _, rfl, rfl, hC7, fits (by rw [List.length_map, costs_length, hns]; omega), ?_⟩
      have t7 : TS H6 (upd H6 N0 (.lst (as.map V.ref ++ [.ref p]))) := TS.lst hN6
      have t8 : TS (upd H6 N0 (.lst (as.map V.ref ++ [.ref p]))) (upd (upd H6 N0 (.lst (as.map V.ref ++ [.ref p]))) C0 (.lst ((costs ns).map V.int ++ [.int (ndCost (costs ns) nd)]))) := TS.lst hC7
      obtain ⟨r1, f1⟩ := (x5.trans x6).hd _ _ hd0
      have el6 : l6 = ld := by
        rw [e1] at f1
        have q := HO.lst.inj (Option.some.inj f1)
        exact V.ref.inj (List.cons.inj q).1
      subst el6
      refine ⟨?_, ?_, ⟨as ++ [p], ns ++ [nd], ?_, Al.app (hA5.mono fun _ _ z => ((z.mono t6).mono t7).mono t8) (Al.one ((hp6.mono t7).mono t8)), ?_, hO5.snoc hndO, ?_, ?_⟩, _, _, rfl⟩
      · exact ⟨l6, xs6, n6, by rw [upd_ne ndC, upd_ne ndN]; exact e1, by rw [upd_ne nlC, upd_ne nlN]; exact e2, e3, e4⟩
      · exact Exd.keep (Exd.keep (x5.trans x6) hN0) hC0'
      · rw [upd_ne nNC, upd_same, List.map_append]; rfl
      · rw [List.length_append, hns]; rfl
      · rw [upd_same, costs_snoc, List.map_append]; rfl
      · intro v hv
        rw [costs_snoc] at hv
        rcases List.mem_append.mp hv with hv | hv
        · exact hle5 v hv
        · rw [show v = ndCost (costs ns) nd by simpa using hv]; exact hnle
    · rintro σ H5 ⟨d5, x5, ⟨as, ns, hN5, hA5, hns, hO5, hC5, hle5⟩, v5, v6, rfl⟩
      have hlen : ns.length = m.toNat := hns
      refine ⟨_, rfl, N0, _, rfl, .inl ⟨SqL.of hN5, fun tp htp => ?_⟩⟩
      have s6 := Same.new htp (o := .tup (as.map V.ref))
      have hC6 := s6 _ _ hC5
      have hj : ns.length - 1 < ns.length := by omega
      have hat : atI ((costs ns).map V.int) ((((costs ns).map V.int).length : Nat) - 1 : Int) = some (.int ((costs ns).getD (ns.length - 1) 0)) := by
        have e : (((((costs ns).map V.int).length : Nat) : Int) - 1) = ((ns.length - 1 : Nat) : Int) := by rw [List.length_map, costs_length]; omega
        rw [e]
        exact at_getD (by rw [costs_length]; exact hj)
      refine ⟨_, rfl, _, rfl, C0, _, rfl, .inl (SqL.of hC6), _, _, rfl, rfl, C0, _, _, _, rfl, rfl, SqL.of hC6, hat, (by show 2 ≤ sizeLine; decide), fun r hr' => ?_⟩
      have s7 := Same.new hr' (o := .lst [.ref tp, .int ((costs ns).getD (ns.length - 1) 0)])
      have hx : Exd d H (upd (upd H5 tp (.tup (as.map V.ref))) r (.lst [.ref tp, .int ((costs ns).getD (ns.length - 1) 0)])) := (x5.trans (Same.exd s6)).trans (Same.exd s7)
      have hr0 : H r = none := by
        cases q : H r with
        | none => rfl
        | some o =>
          by_cases z : r = d
          · obtain ⟨ys, hy⟩ := d5.lst
            rw [z] at hr'
            have := s6 _ _ hy
            rw [this] at hr'
            cases hr'
          · have := s6 _ _ (x5.k _ _ q z)
            rw [this] at hr'
            cases hr'
      refine k r tp ns _ ((d5.same s6).same s7) hx hr0 upd_same ⟨as, s7 _ _ upd_same, hA5.mono fun _ _ z => z.mono (Same.ts (s6.trans s7))⟩ hO5 (by omega) (by omega) ?_
      refine hle5 _ ?_
      rw [List.getD_eq_getElem?_getD, List.getElem?_eq_getElem (by rw [costs_length]; exact hj)]
      exact List.getElem_mem _
end
end Bk

namespace Bk
open PySem PySem.Spec PyProof.Rows L2
/-- an item, in a comprehension's block: the written part named -/
theorem pe_ixK {X : Cx} {K : PySem.W.Frag} {a b : Expr} {ta tb : TE} {pos : Pos} (ha : PE X a ta) (hb : PE X b tb) (hs : PlainIx b) (hK : X.K = K) : PE X (.Subscript a b pos) (tOp (rIxL K) ta tb) := by
  subst hK
  exact pe_ix ix_list ha hb hs
/-- a list of i numbers below md at D -/
def NumsAt (H : Hp) (D : Addr) (md : Int) (i : Nat) : Prop := ∃ xs : List Int, H D = some (.lst (xs.map V.int)) ∧ xs.length = i ∧ ∀ v ∈ xs, 0 ≤ v ∧ v < md
theorem NumsAt.snoc {H : Hp} {D : Addr} {md v : Int} {i : Nat} {xs : List Int} (h2 : xs.length = i) (h3 : ∀ v ∈ xs, 0 ≤ v ∧ v < md) (h0 : 0 ≤ v) (h1 : v < md) : NumsAt (upd H D (.lst (xs.map V.int ++ [.int v]))) D md (i + 1) := by
  refine ⟨xs ++ [v], by rw [upd_same, List.map_append]; rfl, by rw [List.length_append, h2]; rfl, fun u hu => ?_⟩
  rcases List.mem_append.mp hu with hu | hu
  · exact h3 u hu
  · rw [show u = v by simpa using hu]; exact ⟨h0, h1⟩
theorem Dr.keep {H0 H' : Hp} {d G : Addr} {o : HO} (h0 : Dr H0 d) (hG : H0 G = none) (h : Dr H' d) (x : Exd d H0 H') : Dr (upd H' G o) d := by
  obtain ⟨l0, xs0, n0, a1, a2, _⟩ := h0
  obtain ⟨l, xs, n, b1, b2, b3, b4⟩ := h
  obtain ⟨r', e⟩ := x.hd _ _ a1
  rw [b1] at e
  have q := V.ref.inj (List.cons.inj (HO.lst.inj (Option.some.inj e))).1
  subst q
  exact ⟨l, xs, n, by rw [upd_ne (ne_of_none a1 hG)]; exact b1, by rw [upd_ne (ne_of_none a2 hG)]; exact b2, b3, b4⟩
theorem Dr.ne {H : Hp} {d p : Addr} (h : Dr H d) (hp : H p = none) : p ≠ d := let ⟨_, h1⟩ := h.lst; (ne_of_none h1 hp).symm
theorem pick6 {v : Int} : ∃ most : Int, atI [V.int 400, V.int 400, V.int 400, V.int 400, V.int 400, V.int 3000] (v % 6) = some (.int most) ∧ 1 ≤ most ∧ most ≤ 3000 := by
  have hm := mod_range (a := v) (md := 6) (by decide)
  rcases (show v % 6 = 0 ∨ v % 6 = 1 ∨ v % 6 = 2 ∨ v % 6 = 3 ∨ v % 6 = 4 ∨ v % 6 = 5 by omega) with e | e | e | e | e | e <;> rw [e]
  · exact ⟨400, at_of (j := 0) rfl rfl, by decide, by decide⟩
  · exact ⟨400, at_of (j := 1) rfl rfl, by decide, by decide⟩
  · exact ⟨400, at_of (j := 2) rfl rfl, by decide, by decide⟩
  · exact ⟨400, at_of (j := 3) rfl rfl, by decide, by decide⟩
  · exact ⟨400, at_of (j := 4) rfl rfl, by decide, by decide⟩
  · exact ⟨3000, at_of (j := 5) rfl rfl, by decide, by decide⟩
section
variable {P : Program} {w : World} {K : PySem.W.Frag} {mg : Str → Option Value} {base : Heap} {C : Addr}
def spLaw (K : PySem.W.Frag) : Sp := fun vs H Q _ => ∃ (a : Addr) (ns : List Int), vs = [.ref a] ∧ SqL K H a (ns.map V.int) ∧ ns.length ≤ 63 ∧ ∀ H', Q (.bl true) H'
abbrev nLaw : List Str := ["_law_script", "_law_draws", "_law_pair", "_law_source_here", "_law_modulus_here", "_law_program", "_law_k", "_law_given", "_law_memory", "_law_stops", "_law_many", "_law_middle"]
theorem scLaw : FnScope nLaw ["_law_script"] (defScope sLaw) := ⟨rfl, rfl, rfl, by decide +kernel, rfl, by decide +kernel, by decide +kernel⟩
theorem ok_law {f : Addr} {fd : FuncData} (F : Fun K "law" "law" sLaw f fd) (T : Txt K mg) (PC : Pcl K C) (cNumbers : C8.Cal P w K mg base 2 "_law_numbers" (spNumbers K) []) (cDraw : C8.Cal P w K mg base 2 "_law_draw" spDraw []) (cSource : C8.Cal P w K mg base 7 "_law_source" spSource [])
    (cModulus : C8.Cal P w K mg base 4 "_law_modulus" spModulus []) (cCompile : C8.Cal P w K mg base 9 "compile_source" (spCompile C) []) (cNeeds : C8.Cal P w K mg base 1 "_law_needs" spLNeeds []) (cNumber : C8.Cal P w K mg base 4 "_law_number" spNumber []) (cEqual : C8.Cal P w K mg base 3 "_law_equal" spEqList [])
    (mPart : C8.Met P w K mg base 9 C "part" (spPart C) []) (mRun : C8.Met P w K mg base 4 C "run" (spRun C) []) (mBack : C8.Met P w K mg base 10 C "called_back" (spBack C) []) : FnOk P w K mg base CX0 11 f fd ["_law_script"] (spLaw K) := by
  refine F.ok scLaw (fun vs H Q E h => ?_) (fun cdv A outer s H vs Q E hr h => ?_)
  · obtain ⟨a, ns, rfl, _⟩ := h
    rfl
  · obtain ⟨a, ns0, rfl, hS, hlen, k⟩ := h
    refine ⟨_, pss_cons (ps_set (i := 1) scLaw.nd rfl (Or.inr rfl) (pe_lst (pa_cons (C8.pe_c cNumbers hr (by decide) rfl (pa_cons (pv 0) pa_nil)) (pa_cons pe_int pa_nil))))
      (pss_cons (ps_set (i := 2) scLaw.nd rfl (Or.inr rfl) (C8.pe_c cSource hr (by decide) rfl (pa_cons (pv 1) (pa_cons (pe_ix ix_list (pe_lst (pa_cons pe_int (pa_cons pe_int (pa_cons pe_int (pa_cons pe_int (pa_cons pe_int (pa_cons pe_int pa_nil))))))) (pe_op op_mod (C8.pe_c cDraw hr (by decide) rfl (pa_cons (pv 1) pa_nil)) pe_int) (fun _ _ => rfl)) pa_nil))))
      (pss_cons (ps_set (i := 3) scLaw.nd rfl (Or.inl rfl) (pe_ix ix_list (pv 2) pe_int (fun _ _ => rfl)))
      (pss_cons (ps_set (i := 4) scLaw.nd rfl (Or.inr rfl) (C8.pe_c cModulus hr (by decide) rfl (pa_cons (pv 1) pa_nil)))
      (pss_cons (ps_set (i := 5) scLaw.nd rfl (Or.inl rfl) (C8.pe_c cCompile hr (by decide) rfl (pa_cons (pv 3) (pa_cons (pv 4) pa_nil))))
      (pss_cons (ps_setLc (i := 7) (own := [("_law_k", 6)]) (g := gName 6) (tt := tYes) rfl scLaw.nd rfl rfl (sw_true rfl rfl rfl (by decide +kernel)) (pi_range1 rfl T.range (pa_cons (C8.pe_c cNeeds hr (by decide) rfl (pa_cons (pv 3) pa_nil)) pa_nil)) (blkOk_by (N := nLaw) (sc := defScope sLaw) (by decide +kernel))
        (fun _ _ _ _ _ => pg_name (i := 6) scLaw.nd rfl (Or.inl rfl)) (fun _ _ _ _ _ => pts_nil) (fun _ _ _ _ _ => C8.pe_c cNumber hr (by decide) rfl (pa_cons (pv 1) (pa_cons (pv 4) pa_nil))))
      (pss_cons (ps_setLc (i := 8) (own := [("_law_k", 6)]) (g := gName 6) (tt := tYes) rfl scLaw.nd rfl rfl (sw_true rfl rfl rfl (by decide +kernel)) (pi_range1 rfl T.range (pa_cons pe_int pa_nil)) (blkOk_by (N := nLaw) (sc := defScope sLaw) (by decide +kernel))
        (fun _ _ _ _ _ => pg_name (i := 6) scLaw.nd rfl (Or.inl rfl)) (fun _ _ _ _ _ => pts_nil) (fun _ _ _ _ _ => C8.pe_c cNumber hr (by decide) rfl (pa_cons (pv 1) (pa_cons (pv 4) pa_nil))))
      (pss_cons (ps_set (i := 9) scLaw.nd rfl (Or.inl rfl) (pe_op op_cat (pe_lst (pa_cons pe_int (pa_cons (pe_ix ix_list (pv 2) pe_int (fun _ _ => rfl)) pa_nil)))
        (pe_lc (own := [("_law_k", 6)]) (g := gName 6) (tt := tYes) rfl scLaw.nd (pi_range1 rfl T.range (pa_cons pe_int pa_nil)) (blkOk_by (N := nLaw) (sc := defScope sLaw) (by decide +kernel))
          (fun _ _ _ _ _ => pg_name (i := 6) scLaw.nd rfl (Or.inl rfl)) (fun _ _ _ _ _ => pts_nil) (fun _ _ _ _ _ => pe_op op_mod (C8.pe_c cDraw hr (by decide) rfl (pa_cons (pv 1) pa_nil)) (pe_op op_add (pe_ixK (K := K) (pv 2) pe_int (fun _ _ => rfl) rfl) pe_int)))))
      (pss_cons (ps_for PassesOwn.never rfl (pi_list (pv 9)) (pg_name (i := 10) scLaw.nd rfl (.inl rfl))
        (pss_cons (ps_set (i := 11) scLaw.nd rfl (Or.inl rfl) (C8.pe_mt mRun hr (by decide) (C8.pe_mt mPart hr (by decide) (pv 5) (pa_cons (pv 10) pa_nil)) (pa_cons (pe_callTy call_list_of (by rfl) T.list b_list (pa_cons (pv 8) pa_nil)) (pa_cons (pe_callTy call_list_of (by rfl) T.list b_list (pa_cons (pv 7) pa_nil)) pa_nil))))
        (pss_one (ps_if (pt_not (pt_val (C8.pe_c cEqual hr (by decide) rfl (pa_cons (C8.pe_mt mRun hr (by decide) (C8.pe_mt mBack hr (by decide) (pv 5) (pa_cons (pv 10) pa_nil)) (pa_cons (pe_callTy call_list_of (by rfl) T.list b_list (pa_cons (pv 11) pa_nil)) (pa_cons (pe_callTy call_list_of (by rfl) T.list b_list (pa_cons (pv 7) pa_nil)) pa_nil))) (pa_cons (pv 8) pa_nil))))) pss_never pss_nil))))
      (pss_one (ps_ret pe_bl)))))))))), ?_⟩
    -- the draws
    refine ⟨_, rfl, a, ns0, rfl, hS, hlen, fun l0 xs0 H1 hl0 s1 hl1 hx1 => ⟨(by show 2 ≤ sizeLine; decide), fun d hd => ?_⟩⟩
    have D2 : Dr (upd H1 d (.lst [.ref l0, .int 0])) d := ⟨l0, xs0, 0, upd_same, (Same.new hd) _ _ hl1, Int.le_refl _, hx1⟩
    generalize upd H1 d (.lst [.ref l0, .int 0]) = H2 at D2
    -- the source
    refine ⟨_, rfl, (by show 6 ≤ sizeLine; decide), fun m hm => ⟨_, rfl, d, rfl, D2.same (Same.new hm), fun v H4 D4 x4 _ _ => ⟨_, _, rfl, rfl, (by show (0 : Int) < 6; decide), ?_⟩⟩⟩
    obtain ⟨most, hat, mo1, mo3⟩ := pick6 (v := v)
    refine ⟨m, _, _, _, rfl, rfl, SqL.of (x4.k _ _ upd_same (D2.ne hm)), hat, d, most, rfl, D4, mo1, fun r p ns H5 D5 x5 hr0 hr5 hSrc hO z1 z2 hcost => ?_⟩
    have nrd := D4.ne hr0
    generalize hcv : (costs ns).getD (ns.length - 1) 0 = cost at hr5 hcost
    have hc0 : 1 ≤ cost := by rw [← hcv]; exact cost_pos hO _ (by omega)
    refine ⟨_, rfl, r, _, _, _, rfl, rfl, SqL.of hr5, at_of (j := 0) rfl rfl, ?_⟩
    -- the modulus, the program
    refine ⟨_, rfl, d, rfl, D5, fun md H6 D6 x6 m2 m9 => ?_⟩
    have hr6 := x6.k _ _ hr5 nrd
    have hSrc6 := hSrc.mono (D5.ts x6)
    refine ⟨_, rfl, _, rfl, p, ns, md, rfl, hSrc6, hO, z1, z2, m2, m9, by omega, fun pg lg ss H7 s7 hpg hlg hP hPO hss => ?_⟩
    have npd := D6.ne hpg
    have nld := D6.ne hlg
    have D7 := D6.same s7
    have hr7 := s7 _ _ hr6
    have hSrc7 := hSrc6.mono (Same.ts s7)
    have hn0 := needs_nonneg ns
    have hn60 := needs_le hO
    rw [hcv] at hss
    have hm0 : 0 < md := by omega
    -- the inputs
    refine ⟨_, rfl, p, ns, rfl, hSrc7, needs ns, rfl, by omega, by omega, fun G hG => ?_⟩
    have nGd := D7.ne hG
    refine lc_range (lo := 0) (n := (needs ns).toNat) (fun i H' => Dr H' d ∧ Exd d H7 H' ∧ NumsAt H' G md i) ⟨D7.same (Same.new hG), Exd.new hG, [], upd_same, rfl, fun v hv => by cases hv⟩ ?_ ?_
    · rintro i H8 hi ⟨D8, x8, ys, hy, hyl, hyn⟩
      refine ⟨rfl, _, rfl, _, rfl, d, md, rfl, D8, m2, fun v H9 D9 x9 v0 v1 => ⟨_, x9.k _ _ hy nGd, fits (by rw [List.length_map]; omega), ?_, Exd.keep (x8.trans x9) hG, NumsAt.snoc hyl hyn v0 v1⟩⟩
      exact Dr.keep D7 hG D9 (x8.trans x9)
    rintro H8 ⟨D8, x8, giv, hgiv, hgl, hgn⟩
    have hr8 := x8.k _ _ hr7 nrd
    have hP8 := hP.exc (D7.ts x8) x8.k npd nld
    clear x8 hP hr7 hr6 hr5
    -- the memory
    refine ⟨3, rfl, by decide, by decide, fun M hM => ?_⟩
    have nMd := D8.ne hM
    refine lc_range (lo := 0) (n := 3) (fun i H' => Dr H' d ∧ Exd d H8 H' ∧ NumsAt H' M md i) ⟨D8.same (Same.new hM), Exd.new hM, [], upd_same, rfl, fun v hv => by cases hv⟩ ?_ ?_
    · rintro i H9 hi ⟨D9, x9, ys, hy, hyl, hyn⟩
      refine ⟨rfl, _, rfl, _, rfl, d, md, rfl, D9, m2, fun v H10 D10 x10 v0 v1 => ⟨_, x10.k _ _ hy nMd, fits (by rw [List.length_map]; omega), ?_, Exd.keep (x9.trans x10) hM, NumsAt.snoc hyl hyn v0 v1⟩⟩
      exact Dr.keep D8 hM D10 (x9.trans x10)
    rintro H9 ⟨D9, x9, mem, hmem, hml, hmn⟩
    have hr9 := x9.k _ _ hr8 nrd
    have hP9 := hP8.exc (D8.ts x9) x9.k npd nld
    have hgiv9 := x9.k _ _ hgiv nGd
    clear x9 hP8 hr8 hgiv
    -- the stops
    refine ⟨_, rfl, r, _, _, _, rfl, rfl, SqL.of hr9, at_of (j := 1) rfl rfl, (by show 2 ≤ sizeLine; decide), fun S0 hS0 => ?_⟩
    have t1 := Same.new hS0 (o := .lst [.int 0, .int cost])
    have D9' := D9.same t1
    have hr9' := t1 _ _ hr9
    have hP9' := hP9.same t1
    have hgiv9' := t1 _ _ hgiv9
    have hmem9' := t1 _ _ hmem
    have hS0' : upd H9 S0 (.lst [.int 0, .int cost]) S0 = some (.lst [.int 0, .int cost]) := upd_same
    have nSd := D9.ne hS0
    generalize upd H9 S0 (.lst [.int 0, .int cost]) = H10 at D9' hr9' hP9' hgiv9' hmem9' hS0'
    refine ⟨2, rfl, by decide, by decide, fun S hS => ?_⟩
    have nS'd := D9'.ne hS
    refine lc_range (lo := 0) (n := 2) (fun i H' => Dr H' d ∧ Exd d H10 H' ∧ NumsAt H' S (cost + 1) i) ⟨D9'.same (Same.new hS), Exd.new hS, [], upd_same, rfl, fun v hv => by cases hv⟩ ?_ ?_
    · rintro i H11 hi ⟨D11, x11, ys, hy, hyl, hyn⟩
      refine ⟨rfl, _, rfl, d, rfl, D11, fun v H12 D12 x12 v0 v1 => ⟨_, rfl, r, _, _, _, rfl, rfl, SqL.of (x12.k _ _ (x11.k _ _ hr9' nrd) nrd), at_of (j := 1) rfl rfl, _, _, rfl, rfl, _, _, rfl, rfl, (by show (0 : Int) < cost + 1; omega),
        _, x12.k _ _ hy nS'd, fits (by rw [List.length_map]; omega), ?_, Exd.keep (x11.trans x12) hS, NumsAt.snoc hyl hyn (mod_range (by omega)).1 (mod_range (by omega)).2⟩⟩
      exact Dr.keep D9' hS D12 (x11.trans x12)
    rintro H11 ⟨D11, x11, st, hst, hstl, hstn⟩
    have hP11 := hP9'.exc (D9'.ts x11) x11.k npd nld
    have hgiv11 := x11.k _ _ hgiv9' nGd
    have hmem11 := x11.k _ _ hmem9' nMd
    have hS011 := x11.k _ _ hS0' nSd
    refine ⟨S0, S, _, _, rfl, rfl, hS011, hst, ?_, fun T hT => ?_⟩
    · rw [List.length_map, hstl]
      show 2 + 2 ≤ sizeLine
      decide
    have t2 := Same.new hT (o := .lst ([.int 0, .int cost] ++ st.map V.int))
    have hP12 := hP11.same t2
    have hgiv12 := t2 _ _ hgiv11
    have hmem12 := t2 _ _ hmem11
    have hT12 : upd H11 T (.lst ([.int 0, .int cost] ++ st.map V.int)) T = some (.lst (([0, cost] ++ st).map V.int)) := by rw [upd_same, List.map_append]; rfl
    generalize upd H11 T (.lst ([.int 0, .int cost] ++ st.map V.int)) = H12 at t2 hP12 hgiv12 hmem12 hT12
    have hz : ∀ z ∈ [0, cost] ++ st, 0 ≤ z ∧ z ≤ (ss.length : Int) := by
      intro z hz
      rcases List.mem_append.mp hz with hz | hz
      · rcases (show z = 0 ∨ z = cost by simpa using hz) with e | e <;> omega
      · have := hstn z hz
        omega
    have memOk : MemOk md mem := ⟨hml, hmn⟩
    have glen : (giv.length : Int) = needs ns := by omega
    -- the loop
    refine ⟨_, rfl, T, rfl, ⟨_, SqL.of hT12⟩, for_list (K := K) (a := T) (xs := ([0, cost] ++ st).map V.int) (fun i σ H' => Same H12 H' ∧ ∃ v10 v11, σ = [some (.ref a), some (.ref d), some (.ref r), some (.ref p), some (.int md), some (.ref pg), none, some (.ref G), some (.ref M), some (.ref T), v10, v11]) ⟨Same.refl _, none, none, rfl⟩ (fun i σ H' _ q => SqL.of (q.1 _ _ hT12)) ?_ ?_⟩
    · rintro i y σ H13 hi ⟨s13, v10, v11, rfl⟩
      obtain ⟨z, hzi, rfl⟩ := int_get hi
      obtain ⟨z0, z3⟩ := hz z (List.mem_of_getElem? hzi)
      have hP13 := hP12.same s13
      obtain ⟨dx, as, hpi, _, _⟩ := id hP13
      refine ⟨_, rfl, pg, dx, _, rfl, hpi, pf_no (by decide +kernel) (by decide +kernel) (by decide +kernel) (by decide +kernel), _, rfl, pg, lg, ss, md, needs ns, z, rfl, hP13, hPO, z0, z3, fun p2 l2 H14 s14 hP2 => ?_⟩
      obtain ⟨dx2, as2, hp2, _, _⟩ := id hP2
      have s14' := s13.trans s14
      refine ⟨p2, dx2, _, rfl, hp2, pf_no (by decide +kernel) (by decide +kernel) (by decide +kernel) (by decide +kernel), _, rfl, M, _, rfl, .inl (SqL.of (s14' _ _ hmem12)), fun q1 hq1 => ?_⟩
      have u1 := Same.new hq1 (o := .lst (mem.map V.int))
      refine ⟨_, rfl, G, _, rfl, .inl (SqL.of (u1 _ _ (s14' _ _ hgiv12))), fun q2 hq2 => ?_⟩
      have u2 := Same.new hq2 (o := .lst (giv.map V.int))
      have s16 := (s14'.trans u1).trans u2
      refine ⟨p2, l2, q1, q2, ss.take z.toNat, md, needs ns, mem, giv, rfl, hP2.same (u1.trans u2), hPO.take _, u2 _ _ upd_same, upd_same, memOk, glen, hgn, fun r1 H17 hr1 s17 hr1v => ?_⟩
      have s17' := s16.trans s17
      have mid := memOk_run hm0 (giv := giv) (ss.take z.toNat) memOk
      have hP17 := hP12.same s17'
      obtain ⟨dx3, as3, hp3, _, _⟩ := id hP17
      refine ⟨_, rfl, pg, dx3, _, rfl, hp3, pf_no (by decide +kernel) (by decide +kernel) (by decide +kernel) (by decide +kernel), _, rfl, pg, lg, ss, md, needs ns, z, rfl, hP17, hPO, z0, z3, fun p4 l4 H18 s18 hP4 => ?_⟩
      obtain ⟨dx4, as4, hp4, _, _⟩ := id hP4
      have s18' := s17'.trans s18
      refine ⟨p4, dx4, _, rfl, hp4, pf_no (by decide +kernel) (by decide +kernel) (by decide +kernel) (by decide +kernel), _, rfl, r1, _, rfl, .inl (SqL.of (s18 _ _ hr1v)), fun q3 hq3 => ?_⟩
      have u3 := Same.new hq3 (o := .lst ((runL md giv (ss.take z.toNat) mem).map V.int))
      refine ⟨_, rfl, G, _, rfl, .inl (SqL.of (u3 _ _ (s18' _ _ hgiv12))), fun q4 hq4 => ?_⟩
      have u4 := Same.new hq4 (o := .lst (giv.map V.int))
      have s20 := (s18'.trans u3).trans u4
      refine ⟨p4, l4, q3, q4, _, md, needs ns, _, giv, rfl, hP4.same (u3.trans u4), (hPO.take _).back, u4 _ _ upd_same, upd_same, mid, glen, hgn, fun r2 H21 hr2 s21 hr2v => ?_⟩
      rw [run_back hm0 (n := needs ns) _ (hPO.take _).ok memOk] at hr2v
      have s21' := s20.trans s21
      refine ⟨_, rfl, r2, M, mem, rfl, hr2v, s21' _ _ hmem12, by rw [hml]; decide, true, rfl, iteF ⟨s21', _, _, rfl⟩⟩
    · rintro σ H13 ⟨s13, v10, v11, rfl⟩
      exact k _
end
end Bk

namespace Bk
open PySem PySem.Spec PyProof.Rows L2
section
variable {K : PySem.W.Frag} {h : Heap} {mg : Str → Option Value}
theorem df_mk (X : K.In h) (G : h.Ns mainGlobals mg) {x : Str} {st : Stmt} {ps : List Str} {f : Addr} {oc : Value} {od an : Option Addr} {osl : Array (Option Value)} {kV doc pm cdv ct : Value} (a : PySem.W.nsIn K mainGlobals x = some (some (.ref f)))
    (l : K.lookup f = some ⟨oc, od, .func (PySem.W.fnOf x x (defArgs st) (defBody st) (defScope st) .none kV doc pm an cdv ct), osl⟩) (c : PySem.W.codeIn K cdv x = true) (k : PySem.W.keepIn K (.ref f) = true)
    (b : ∀ (kV doc pm : Value) (an : Option Addr) (cdv ct : Value) (us : List Value), us.length = ps.length → bindArgs (PySem.W.fnOf x x (defArgs st) (defBody st) (defScope st) .none kV doc pm an cdv ct) ⟨us, []⟩ = pure (ps.zip us)) : Df K mg x st ps := by
  have F := fun_mk (st := st) l c k
  exact ⟨f, _, F, PySem.W.mg_of X G a, F.binds b⟩
theorem dm_mk {C : Addr} {x qual : Str} {st : Stmt} {ps : List Str} {f : Addr} {oc : Value} {od an : Option Addr} {osl : Array (Option Value)} {kV doc pm cdv ct : Value} (a : PySem.W.findIn K (.ref C) x = some (some (.ref f))) (i : PySem.W.isFn K (.ref f) = true)
    (l : K.lookup f = some ⟨oc, od, .func (PySem.W.fnOf x qual (defArgs st) (defBody st) (defScope st) .none kV doc pm an cdv ct), osl⟩) (c : PySem.W.codeIn K cdv qual = true) (k : PySem.W.keepIn K (.ref f) = true)
    (b : ∀ (kV doc pm : Value) (an : Option Addr) (cdv ct : Value) (us : List Value), us.length = ps.length → bindArgs (PySem.W.fnOf x qual (defArgs st) (defBody st) (defScope st) .none kV doc pm an cdv ct) ⟨us, []⟩ = pure (ps.zip us)) : Dm K C x qual st ps := by
  have F := fun_mk (st := st) l c k
  exact ⟨f, _, F, ⟨a, i, k⟩, F.binds b⟩
theorem init_mk {C : Addr} {f : Addr} {oc : Value} {od an : Option Addr} {osl : Array (Option Value)} {kV doc pm cdv ct : Value} (a : PySem.W.findIn K (.ref C) "__init__" = some (some (.ref f))) (i : PySem.W.isFn K (.ref f) = true)
    (l : K.lookup f = some ⟨oc, od, .func (PySem.W.fnOf "__init__" "Program.__init__" (defArgs sInit) (defBody sInit) (defScope sInit) .none kV doc pm an cdv ct), osl⟩) (c : PySem.W.codeIn K cdv "Program.__init__" = true) (k : PySem.W.keepIn K (.ref f) = true)
    (mk : PySem.W.makesIn K C = true) (kc : PySem.W.keepIn K (.ref C) = true) : ∃ (f : Addr) (fd : FuncData), Fun K "__init__" "Program.__init__" sInit f fd ∧ Mk K C f ∧ Binds K fd ["self", "modulus", "cells", "inputs", "steps"] [] := by
  have F := fun_mk (st := sInit) l c k
  exact ⟨f, _, F, ⟨mk, a, i, kc⟩, F.binds fun _ _ _ _ _ _ us hl => match us, hl with | [_, _, _, _, _], _ => rfl⟩
theorem noattr_mk {C : Addr} {f : Str} (e : PySem.W.findIn K (.ref C) f = some none) : NoAttr K C f := e
theorem int_mk (X : K.In h) (G : h.Ns mainGlobals mg) {x : Str} {i : Int} {t : Tok} (a : PySem.W.nsIn K mainGlobals x = some (some (.int i t))) : ∃ u, mg x = some u ∧ RelV (.int i) u := ⟨_, PySem.W.mg_of X G a, t, rfl⟩
theorem lens_mk {w : World} (X : K.In h) (G : h.Ns mainGlobals mg) {d : Addr} {es : Array DictEntry} {n : Nat} {t1 t2 t3 t4 t5 t6 : Tok} (a : PySem.W.nsIn K mainGlobals "LENGTHS" = some (some (.ref d))) (l : K.lookup d = some ⟨.type "dict", none, .dict es n, #[]⟩) (hk : PySem.W.KeysLit w.params es.toList)
    (low : (d == sysModules) = false) (e1 : PySem.W.nsIn K d "const" = some (some (.int 2 t1))) (e2 : PySem.W.nsIn K d "input" = some (some (.int 2 t2))) (e3 : PySem.W.nsIn K d "sum" = some (some (.int 3 t3))) (e4 : PySem.W.nsIn K d "product" = some (some (.int 3 t4)))
    (e5 : PySem.W.nsIn K d "scaled" = some (some (.int 3 t5))) (e6 : PySem.W.nsIn K d "choose" = some (some (.int 4 t6))) : Lens K w mg := by
  refine ⟨d, es, n, PySem.W.mg_of X G a, ⟨l, hk, low⟩, fun nd => ?_⟩
  cases nd with
  | const c => exact ⟨_, e1, t1, rfl⟩
  | inp k => exact ⟨_, e2, t2, rfl⟩
  | sum i j => exact ⟨_, e3, t3, rfl⟩
  | prod i j => exact ⟨_, e4, t4, rfl⟩
  | scaled c i => exact ⟨_, e5, t5, rfl⟩
  | choose i j l => exact ⟨_, e6, t6, rfl⟩
end
section
variable {P : Program} {w : World} {K : PySem.W.Frag} {mg : Str → Option Value} {C : Addr}
/-- all that the law leans on, from the defs as they stand -/
structure Defs (K : PySem.W.Frag) (w : World) (mg : Str → Option Value) (C : Addr) : Prop where
  txt : Txt K mg
  pcl : Pcl K C
  mgC : mg "Program" = some (.ref C)
  lens : Lens K w mg
  init : ∃ (f : Addr) (fd : FuncData), Fun K "__init__" "Program.__init__" sInit f fd ∧ Mk K C f ∧ Binds K fd ["self", "modulus", "cells", "inputs", "steps"] []
  dis_integer : Df K mg "is_integer" sIsInteger ["value"]
  dis_number : Df K mg "is_number" sIsNumber ["value", "modulus"]
  dis_factor : Df K mg "is_factor" sIsFactor ["factor", "target", "cells", "inputs"]
  dis_add : Df K mg "is_add" sIsAdd ["step", "modulus", "cells", "inputs"]
  dis_step : Df K mg "is_step" sIsStep ["step", "modulus", "cells", "inputs"]
  dinverse_step : Df K mg "inverse_step" sInverseStep ["step", "modulus"]
  dperform : Df K mg "perform" sPerform ["step", "memory", "given", "modulus"]
  dcheck_steps : Df K mg "check_steps" sCheckSteps ["steps", "modulus", "cells", "inputs", "most"]
  dcheck_numbers : Df K mg "check_numbers" sCheckNumbers ["values", "many", "modulus"]
  dis_node : Df K mg "is_node" sIsNode ["node", "at"]
  dcheck_source : Df K mg "check_source" sCheckSource ["source"]
  dneeds : Df K mg "needs" sNeeds ["source"]
  dcost : Df K mg "cost" sCost ["source"]
  dleaf_step : Df K mg "leaf_step" sLeafStep ["node", "task", "modulus"]
  dproduct_tasks : Df K mg "product_tasks" sProductTasks ["first", "second", "task", "modulus"]
  dinner_tasks : Df K mg "inner_tasks" sInnerTasks ["node", "task", "modulus"]
  dcompile_source : Df K mg "compile_source" sCompile ["source", "modulus"]
  d_law_mixed : Df K mg "_law_mixed" sMixed ["_law_number_here", "_law_k"]
  d_law_numbers : Df K mg "_law_numbers" sNumbers ["_law_script"]
  d_law_draw : Df K mg "_law_draw" sDraw ["_law_draws"]
  d_law_equal : Df K mg "_law_equal" sEqual ["_law_actual", "_law_due"]
  d_law_all_equal : Df K mg "_law_all_equal" sAllEqual ["_law_actual", "_law_due"]
  d_law_large : Df K mg "_law_large" sLarge ["_law_draws", "_law_bound"]
  d_law_modulus : Df K mg "_law_modulus" sModulus ["_law_draws"]
  d_law_number : Df K mg "_law_number" sNumber ["_law_draws", "_law_modulus_here"]
  d_law_constant : Df K mg "_law_constant" sConstant ["_law_draws"]
  d_law_leaf : Df K mg "_law_leaf" sLeaf ["_law_draws"]
  d_law_node : Df K mg "_law_node" sNode ["_law_draws", "_law_costs", "_law_most"]
  d_law_source : Df K mg "_law_source" sSource ["_law_draws", "_law_most"]
  d_law_needs : Df K mg "_law_needs" sLNeeds ["_law_source_here"]
  m__neg__ : Dm K C "__neg__" "Program.__neg__" sNeg ["self"]
  mrun : Dm K C "run" "Program.run" sRun ["self", "memory", "given"]
  mpart : Dm K C "part" "Program.part" sPart ["self", "n"]
  mcalled_back : Dm K C "called_back" "Program.called_back" sBack ["self", "n"]
theorem law_of (T : Defs K w mg C) {f : Addr} {fd : FuncData} (F : Fun K "law" "law" sLaw f fd) (base : Heap) : FnOk P w K mg base CX0 11 f fd ["_law_script"] (spLaw K) := by
  have c1 : C8.Cal P w K mg base 1 "is_integer" spIsInteger [] := ok_is_integer T.dis_integer T.txt
  have c2 : C8.Cal P w K mg base 2 "is_number" spIsNumber [] := ok_is_number T.dis_number c1
  have c3 : C8.Cal P w K mg base 3 "is_factor" spIsFactor [] := ok_is_factor T.dis_factor T.txt c2
  have c4 : C8.Cal P w K mg base 4 "is_add" spIsAdd [] := ok_is_add T.dis_add T.txt c2 c3
  have c5 : C8.Cal P w K mg base 5 "is_step" spIsAdd [] := ok_is_step T.dis_step T.txt c4
  have c6 : C8.Cal P w K mg base 1 "inverse_step" spInverse [] := ok_inverse T.dinverse_step
  have c7 : C8.Cal P w K mg base 1 "perform" spPerform [] := ok_perform T.dperform
  have c8 : C8.Cal P w K mg base 6 "check_steps" spCheckSteps [] := ok_check_steps T.dcheck_steps T.txt c5
  have c9 : C8.Cal P w K mg base 3 "check_numbers" spCheckNumbers [] := ok_check_numbers T.dcheck_numbers T.txt c2
  have m1 : C8.Mak P w K mg base 7 "Program" C (spInit C) [] := ok_init T.init T.mgC T.txt T.pcl c1 c8
  have m2 : C8.Met P w K mg base 9 C "__neg__" (spNeg C) [] := ok_neg T.m__neg__ T.pcl c6 m1
  have m3 : C8.Met P w K mg base 4 C "run" (spRun C) [] := ok_run T.mrun T.txt T.pcl c9 c7
  have m4 : C8.Met P w K mg base 9 C "part" (spPart C) [] := ok_part T.mpart T.txt T.pcl c1 m1
  have m5 : C8.Met P w K mg base 10 C "called_back" (spBack C) [] := ok_back T.mcalled_back T.pcl m4 m2
  have c10 : C8.Cal P w K mg base 3 "is_node" spIsNode [] := ok_is_node T.dis_node T.txt T.lens c2
  have c11 : C8.Cal P w K mg base 4 "check_source" spCheckSource [] := ok_check_source T.dcheck_source T.txt c10
  have c12 : C8.Cal P w K mg base 5 "needs" spNeeds [] := ok_needs T.dneeds T.txt c11
  have c13 : C8.Cal P w K mg base 5 "cost" spCost [] := ok_cost T.dcost c11
  have c14 : C8.Cal P w K mg base 1 "leaf_step" spLeafStep [] := ok_leaf_step T.dleaf_step
  have c15 : C8.Cal P w K mg base 1 "product_tasks" spProduct [] := ok_product T.dproduct_tasks T.txt
  have c16 : C8.Cal P w K mg base 2 "inner_tasks" spInner [] := ok_inner T.dinner_tasks c15
  have c17 : C8.Cal P w K mg base 9 "compile_source" (spCompile C) [] := ok_compile T.dcompile_source T.txt T.pcl c13 c12 c14 c16 m1
  have c18 : C8.Cal P w K mg base 1 "_law_mixed" spMixed [] := ok_mixed T.d_law_mixed
  have c19 : C8.Cal P w K mg base 2 "_law_numbers" (spNumbers K) [] := ok_numbers T.d_law_numbers T.txt c18
  have c20 : C8.Cal P w K mg base 2 "_law_draw" spDraw [] := ok_draw T.d_law_draw T.txt c18
  have c21 : C8.Cal P w K mg base 3 "_law_large" spLarge [] := ok_large T.d_law_large c20
  have c22 : C8.Cal P w K mg base 4 "_law_modulus" spModulus [] := ok_modulus T.d_law_modulus c20 c21
  have c23 : C8.Cal P w K mg base 4 "_law_number" spNumber [] := ok_number T.d_law_number c20 c21
  have c24 : C8.Cal P w K mg base 4 "_law_constant" spConstant [] := ok_constant T.d_law_constant c20 c21
  have c25 : C8.Cal P w K mg base 5 "_law_leaf" spLeaf [] := ok_leaf T.d_law_leaf c20 c24
  have c26 : C8.Cal P w K mg base 6 "_law_node" spNode [] := ok_node T.d_law_node T.txt c20 c24 c25
  have c27 : C8.Cal P w K mg base 7 "_law_source" spSource [] := ok_source T.d_law_source T.txt c20 c26
  have c28 : C8.Cal P w K mg base 1 "_law_needs" spLNeeds [] := ok_lneeds T.d_law_needs T.txt
  have c29 : C8.Cal P w K mg base 3 "_law_equal" spEqList [] := ok_eq_list T.d_law_equal T.txt (ok_all_equal T.d_law_all_equal T.txt (ok_eq_int T.d_law_equal T.txt))
  exact ok_law F T.txt T.pcl c19 c20 c27 c22 c17 c28 c23 c29 m4 m3 m5
theorem walk {l : PySem.W.OpenLaw} {q : Program} {loose : List Str} {XP : (Str → Option Value) → Heap → Prop} {YP : World → Heap → Prop} {d : DefRec} {K : Params → PySem.W.Frag} (hn : l.most = some 63) (hdf : d.params.defaults = []) (hY : ∀ (w : World) (h : Heap), YP w h → (K w.params).In h)
    (F : ∀ (w : World) (mg : Str → Option Value) (fa : Addr) (h : Heap), (K w.params).In h → h.Ns mainGlobals mg → mg d.name = some (.ref fa) → ∃ fd : FuncData, (∀ (s : Shared) (u : Value), BindsTo s fd ⟨[u], []⟩ [("_law_script", u)]) ∧
      ∀ base : Heap, (K w.params).In base → base.Ns mainGlobals mg → FnOk l.prog w (K w.params) mg base CX0 11 fa fd ["_law_script"] (spLaw (K w.params))) : PySem.W.WalkO q loose XP YP l.row.toRowW d [] (fun f vs => PySem.call f vs) :=
  L2.walk_of (n := 63) (k := 11) (x := "_law_script") (CX := fun _ => CX0) (sp := fun w => spLaw (K w.params)) hn (by decide) hdf ⟨rfl, by decide, by decide⟩ hY F (fun _ _ a ns hl _ hS => ⟨a, ns, rfl, hS, hl, fun _ => rfl⟩) fun _ _ _ _ _ z => z
theorem law_mk {l : PySem.W.OpenLaw} {w : World} {K : PySem.W.Frag} {h : Heap} {mg : Str → Option Value} {fa C f : Addr} {oc : Value} {od an : Option Addr} {osl : Array (Option Value)} {kV doc pm cdv ct : Value} (X : K.In h) (G : h.Ns mainGlobals mg) (hfa : mg "law" = some (.ref fa)) (T : Defs K w mg C)
    (a : PySem.W.nsIn K mainGlobals "law" = some (some (.ref f))) (lk : K.lookup f = some ⟨oc, od, .func (PySem.W.fnOf "law" "law" (defArgs sLaw) (defBody sLaw) (defScope sLaw) .none kV doc pm an cdv ct), osl⟩) (c : PySem.W.codeIn K cdv "law" = true) (k : PySem.W.keepIn K (.ref f) = true) :
    ∃ fd : FuncData, (∀ (s : Shared) (v : Value), BindsTo s fd ⟨[v], []⟩ [("_law_script", v)]) ∧ ∀ base : Heap, K.In base → base.Ns mainGlobals mg → FnOk l.prog w K mg base CX0 11 fa fd ["_law_script"] (spLaw K) := by
  have e := hfa.symm.trans (PySem.W.mg_of X G a)
  cases e
  exact ⟨PySem.W.fnOf "law" "law" (defArgs sLaw) (defBody sLaw) (defScope sLaw) .none kV doc pm an cdv ct, fun s v => .of_eq rfl, fun base _ _ => law_of T (fun_mk (st := sLaw) lk c k) base⟩
end
end Bk

open PySem PySem.W PyProof.Rows in
set_option maxRecDepth 100000 in
set_option maxHeartbeats 0 in
theorem PySem.Challenge.cw_brimful_k17_whole_programs_are_called_ba_holds : PySem.Challenge.rw_brimful_k17_whole_programs_are_called_ba.Holds := by
  w_on; o_law; k_head; (case hw => w_witness2)
  k_fill
  refine Bk.walk (l := PySem.Challenge.rw_brimful_k17_whole_programs_are_called_ba) rfl rfl (fun w h Y => PySem.W.kIn_of Y) ?F
  case F =>
    intro w mg fa h KX G hmg
    refine' Bk.law_mk KX G hmg ⟨⟨?t1, ?t2, ?t3, ?t4, ?t5, ?t6, ?t7, ?t8, ?t9, ?t10, ?t11, Bk.int_mk KX G ?i1, Bk.int_mk KX G ?i2, Bk.int_mk KX G ?i3, Bk.int_mk KX G ?i4, Bk.int_mk KX G ?i5, Bk.int_mk KX G ?i6, Bk.int_mk KX G ?i7, Bk.int_mk KX G ?i8, Bk.int_mk KX G ?i9⟩,
      ⟨⟨?pg, ?hd, ?po, ?sa⟩, Bk.noattr_mk ?nM, Bk.noattr_mk ?nC, Bk.noattr_mk ?nI, Bk.noattr_mk ?nS⟩, PySem.W.mg_of KX G ?aC, Bk.lens_mk KX G ?la ?ll ?lk ?lo ?l1 ?l2 ?l3 ?l4 ?l5 ?l6, Bk.init_mk ?na ?ni ?nl ?nc ?nk ?nm ?nkc,
      Bk.df_mk KX G ?da0 ?dl0 ?dc0 ?dk0 (fun _ _ _ _ _ _ us hl => match us, hl with | [_], _ => rfl),
      Bk.df_mk KX G ?da1 ?dl1 ?dc1 ?dk1 (fun _ _ _ _ _ _ us hl => match us, hl with | [_, _], _ => rfl),
      Bk.df_mk KX G ?da2 ?dl2 ?dc2 ?dk2 (fun _ _ _ _ _ _ us hl => match us, hl with | [_, _, _, _], _ => rfl),
      Bk.df_mk KX G ?da3 ?dl3 ?dc3 ?dk3 (fun _ _ _ _ _ _ us hl => match us, hl with | [_, _, _, _], _ => rfl),
      Bk.df_mk KX G ?da4 ?dl4 ?dc4 ?dk4 (fun _ _ _ _ _ _ us hl => match us, hl with | [_, _, _, _], _ => rfl),
      Bk.df_mk KX G ?da5 ?dl5 ?dc5 ?dk5 (fun _ _ _ _ _ _ us hl => match us, hl with | [_, _], _ => rfl),
      Bk.df_mk KX G ?da6 ?dl6 ?dc6 ?dk6 (fun _ _ _ _ _ _ us hl => match us, hl with | [_, _, _, _], _ => rfl),
      Bk.df_mk KX G ?da7 ?dl7 ?dc7 ?dk7 (fun _ _ _ _ _ _ us hl => match us, hl with | [_, _, _, _, _], _ => rfl),
      Bk.df_mk KX G ?da8 ?dl8 ?dc8 ?dk8 (fun _ _ _ _ _ _ us hl => match us, hl with | [_, _, _], _ => rfl),
      Bk.df_mk KX G ?da9 ?dl9 ?dc9 ?dk9 (fun _ _ _ _ _ _ us hl => match us, hl with | [_, _], _ => rfl),
      Bk.df_mk KX G ?da10 ?dl10 ?dc10 ?dk10 (fun _ _ _ _ _ _ us hl => match us, hl with | [_], _ => rfl),
      Bk.df_mk KX G ?da11 ?dl11 ?dc11 ?dk11 (fun _ _ _ _ _ _ us hl => match us, hl with | [_], _ => rfl),
      Bk.df_mk KX G ?da12 ?dl12 ?dc12 ?dk12 (fun _ _ _ _ _ _ us hl => match us, hl with | [_], _ => rfl),
      Bk.df_mk KX G ?da13 ?dl13 ?dc13 ?dk13 (fun _ _ _ _ _ _ us hl => match us, hl with | [_, _, _], _ => rfl),
      Bk.df_mk KX G ?da14 ?dl14 ?dc14 ?dk14 (fun _ _ _ _ _ _ us hl => match us, hl with | [_, _, _, _], _ => rfl),
      Bk.df_mk KX G ?da15 ?dl15 ?dc15 ?dk15 (fun _ _ _ _ _ _ us hl => match us, hl with | [_, _, _], _ => rfl),
      Bk.df_mk KX G ?da16 ?dl16 ?dc16 ?dk16 (fun _ _ _ _ _ _ us hl => match us, hl with | [_, _], _ => rfl),
      Bk.df_mk KX G ?da17 ?dl17 ?dc17 ?dk17 (fun _ _ _ _ _ _ us hl => match us, hl with | [_, _], _ => rfl),
      Bk.df_mk KX G ?da18 ?dl18 ?dc18 ?dk18 (fun _ _ _ _ _ _ us hl => match us, hl with | [_], _ => rfl),
      Bk.df_mk KX G ?da19 ?dl19 ?dc19 ?dk19 (fun _ _ _ _ _ _ us hl => match us, hl with | [_], _ => rfl),
      Bk.df_mk KX G ?da20 ?dl20 ?dc20 ?dk20 (fun _ _ _ _ _ _ us hl => match us, hl with | [_, _], _ => rfl),
      Bk.df_mk KX G ?da21 ?dl21 ?dc21 ?dk21 (fun _ _ _ _ _ _ us hl => match us, hl with | [_, _], _ => rfl),
      Bk.df_mk KX G ?da22 ?dl22 ?dc22 ?dk22 (fun _ _ _ _ _ _ us hl => match us, hl with | [_, _], _ => rfl),
      Bk.df_mk KX G ?da23 ?dl23 ?dc23 ?dk23 (fun _ _ _ _ _ _ us hl => match us, hl with | [_], _ => rfl),
      Bk.df_mk KX G ?da24 ?dl24 ?dc24 ?dk24 (fun _ _ _ _ _ _ us hl => match us, hl with | [_, _], _ => rfl),
      Bk.df_mk KX G ?da25 ?dl25 ?dc25 ?dk25 (fun _ _ _ _ _ _ us hl => match us, hl with | [_], _ => rfl),
      Bk.df_mk KX G ?da26 ?dl26 ?dc26 ?dk26 (fun _ _ _ _ _ _ us hl => match us, hl with | [_], _ => rfl),
      Bk.df_mk KX G ?da27 ?dl27 ?dc27 ?dk27 (fun _ _ _ _ _ _ us hl => match us, hl with | [_, _, _], _ => rfl),
      Bk.df_mk KX G ?da28 ?dl28 ?dc28 ?dk28 (fun _ _ _ _ _ _ us hl => match us, hl with | [_, _], _ => rfl),
      Bk.df_mk KX G ?da29 ?dl29 ?dc29 ?dk29 (fun _ _ _ _ _ _ us hl => match us, hl with | [_], _ => rfl),
      Bk.dm_mk ?ma0 ?mi0 ?ml0 ?mc0 ?mk0 (fun _ _ _ _ _ _ us hl => match us, hl with | [_], _ => rfl),
      Bk.dm_mk ?ma1 ?mi1 ?ml1 ?mc1 ?mk1 (fun _ _ _ _ _ _ us hl => match us, hl with | [_, _, _], _ => rfl),
      Bk.dm_mk ?ma2 ?mi2 ?ml2 ?mc2 ?mk2 (fun _ _ _ _ _ _ us hl => match us, hl with | [_, _], _ => rfl),
      Bk.dm_mk ?ma3 ?mi3 ?ml3 ?mc3 ?mk3 (fun _ _ _ _ _ _ us hl => match us, hl with | [_, _], _ => rfl)⟩ ?fa ?fl ?fc ?fk
    (case t1 => exact PySem.W.mg_none_of KX G (by k_is))
    (case t2 => exact PySem.W.mg_none_of KX G (by k_is))
    (case t3 => exact PySem.W.mg_none_of KX G (by k_is))
    (case t4 => exact PySem.W.mg_none_of KX G (by k_is))
    (case t5 => exact PySem.W.mg_none_of KX G (by k_is))
    (case t6 => exact PySem.W.mg_none_of KX G (by k_is))
    (case t7 => exact PySem.W.mg_none_of KX G (by k_is))
    (case t8 => exact PySem.W.mg_none_of KX G (by k_is))
    (case t9 => exact PySem.W.mg_none_of KX G (by k_is))
    (case t10 => exact PySem.W.mg_none_of KX G (by k_is))
    (case t11 => exact PySem.W.mg_none_of KX G (by k_is))
    (case aC => k_is)
    (case i1 => k_is)
    (case i2 => k_is)
    (case i3 => k_is)
    (case i4 => k_is)
    (case i5 => k_is)
    (case i6 => k_is)
    (case i7 => k_is)
    (case i8 => k_is)
    (case i9 => k_is)
    (case pg => k_is)
    (case hd => k_is)
    (case po => k_is)
    (case sa => k_is)
    (case nM => k_is)
    (case nC => k_is)
    (case nI => k_is)
    (case nS => k_is)
    (case la => k_is)
    (case ll => k_is)
    (case lk => exact ⟨⟨_, _, rfl, rfl⟩, ⟨_, _, rfl, rfl⟩, ⟨_, _, rfl, rfl⟩, ⟨_, _, rfl, rfl⟩, ⟨_, _, rfl, rfl⟩, ⟨_, _, rfl, rfl⟩, True.intro⟩)
    (case lo => rfl)
    (case l1 => k_is)
    (case l2 => k_is)
    (case l3 => k_is)
    (case l4 => k_is)
    (case l5 => k_is)
    (case l6 => k_is)
    (case na => k_is)
    (case ni => k_is)
    (case nl => k_is)
    (case nc => k_is)
    (case nk => k_is)
    (case nm => k_is)
    (case nkc => k_is)
    (case da0 => k_is)
    (case dl0 => k_is)
    (case dc0 => k_is)
    (case dk0 => k_is)
    (case da1 => k_is)
    (case dl1 => k_is)
    (case dc1 => k_is)
    (case dk1 => k_is)
    (case da2 => k_is)
    (case dl2 => k_is)
    (case dc2 => k_is)
    (case dk2 => k_is)
    (case da3 => k_is)
    (case dl3 => k_is)
    (case dc3 => k_is)
    (case dk3 => k_is)
    (case da4 => k_is)
    (case dl4 => k_is)
    (case dc4 => k_is)
    (case dk4 => k_is)
    (case da5 => k_is)
    (case dl5 => k_is)
    (case dc5 => k_is)
    (case dk5 => k_is)
    (case da6 => k_is)
    (case dl6 => k_is)
    (case dc6 => k_is)
    (case dk6 => k_is)
    (case da7 => k_is)
    (case dl7 => k_is)
    (case dc7 => k_is)
    (case dk7 => k_is)
    (case da8 => k_is)
    (case dl8 => k_is)
    (case dc8 => k_is)
    (case dk8 => k_is)
    (case da9 => k_is)
    (case dl9 => k_is)
    (case dc9 => k_is)
    (case dk9 => k_is)
    (case da10 => k_is)
    (case dl10 => k_is)
    (case dc10 => k_is)
    (case dk10 => k_is)
    (case da11 => k_is)
    (case dl11 => k_is)
    (case dc11 => k_is)
    (case dk11 => k_is)
    (case da12 => k_is)
    (case dl12 => k_is)
    (case dc12 => k_is)
    (case dk12 => k_is)
    (case da13 => k_is)
    (case dl13 => k_is)
    (case dc13 => k_is)
    (case dk13 => k_is)
    (case da14 => k_is)
    (case dl14 => k_is)
    (case dc14 => k_is)
    (case dk14 => k_is)
    (case da15 => k_is)
    (case dl15 => k_is)
    (case dc15 => k_is)
    (case dk15 => k_is)
    (case da16 => k_is)
    (case dl16 => k_is)
    (case dc16 => k_is)
    (case dk16 => k_is)
    (case da17 => k_is)
    (case dl17 => k_is)
    (case dc17 => k_is)
    (case dk17 => k_is)
    (case da18 => k_is)
    (case dl18 => k_is)
    (case dc18 => k_is)
    (case dk18 => k_is)
    (case da19 => k_is)
    (case dl19 => k_is)
    (case dc19 => k_is)
    (case dk19 => k_is)
    (case da20 => k_is)
    (case dl20 => k_is)
    (case dc20 => k_is)
    (case dk20 => k_is)
    (case da21 => k_is)
    (case dl21 => k_is)
    (case dc21 => k_is)
    (case dk21 => k_is)
    (case da22 => k_is)
    (case dl22 => k_is)
    (case dc22 => k_is)
    (case dk22 => k_is)
    (case da23 => k_is)
    (case dl23 => k_is)
    (case dc23 => k_is)
    (case dk23 => k_is)
    (case da24 => k_is)
    (case dl24 => k_is)
    (case dc24 => k_is)
    (case dk24 => k_is)
    (case da25 => k_is)
    (case dl25 => k_is)
    (case dc25 => k_is)
    (case dk25 => k_is)
    (case da26 => k_is)
    (case dl26 => k_is)
    (case dc26 => k_is)
    (case dk26 => k_is)
    (case da27 => k_is)
    (case dl27 => k_is)
    (case dc27 => k_is)
    (case dk27 => k_is)
    (case da28 => k_is)
    (case dl28 => k_is)
    (case dc28 => k_is)
    (case dk28 => k_is)
    (case da29 => k_is)
    (case dl29 => k_is)
    (case dc29 => k_is)
    (case dk29 => k_is)
    (case ma0 => k_is)
    (case mi0 => k_is)
    (case ml0 => k_is)
    (case mc0 => k_is)
    (case mk0 => k_is)
    (case ma1 => k_is)
    (case mi1 => k_is)
    (case ml1 => k_is)
    (case mc1 => k_is)
    (case mk1 => k_is)
    (case ma2 => k_is)
    (case mi2 => k_is)
    (case ml2 => k_is)
    (case mc2 => k_is)
    (case mk2 => k_is)
    (case ma3 => k_is)
    (case mi3 => k_is)
    (case ml3 => k_is)
    (case mc3 => k_is)
    (case mk3 => k_is)
    (case fa => k_is)
    (case fl => k_is)
    (case fc => k_is)
    (case fk => k_is)
#print axioms PySem.Challenge.cw_brimful_k17_whole_programs_are_called_ba_holds
