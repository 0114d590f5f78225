/- The machine of values: each operation does to a world what it says. -/
import Derived.Test.YtpinehfjimphmaaDISim
import Derived.Laws.CopyRow
import Derived.Deep.MidRow
import Derived.Maps.AppendAt
import Derived.Deep.AppendSrc
import Derived.Laws.OwnMore
import Derived.Laws.StructEq
import Derived.WalkKit
namespace Go.Proofs.Ytpinehfjimphmaa.DI
open Go Go.RowKit
set_option linter.unusedVariables false
set_option linter.unusedSimpArgs false
/-- What the table of types tells is so. -/
structure TIok (P : Program) (t : Nat) (ti : TI) : Prop where
  info : ∃ i z, P.info? t = some i ∧ i.size = ti.sz ∧ i.bytes = ti.bytes ∧ i.zero = some z ∧ z.cells.toList.map AV.ofV = ti.z ∧ (if ti.agg then z = .agg z.cells else z.cells = #[z])
  und : match ti.k with
    | .num k => P.underlying t = some (.int k)
    | .bool => P.underlying t = some .bool
    | .str => P.underlying t = some .string
    | .sl e => P.underlying t = some (.slice e)
    | .st fs => ∃ F, P.underlying t = some (.struct F) ∧ ((∀ f ∈ F.toList, (∃ j, P.info? f.type = some j) ∧ (f.name == "_") = false) ∧ F.size = fs.length ∧ P.stoodInHeld t = false ∧ P.eqGuardType P.depth t = false) ∧ ∀ (i : Nat) (p : Nat × Nat), fs[i]? = some p → ∃ f : Field, F[i]? = some f ∧ f.offset = p.1 ∧ f.type = p.2 ∧ ∃ j, P.info? f.type = some j ∧ j.size ≠ 0
    | .arr e k n => P.underlying t = some (.array n e) ∧ (∃ j, P.info? e = some j ∧ j.size = 1) ∧ ti.sz = n ∧ ti.z = List.replicate n (.int k 0)
    | .other => ∃ d, P.underlying t = some d ∧ d.isRow = false
  ty : ti.ty.size = ti.sz
  zl : ti.z.length = ti.sz
  pos : 0 < ti.sz
  bpos : 0 < ti.bytes
def TTok (P : Program) (tt : Nat → Option TI) : Prop := ∀ t ti, tt t = some ti → TIok P t ti
theorem RepAV.one {ι : Nat → In} {ob : Ob} {x : AV} {v : Value} (hx : x.ok = true) (h : RepAV ι ob x v) : v.oneCell' = true := by
  cases x with
  | undef => cases hx
  | int k n => simp only [RepAV] at h; subst h; rfl
  | bool b => simp only [RepAV] at h; subst h; rfl
  | str b => simp only [RepAV] at h; subst h; rfl
  | nils => simp only [RepAV] at h; subst h; rfl
  | whole r => exact h.1
  | cut r a b => exact h.1
  | bptr r a => exact h.1
  | eptr r a b => exact h.1
  | fn f c => obtain ⟨vs, rfl, _⟩ := h; rfl
theorem All2.one {ι : Nat → In} {ob : Ob} : ∀ {l : List AV} {cs : List Value}, l.all AV.ok = true → All2 (RepAV ι ob) l cs → ∀ v ∈ cs, v.oneCell' = true
  | [], [], _, _ => by simp
  | x :: r, c :: q, h, k => by
    simp only [List.all_cons, Bool.and_eq_true] at h
    intro v hv
    rcases List.mem_cons.1 hv with rfl | hv
    · exact RepAV.one h.1 k.1
    · exact All2.one h.2 k.2 v hv
  | [], _ :: _, _, h => h.elim
  | _ :: _, [], _, h => h.elim
theorem cells_one {v : Value} (h : v.oneCell' = true) : v.cells = #[v] := by cases v <;> first | rfl | cases h
theorem RepDV.cells {ι : Nat → In} {ob : Ob} {d : DV} {v : Value} {c : List AV} (h : RepDV ι ob d v) (hc : d.cells = some c) : ∃ cs, v.cells = List.toArray cs ∧ All2 (RepAV ι ob) c cs := by
  cases d with
  | tup l => cases hc
  | agg l => cases hc; obtain ⟨cs, rfl, h⟩ := h; exact ⟨cs, rfl, h⟩
  | «at» x =>
    have hx : x.ok = true := by cases x <;> first | rfl | cases hc
    have hc' : c = [x] := by cases x <;> first | (cases hx; done) | (simp only [DV.cells, Option.some.injEq] at hc; exact hc.symm)
    subst hc'
    exact ⟨[v], cells_one (RepAV.one hx h), h, trivial⟩
theorem RepAV.ofV (ι : Nat → In) (ob : Ob) (v : Value) : RepAV ι ob (AV.ofV v) v := by
  unfold AV.ofV
  split <;> simp [RepAV]
theorem All2.ofV (ι : Nat → In) (ob : Ob) : ∀ l : List Value, All2 (RepAV ι ob) (l.map AV.ofV) l
  | [] => trivial
  | v :: r => ⟨RepAV.ofV ι ob v, All2.ofV ι ob r⟩
theorem RepDV.ofV (ι : Nat → In) (ob : Ob) (v : Value) : RepDV ι ob (DV.ofV v) v := by
  unfold DV.ofV
  split
  · rename_i cs; exact ⟨cs.toList, by simp, All2.ofV ι ob _⟩
  · exact RepAV.ofV ι ob v
def TS (ι : Nat → In) (s : DS) (a : Act) : Prop := ∀ i, RepDV ι s.ob (s.tm i) (a.tmps.getD i undef)
theorem RepDV.ev {ι : Nat → In} {s : DS} {a : Act} (h : TS ι s a) (x : Operand) : RepDV ι s.ob (ev s x) (a.eval x) := by
  cases x with
  | tmp t => exact h t
  | const v => exact RepDV.ofV ι s.ob v
  | func f => exact ⟨[], rfl, trivial⟩
  | global g => trivial
/-- What an operation may leave. -/
def Post (w0 : World) (X M : Nat → Prop) (ι : Nat → In) (s : DS) (d : Dl) (v : Value) (w' : World) : Prop :=
  ∃ ι', HS w0 X M ι' (updL s.ob d.w) w' ∧ Keeps ι ι' s.ob (updL s.ob d.w) ∧ RepDV ι' (updL s.ob d.w) d.v v
/-- The operation o, carried out in a and w, leaves what R says. -/
def Does (P : Program) (op : Op) (ty : TypeId) (ρ : Operand → Value) (w : World) (R : Value → World → Prop) : Prop :=
  ∀ (dst : Option Tmp) (pos : String) (after : Array Edge) (g : Option (Nat × Bool)), (∃ v w', (execOp ρ ⟨dst, op, ty, pos, after, g⟩).run P w = .ok (.value v) w' ∧ R v w') ∨
    (∃ w', (execOp ρ ⟨dst, op, ty, pos, after, g⟩).run P w = .ok .skip w' ∧ R undef w') ∨
    (∃ f args, (execOp ρ ⟨dst, op, ty, pos, after, g⟩).run P w = .ok (.enter f args) w ∧ Calls P f args w fun e w' => ∃ v, e = .returned v ∧ R v w')
theorem Does.wp {P : Program} {o : Oper} {a : Act} {w : World} {R : Value → World → Prop} (h : Does P o.op o.type a.eval w R) {next : Act → World → Prop} {Q : Exit → Act → World → Prop} (hn : ∀ v w', R v w' → next (a.put o.dst v) w') : o.wp P a w next Q := by
  unfold Oper.wp
  rcases h o.dst o.pos o.after o.guard with ⟨v, w', h1, h2⟩ | ⟨w', h1, h2⟩ | ⟨f, args, h1, h2⟩
  · rw [show (⟨o.dst, o.op, o.type, o.pos, o.after, o.guard⟩ : Oper) = o from rfl] at h1
    rw [h1]; exact hn v w' h2
  · rw [show (⟨o.dst, o.op, o.type, o.pos, o.after, o.guard⟩ : Oper) = o from rfl] at h1
    rw [h1]; exact hn _ w' h2
  · rw [show (⟨o.dst, o.op, o.type, o.pos, o.after, o.guard⟩ : Oper) = o from rfl] at h1
    rw [h1, Oper.upon_enter]
    refine Calls.mono h2 fun e w' ⟨v, he, hr⟩ => ?_
    subst he
    exact hn v w' hr
section
variable {P : Program} {w0 : World} {X M : Nat → Prop} {ι : Nat → In} {s : DS} {a : Act} {w : World}
/-- An operation that leaves the world alone. -/
theorem Post.same (hs : HS w0 X M ι s.ob w) {d : DV} {v : Value} (h : RepDV ι s.ob d v) (tc : List Nat) : Post w0 X M ι s ⟨d, [], tc⟩ v w := ⟨ι, hs, Keeps.refl ι s.ob, h⟩
theorem Does.value {op : Op} {ty : TypeId} {ρ : Operand → Value} {R : Value → World → Prop} {v : Value} {w' : World} (h : ∀ dst pos after g, (execOp ρ ⟨dst, op, ty, pos, after, g⟩).run P w = .ok (.value v) w') (hr : R v w') : Does P op ty ρ w R :=
  fun dst pos after g => .inl ⟨v, w', h dst pos after g, hr⟩
theorem Does.skip {op : Op} {ty : TypeId} {ρ : Operand → Value} {R : Value → World → Prop} {w' : World} (h : ∀ dst pos after g, (execOp ρ ⟨dst, op, ty, pos, after, g⟩).run P w = .ok .skip w') (hr : R undef w') : Does P op ty ρ w R :=
  fun dst pos after g => .inr (.inl ⟨w', h dst pos after g, hr⟩)
theorem op_move (hs : HS w0 X M ι s.ob w) (ht : TS ι s a) (x : Operand) (ty : TypeId) : Does P (.move x) ty a.eval w (Post w0 X M ι s ⟨ev s x, [], []⟩) :=
  Does.value (v := a.eval x) (fun _ _ _ _ => rfl) (Post.same hs (RepDV.ev ht x) [])
theorem op_assign (hs : HS w0 X M ι s.ob w) (ht : TS ι s a) (x : Operand) (ty : TypeId) : Does P (.assign x) ty a.eval w (Post w0 X M ι s ⟨ev s x, [], []⟩) :=
  Does.value (v := a.eval x) (fun _ _ _ _ => rfl) (Post.same hs (RepDV.ev ht x) [])
theorem ev_at {x : Operand} {y : AV} (ht : TS ι s a) (h : ev s x = .at y) : RepAV ι s.ob y (a.eval x) := by have := RepDV.ev ht x; rw [h] at this; exact this
theorem op_pick (hs : HS w0 X M ι s.ob w) (ht : TS ι s a) (c x y : Operand) (b : Bool) (hc : ev s c = .at (.bool b)) (ty : TypeId) : Does P (.pick c x y) ty a.eval w (Post w0 X M ι s ⟨bif b then ev s x else ev s y, [], []⟩) := by
  have h1 : a.eval c = .bool b := ev_at ht hc
  refine Does.value (v := if b then a.eval x else a.eval y) (fun _ _ _ _ => ?_) (Post.same hs ?_ [])
  · simp only [execOp, h1, asBool, Sem.run_bind, Sem.run_pure, Result.andThen_ok]
  · cases b
    · exact RepDV.ev ht y
    · exact RepDV.ev ht x
theorem run_zero {t : Nat} {ti : TI} (h : TIok P t ti) : ∃ z, (∀ w, (zeroValue t).run P w = .ok z w) ∧ z.cells.toList.map AV.ofV = ti.z ∧ z.cells.size = ti.z.length ∧ (if ti.agg then z = .agg z.cells else z.cells = #[z]) := by
  obtain ⟨i, z, h1, h2, h3, h4, h5, h6⟩ := h.info
  refine ⟨z, fun w => by simp [zeroValue, typeInfo, h1, h4], h5, by rw [← h5]; simp, h6⟩
theorem op_alloc (hs : HS w0 X M ι s.ob w) (t : Nat) (ti : TI) (hti : TIok P t ti) (id : Nat) (hid : s.ob id = none) (ty : TypeId) :
    Does P (.alloc t) ty a.eval w (Post w0 X M ι s ⟨.at (.bptr id 0), [(id, .box t ti.z)], [id]⟩) := by
  obtain ⟨z, hz, hz1, hz2, hz3⟩ := run_zero hti
  refine Does.value (v := .pointer (some ⟨w.heap.size, 0, none⟩)) (w' := w.alloc (.cells z.cells t)) (fun _ _ _ _ => ?_) ?_
  · simp only [execOp, Instr.alloc, newVar, newRow, Sem.run_bind, Sem.run_pure, Result.andThen_ok, hz, run_newObj]; rfl
  · have h := hs.newBlk id (.box t ti.z) 0 (.cells z.cells t) hid trivial (fun N ι' ob' w' hk hN hi hb => ⟨w.heap.size, z.cells.toList, by rw [hi], by simpa using hb, by rw [← hz1]; exact All2.ofV _ _ _⟩)
    exact ⟨_, h, Keeps.new id _ _ hid, rfl, _, upd_same _ _ _, fun t' c' e => ⟨w.heap.size, by rw [upd_same], rfl⟩⟩
theorem op_box (hs : HS w0 X M ι s.ob w) (ht : TS ι s a) (t : Nat) (x : Operand) (c : List AV) (hc : (ev s x).cells = some c) (id : Nat) (hid : s.ob id = none) (ty : TypeId) :
    Does P (.box t x) ty a.eval w (Post w0 X M ι s ⟨.at (.bptr id 0), [(id, .box t c)], [id]⟩) := by
  obtain ⟨cs, h1, h2⟩ := RepDV.cells (RepDV.ev ht x) hc
  refine Does.value (v := .pointer (some ⟨w.heap.size, 0, none⟩)) (w' := w.alloc (.cells (a.eval x).cells t)) (fun _ _ _ _ => ?_) ?_
  · simp only [execOp, Instr.box, newVar, newRow, Sem.run_bind, Sem.run_pure, Result.andThen_ok, run_newObj]; rfl
  · have h := hs.newBlk id (.box t c) 0 (.cells (a.eval x).cells t) hid trivial (fun N ι' ob' w' hk hN hi hb => ⟨w.heap.size, cs, by rw [hi], by rw [← h1]; exact hb, All2.mono (fun _ _ _ h => RepAV.mono hk h) h2⟩)
    exact ⟨_, h, Keeps.new id _ _ hid, rfl, _, upd_same _ _ _, fun t' c' e => ⟨w.heap.size, by rw [upd_same], rfl⟩⟩
theorem run_sizeOf {t : Nat} {ti : TI} (h : TIok P t ti) (w : World) : (sizeOf t).run P w = .ok ti.sz w := by
  obtain ⟨i, z, h1, h2, _⟩ := h.info
  simp [sizeOf, typeInfo, h1, h2]
theorem run_isAgg {t : Nat} {ti : TI} (h : TIok P t ti) (w : World) : (isAgg t).run P w = .ok ti.agg w := by
  have hu := h.und
  unfold TI.agg
  split at hu <;> rename_i hk <;> rw [hk]
  · simp [isAgg, run_underlying hu]
  · simp [isAgg, run_underlying hu]
  · simp [isAgg, run_underlying hu]
  · simp [isAgg, run_underlying hu]
  · obtain ⟨F, hu, _, _⟩ := hu; simp [isAgg, run_underlying hu]
  · obtain ⟨hu, _⟩ := hu; simp [isAgg, run_underlying hu]
  · obtain ⟨d, hu, hd⟩ := hu; cases d <;> simp_all [isAgg, run_underlying hu, TypeDesc.isRow]
/-- A load of cells that lie in a row one behind the other. -/
theorem run_loadVar' {t : Nat} {ti : TI} (h : TIok P t ti) (ad : Addr) (cs : List Value) (hl : cs.length = ti.sz) (hc : ∀ j u, cs[j]? = some u → w.cell? (ad.add j) = some u) :
    (loadVar t ad).run P w = .ok (if ti.agg then .agg cs.toArray else cs.headD undef) w := by
  unfold loadVar
  rw [Sem.run_bind, run_isAgg h w]
  simp only [Result.andThen_ok]
  cases hg : ti.agg
  · simp only [Bool.false_eq_true, if_false]
    have h1 : cs.length = 1 := by
      obtain ⟨i, z, _, h2, _, _, h5, h6⟩ := h.info
      rw [hg] at h6
      simp only [Bool.false_eq_true, if_false] at h6
      rw [hl, ← h.zl, ← h5, h6]; rfl
    match cs, h1 with
    | [v], _ =>
      have := hc 0 v rfl
      rw [show ad.add 0 = ad from by simp [Addr.add]] at this
      simp [this]
  · simp only [if_true]
    simp [Sem.run_bind, run_sizeOf h, ← hl, run_loadCells_list (P := P) w ad cs hc]

theorem All2.sub {ι : Nat → In} {ob : Ob} {l : List AV} {cs : List Value} (off n : Nat) (h : All2 (RepAV ι ob) l cs) : All2 (RepAV ι ob) (subL l off n) (subL cs off n) := All2.take n (All2.drop off h)
/-- The value of a load, of cells that are told. -/
theorem rep_load {ti : TI} {ι : Nat → In} {ob : Ob} {p : List AV} {cs : List Value} (h : All2 (RepAV ι ob) p cs) (hl : p.length = ti.sz) {d : DV} (hd : (ti.agg = true ∧ d = .agg p) ∨ (ti.agg = false ∧ ∃ x, p = [x] ∧ d = .at x)) :
    RepDV ι ob d (if ti.agg then .agg cs.toArray else cs.headD undef) := by
  rcases hd with ⟨h1, rfl⟩ | ⟨h1, x, rfl, rfl⟩
  · rw [if_pos h1]; exact ⟨cs, rfl, h⟩
  · rw [h1]
    match cs, h with
    | [v], h => exact h.1
theorem bptr_of {b off : Nat} {v : Value} (hs : HS w0 X M ι s.ob w) (h : RepAV ι s.ob (.bptr b off) v) {t : Nat} {c : List AV} (hb : s.ob b = some (.box t c)) :
    ∃ g cs, (ι b).a = some ⟨g, 0, none⟩ ∧ v = .pointer (some ⟨g, off, none⟩) ∧ w.heap[g]? = some (.cells (List.toArray cs) t (0, 0)) ∧ All2 (RepAV ι s.ob) c cs := by
  obtain ⟨_, o, ho, h⟩ := h
  rw [hb] at ho
  cases ho
  obtain ⟨g, h1, h2⟩ := h t c rfl
  obtain ⟨g', cs, k1, k2, k3⟩ := hs.obs b _ hb
  rw [h1] at k1
  cases k1
  exact ⟨g, cs, h1, h2, k2, k3⟩
theorem op_load_box (hs : HS w0 X M ι s.ob w) (ht : TS ι s a) (t : Nat) (ti : TI) (hti : TIok P t ti) (x : Operand) (b off : Nat) (hx : ev s x = .at (.bptr b off)) (bt : Nat) (c : List AV) (hb : s.ob b = some (.box bt c))
    (hl : (subL c off ti.sz).length = ti.sz) (d : DV) (hd : (ti.agg = true ∧ d = .agg (subL c off ti.sz)) ∨ (ti.agg = false ∧ ∃ x, subL c off ti.sz = [x] ∧ d = .at x)) (tc : List Nat) (ty : TypeId) :
    Does P (.load t x) ty a.eval w (Post w0 X M ι s ⟨d, [], tc⟩) := by
  obtain ⟨g, cs, h1, h2, h3, h4⟩ := bptr_of hs (ev_at ht hx) hb
  have h5 := All2.sub off ti.sz h4
  have hr := run_loadVar' (P := P) (w := w) hti ⟨g, off, none⟩ (subL cs off ti.sz) (by rw [← All2.len h5, hl]) (fun j u hj => by
    rw [Addr.add_mid, cell_of_row w g (off + j) _ bt (0, 0) h3]
    simp only [subL, List.getElem?_take, List.getElem?_drop] at hj
    split at hj
    · simpa using hj
    · cases hj)
  refine Does.value (fun _ _ _ _ => ?_) (Post.same hs (rep_load h5 hl hd) tc)
  · simp only [execOp, h2, Instr.loadAt, Instr.sureAddr, Sem.run_bind, Sem.run_pure, Result.andThen_ok, hr]
theorem op_nilCheck (hs : HS w0 X M ι s.ob w) (ht : TS ι s a) (x : Operand) (y : AV) (hx : ev s x = .at y) (A : Addr) (hv : a.eval x = .pointer (some A)) (tc : List Nat) (ty : TypeId) : Does P (.nilCheck x) ty a.eval w (Post w0 X M ι s ⟨.at y, [], tc⟩) :=
  Does.value (v := a.eval x) (w' := w) (fun _ _ _ _ => by simp only [execOp, hv]; rfl) (Post.same hs (d := .at y) (ev_at ht hx) tc)
/-- The cells of an element: what is told of a slot's value, for the rows in it as rows read alone. -/
theorem Ro.of_cell {N : Nat → Prop} {e : Nat} {t : Ty} {l : List t.den} {cs : List Value} (h : RepC w N (.sl e t) l cs) : ∃ A c, cs = [.slice A l.length c] ∧ Ro w N t l A c := by
  simp only [RepC] at h
  obtain ⟨A, c, h1, h2, h3⟩ := h
  exact ⟨A, c, h1, h2, h3⟩
def freshL (ob : Ob) : List (Nat × Obj) → Prop
  | [] => True
  | p :: r => ob p.1 = none ∧ freshL (upd ob p.1 (some p.2)) r
theorem Keeps.news {ι ι' : Nat → In} {ob : Ob} : True := trivial
theorem toAVs_len : ∀ (id : Nat) (cs : List Cell), (toAVs id cs).1.length = cs.length
  | _, [] => rfl
  | id, c :: r => by simp [toAVs, toAVs_len (id + 1) r]
/-- Cells with their types, in a world. -/
def RepCs (w : World) (N : Nat → Prop) : List Cell → List Value → Prop
  | [], vs => vs = []
  | c :: r, vs => ∃ v q, vs = v :: q ∧ RepC w N c.t c.v [v] ∧ RepCs w N r q
theorem RepCs.append {N : Nat → Prop} : ∀ {a b : List Cell} {u v : List Value}, RepCs w N a u → RepCs w N b v → RepCs w N (a ++ b) (u ++ v)
  | [], _, _, _, h, k => by simp only [RepCs] at h; subst h; exact k
  | _ :: _, _, _, _, h, k => by
    simp only [RepCs] at h
    obtain ⟨v, q, rfl, h1, h2⟩ := h
    exact ⟨v, q ++ _, rfl, h1, RepCs.append h2 k⟩
theorem RepC.cells {N : Nat → Prop} : ∀ {t : Ty} {x : t.den} {vs : List Value}, RepC w N t x vs → RepCs w N (Ty.cells t x) vs
  | .unit, _, _, h => h
  | .int _, _, _, h => by simp only [RepC] at h; exact ⟨_, [], h, rfl, rfl⟩
  | .bool, _, _, h => by simp only [RepC] at h; exact ⟨_, [], h, rfl, rfl⟩
  | .str, _, _, h => by simp only [RepC] at h; exact ⟨_, [], h, rfl, rfl⟩
  | .sl e t, _, _, h => by
    obtain ⟨A, c, e, h2⟩ := Ro.of_cell h
    subst e
    exact ⟨_, [], rfl, h, rfl⟩
  | .two _ _, _, _, h => by
    simp only [RepC] at h
    obtain ⟨c1, c2, rfl, h1, h2⟩ := h
    exact RepCs.append (RepC.cells h1) (RepC.cells h2)
theorem RepCs.len {N : Nat → Prop} : ∀ {a : List Cell} {u : List Value}, RepCs w N a u → a.length = u.length
  | [], _, h => by simp only [RepCs] at h; subst h; rfl
  | _ :: _, _, h => by obtain ⟨v, q, rfl, _, h2⟩ := h; simp [RepCs.len h2]
theorem RepCs.drop {N : Nat → Prop} : ∀ {a : List Cell} {u : List Value} (n : Nat), RepCs w N a u → RepCs w N (a.drop n) (u.drop n)
  | _, _, 0, h => by simpa using h
  | [], _, n + 1, h => by simp only [RepCs] at h; subst h; rfl
  | _ :: _, _, n + 1, h => by obtain ⟨v, q, rfl, _, h2⟩ := h; exact RepCs.drop n h2
theorem RepCs.take {N : Nat → Prop} : ∀ {a : List Cell} {u : List Value} (n : Nat), RepCs w N a u → RepCs w N (a.take n) (u.take n)
  | _, _, 0, _ => by simp [RepCs]
  | [], _, n + 1, h => by simp only [RepCs] at h; subst h; rfl
  | _ :: _, _, n + 1, h => by obtain ⟨v, q, rfl, h1, h2⟩ := h; exact ⟨v, _, rfl, h1, RepCs.take n h2⟩
theorem updL_append (f : Ob) : ∀ (l r : List (Nat × Obj)), updL f (l ++ r) = updL (updL f l) r
  | [], _ => rfl
  | p :: l, r => updL_append _ l r
theorem fresh_upd {ob : Ob} {id : Nat} {o : Obj} : ∀ {l : List Nat}, freshB ob l = true → id ∉ l → freshB (upd ob id (some o)) l = true
  | [], _, _ => rfl
  | j :: r, h, hn => by
    simp only [freshB, Bool.and_eq_true] at h ⊢
    refine ⟨?_, fresh_upd h.2 (fun k => hn (by simp [k]))⟩
    rw [upd_ne _ _ _ _ (fun e => hn (by simp [e]))]
    exact h.1
theorem toAVs_ids : ∀ (id : Nat) (cs : List Cell), ∀ j ∈ outIds (toAVs id cs).2, id ≤ j
  | _, [], j, h => by simp [toAVs, outIds] at h
  | id, c :: r, j, h => by
    simp only [toAVs, outIds, List.map_append, List.mem_append] at h
    rcases h with h | h
    · obtain ⟨t, v⟩ := c
      cases t <;> simp [Cell.toAV] at h
      omega
    · have := toAVs_ids (id + 1) r j h
      omega
theorem freshB_append {ob : Ob} : ∀ {a b : List Nat}, freshB ob (a ++ b) = true → freshB ob a = true ∧ freshB ob b = true
  | [], _, h => ⟨rfl, h⟩
  | _ :: _, _, h => by
    simp only [List.cons_append, freshB, Bool.and_eq_true] at h ⊢
    exact ⟨⟨h.1, (freshB_append h.2).1⟩, (freshB_append h.2).2⟩
/-- The cells of an element become slots: new rows for the slices in it. -/
theorem HS.toAVs : ∀ {ι : Nat → In} {ob : Ob} (id : Nat) (cs : List Cell) (vs : List Value), HS w0 X M ι ob w → RepCs w (Nb w0 M ι ob w) cs vs → freshB ob (outIds (toAVs id cs).2) = true →
    ∃ ι', HS w0 X M ι' (updL ob (DI.toAVs id cs).2) w ∧ Keeps ι ι' ob (updL ob (DI.toAVs id cs).2) ∧ All2 (RepAV ι' (updL ob (DI.toAVs id cs).2)) (DI.toAVs id cs).1 vs
  | ι, ob, id, [], vs, h, hr, hf => by simp only [RepCs] at hr; subst hr; exact ⟨ι, h, Keeps.refl _ _, trivial⟩
  | ι, ob, id, c :: r, vs, h, hr, hf => by
    obtain ⟨v, q, rfl, h1, h2⟩ := hr
    obtain ⟨t, x⟩ := c
    have plain : ∀ y : AV, (Cell.toAV id ⟨t, x⟩) = (y, []) → RepAV ι ob y v → (∀ ι' ob', Keeps ι ι' ob ob' → RepAV ι' ob' y v) → ∃ ι', HS w0 X M ι' (updL ob (DI.toAVs id (⟨t, x⟩ :: r)).2) w ∧ Keeps ι ι' ob (updL ob (DI.toAVs id (⟨t, x⟩ :: r)).2) ∧ All2 (RepAV ι' (updL ob (DI.toAVs id (⟨t, x⟩ :: r)).2)) (DI.toAVs id (⟨t, x⟩ :: r)).1 (v :: q) := by
      intro y hy _ hm
      simp only [DI.toAVs, hy, List.nil_append] at hf ⊢
      obtain ⟨ι', k1, k2, k3⟩ := HS.toAVs (id + 1) r q h h2 hf
      exact ⟨ι', k1, k2, hm _ _ k2, k3⟩
    cases t with
    | int k => simp only [RepC, List.cons.injEq, and_true] at h1; exact plain (.int k x) rfl h1 (fun _ _ _ => h1)
    | bool => simp only [RepC, List.cons.injEq, and_true] at h1; exact plain (.bool x) rfl h1 (fun _ _ _ => h1)
    | str => simp only [RepC, List.cons.injEq, and_true] at h1; exact plain (.str x) rfl h1 (fun _ _ _ => h1)
    | unit => exact plain .undef rfl trivial (fun _ _ _ => trivial)
    | two a b => exact plain .undef rfl trivial (fun _ _ _ => trivial)
    | sl e t =>
      obtain ⟨A, c, hv, hro⟩ := Ro.of_cell h1
      simp only [List.cons.injEq, and_true] at hv
      simp only [DI.toAVs, Cell.toAV, List.cons_append, List.nil_append, outIds, List.map_cons, freshB, Bool.and_eq_true] at hf
      have hid : ob id = none := by cases ho : ob id with | none => rfl | some o => rw [ho] at hf; exact absurd hf.1 (by simp)
      have hn : id ∉ outIds (DI.toAVs (id + 1) r).2 := fun k => by have := toAVs_ids (id + 1) r id k; omega
      have hs' := h.newRo id e t x A c hid hro
      have hk' := Keeps.new (ι := ι) id (.row e t false x) ⟨A, c, []⟩ hid
      have h2' : RepCs w (Nb w0 M (upd ι id ⟨A, c, []⟩) (upd ob id (some (.row e t false x))) w) r q := by
        have hN : ∀ b, Nb w0 M ι ob w b → Nb w0 M (upd ι id ⟨A, c, []⟩) (upd ob id (some (.row e t false x))) w b := by
          rintro b ⟨b1, b2, b3⟩
          refine ⟨b1, b2, ?_⟩
          rintro ⟨j, o, q1, q2, q3⟩
          by_cases e : j = id
          · subst e; rw [upd_same] at q1; cases q1; exact q2
          · rw [upd_ne _ _ _ _ e] at q1 q3; exact b3 ⟨j, o, q1, q2, q3⟩
        clear hf plain hn
        induction r generalizing q with
        | nil => exact h2
        | cons c0 r0 ih => obtain ⟨v0, q0, e0, m1, m2⟩ := h2; exact ⟨v0, q0, e0, RepC.mono (fun b hb => ⟨hN b hb, rfl⟩) m1, ih _ m2⟩
      obtain ⟨ι', k1, k2, k3⟩ := HS.toAVs (id + 1) r q hs' h2' (fresh_upd hf.2 hn)
      refine ⟨ι', k1, hk'.trans k2, RepAV.mono k2 ⟨by rw [hv]; rfl, _, upd_same _ _ _, fun t' m he => ?_⟩, k3⟩
      cases he
      rw [hv, upd_same]

theorem ids_none {ob : Ob} : ∀ {l : List Nat}, freshB ob l = true → ∀ j ∈ l, ob j = none
  | j :: r, h, i, hi => by
    simp only [freshB, Bool.and_eq_true] at h
    rcases List.mem_cons.1 hi with rfl | hi
    · cases ho : ob i with
      | none => rfl
      | some o => rw [ho] at h; exact absurd h.1 (by simp)
    · exact ids_none h.2 i hi
theorem sub_get {α : Type} {l : List α} {off n j : Nat} {u : α} (h : (subL l off n)[j]? = some u) : l[off + j]? = some u := by
  simp only [subL, List.getElem?_take, List.getElem?_drop] at h
  split at h
  · exact h
  · cases h
/-- The elements of a row, of the call's own or read alone, as they lie in the world. -/
theorem row_at (hs : HS w0 X M ι s.ob w) {r : Nat} {e : Nat} {t : Ty} {own : Bool} {l : List t.den} (hr : s.ob r = some (.row e t own l)) {i : Nat} {x : t.den} (hx : l[i]? = some x) :
    ∃ ad, (ι r).a = some ad ∧ ad.spot = none ∧ l.length ≤ (ι r).c ∧ ∃ es, RepC w (Nb w0 M ι s.ob w) t x es ∧ ∀ j u, es[j]? = some u → w.cell? (ad.add (i * t.size + j)) = some u := by
  have h := hs.obs r _ hr
  cases own with
  | false =>
    obtain ⟨h1, h2⟩ := h
    obtain ⟨ad, k1, k2, _, es, k3, k4⟩ := h2 i x hx
    exact ⟨ad, k1, k2, h1, es, k3, k4⟩
  | true =>
    obtain ⟨xs, h1, h2⟩ := h
    obtain ⟨es, k1, k2⟩ := RepL.get h2 hx
    obtain ⟨h3, h4⟩ := h1
    rcases h4 with ⟨_, h5⟩ | ⟨g, o, cap, cur, fz, e1, e3, ef, e4, e6, e7⟩
    · rw [List.length_eq_zero_iff.1 h5] at hx; simp at hx
    · have ea : (ι r).a = some ⟨g, o, none⟩ := by injection e1
      have ec : (ι r).c = cap := by injection e1
      refine ⟨_, ea, rfl, by omega, es, k1, fun j u hj => ?_⟩
      rw [Addr.add_mid, cell_of_row w g _ cur e fz e3]
      have := k2 j u hj
      rw [← e7, List.getElem?_take] at this
      split at this
      · simpa using this
      · cases this
theorem row_len (hs : HS w0 X M ι s.ob w) {r : Nat} {e : Nat} {t : Ty} {own : Bool} {l : List t.den} (hr : s.ob r = some (.row e t own l)) : l.length ≤ (ι r).c := by
  have h := hs.obs r _ hr
  cases own with
  | false => exact h.1
  | true =>
    obtain ⟨xs, h1, h2⟩ := h
    obtain ⟨h3, h4⟩ := h1
    rcases h4 with ⟨_, h5⟩ | ⟨g, o, cap, cur, fz, e1, e3, ef, e4, e6, e7⟩
    · omega
    · have ec : (ι r).c = cap := by injection e1
      omega
theorem eptr_of {r i off : Nat} {v : Value} (h : RepAV ι s.ob (.eptr r i off) v) {e : Nat} {t : Ty} {own : Bool} {l : List t.den} (hr : s.ob r = some (.row e t own l)) :
    i < l.length ∧ ∃ ad, (ι r).a = some ad ∧ ad.spot = none ∧ v = .pointer (some (ad.add (i * t.size + off))) := by
  obtain ⟨_, o, ho, h⟩ := h
  rw [hr] at ho
  cases ho
  exact h _ _ rfl
theorem op_load_elem (hs : HS w0 X M ι s.ob w) (ht : TS ι s a) (t : Nat) (ti : TI) (hti : TIok P t ti) (x : Operand) (r i off : Nat) (hx : ev s x = .at (.eptr r i off)) (e : Nat) (rt : Ty) (own : Bool) (l : List rt.den) (hr : s.ob r = some (.row e rt own l))
    (y : rt.den) (hy : l[i]? = some y) (id : Nat) (hl : (toAVs id (subL (Ty.cells rt y) off ti.sz)).1.length = ti.sz) (hf : freshB s.ob (outIds (toAVs id (subL (Ty.cells rt y) off ti.sz)).2) = true)
    (d : DV) (hd : (ti.agg = true ∧ d = .agg (toAVs id (subL (Ty.cells rt y) off ti.sz)).1) ∨ (ti.agg = false ∧ ∃ x, (toAVs id (subL (Ty.cells rt y) off ti.sz)).1 = [x] ∧ d = .at x)) (tc : List Nat) (ty : TypeId) :
    Does P (.load t x) ty a.eval w (Post w0 X M ι s ⟨d, (toAVs id (subL (Ty.cells rt y) off ti.sz)).2, tc⟩) := by
  obtain ⟨hi, ad, h1, _, h2⟩ := eptr_of (ev_at ht hx) hr
  obtain ⟨ad', k1, k2, _, es, k3, k4⟩ := row_at hs hr hy
  rw [h1] at k1
  cases k1
  have h5 : RepCs w (Nb w0 M ι s.ob w) (subL (Ty.cells rt y) off ti.sz) (subL es off ti.sz) := RepCs.take _ (RepCs.drop _ (RepC.cells k3))
  obtain ⟨ι', m1, m2, m3⟩ := HS.toAVs id _ _ hs h5 hf
  have hr := run_loadVar' (P := P) (w := w) hti (ad.add (i * rt.size + off)) (subL es off ti.sz) (by rw [← All2.len m3, hl]) (fun j u hj => by
    rw [add_add _ _ _ k2, Nat.add_assoc]
    exact k4 _ _ (sub_get hj))
  refine Does.value (fun _ _ _ _ => ?_) ⟨ι', m1, m2, rep_load m3 hl hd⟩
  · simp only [execOp, h2, Instr.loadAt, Instr.sureAddr, Sem.run_bind, Sem.run_pure, Result.andThen_ok, hr]
theorem setRow_heap_ne {w : World} {g b : Nat} (cs : Array Value) (h : g ≠ b) : (w.setRow g cs).heap[b]? = w.heap[b]? := by
  simp only [World.setRow, Array.getElem?_modify]
  rw [if_neg h]
theorem setRow_size {w : World} {g : Nat} (cs : Array Value) : (w.setRow g cs).heap.size = w.heap.size := by simp [World.setRow]
theorem All2.set {ι : Nat → In} {ob : Ob} : ∀ {l : List AV} {cs : List Value} (off : Nat) {vs : List AV} {us : List Value}, All2 (RepAV ι ob) l cs → All2 (RepAV ι ob) vs us → off + vs.length ≤ l.length →
    All2 (RepAV ι ob) (setL l off vs) (cs.take off ++ us ++ cs.drop (off + us.length))
  | l, cs, 0, [], [], h, _, _ => by simpa [setL] using h
  | x :: r, c :: q, 0, v :: vs, u :: us, h, k, hl => by
    have := All2.set (l := r) (cs := q) 0 h.2 k.2 (by simp at hl ⊢; omega)
    simp only [setL, List.take_zero, List.nil_append, List.cons_append, List.length_cons] at this ⊢
    refine ⟨k.1, ?_⟩
    have e : 0 + (us.length + 1) = (0 + us.length) + 1 := by omega
    rw [e, List.drop_succ_cons]
    exact this
  | x :: r, c :: q, off + 1, vs, us, h, k, hl => by
    have := All2.set (l := r) (cs := q) off h.2 k (by simp at hl ⊢; omega)
    have e : off + 1 + us.length = (off + us.length) + 1 := by omega
    rw [e]
    rw [List.append_assoc] at this ⊢
    cases vs <;> exact ⟨h.1, this⟩
  | [], [], 0, v :: vs, us, h, k, hl => by simp at hl
  | [], [], off + 1, vs, us, h, k, hl => by simp at hl
  | [], _ :: _, _, _, _, h, _, _ => h.elim
  | _ :: _, [], _, _, _, h, _, _ => h.elim
  | _, _, _, [], _ :: _, _, k, _ => k.elim
  | _, _, _, _ :: _, [], _, k, _ => k.elim
theorem op_store_box (hs : HS w0 X M ι s.ob w) (ht : TS ι s a) (t : Nat) (ti : TI) (hti : TIok P t ti) (x y : Operand) (b off : Nat) (hx : ev s x = .at (.bptr b off)) (bt : Nat) (bc : List AV) (hb : s.ob b = some (.box bt bc))
    (c : List AV) (hc : (ev s y).cells = some c) (hl : c.length = ti.sz) (hok : c.all AV.ok = true) (hle : off + c.length ≤ bc.length) (tc : List Nat) (ty : TypeId) :
    Does P (.store t x y) ty a.eval w (Post w0 X M ι s ⟨.at .undef, [(b, .box bt (setL bc off c))], tc⟩) := by
  obtain ⟨g, cs, h1, h2, h3, h4⟩ := bptr_of hs (ev_at ht hx) hb
  obtain ⟨us, k1, k2⟩ := RepDV.cells (RepDV.ev ht y) hc
  have l1 := All2.len h4
  have l2 := All2.len k2
  have hst := run_storeCells_at P g off bt us 0 cs.toArray w h3 (by simp; omega) (All2.one hok k2)
  simp only [Nat.add_zero] at hst
  refine Does.skip (fun _ _ _ _ => ?_) ?_ (w' := w.setRow g (cs.take off ++ us ++ cs.drop (off + us.length)).toArray)
  · simp only [execOp, h2, Instr.storeAt, Instr.sureAddr, Sem.run_bind, Sem.run_pure, Result.andThen_ok, storeVar, run_sizeOf hti, k1]
    have : (us.toArray.size ≠ ti.sz) = False := by simp; omega
    simp only [this, if_false]
    rw [hst]
    rfl
  · have hp := hs.put b _ (.box bt (setL bc off c)) hb trivial trivial (setRow_size _) rfl rfl rfl (w' := w.setRow g (cs.take off ++ us ++ cs.drop (off + us.length)).toArray) (fun b' hb' => setRow_heap_ne _ (hb' _ h1))
      (fun N ob' hk hN _ => ⟨g, _, h1, setRow_heap w g _ _ bt _ h3, All2.mono (fun _ _ _ h => RepAV.mono hk h) (All2.set off h4 k2 hle)⟩)
    exact ⟨ι, hp, Keeps.put b _ _ hb trivial, trivial⟩

/-! What a slot's value is as an element's cell. -/
theorem castL_get {e e' : Nat} {t t' : Ty} (h : e' = e ∧ t' = t) (l : List t'.den) : castL h l = h.2 ▸ l := rfl
theorem castL_self {e : Nat} {t : Ty} (h : e = e ∧ t = t) (l : List t.den) : castL h l = l := rfl
theorem Ro.sub {N : Nat → Prop} {t : Ty} {l : List t.den} {A : Option Addr} {c off n : Nat} (h : Ro w N t l A c) (hn : off + n ≤ l.length) {A' : Option Addr} (hA : off < c → A' = A.map (·.add (off * t.size))) :
    Ro w N t ((l.drop off).take n) A' (c - off) := by
  obtain ⟨h1, h2⟩ := h
  refine ⟨by simp; omega, fun i x hx => ?_⟩
  have hi := (List.getElem?_eq_some_iff.1 hx).1
  simp only [List.length_take, List.length_drop] at hi
  rw [List.getElem?_take, if_pos (by omega), List.getElem?_drop] at hx
  obtain ⟨ad, k1, k2, k3, es, k4, k5⟩ := h2 (off + i) x hx
  refine ⟨ad.add (off * t.size), by rw [hA (by omega), k1]; rfl, add_spot _ _ k2, by rw [add_block]; exact k3, es, k4, fun j u hj => ?_⟩
  rw [add_add _ _ _ k2]
  have := k5 j u hj
  rw [Nat.add_mul] at this
  rw [← Nat.add_assoc]
  exact this
theorem whole_of {r : Nat} {v : Value} (h : RepAV ι s.ob (.whole r) v) {e : Nat} {t : Ty} {own : Bool} {l : List t.den} (hr : s.ob r = some (.row e t own l)) : v = .slice (ι r).a l.length (ι r).c := by
  obtain ⟨_, o, ho, h⟩ := h
  rw [hr] at ho
  cases ho
  exact h _ _ rfl
theorem cut_of {r off n : Nat} {v : Value} (h : RepAV ι s.ob (.cut r off n) v) {e : Nat} {t : Ty} {own : Bool} {l : List t.den} (hr : s.ob r = some (.row e t own l)) :
    off + n ≤ l.length ∧ ∃ A, v = .slice A n ((ι r).c - off) ∧ (off < (ι r).c ∨ off = 0 → A = (ι r).a.map (·.add (off * t.size))) ∧ ((ι r).c ≤ off → A = (ι r).a) := by
  obtain ⟨_, o, ho, h⟩ := h
  rw [hr] at ho
  cases ho
  exact h _ _ rfl
theorem rep_ofAV {N : Nat → Prop} {t : Ty} {x : AV} {y : t.den} {v : Value} (h : ofAV s.ob t x = some y) (hx : RepAV ι s.ob x v)
    (hro : ∀ r ∈ x.ids, ∀ e t own l, s.ob r = some (.row e t own l) → Ro w N t l (ι r).a (ι r).c) : RepC w N t y [v] := by
  unfold ofAV at h
  split at h
  · split at h
    · rename_i hk; subst hk; cases h; simp only [RepAV] at hx; subst hx; rfl
    · cases h
  · cases h; simp only [RepAV] at hx; subst hx; rfl
  · cases h; simp only [RepAV] at hx; subst hx; rfl
  · cases h; simp only [RepAV] at hx; subst hx; exact ⟨none, 0, rfl, Nat.le_refl _, fun i x hx => by simp at hx⟩
  · rename_i e t r
    split at h
    · rename_i e' t' own l hr
      split at h
      · rename_i hh
        obtain ⟨rfl, rfl⟩ := hh
        cases h
        have hv := whole_of hx hr
        subst hv
        exact ⟨_, _, rfl, hro r (by simp [AV.ids]) _ _ _ _ hr⟩
      · cases h
    · cases h
  · rename_i e t r off n
    split at h
    · rename_i e' t' own l hr
      split at h
      · rename_i hh
        obtain ⟨rfl, rfl⟩ := hh
        cases h
        obtain ⟨h1, A, hv, hA, _⟩ := cut_of hx hr
        subst hv
        have := (hro r (by simp [AV.ids]) _ _ _ _ hr).sub h1 (fun hh => hA (.inl hh))
        refine ⟨A, _, ?_, this⟩
        simp only [castL_self]
        congr 2
        simp
        omega
      · cases h
    · cases h
  · cases h
theorem rep_ofAVs {N : Nat → Prop} : ∀ {t : Ty} {l : List AV} {y : t.den} {vs : List Value}, ofAVs s.ob t l = some y → All2 (RepAV ι s.ob) l vs →
    (∀ r ∈ idsOf l, ∀ e t own l, s.ob r = some (.row e t own l) → Ro w N t l (ι r).a (ι r).c) → RepC w N t y vs
  | .two a b, x :: r, y, v :: vs, h, hx, hro => by
    simp only [ofAVs] at h
    obtain ⟨y1, h1, h⟩ := Option.bind_eq_some_iff.1 h
    obtain ⟨y2, h2, h⟩ := Option.bind_eq_some_iff.1 h
    cases h
    exact ⟨[v], vs, rfl, rep_ofAV h1 hx.1 (fun r hr => hro r (by simp [idsOf, hr])), rep_ofAVs h2 hx.2 (fun r hr => hro r (by simp only [idsOf, List.flatMap_cons, List.mem_append]; exact .inr hr))⟩
  | .two _ _, _ :: _, _, [], _, hx, _ => hx.elim
  | .two _ _, [], _, _, h, _, _ => by cases h
  | .unit, [], _, [], _, _, _ => rfl
  | .unit, [], _, _ :: _, _, hx, _ => hx.elim
  | .unit, _ :: _, _, _, h, _, _ => by cases h
  | .int k, [x], y, [v], h, hx, hro => rep_ofAV (t := .int k) h hx.1 (fun r hr => hro r (by simp [idsOf, hr]))
  | .bool, [x], y, [v], h, hx, hro => rep_ofAV (t := .bool) h hx.1 (fun r hr => hro r (by simp [idsOf, hr]))
  | .str, [x], y, [v], h, hx, hro => rep_ofAV (t := .str) h hx.1 (fun r hr => hro r (by simp [idsOf, hr]))
  | .sl e t, [x], y, [v], h, hx, hro => rep_ofAV (t := .sl e t) h hx.1 (fun r hr => hro r (by simp [idsOf, hr]))
  | .int k, [x], y, [], _, hx, _ => hx.elim
  | .bool, [x], y, [], _, hx, _ => hx.elim
  | .str, [x], y, [], _, hx, _ => hx.elim
  | .sl e t, [x], y, [], _, hx, _ => hx.elim
  | .int k, [x], y, _ :: _ :: _, _, hx, _ => hx.2.elim
  | .bool, [x], y, _ :: _ :: _, _, hx, _ => hx.2.elim
  | .str, [x], y, _ :: _ :: _, _, hx, _ => hx.2.elim
  | .sl e t, [x], y, _ :: _ :: _, _, hx, _ => hx.2.elim
  | .int _, [], _, _, h, _, _ => by cases h
  | .bool, [], _, _, h, _, _ => by cases h
  | .str, [], _, _, h, _, _ => by cases h
  | .sl _ _, [], _, _, h, _, _ => by cases h
  | .int _, _ :: _ :: _, _, _, h, _, _ => by cases h
  | .bool, _ :: _ :: _, _, _, h, _, _ => by cases h
  | .str, _ :: _ :: _, _, _, h, _, _ => by cases h
  | .sl _ _, _ :: _ :: _, _, _, h, _, _ => by cases h
/-- A row of the call's own is given away. -/
theorem HS.freeze1 {ob : Ob} (h : HS w0 X M ι ob w) (hXM : ∀ b, X b → M b) {r e : Nat} {t : Ty} {l : List t.den} (hr : ob r = some (.row e t true l)) : HS w0 X M ι (upd ob r (some (.row e t false l))) w := by
  refine h.put r _ (.row e t false l) hr trivial ⟨rfl, rfl, rfl⟩ rfl rfl rfl rfl (fun _ _ => rfl) (fun N ob' hk hN hb => ?_)
  have ho := h.obs r _ hr
  have hlen := row_len (s := ⟨fun _ => .at .undef, ob⟩) h hr
  refine ⟨hlen, fun i x hx => ?_⟩
  obtain ⟨ad, k1, k2, k3, es, k4, k5⟩ := row_at (s := ⟨fun _ => .at .undef, ob⟩) h hr hx
  have hw : W ι ob ad.block := ⟨r, _, hr, trivial, Blk.main k1⟩
  refine ⟨ad, k1, k2, hb (fun hw => hw) ad k1 (ho.lt trivial (Blk.main k1)) ?_, es, RepC.mono hN k4, k5⟩
  rcases h.wr _ hw with q | q
  · exact .inr q
  · exact .inl (hXM _ q)
def FrzL (ob : Ob) (l : List (Nat × Obj)) : Prop := ∀ p ∈ l, ∃ e t own x, ob p.1 = some (.row e t own x) ∧ p.2 = .row e t false x
theorem upd_self {ob : Ob} {i : Nat} {o : Obj} (h : ob i = some o) : upd ob i (some o) = ob := by
  funext j
  by_cases e : j = i
  · subst e; rw [upd_same, h]
  · exact upd_ne _ _ _ _ e
theorem HS.frz (hXM : ∀ b, X b → M b) : ∀ {ob : Ob} (l : List (Nat × Obj)), HS w0 X M ι ob w → FrzL ob l → HS w0 X M ι (updL ob l) w ∧ Keeps ι ι ob (updL ob l) ∧
    (∀ r e t own x, ob r = some (.row e t own x) → ∃ own', updL ob l r = some (.row e t own' x) ∧ (own = false → own' = false) ∧ (r ∈ outIds l → own' = false)) ∧ (∀ r, r ∉ outIds l → updL ob l r = ob r)
  | ob, [], h, _ => ⟨h, Keeps.refl _ _, fun r e t own x hr => ⟨own, hr, id, fun h => by simp [outIds] at h⟩, fun _ _ => rfl⟩
  | ob, (r, o) :: q, h, hl => by
    obtain ⟨e, t, own, x, h1, h2⟩ := hl (r, o) (by simp)
    simp only at h1 h2
    subst h2
    have step : HS w0 X M ι (upd ob r (some (.row e t false x))) w := by
      cases own with
      | true => exact h.freeze1 hXM h1
      | false => rw [upd_self h1]; exact h
    have hk : Keeps ι ι ob (upd ob r (some (.row e t false x))) := Keeps.put r _ _ h1 ⟨rfl, rfl, rfl⟩
    have hl' : FrzL (upd ob r (some (.row e t false x))) q := by
      intro p hp
      obtain ⟨e', t', own', x', k1, k2⟩ := hl p (by simp [hp])
      by_cases e0 : p.1 = r
      · rw [e0, h1] at k1; cases k1; exact ⟨_, _, false, _, by rw [e0, upd_same], k2⟩
      · exact ⟨_, _, own', _, by rw [upd_ne _ _ _ _ e0]; exact k1, k2⟩
    obtain ⟨m1, m2, m3, m4⟩ := HS.frz hXM q step hl'
    refine ⟨m1, hk.trans m2, fun r' e' t' own' x' hr' => ?_, fun r' hr' => ?_⟩
    · by_cases e0 : r' = r
      · subst e0
        rw [h1] at hr'
        cases hr'
        obtain ⟨o1, q1, q2, q3⟩ := m3 r' _ _ false _ (upd_same _ _ _)
        exact ⟨o1, q1, fun _ => q2 rfl, fun _ => q2 rfl⟩
      · obtain ⟨o1, q1, q2, q3⟩ := m3 r' e' t' own' x' (by rw [upd_ne _ _ _ _ e0]; exact hr')
        refine ⟨o1, q1, q2, fun hm => q3 ?_⟩
        simp only [outIds, List.map_cons, List.mem_cons] at hm
        exact hm.resolve_left e0
    · simp only [outIds, List.map_cons, List.mem_cons, not_or] at hr'
      have := m4 r' hr'.2
      simp only [updL]
      rw [this, upd_ne _ _ _ _ hr'.1]
theorem freeze_frz (ob : Ob) (l : List AV) : FrzL ob (freeze ob l) := by
  intro p hp
  simp only [freeze, List.mem_filterMap] at hp
  obtain ⟨r, _, h⟩ := hp
  split at h
  · rename_i e t x hr; cases h; exact ⟨e, t, true, x, hr, rfl⟩
  · cases h
theorem freeze_mem {ob : Ob} {l : List AV} {r : Nat} (hr : r ∈ idsOf l) {e : Nat} {t : Ty} {x : List t.den} (h : ob r = some (.row e t true x)) : r ∈ outIds (freeze ob l) := by
  simp only [outIds, freeze, List.mem_map, List.mem_filterMap]
  exact ⟨(r, .row e t false x), ⟨r, hr, by rw [h]⟩, rfl⟩
theorem freeze_ids {ob : Ob} {l : List AV} {r : Nat} (h : r ∈ outIds (freeze ob l)) : r ∈ idsOf l := by
  simp only [outIds, freeze, List.mem_map, List.mem_filterMap] at h
  obtain ⟨p, ⟨r', h1, h2⟩, rfl⟩ := h
  split at h2
  · cases h2; exact h1
  · cases h2
/-- What values hand over: their rows are given away, and then are read alone. -/
theorem HS.give (hXM : ∀ b, X b → M b) {ob : Ob} (h : HS w0 X M ι ob w) (l : List AV) :
    HS w0 X M ι (updL ob (freeze ob l)) w ∧ Keeps ι ι ob (updL ob (freeze ob l)) ∧ (∀ r, r ∉ idsOf l → updL ob (freeze ob l) r = ob r) ∧
    (∀ r ∈ idsOf l, ∀ e t own x, ob r = some (.row e t own x) → Ro w (Nb w0 M ι (updL ob (freeze ob l)) w) t x (ι r).a (ι r).c) := by
  obtain ⟨h1, h2, h3, h4⟩ := HS.frz hXM (freeze ob l) h (freeze_frz ob l)
  refine ⟨h1, h2, fun r hr => h4 r fun k => hr (freeze_ids k), fun r hr e t own x ho => ?_⟩
  obtain ⟨own', k1, k2, k3⟩ := h3 r e t own x ho
  have : own' = false := by
    cases own with
    | false => exact k2 rfl
    | true => exact k3 (freeze_mem hr ho)
  subst this
  exact h1.obs r _ k1

theorem ofAV_size {ob : Ob} {t : Ty} {x : AV} {y : t.den} (h : ofAV ob t x = some y) : t.size = 1 := by
  unfold ofAV at h
  split at h <;> first | rfl | (cases h; done)
theorem rep_put {N : Nat → Prop} : ∀ {t : Ty} {x z : t.den} {j : Nat} {l : List AV} {es us : List Value}, Ty.put s.ob t x j l = some z → RepC w N t x es → All2 (RepAV ι s.ob) l us →
    (∀ r ∈ idsOf l, ∀ e t own l, s.ob r = some (.row e t own l) → Ro w N t l (ι r).a (ι r).c) → j + us.length ≤ t.size ∧ RepC w N t z (es.take j ++ us ++ es.drop (j + us.length))
  | .two a b, x, z, 0, v :: r, es, u :: us, h, hx, hl, hro => by
    simp only [Ty.put] at h
    obtain ⟨y, h1, h⟩ := Option.bind_eq_some_iff.1 h
    simp only [RepC] at hx
    obtain ⟨c1, c2, rfl, h2, h3⟩ := hx
    have s1 := ofAV_size h1
    have l1 := RepC.len h2
    have hv := rep_ofAV h1 hl.1 (fun r hr => hro r (by simp [idsOf, hr]))
    match c1, (by omega : c1.length = 1) with
    | [e0], _ =>
    match r, us, h, hl.2 with
    | [], [], h, _ =>
      cases h
      refine ⟨by simp [Ty.size]; omega, [u], c2, by simp, hv, h3⟩
    | _ :: _, us', h, h4 =>
      obtain ⟨z', h5, h⟩ := Option.bind_eq_some_iff.1 h
      cases h
      obtain ⟨k1, k2⟩ := rep_put h5 h3 h4 (fun r hr => hro r (by unfold idsOf at hr ⊢; rw [List.flatMap_cons, List.mem_append]; exact .inr hr))
      refine ⟨by simp [Ty.size]; omega, [u], _, ?_, hv, k2⟩
      simp
  | .two a b, x, z, j + 1, l, es, us, h, hx, hl, hro => by
    simp only [Ty.put] at h
    split at h
    · rename_i s1
      obtain ⟨z', h5, h⟩ := Option.bind_eq_some_iff.1 h
      cases h
      simp only [RepC] at hx
      obtain ⟨c1, c2, rfl, h2, h3⟩ := hx
      have l1 := RepC.len h2
      match c1, (by omega : c1.length = 1) with
      | [e0], _ =>
      obtain ⟨k1, k2⟩ := rep_put h5 h3 hl hro
      refine ⟨by simp [Ty.size]; omega, [e0], _, ?_, h2, k2⟩
      rw [show j + 1 + us.length = (j + us.length) + 1 from by omega]
      simp
    · cases h
  | .two _ _, _, _, 0, [], _, _, h, _, _, _ => by cases h
  | .two _ _, _, _, 0, _ :: _, _, [], _, _, hl, _ => hl.elim
  | .unit, _, _, _, _, _, _, h, _, _, _ => by simp [Ty.put] at h
  | .int k, x, z, 0, [v], es, [u], h, hx, hl, hro => by
    have hv := rep_ofAV (t := .int k) h hl.1 (fun r hr => hro r (by simp [idsOf, hr]))
    simp only [RepC] at hx; subst hx; exact ⟨Nat.le_refl _, hv⟩
  | .bool, x, z, 0, [v], es, [u], h, hx, hl, hro => by
    have hv := rep_ofAV (t := .bool) h hl.1 (fun r hr => hro r (by simp [idsOf, hr]))
    simp only [RepC] at hx; subst hx; exact ⟨Nat.le_refl _, hv⟩
  | .str, x, z, 0, [v], es, [u], h, hx, hl, hro => by
    have hv := rep_ofAV (t := .str) h hl.1 (fun r hr => hro r (by simp [idsOf, hr]))
    simp only [RepC] at hx; subst hx; exact ⟨Nat.le_refl _, hv⟩
  | .sl e t, x, z, 0, [v], es, [u], h, hx, hl, hro => by
    have hv := rep_ofAV (t := .sl e t) h hl.1 (fun r hr => hro r (by simp [idsOf, hr]))
    obtain ⟨A, c, e0, _⟩ := Ro.of_cell hx; subst e0; exact ⟨Nat.le_refl _, hv⟩
  | .int _, _, _, 0, [_], _, [], _, _, hl, _ => hl.elim
  | .bool, _, _, 0, [_], _, [], _, _, hl, _ => hl.elim
  | .str, _, _, 0, [_], _, [], _, _, hl, _ => hl.elim
  | .sl _ _, _, _, 0, [_], _, [], _, _, hl, _ => hl.elim
  | .int _, _, _, 0, [_], _, _ :: _ :: _, _, _, hl, _ => hl.2.elim
  | .bool, _, _, 0, [_], _, _ :: _ :: _, _, _, hl, _ => hl.2.elim
  | .str, _, _, 0, [_], _, _ :: _ :: _, _, _, hl, _ => hl.2.elim
  | .sl _ _, _, _, 0, [_], _, _ :: _ :: _, _, _, hl, _ => hl.2.elim
  | .int _, _, _, _ + 1, _, _, _, h, _, _, _ => by simp [Ty.put] at h
  | .bool, _, _, _ + 1, _, _, _, h, _, _, _ => by simp [Ty.put] at h
  | .str, _, _, _ + 1, _, _, _, h, _, _, _ => by simp [Ty.put] at h
  | .sl _ _, _, _, _ + 1, _, _, _, h, _, _, _ => by simp [Ty.put] at h
  | .int _, _, _, 0, [], _, _, h, _, _, _ => by simp [Ty.put] at h
  | .bool, _, _, 0, [], _, _, h, _, _, _ => by simp [Ty.put] at h
  | .str, _, _, 0, [], _, _, h, _, _, _ => by simp [Ty.put] at h
  | .sl _ _, _, _, 0, [], _, _, h, _, _, _ => by simp [Ty.put] at h
  | .int _, _, _, 0, _ :: _ :: _, _, _, h, _, _, _ => by simp [Ty.put] at h
  | .bool, _, _, 0, _ :: _ :: _, _, _, h, _, _, _ => by simp [Ty.put] at h
  | .str, _, _, 0, _ :: _ :: _, _, _, h, _, _, _ => by simp [Ty.put] at h
  | .sl _ _, _, _, 0, _ :: _ :: _, _, _, h, _, _, _ => by simp [Ty.put] at h
theorem splice_take {α : Type} (A us : List α) (q n : Nat) (h1 : q + us.length ≤ n) (h2 : n ≤ A.length) : (A.take q ++ us ++ A.drop (q + us.length)).take n = (A.take n).take q ++ us ++ (A.take n).drop (q + us.length) := by
  apply List.ext_getElem?
  intro k
  simp only [List.getElem?_take, List.getElem?_append, List.length_append, List.length_take, List.getElem?_drop]
  by_cases a1 : k < q
  · have : k < n := by omega
    simp [a1, this, show k < min q A.length from by omega, show k < min q (min n A.length) from by omega, show k < q + us.length from by omega, show k < min q A.length + us.length from by omega, show k < min q (min n A.length) + us.length from by omega]
  · by_cases a2 : k < q + us.length
    · have : k < n := by omega
      simp [this, show ¬ k < min q A.length from by omega, show ¬ k < min q (min n A.length) from by omega, show k < min q A.length + us.length from by omega, show k < min q (min n A.length) + us.length from by omega]
      congr 1
      omega
    · simp [show ¬ k < min q A.length + us.length from by omega, show ¬ k < min q (min n A.length) + us.length from by omega]
      have e1 : q + us.length + (k - (min q A.length + us.length)) = k := by omega
      have e2 : q + us.length + (k - (min q (min n A.length) + us.length)) = k := by omega
      rw [e1, e2]
theorem NoFz.size {cur cur' : Array Value} {fz : Nat × Nat} (h : NoFz cur fz) (hs : cur'.size = cur.size) : NoFz cur' fz := by
  unfold NoFz at *
  rw [hs]
  exact h
theorem run_storeCells_fz (P : Program) (g o : Nat) (t : TypeId) (fz : Nat × Nat) : ∀ (vs : List Value) (i : Nat) (cur : Array Value) (w : World), w.heap[g]? = some (.cells cur t fz) → NoFz cur fz → o + i + vs.length ≤ cur.size → (∀ v ∈ vs, v.oneCell' = true) →
    (storeCells ⟨g, o, none⟩ vs i).run P w = .ok () (w.setRow g (cur.toList.take (o + i) ++ vs ++ cur.toList.drop (o + i + vs.length)).toArray)
  | [], i, cur, w, hg, _, _, _ => by
    simp only [storeCells, List.append_nil, List.length_nil, Nat.add_zero, List.take_append_drop, Array.toArray_toList]
    rw [setRow_self w g cur t fz hg]
    rfl
  | v :: rest, i, cur, w, hg, hfz, hl, h1 => by
    have hi : o + i < cur.size := by simp at hl; omega
    have hadd : (⟨g, o, none⟩ : Addr).add i = ⟨g, o + i, none⟩ := by unfold Addr.add; split <;> simp_all
    have hcell : w.cell? ⟨g, o + i, none⟩ = some cur[o + i] := by simp [World.cell?, hg, hi]
    have hfro : w.frozen? ⟨g, o + i, none⟩ = false := by
      obtain ⟨lo, hi'⟩ := fz
      unfold NoFz at hfz
      simp only [World.frozen?, hg, Bool.and_eq_false_iff, decide_eq_false_iff_not]
      simp only at hfz
      omega
    have hst : (store ((⟨g, o, none⟩ : Addr).add i) v).run P w = .ok () (w.setRow g (cur.setIfInBounds (o + i) v)) := by
      rw [hadd, run_store P w _ v _ (h1 v (by simp)), hcell]
      simp [hfro, setCell_eq_setRow w g (o + i) cur t fz v hg]
    have ih := run_storeCells_fz P g o t fz rest (i + 1) (cur.setIfInBounds (o + i) v) (w.setRow g (cur.setIfInBounds (o + i) v)) (setRow_heap w g cur _ t _ hg) (hfz.size (by simp)) (by simp at hl ⊢; omega) (fun x hx => h1 x (by simp [hx]))
    simp only [storeCells, Sem.run_bind, hst, Result.andThen_ok, ih, setRow_setRow]
    congr 3
    have e := list_seg_step cur.toList (o + i) v rest (by simp at hl ⊢; omega)
    simpa [Array.toList_setIfInBounds, Nat.add_assoc] using e
theorem splice_drop {α : Type} (A us : List α) (o q m : Nat) (h : o + q ≤ A.length) : (A.take (o + q) ++ us ++ A.drop (o + q + m)).drop o = (A.drop o).take q ++ us ++ (A.drop o).drop (q + m) := by
  have h1 : A.take (o + q) = A.take o ++ (A.drop o).take q := List.take_add
  have h2 : (A.take o).length = o := by simp; omega
  rw [h1, List.append_assoc, List.append_assoc, List.drop_append, h2, Nat.sub_self, List.drop_drop, List.drop_of_length_le (by omega), List.nil_append, List.drop_zero, List.append_assoc, Nat.add_assoc]
theorem splice_in {α : Type} (xs es us : List α) (p sz off : Nat) (h : ∀ j u, es[j]? = some u → xs[p + j]? = some u) (hl : es.length = sz) (hle : off + us.length ≤ sz) (hx : p + sz ≤ xs.length) :
    xs.take p ++ ((es.take off ++ us ++ es.drop (off + us.length)) ++ xs.drop (p + sz)) = xs.take (p + off) ++ us ++ xs.drop (p + off + us.length) := by
  have he : es = (xs.drop p).take sz := by
    apply List.ext_getElem?
    intro k
    simp only [List.getElem?_take, List.getElem?_drop]
    by_cases hk : k < sz
    · have := h k _ (List.getElem?_eq_getElem (by omega : k < es.length))
      rw [if_pos hk, this, List.getElem?_eq_getElem]
    · rw [if_neg hk, List.getElem?_eq_none (by omega)]
  have e1 : xs.take (p + off) = xs.take p ++ es.take off := by rw [List.take_add, he, List.take_take, Nat.min_eq_left (by omega)]
  have e2 : xs.drop (p + off + us.length) = es.drop (off + us.length) ++ xs.drop (p + sz) := by
    have : xs.drop p = es ++ xs.drop (p + sz) := by rw [he, ← List.drop_drop]; exact (List.take_append_drop sz _).symm
    rw [show p + off + us.length = p + (off + us.length) from by omega, ← List.drop_drop, this, List.drop_append_of_le_length (by omega)]
  rw [e1, e2]
  simp
theorem op_store_elem (hs : HS w0 X M ι s.ob w) (hXM : ∀ b, X b → M b) (ht : TS ι s a) (t : Nat) (ti : TI) (hti : TIok P t ti) (x y : Operand) (r i off : Nat) (hx : ev s x = .at (.eptr r i off)) (e : Nat) (rt : Ty) (l : List rt.den) (hr : s.ob r = some (.row e rt true l))
    (c : List AV) (hc : (ev s y).cells = some c) (hl : c.length = ti.sz) (hok : c.all AV.ok = true) (y0 z : rt.den) (hy0 : l[i]? = some y0) (hz : Ty.put s.ob rt y0 off c = some z) (hno : (idsOf c).any (Nat.beq r) = false) (tc : List Nat) (ty : TypeId) :
    Does P (.store t x y) ty a.eval w (Post w0 X M ι s ⟨.at .undef, freeze s.ob c ++ [(r, .row e rt true (l.set i z))], tc⟩) := by
  obtain ⟨hi, ad, h1, _, h2⟩ := eptr_of (ev_at ht hx) hr
  obtain ⟨us, k1, k2⟩ := RepDV.cells (RepDV.ev ht y) hc
  have l2 := All2.len k2
  obtain ⟨g1, g2, g3, g4⟩ := HS.give hXM hs c
  have hrn : r ∉ idsOf c := fun hm => by
    have : (idsOf c).any (Nat.beq r) = true := List.any_eq_true.2 ⟨r, hm, Nat.beq_refl r⟩
    rw [hno] at this; cases this
  have hr1 : updL s.ob (freeze s.ob c) r = some (.row e rt true l) := (g3 r hrn).trans hr
  obtain ⟨xs, ⟨q1, q2⟩, q3⟩ := g1.obs r _ hr1
  rcases q2 with ⟨_, q5⟩ | ⟨g, o, cap, cur, fz, e1, e3, ef, e4, e6, e7⟩
  · omega
  have ea : (ι r).a = some ⟨g, o, none⟩ := by injection e1
  have ec : (ι r).c = cap := by injection e1
  rw [ea] at h1
  cases h1
  obtain ⟨es, m1, m2⟩ := RepL.get q3 hy0
  have lx := RepL.len q3
  have le := RepC.len m1
  obtain ⟨p1, p2⟩ := rep_put hz m1 k2 g4
  have hb1 : i * rt.size + rt.size ≤ l.length * rt.size := by
    have := Nat.mul_le_mul_right rt.size (by omega : i + 1 ≤ l.length)
    rw [Nat.add_mul] at this
    omega
  have hb2 : l.length * rt.size ≤ cap * rt.size := Nat.mul_le_mul_right _ (by omega)
  rw [Addr.add_mid] at h2
  have hst := run_storeCells_fz P g (o + (i * rt.size + off)) e fz us 0 cur w e3 ef.to (by omega) (All2.one hok k2)
  simp only [Nat.add_zero] at hst
  refine Does.skip (fun _ _ _ _ => ?_) ?_ (w' := w.setRow g (cur.toList.take (o + (i * rt.size + off)) ++ us ++ cur.toList.drop (o + (i * rt.size + off) + us.length)).toArray)
  · simp only [execOp, h2, Instr.storeAt, Instr.sureAddr, Sem.run_bind, Sem.run_pure, Result.andThen_ok, storeVar, run_sizeOf hti, k1]
    have : (us.toArray.size ≠ ti.sz) = False := by simp; omega
    simp only [this, if_false]
    rw [hst]
    rfl
  · have hp := g1.put r _ (.row e rt true (l.set i z)) hr1 trivial ⟨rfl, rfl, by simp⟩ (setRow_size _) rfl rfl rfl (w' := w.setRow g (cur.toList.take (o + (i * rt.size + off)) ++ us ++ cur.toList.drop (o + (i * rt.size + off) + us.length)).toArray) (fun b' hb' => setRow_heap_ne _ (hb' _ ea))
      (fun N ob' hk hN _ => by
        refine ⟨xs.take (i * rt.size) ++ ((es.take off ++ us ++ es.drop (off + us.length)) ++ xs.drop ((i + 1) * rt.size)), ⟨?_, .inr ⟨g, o, cap, _, fz, by rw [ea, ec], setRow_heap w g cur _ e _ e3, ef.size (by simp; omega), by simp; omega, ?_, ?_⟩⟩, RepL.set (RepL.mono hN q3) (by omega) (RepC.mono hN p2)⟩
        · simp [Nat.add_mul]; omega
        · simp; omega
        · rw [show (i + 1) * rt.size = i * rt.size + rt.size from by rw [Nat.add_mul]; omega, splice_in xs es us _ rt.size off m2 le p1 (by omega), ← e7]
          simp only [List.length_set]
          rw [splice_drop _ _ _ _ _ (by simp; omega)]
          exact splice_take _ _ _ _ (by omega) (by simp; omega))
    refine ⟨ι, ?_, ?_, trivial⟩
    · simp only [updL_append, updL]; exact hp
    · simp only [updL_append, updL]; exact g2.trans (Keeps.put r _ _ hr1 ⟨rfl, rfl, by simp⟩)

/-! Numbers, bools, texts. -/
theorem eqG (op : BinOp) (t : Nat) (x y : Operand) (u v : Value) (w : World) (hu : ∀ cs, u ≠ .agg cs) (hu2 : u ≠ .nilIface) : (eqGuard op t x y u v).run P w = .ok () w := by
  unfold eqGuard
  cases op <;> first | rfl | (cases u <;> first | rfl | (exact absurd rfl (hu _)) | (exact absurd rfl hu2))
theorem bin_of {op : BinOp} {t yt : Nat} {x y : Operand} {u v r : Value} (hx : a.eval x = u) (hy : a.eval y = v) (hu : ∀ cs, u ≠ .agg cs) (hu2 : u ≠ .nilIface) (h : (binOp op t u v).run P w = .ok r w)
    (hs : HS w0 X M ι s.ob w) {y0 : AV} (hr : RepAV ι s.ob y0 r) (ty : TypeId) : Does P (.binOp op t x y yt) ty a.eval w (Post w0 X M ι s ⟨.at y0, [], []⟩) :=
  Does.value (v := r) (w' := w) (fun _ _ _ _ => by simp only [execOp, hx, hy, Sem.run_bind, eqG op t x y u v w hu hu2, Result.andThen_ok, h, Sem.run_pure]) (Post.same hs (d := .at y0) hr [])
theorem op_num (hs : HS w0 X M ι s.ob w) (ht : TS ι s a) (op : BinOp) (t yt : Nat) (x y : Operand) (k : IntKind) (m n : Int) (hx : ev s x = .at (.int k m)) (hy : ev s y = .at (.int k n)) (y0 : AV) (h : numOp op k m n some = some y0) (ty : TypeId) :
    Does P (.binOp op t x y yt) ty a.eval w (Post w0 X M ι s ⟨.at y0, [], []⟩) := by
  have h1 : a.eval x = .int k m := ev_at ht hx
  have h2 : a.eval y = .int k n := ev_at ht hy
  have key : ∀ r, RepAV ι s.ob y0 r → (binOp op t (.int k m) (.int k n)).run P w = .ok r w → Does P (.binOp op t x y yt) ty a.eval w (Post w0 X M ι s ⟨.at y0, [], []⟩) := fun r hr hb =>
    bin_of h1 h2 (by intro cs h; cases h) (by intro h; cases h) hb hs hr ty
  cases op <;> simp only [numOp] at h
  case quo =>
    cases hn : (n == 0) <;> rw [hn] at h <;> simp only [cond_true, cond_false] at h
    · cases h
      have : n ≠ 0 := by simpa using hn
      exact key _ rfl (by simp [binOp, Op.intDiv, this])
    · cases h
  case rem =>
    cases hn : (n == 0) <;> rw [hn] at h <;> simp only [cond_true, cond_false] at h
    · cases h
      have : n ≠ 0 := by simpa using hn
      exact key _ rfl (by simp [binOp, Op.intDiv, this])
    · cases h
  case shl => cases h
  case shr => cases h
  all_goals
    cases h
    exact key _ rfl (by simp [binOp, Op.intArith, Op.intBits, Op.intCmp])
theorem op_shift (hs : HS w0 X M ι s.ob w) (ht : TS ι s a) (op : BinOp) (t yt : Nat) (x y : Operand) (k k' : IntKind) (m n : Int) (hx : ev s x = .at (.int k m)) (hy : ev s y = .at (.int k' n)) (ho : op = .shl ∨ op = .shr) (y0 : AV) (h : shOp op k m n some = some y0) (ty : TypeId) :
    Does P (.binOp op t x y yt) ty a.eval w (Post w0 X M ι s ⟨.at y0, [], []⟩) := by
  have h1 : a.eval x = .int k m := ev_at ht hx
  have h2 : a.eval y = .int k' n := ev_at ht hy
  unfold shOp at h
  cases hn : decide (n < 0) <;> rw [hn] at h <;> simp only [cond_true, cond_false] at h
  · have hn' : ¬ n < 0 := by simpa using hn
    rcases ho with rfl | rfl
    · cases h
      exact bin_of h1 h2 (by intro cs h; cases h) (by intro h; cases h) (by simp only [binOp, Op.shift, if_neg hn']; rfl) hs (show RepAV ι s.ob (.int k _) (.int k _) from rfl) ty
    · cases h
      exact bin_of h1 h2 (by intro cs h; cases h) (by intro h; cases h) (by simp only [binOp, Op.shift, if_neg hn']; rfl) hs (show RepAV ι s.ob (.int k _) (.int k _) from rfl) ty
  · cases h
theorem op_str (hs : HS w0 X M ι s.ob w) (ht : TS ι s a) (op : BinOp) (t yt : Nat) (x y : Operand) (m n : ByteArray) (hx : ev s x = .at (.str m)) (hy : ev s y = .at (.str n)) (y0 : AV) (h : strOp op m n some = some y0) (ty : TypeId) :
    Does P (.binOp op t x y yt) ty a.eval w (Post w0 X M ι s ⟨.at y0, [], []⟩) := by
  have h1 : a.eval x = .string m := ev_at ht hx
  have h2 : a.eval y = .string n := ev_at ht hy
  have key : ∀ r, RepAV ι s.ob y0 r → (Op.stringOp op m n).run P w = .ok r w → Does P (.binOp op t x y yt) ty a.eval w (Post w0 X M ι s ⟨.at y0, [], []⟩) := fun r hr hb =>
    bin_of h1 h2 (by intro cs h; cases h) (by intro h; cases h) (by cases op <;> simpa [binOp] using hb) hs hr ty
  cases op <;> simp only [strOp] at h
  case add =>
    cases hn : decide (m.size + n.size ≤ 140737488351232) <;> rw [hn] at h <;> simp only [cond_true, cond_false] at h
    · cases h
    · cases h
      have h3 : m.size + n.size ≤ 140737488351232 := by simpa using hn
      refine key _ rfl ?_
      have h4 : ¬ ((m.size + n.size : Nat) : Int) > IntKind.i64.max := by
        have : IntKind.i64.max = 9223372036854775807 := by decide
        rw [this]; omega
      simp only [Op.stringOp, if_neg h4]; rfl
  all_goals first
    | (cases h; done)
    | (cases h; exact key _ rfl (by simp [Op.stringOp]))
theorem run_eqb {t : Nat} (hu : P.underlying t = some .bool) (m n : Bool) (w : World) : (Op.equal t (.bool m) (.bool n)).run P w = .ok (m == n) w := by
  show (Op.equalIn (9999 + 1) t (.bool m) (.bool n)).run P w = _
  rw [Op.equalIn, Sem.run_bind, run_underlying hu, Result.andThen_ok]
  rfl
theorem op_beq (hs : HS w0 X M ι s.ob w) (ht : TS ι s a) (t yt : Nat) (ti : TI) (hti : TIok P t ti) (hk : ti.k = .bool) (x y : Operand) (m n : Bool) (hx : ev s x = .at (.bool m)) (hy : ev s y = .at (.bool n)) (ty : TypeId) :
    Does P (.binOp .eql t x y yt) ty a.eval w (Post w0 X M ι s ⟨.at (.bool (m == n)), [], []⟩) := by
  have h1 : a.eval x = .bool m := ev_at ht hx
  have h2 : a.eval y = .bool n := ev_at ht hy
  have hu := hti.und
  rw [hk] at hu
  refine bin_of (r := .bool (m == n)) h1 h2 (by intro cs h; cases h) (by intro h; cases h) ?_ hs (show RepAV ι s.ob (.bool (m == n)) _ from rfl) ty
  show (do pure (Value.bool (← Op.equal t (.bool m) (.bool n))) : Sem Value).run P w = _
  rw [Sem.run_bind, run_eqb hu]; rfl
theorem op_bne (hs : HS w0 X M ι s.ob w) (ht : TS ι s a) (t yt : Nat) (ti : TI) (hti : TIok P t ti) (hk : ti.k = .bool) (x y : Operand) (m n : Bool) (hx : ev s x = .at (.bool m)) (hy : ev s y = .at (.bool n)) (ty : TypeId) :
    Does P (.binOp .neq t x y yt) ty a.eval w (Post w0 X M ι s ⟨.at (.bool (!(m == n))), [], []⟩) := by
  have h1 : a.eval x = .bool m := ev_at ht hx
  have h2 : a.eval y = .bool n := ev_at ht hy
  have hu := hti.und
  rw [hk] at hu
  refine bin_of (r := .bool (!(m == n))) h1 h2 (by intro cs h; cases h) (by intro h; cases h) ?_ hs (show RepAV ι s.ob (.bool (!(m == n))) _ from rfl) ty
  show (do pure (Value.bool (!(← Op.equal t (.bool m) (.bool n)))) : Sem Value).run P w = _
  rw [Sem.run_bind, run_eqb hu]; rfl
theorem op_not (hs : HS w0 X M ι s.ob w) (ht : TS ι s a) (t : Nat) (x : Operand) (b : Bool) (hx : ev s x = .at (.bool b)) (ty : TypeId) : Does P (.unOp .not t x) ty a.eval w (Post w0 X M ι s ⟨.at (.bool (!b)), [], []⟩) := by
  have h1 : a.eval x = .bool b := ev_at ht hx
  exact Does.value (v := .bool !b) (w' := w) (fun _ _ _ _ => by simp [execOp, h1, Op.unary]) (Post.same hs (d := .at (.bool (!b))) rfl [])
theorem op_neg (hs : HS w0 X M ι s.ob w) (ht : TS ι s a) (t : Nat) (x : Operand) (k : IntKind) (n : Int) (hx : ev s x = .at (.int k n)) (ty : TypeId) : Does P (.unOp .neg t x) ty a.eval w (Post w0 X M ι s ⟨.at (.int k (k.wrap (0 - n))), [], []⟩) := by
  have h1 : a.eval x = .int k n := ev_at ht hx
  exact Does.value (v := .int k (k.wrap (0 - n))) (w' := w) (fun _ _ _ _ => by simp [execOp, h1, Op.unary, Op.intArith]) (Post.same hs (d := .at (.int k (k.wrap (0 - n)))) rfl [])
theorem und_some {t : Nat} {ti : TI} (h : TIok P t ti) : ∃ d, P.underlying t = some d := by
  have hu := h.und
  split at hu
  · exact ⟨_, hu⟩
  · exact ⟨_, hu⟩
  · exact ⟨_, hu⟩
  · exact ⟨_, hu⟩
  · obtain ⟨F, hu, _, _⟩ := hu; exact ⟨_, hu⟩
  · obtain ⟨hu, _⟩ := hu; exact ⟨_, hu⟩
  · obtain ⟨d, hu, _⟩ := hu; exact ⟨_, hu⟩
theorem op_conv_num (hs : HS w0 X M ι s.ob w) (ht : TS ι s a) (t0 t : Nat) (ti0 ti : TI) (h0 : TIok P t0 ti0) (hti : TIok P t ti) (k k' : IntKind) (hk : ti.k = .num k) (x : Operand) (n : Int) (hx : ev s x = .at (.int k' n)) (ty : TypeId) :
    Does P (.convert t0 t x) ty a.eval w (Post w0 X M ι s ⟨.at (.int k (k.wrap n)), [], []⟩) := by
  have h1 : a.eval x = .int k' n := ev_at ht hx
  obtain ⟨d, hd⟩ := und_some h0
  have hu := hti.und
  rw [hk] at hu
  exact Does.value (v := .int k (k.wrap n)) (w' := w) (fun _ _ _ _ => by simp [execOp, h1, convert, run_underlying hd, run_underlying hu, Conv.intToInt]) (Post.same hs (d := .at (.int k (k.wrap n))) rfl [])
theorem op_conv_str (hs : HS w0 X M ι s.ob w) (ht : TS ι s a) (t0 t : Nat) (ti0 ti : TI) (h0 : TIok P t0 ti0) (hti : TIok P t ti) (hk : ti.k = .str) (x : Operand) (b : ByteArray) (hx : ev s x = .at (.str b)) (ty : TypeId) :
    Does P (.convert t0 t x) ty a.eval w (Post w0 X M ι s ⟨.at (.str b), [], []⟩) := by
  have h1 : a.eval x = .string b := ev_at ht hx
  obtain ⟨d, hd⟩ := und_some h0
  have hu := hti.und
  rw [hk] at hu
  exact Does.value (v := .string b) (w' := w) (fun _ _ _ _ => by simp [execOp, h1, convert, run_underlying hd, run_underlying hu]) (Post.same hs (d := .at (.str b)) rfl [])
/-! Fields and elements. -/
theorem isBox_of {b : Nat} (h : isBox s b = true) : ∃ t c, s.ob b = some (.box t c) := by
  unfold isBox at h
  split at h
  · rename_i t c h'; exact ⟨t, c, h'⟩
  · cases h
theorem eptr_sh {r i off : Nat} {v : Value} (h : RepAV ι s.ob (.eptr r i off) v) {o : Obj} {t : Ty} {m : Nat} (hr : s.ob r = some o) (hs : o.shp = some (t, m)) :
    i < m ∧ ∃ ad, (ι r).a = some ad ∧ ad.spot = none ∧ v = .pointer (some (ad.add (i * t.size + off))) := by
  obtain ⟨_, o', ho, h⟩ := h
  rw [hr] at ho
  cases ho
  exact h _ _ hs
theorem isRow_of {b : Nat} (h : isRow s b = true) : ∃ o t m, s.ob b = some o ∧ o.shp = some (t, m) := by
  unfold isRow at h
  split at h
  · rename_i e t o l h'; exact ⟨_, t, l.length, h', rfl⟩
  · rename_i e t l o h'; exact ⟨_, t, l.length, h', rfl⟩
  · cases h
theorem op_fieldAddr_box (hs : HS w0 X M ι s.ob w) (ht : TS ι s a) (t : Nat) (ti : TI) (hti : TIok P t ti) (fs : List (Nat × Nat)) (hk : ti.k = .st fs) (x : Operand) (b off : Nat) (hx : ev s x = .at (.bptr b off)) (hb : isBox s b = true) (f : Nat) (p : Nat × Nat) (hp : fs[f]? = some p) (tc : List Nat) (ty : TypeId) :
    Does P (.fieldAddr t x f) ty a.eval w (Post w0 X M ι s ⟨.at (.bptr b (off + p.1)), [], tc⟩) := by
  have hu := hti.und
  rw [hk] at hu
  obtain ⟨F, hu, hFi, hF⟩ := hu
  obtain ⟨fd, k1, k2, k3, j, k4, k5⟩ := hF f p hp
  obtain ⟨bt, c, hb⟩ := isBox_of hb
  obtain ⟨g, cs, h1, h2, h3, h4⟩ := bptr_of hs (ev_at ht hx) hb
  refine Does.value (v := .pointer (some ⟨g, off + p.1, none⟩)) (w' := w) (fun _ _ _ _ => ?_) (Post.same hs (d := .at (.bptr b (off + p.1))) ⟨rfl, _, hb, fun t' c' e => ⟨g, h1, rfl⟩⟩ tc)
  simp [execOp, h2, Instr.fieldAt, run_underlying hu, k1, Instr.sureAddr, fieldPlace, sizeOf, typeInfo, k4, k5, k2, Addr.add_mid]
theorem op_fieldAddr_elem (hs : HS w0 X M ι s.ob w) (ht : TS ι s a) (t : Nat) (ti : TI) (hti : TIok P t ti) (fs : List (Nat × Nat)) (hk : ti.k = .st fs) (x : Operand) (r i off : Nat) (hx : ev s x = .at (.eptr r i off)) (hb : isRow s r = true) (f : Nat) (p : Nat × Nat) (hp : fs[f]? = some p) (tc : List Nat) (ty : TypeId) :
    Does P (.fieldAddr t x f) ty a.eval w (Post w0 X M ι s ⟨.at (.eptr r i (off + p.1)), [], tc⟩) := by
  have hu := hti.und
  rw [hk] at hu
  obtain ⟨F, hu, hFi, hF⟩ := hu
  obtain ⟨fd, k1, k2, k3, j, k4, k5⟩ := hF f p hp
  obtain ⟨o, rt, m, hr, hm⟩ := isRow_of hb
  obtain ⟨hi, ad, h1, h0, h2⟩ := eptr_sh (ev_at ht hx) hr hm
  refine Does.value (v := .pointer (some (ad.add (i * rt.size + off + p.1)))) (w' := w) (fun _ _ _ _ => ?_) (Post.same hs (d := .at (.eptr r i (off + p.1))) ⟨rfl, _, hr, fun t' m he => ?_⟩ tc)
  · simp [execOp, h2, Instr.fieldAt, run_underlying hu, k1, Instr.sureAddr, fieldPlace, sizeOf, typeInfo, k4, k5, k2, add_add _ _ _ h0]
  · rw [hm] at he; cases he; exact ⟨hi, ad, h1, h0, by rw [Nat.add_assoc]⟩
theorem ptr_box (hs : HS w0 X M ι s.ob w) (ht : TS ι s a) {x : Operand} {b off : Nat} (hx : ev s x = .at (.bptr b off)) (hb : isBox s b = true) : ∃ A, a.eval x = .pointer (some A) := by
  obtain ⟨bt, c, hb⟩ := isBox_of hb
  obtain ⟨g, cs, h1, h2, h3, h4⟩ := bptr_of hs (ev_at ht hx) hb
  exact ⟨_, h2⟩
theorem ptr_row (ht : TS ι s a) {x : Operand} {b i off : Nat} (hx : ev s x = .at (.eptr b i off)) (hb : isRow s b = true) : ∃ A, a.eval x = .pointer (some A) := by
  obtain ⟨o, rt, m, hr, hm⟩ := isRow_of hb
  obtain ⟨hi, ad, h1, h0, h2⟩ := eptr_sh (ev_at ht hx) hr hm
  exact ⟨_, h2⟩
theorem op_indexAddr {cx : Cx} (htt : TTok P cx.tt) (hs : HS w0 X M ι s.ob w) (ht : TS ι s a) (t z : Nat) (hz : szE cx t = some z) (x i : Operand) (r off m : Nat) (k : IntKind) (n : Int) (hi : ev s i = .at (.int k n)) {e : Nat} {rt : Ty} {own : Bool} {l : List rt.den} (hr : s.ob r = some (.row e rt own l)) (hsz : rt.size = z)
    (A : Option Addr) (c : Nat) (hv : a.eval x = .slice A m c) (hA : ∀ ad, (ι r).a = some ad → ad.spot = none → (A = some (ad.add (off * rt.size)))) (h0 : 0 ≤ n) (h1 : n < m) (hm : off + m ≤ l.length) (tc : List Nat) (ty : TypeId) :
    Does P (.indexAddr t x i) ty a.eval w (Post w0 X M ι s ⟨.at (.eptr r (off + n.toNat) 0), [], tc⟩) := by
  have h2 : a.eval i = .int k n := ev_at ht hi
  unfold szE at hz
  obtain ⟨ti, q1, hz⟩ := Option.bind_eq_some_iff.1 hz
  split at hz
  · rename_i e' hk
    obtain ⟨te, q2, hz⟩ := Option.bind_eq_some_iff.1 hz
    cases hz
    have hu := (htt _ _ q1).und
    rw [hk] at hu
    have hlt : off + n.toNat < l.length := by omega
    obtain ⟨ad, k1, k2, k3, _⟩ := row_at hs hr (List.getElem?_eq_getElem hlt)
    have hA' := hA ad k1 k2
    refine Does.value (v := .pointer (some (ad.add ((off + n.toNat) * rt.size)))) (w' := w) (fun _ _ _ _ => ?_) (Post.same hs (d := .at (.eptr r (off + n.toNat) 0)) ⟨rfl, _, hr, fun t' m he => ?_⟩ tc)
    · simp only [execOp, hv, h2, hA', Instr.indexAt, run_underlying hu, asIntOf, Sem.run_bind, Sem.run_pure, Result.andThen_ok]
      rw [if_pos ⟨h0, h1⟩]
      simp [run_sizeOf (htt _ _ q2), ← hsz, add_add _ _ _ k2, Nat.add_mul]
    · cases he; exact ⟨hlt, ad, k1, k2, rfl⟩
  · cases hz
theorem op_index (hs : HS w0 X M ι s.ob w) (ht : TS ι s a) (t : Nat) (ti : TI) (hti : TIok P t ti) (hk : ti.k = .str) (x i : Operand) (b : ByteArray) (k : IntKind) (n : Int) (hx : ev s x = .at (.str b)) (hi : ev s i = .at (.int k n)) (h0 : 0 ≤ n) (c : UInt8) (hc : b[n.toNat]? = some c) (ty : TypeId) :
    Does P (.index t x i) ty a.eval w (Post w0 X M ι s ⟨.at (.int .u8 c.toNat), [], []⟩) := by
  have h1 : a.eval x = .string b := ev_at ht hx
  have h2 : a.eval i = .int k n := ev_at ht hi
  have hu := hti.und
  rw [hk] at hu
  exact Does.value (v := .int .u8 c.toNat) (w' := w) (fun _ _ _ _ => by simp [execOp, h1, h2, Instr.index, asIntOf, run_underlying hu, h0, hc]) (Post.same hs (d := .at (.int .u8 c.toNat)) rfl [])
theorem op_extract (hs : HS w0 X M ι s.ob w) (ht : TS ι s a) (x : Operand) (i : Nat) (vs : List (Bool × List AV)) (hx : ev s x = .tup vs) (p : Bool × List AV) (hp : vs[i]? = some p) (d : DV) (hd : (∃ v, p = (false, [v]) ∧ d = .at v) ∨ ∃ l, p = (true, l) ∧ d = .agg l) (ty : TypeId) :
    Does P (.extract x i) ty a.eval w (Post w0 X M ι s ⟨d, [], []⟩) := by
  have h := RepDV.ev ht x
  rw [hx] at h
  obtain ⟨us, h1, h2⟩ := h
  obtain ⟨v, k1, k2⟩ := All2.get h2 hp
  refine Does.value (v := v) (w' := w) (fun _ _ _ _ => by simp [execOp, h1, Instr.extract, k1]) (Post.same hs ?_ [])
  rcases hd with ⟨y, rfl, rfl⟩ | ⟨l, rfl, rfl⟩
  · exact k2 y rfl
  · exact k2
theorem op_field (hs : HS w0 X M ι s.ob w) (ht : TS ι s a) {tt : Nat → Option TI} (htt : TTok P tt) (t : Nat) (ti : TI) (hti : TIok P t ti) (fs : List (Nat × Nat)) (hk : ti.k = .st fs) (x : Operand) (l : List AV) (hx : ev s x = .agg l) (f : Nat) (p : Nat × Nat) (hp : fs[f]? = some p)
    (tp : TI) (htp : tt p.2 = some tp) (hl : (subL l p.1 tp.sz).length = tp.sz) (d : DV) (hd : (tp.agg = true ∧ d = .agg (subL l p.1 tp.sz)) ∨ (tp.agg = false ∧ ∃ v, subL l p.1 tp.sz = [v] ∧ d = .at v)) (ty : TypeId) :
    Does P (.field t x f) ty a.eval w (Post w0 X M ι s ⟨d, [], []⟩) := by
  have hu := hti.und
  rw [hk] at hu
  obtain ⟨F, hu, hFi, hF⟩ := hu
  obtain ⟨fd, k1, k2, k3, j, k4, k5⟩ := hF f p hp
  have h := RepDV.ev ht x
  rw [hx] at h
  obtain ⟨cs, h1, h2⟩ := h
  have h5 := All2.sub p.1 tp.sz h2
  have hq := htt _ _ htp
  refine Does.value (v := if tp.agg then .agg (subL cs p.1 tp.sz).toArray else (subL cs p.1 tp.sz).headD undef) (w' := w) (fun _ _ _ _ => ?_) (Post.same hs (rep_load h5 hl hd) [])
  simp only [execOp, h1, Instr.field, run_underlying hu, asAgg, k1, k2, k3, Sem.run_bind, Sem.run_pure, Result.andThen_ok, part, run_isAgg hq]
  cases hg : tp.agg
  · simp only [Bool.false_eq_true, if_false]
    rcases hd with ⟨h, _⟩ | ⟨_, v, hv, _⟩
    · rw [hg] at h; cases h
    · rw [hv] at h5
      have l1 : (subL cs p.1 tp.sz).length = 1 := by rw [← All2.len h5]; rfl
      match hc : subL cs p.1 tp.sz, l1 with
      | [u], _ =>
        have : cs[p.1]? = some u := sub_get (off := p.1) (n := tp.sz) (j := 0) (by rw [hc]; rfl)
        simp [this]
  · simp only [if_true, run_sizeOf hq, Sem.run_bind, Sem.run_pure, Result.andThen_ok]
    congr 3
    apply Array.ext'
    simp [subL, List.extract_toArray, Array.toList_extract, List.extract_eq_take_drop]
end
end Go.Proofs.Ytpinehfjimphmaa.DI
