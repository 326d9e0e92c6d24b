import PyProof.Rows.All
import Wide.All
import OpenK.AllK
import Wide.FinOn
import HandS.ForMost
import HandS.Exc
import HandS.TryOnly
import HandS.TryMany
import HandS.ExcOwn
import HandS.WordsExc
import HandS.Walk
import HandS.Lambda
import HandS.Style
import HandS.Flow
import HandS.Sort
import HandS.SortKw
import HandS.SortInts
import HandS.Conv
import HandS.Deep
import HandS.DeepEq
import HandS.TupAny
import HandS.TupMul
import HandS.DictComp
import HandS.SetFor
import HandS.Zip
import HandS.Rev
import HandS.RevRange
import HandS.AnyAll
import HandS.JoinGen
import HandS.HotCalls
import HandS.SuiteRaise
import HandS.Wide
import HandS.HeadHook4
import HandS.HeadWalk
import HandS.Head4
import HandS.RaiseMore
import HandS.StrMore
import HandS.ListItems
import HandS.Head2
import HandS.NestedK
import HandS.GenList
import PyProof.SumAny
import PyProof.ConsumeS
import HandS.Iter
import KE.OsSort
import KE.GoesEnum
import KE.KTupSum
import KE.DatumOrd
import PyProof.TupleOfSeq
import HandS.Dict
import HandS.DictEq
import KE.KIndexOf
import KE.KSortAsk
import PyProof.Rows.SortStr
import KE.KDictSum
import KE.DataMinMax
import KE.DataCmp
import KE.SortData
import PySem.Challenge.RW_baskethall_k04_bases
set_option Elab.async false
set_option linter.all false
set_option maxRecDepth 100000
set_option maxHeartbeats 4000000
section
/-! Ac1: data without a heap, cells by number, worlds. -/
namespace Ac
open PySem PySem.Spec PyProof.Rows L2

abbrev Tx := List Nat
def Tx.s (x : Tx) : Str := ⟨x.toArray⟩
abbrev Kt := Sum Int Tx
def Kt.key : Kt → Key
  | .inl i => .inl i
  | .inr x => .inr (Tx.s x)
inductive D where
  | non | bl (b : Bool) | int (i : Int) | str (x : Tx) | tup (xs : List D) | lst (xs : List D) | dct (ks : List (Kt × D)) | rf (n : Nat) | ty (n : String)
  | dtt (ks : List (List Kt × D)) | obj (C : Nat) (xs : List D) | lsk (xs : List D) | lam (n : Nat)
/-- a world: what stands for good, where the cells are, what is hidden, the classes (where, their fields) -/
structure Rw where
  h : Hp
  v : Nat → Option Addr
  p : Hp
  c : Nat → Addr × List Str

mutual
inductive Rp (K : PySem.W.Frag) (R : Rw) : V → D → Prop
  | non : Rp K R .non .non
  | bl {b : Bool} : Rp K R (.bl b) (.bl b)
  | int {i : Int} : Rp K R (.int i) (.int i)
  | str {x : Tx} : Rp K R (.str (Tx.s x)) (.str x)
  | ty {n : String} : Rp K R (.ty n) (.ty n)
  | rf {a : Addr} {n : Nat} : R.v n = some a → Rp K R (.ref a) (.rf n)
  | tup {a : Addr} {vs : List V} {ds : List D} : SqT K R.h a vs → Rps K R vs ds → Rp K R (.ref a) (.tup ds)
  | lst {a : Addr} {vs : List V} {ds : List D} : R.h a = some (.lst vs) → Rps K R vs ds → Rp K R (.ref a) (.lst ds)
  | lsk {a : Addr} {vs : List V} {ds : List D} : SqL K R.h a vs → Rps K R vs ds → Rp K R (.ref a) (.lsk ds)
  | dct {a : Addr} {kvs : List (Key × V)} {ks : List (Kt × D)} : R.h a = some (.dK kvs) → Rpk K R kvs ks → Rp K R (.ref a) (.dct ks)
  | dtt {a : Addr} {kvs : List (List Key × V)} {ks : List (List Kt × D)} : R.h a = some (.dT kvs) → Rpt K R kvs ks → Rp K R (.ref a) (.dtt ks)
  | obj {a dx : Addr} {C : Nat} {vs : List V} {ds : List D} : R.h a = some (.ins (R.c C).1 dx ((R.c C).2.zip vs)) → vs.length ≤ (R.c C).2.length → Rps K R vs ds → Rp K R (.ref a) (.obj C ds)
inductive Rps (K : PySem.W.Frag) (R : Rw) : List V → List D → Prop
  | nil : Rps K R [] []
  | cons {v : V} {vs : List V} {d : D} {ds : List D} : Rp K R v d → Rps K R vs ds → Rps K R (v :: vs) (d :: ds)
inductive Rpk (K : PySem.W.Frag) (R : Rw) : List (Key × V) → List (Kt × D) → Prop
  | nil : Rpk K R [] []
  | cons {k : Kt} {v : V} {kvs : List (Key × V)} {d : D} {ks : List (Kt × D)} : Rp K R v d → Rpk K R kvs ks → Rpk K R ((k.key, v) :: kvs) ((k, d) :: ks)
inductive Rpt (K : PySem.W.Frag) (R : Rw) : List (List Key × V) → List (List Kt × D) → Prop
  | nil : Rpt K R [] []
  | cons {k : List Kt} {v : V} {kvs : List (List Key × V)} {d : D} {ks : List (List Kt × D)} : Rp K R v d → Rpt K R kvs ks → Rpt K R ((k.map Kt.key, v) :: kvs) ((k, d) :: ks)
end

/-- the world grows; what is hidden does not matter -/
structure Lw (R R' : Rw) : Prop where
  h : ∀ a o, R.h a = some o → R'.h a = some o
  v : ∀ n a, R.v n = some a → R'.v n = some a
  c : R'.c = R.c
/-- the world grows -/
structure Le (R R' : Rw) : Prop extends Lw R R' where
  p : R'.p = R.p
theorem Lw.refl (R : Rw) : Lw R R := ⟨fun _ _ h => h, fun _ _ h => h, rfl⟩
theorem Lw.trans {R R1 R2 : Rw} (a : Lw R R1) (b : Lw R1 R2) : Lw R R2 := ⟨fun x u h => b.h x u (a.h x u h), fun n x h => b.v n x (a.v n x h), b.c.trans a.c⟩
theorem Le.refl (R : Rw) : Le R R := ⟨Lw.refl R, rfl⟩
theorem Le.trans {R R1 R2 : Rw} (a : Le R R1) (b : Le R1 R2) : Le R R2 := ⟨a.toLw.trans b.toLw, b.p.trans a.p⟩
abbrev Rw.upd (R : Rw) (a : Addr) (o : HO) : Rw := { R with h := L2.upd R.h a o }
abbrev Rw.hide (R : Rw) (a : Addr) (o : HO) : Rw := { R with p := L2.upd R.p a o }
abbrev Rw.bind (R : Rw) (n : Nat) (a : Addr) : Rw := { R with v := fun m => if m = n then some a else R.v m }
theorem Le.upd {R : Rw} {a : Addr} {o : HO} (h : R.h a = none) : Le R (R.upd a o) := ⟨⟨fun b u q => by
  show L2.upd R.h a o b = some u
  rw [upd_ne (ne_of_none q h)]; exact q, fun _ _ h => h, rfl⟩, rfl⟩
theorem Le.bind {R : Rw} {n : Nat} {a : Addr} (h : R.v n = none) : Le R (R.bind n a) := ⟨⟨fun _ _ h => h, fun m b q => by
  show (if m = n then some a else R.v m) = some b
  by_cases e : m = n
  · subst e; rw [h] at q; cases q
  · rw [if_neg e]; exact q, rfl⟩, rfl⟩
def IsDk : HO → Prop
  | .dK _ => True
  | .dT _ => True
  | _ => False
/-- R is told by the heap; a dict may be locked -/
def Sb (R H : Hp) : Prop := ∀ a o, R a = some o → H a = some o ∨ (IsDk o ∧ ∃ ob, H a = some (.frz ob o))
theorem Sb.le {R R' : Rw} {H : Hp} (l : Le R R') (h : Sb R'.h H) : Sb R.h H := fun a o e => h a o (l.h a o e)
theorem Sb.rd {R H : Hp} (h : Sb R H) {a : Addr} {u : HO} (q : Rd R a u) : Rd H a u := by
  rcases q with z | ⟨o, z⟩
  · rcases h a u z with y | ⟨_, ob, y⟩
    · exact .inl y
    · exact .inr ⟨ob, y⟩
  · rcases h a _ z with y | ⟨y, _⟩
    · exact .inr ⟨o, y⟩
    · exact y.elim
theorem Sb.at {R H : Hp} (h : Sb R H) {a : Addr} {u : HO} (q : R a = some u) (n : ¬ IsDk u) : H a = some u := by
  rcases h a u q with y | ⟨y, _⟩
  · exact y
  · exact (n y).elim
theorem Sb.non {R H : Hp} (h : Sb R H) {a : Addr} (e : H a = none) : R a = none := by
  cases q : R a with
  | none => rfl
  | some u => rcases h a u q with z | ⟨_, o, z⟩ <;> (rw [e] at z; cases z)
/-- a cell that R does not know is written -/
theorem Sb.write {R H : Hp} {a : Addr} {o : HO} (l : Sb R H) (h : R a = none) : Sb R (L2.upd H a o) := fun b u q => by
  rw [upd_ne (ne_of_none q h)]; exact l b u q
theorem Sb.upd2 {R H : Hp} {a : Addr} {o : HO} (l : Sb R H) (h : H a = Option.none) : Sb (L2.upd R a o) (L2.upd H a o) := fun b u q => by
  by_cases hb : b = a
  · subst hb
    rw [upd_same] at q; exact .inl (by rw [upd_same]; exact q)
  · rw [upd_ne hb] at q ⊢; exact l b u q
theorem Sb.sqT {K : PySem.W.Frag} {R H : Hp} {a : Addr} {vs : List V} (h : Sb R H) (q : SqT K R a vs) : SqT K H a vs := q.elim (fun z => .inl (h.rd z)) .inr
theorem Sb.sqL {K : PySem.W.Frag} {R H : Hp} {a : Addr} {vs : List V} (h : Sb R H) (q : SqL K R a vs) : SqL K H a vs := q.elim (fun z => .inl (h.rd z)) .inr
theorem Rd.mono {R R' : Hp} (h : ∀ a o, R a = some o → R' a = some o) {a : Addr} {u : HO} (q : Rd R a u) : Rd R' a u := by
  rcases q with z | ⟨o, z⟩
  · exact .inl (h _ _ z)
  · exact .inr ⟨o, h _ _ z⟩
section
variable {K : PySem.W.Frag} {R R' : Rw} {a : Addr} {vs : List V}
theorem Lw.sqT (h : Lw R R') (q : SqT K R.h a vs) : SqT K R'.h a vs := q.elim (fun z => .inl (Rd.mono h.h z)) .inr
theorem Lw.sqL (h : Lw R R') (q : SqL K R.h a vs) : SqL K R'.h a vs := q.elim (fun z => .inl (Rd.mono h.h z)) .inr
mutual
theorem Rp.lw (h : Lw R R') : ∀ {d : D} {v : V}, Rp K R v d → Rp K R' v d
  | .non, _, q => by cases q; exact .non
  | .bl _, _, q => by cases q; exact .bl
  | .int _, _, q => by cases q; exact .int
  | .str _, _, q => by cases q; exact .str
  | .ty _, _, q => by cases q; exact .ty
  | .rf _, _, q => by cases q with | rf e => exact .rf (h.v _ _ e)
  | .tup ds, _, q => by cases q with | tup s r => exact .tup (h.sqT s) (Rps.lw h r)
  | .lst ds, _, q => by cases q with | lst s r => exact .lst (h.h _ _ s) (Rps.lw h r)
  | .lsk ds, _, q => by cases q with | lsk s r => exact .lsk (h.sqL s) (Rps.lw h r)
  | .dct ks, _, q => by cases q with | dct s r => exact .dct (h.h _ _ s) (Rpk.lw h r)
  | .dtt ks, _, q => by cases q with | dtt s r => exact .dtt (h.h _ _ s) (Rpt.lw h r)
  | .obj C fs, _, q => by cases q with | obj s n r => exact .obj (by rw [h.c]; exact h.h _ _ s) (by rw [h.c]; exact n) (Rps.lw h r)
  | .lam _, _, q => by cases q
theorem Rps.lw (h : Lw R R') : ∀ {ds : List D} {vs : List V}, Rps K R vs ds → Rps K R' vs ds
  | [], _, q => by cases q; exact .nil
  | d :: ds, _, q => by cases q with | cons r s => exact .cons (Rp.lw h r) (Rps.lw h s)
theorem Rpk.lw (h : Lw R R') : ∀ {ks : List (Kt × D)} {kvs : List (Key × V)}, Rpk K R kvs ks → Rpk K R' kvs ks
  | [], _, q => by cases q; exact .nil
  | (k, d) :: ks, _, q => by cases q with | cons r s => exact .cons (Rp.lw h r) (Rpk.lw h s)
theorem Rpt.lw (h : Lw R R') : ∀ {ks : List (List Kt × D)} {kvs : List (List Key × V)}, Rpt K R kvs ks → Rpt K R' kvs ks
  | [], _, q => by cases q; exact .nil
  | (k, d) :: ks, _, q => by cases q with | cons r s => exact .cons (Rp.lw h r) (Rpt.lw h s)
end
theorem Rp.le (h : Le R R') {d : D} {v : V} (q : Rp K R v d) : Rp K R' v d := q.lw h.toLw
theorem Rps.le (h : Le R R') {d : List D} {v : List V} (q : Rps K R v d) : Rps K R' v d := q.lw h.toLw
theorem Rpk.le (h : Le R R') {ks : List (Kt × D)} {kvs : List (Key × V)} (q : Rpk K R kvs ks) : Rpk K R' kvs ks := q.lw h.toLw
theorem Rpt.le (h : Le R R') {ks : List (List Kt × D)} {kvs : List (List Key × V)} (q : Rpt K R kvs ks) : Rpt K R' kvs ks := q.lw h.toLw
theorem Le.sqT (h : Le R R') (q : SqT K R.h a vs) : SqT K R'.h a vs := h.toLw.sqT q
theorem Le.sqL (h : Le R R') (q : SqL K R.h a vs) : SqL K R'.h a vs := h.toLw.sqL q
theorem Rpt.length : ∀ {ds : List (List Kt × D)} {vs : List (List Key × V)}, Rpt K R vs ds → vs.length = ds.length
  | [], _, q => by cases q; rfl
  | _ :: _, _, q => by cases q with | cons r s => rw [List.length_cons, List.length_cons, s.length]
theorem Rps.length : ∀ {ds : List D} {vs : List V}, Rps K R vs ds → vs.length = ds.length
  | [], _, q => by cases q; rfl
  | _ :: _, _, q => by cases q with | cons r s => rw [List.length_cons, List.length_cons, s.length]
theorem Rpk.length : ∀ {ds : List (Kt × D)} {vs : List (Key × V)}, Rpk K R vs ds → vs.length = ds.length
  | [], _, q => by cases q; rfl
  | _ :: _, _, q => by cases q with | cons r s => rw [List.length_cons, List.length_cons, s.length]
theorem Rps.get : ∀ {ds : List D} {vs : List V} {i : Nat} {d : D}, Rps K R vs ds → ds[i]? = some d → ∃ v, vs[i]? = some v ∧ Rp K R v d
  | [], _, _, _, q, e => by simp at e
  | d :: ds, _, 0, _, q, e => by cases q with | cons r s => simp at e; subst e; exact ⟨_, rfl, r⟩
  | d :: ds, _, i + 1, _, q, e => by
    cases q with
    | cons r s =>
      obtain ⟨v, h1, h2⟩ := Rps.get s (by simpa using e)
      exact ⟨v, by simpa using h1, h2⟩
theorem Rps.getV : ∀ {ds : List D} {vs : List V} {i : Nat} {v : V}, Rps K R vs ds → vs[i]? = some v → ∃ d, ds[i]? = some d ∧ Rp K R v d
  | [], _, _, _, q, e => by cases q; simp at e
  | d :: ds, _, 0, _, q, e => by cases q with | cons r s => simp at e; subst e; exact ⟨_, rfl, r⟩
  | d :: ds, _, i + 1, _, q, e => by
    cases q with
    | cons r s =>
      obtain ⟨v, h1, h2⟩ := Rps.getV s (by simpa using e)
      exact ⟨v, by simpa using h1, h2⟩
theorem Rps.append {ws : List V} : ∀ {ds es : List D} {vs : List V}, Rps K R vs ds → Rps K R ws es → Rps K R (vs ++ ws) (ds ++ es)
  | [], _, _, q, s => by cases q; exact s
  | _ :: _, _, _, q, s => by cases q with | cons r t => exact .cons r (t.append s)
theorem Rps.set {v : V} {d : D} (r : Rp K R v d) : ∀ {ds : List D} {vs : List V} (i : Nat), Rps K R vs ds → Rps K R (vs.set i v) (ds.set i d)
  | [], _, _, q => by cases q; exact .nil
  | _ :: _, _, 0, q => by cases q with | cons _ t => exact .cons r t
  | _ :: _, _, i + 1, q => by cases q with | cons a t => exact .cons a (t.set r i)
theorem Rps.take : ∀ {ds : List D} {vs : List V} (n : Nat), Rps K R vs ds → Rps K R (vs.take n) (ds.take n)
  | _, _, 0, _ => .nil
  | [], _, _ + 1, q => by cases q; exact .nil
  | _ :: _, _, n + 1, q => by cases q with | cons a t => exact .cons a (t.take n)
theorem Rps.drop : ∀ {ds : List D} {vs : List V} (n : Nat), Rps K R vs ds → Rps K R (vs.drop n) (ds.drop n)
  | _, _, 0, q => q
  | [], _, _ + 1, q => by cases q; exact .nil
  | _ :: _, _, n + 1, q => by cases q with | cons a t => exact t.drop n
theorem Rps.ints : ∀ {ns : List Int} {vs : List V}, Rps K R vs (ns.map D.int) → vs = ns.map V.int
  | [], _, q => by cases q; rfl
  | _ :: _, _, q => by cases q with | cons r t => cases r; rw [t.ints]; rfl
theorem Rps.strs : ∀ {ns : List Tx} {vs : List V}, Rps K R vs (ns.map D.str) → vs = ns.map fun x => V.str (Tx.s x)
  | [], _, q => by cases q; rfl
  | _ :: _, _, q => by cases q with | cons r t => cases r; rw [t.strs]; rfl
theorem Rps.ofInts : ∀ {ns : List Int}, Rps K R (ns.map V.int) (ns.map D.int)
  | [] => .nil
  | _ :: _ => .cons .int Rps.ofInts
theorem Rps.ofStrs : ∀ {ns : List Tx}, Rps K R (ns.map fun x => V.str (Tx.s x)) (ns.map D.str)
  | [] => .nil
  | _ :: _ => .cons .str Rps.ofStrs
end

/-! ### cells -/
inductive MO where
  | lst (xs : List D) | dct (ks : List (Kt × D)) | ins (C : Nat) (xs : List D) | dtt (ks : List (List Kt × D))
abbrev Mu := List MO
abbrev Ds := List (Option D)
def MOk (K : PySem.W.Frag) (R : Rw) (H : Hp) (a : Addr) : MO → Prop
  | .lst xs => ∃ vs, H a = some (.lst vs) ∧ Rps K R vs xs
  | .dct ks => ∃ kvs, H a = some (.dK kvs) ∧ Rpk K R kvs ks
  | .ins C xs => ∃ dx vs, H a = some (.ins (R.c C).1 dx ((R.c C).2.zip vs)) ∧ vs.length ≤ (R.c C).2.length ∧ Rps K R vs xs
  | .dtt ks => ∃ kvs, H a = some (.dT kvs) ∧ Rpt K R kvs ks
/-- what a cell may hold, and what may be written over -/
def Wr : HO → Prop
  | .lst _ => True
  | .dK _ => True
  | .dT _ => True
  | .ins _ _ _ => True
  | .frz _ _ => True
  | _ => False
theorem Wr.tbl {u : HO} (h : Wr u) : ∀ ps, u ≠ .tbl ps := fun ps e => by subst e; exact h
theorem Wr.ext {u : HO} (h : Wr u) : ∀ φ, u ≠ .ext φ := fun ps e => by subst e; exact h
/-- the tables of code objects: where, and what a code object at (line, column) is called -/
abbrev Tbl := List (Addr × Str)
structure AR (T : Tbl) (K : PySem.W.Frag) (R : Rw) (L : Mu) (H : Hp) : Prop where
  sub : Sb R.h H
  cel : ∀ (i : Nat) m, L[i]? = some m → ∃ a, R.v i = some a ∧ R.h a = none ∧ R.p a = none ∧ MOk K R H a m
  inj : ∀ (i j : Nat) a, R.v i = some a → R.v j = some a → i = j
  dom : ∀ i : Nat, L.length ≤ i → R.v i = none
  hid : ∀ a o, R.p a = some o → H a = some o ∧ R.h a = none ∧ Wr o
  tnd : (T.map (·.1)).Nodup
  tab : ∀ t ∈ T, R.h t.1 = none ∧ R.p t.1 = none ∧ LamX.TabS H t.1 t.2
  ntb : ∀ a ps, R.h a ≠ some (.tbl ps)
inductive RS (K : PySem.W.Frag) (R : Rw) : L2.St → Ds → Prop
  | nil : RS K R [] []
  | un {v : Option V} {σ : L2.St} {δ : Ds} : RS K R σ δ → RS K R (v :: σ) (none :: δ)
  | so {v : V} {d : D} {σ : L2.St} {δ : Ds} : Rp K R v d → RS K R σ δ → RS K R (some v :: σ) (some d :: δ)
section
variable {K : PySem.W.Frag} {R R' : Rw} {H H' : Hp} {a : Addr} {T : Tbl} {L L' : Mu} {σ : L2.St} {δ : Ds}
theorem RS.lw (h : Lw R R') : ∀ {δ : Ds} {σ : L2.St}, RS K R σ δ → RS K R' σ δ
  | _, _, .nil => .nil
  | _, _, .un s => .un (RS.lw h s)
  | _, _, .so r s => .so (r.lw h) (RS.lw h s)
theorem RS.le (h : Le R R') {δ : Ds} {σ : L2.St} (q : RS K R σ δ) : RS K R' σ δ := q.lw h.toLw
theorem RS.length : ∀ {δ : Ds} {σ : L2.St}, RS K R σ δ → σ.length = δ.length
  | _, _, .nil => rfl
  | _, _, .un s => congrArg Nat.succ (RS.length s)
  | _, _, .so r s => congrArg Nat.succ (RS.length s)
theorem RS.get {d : D} : ∀ {δ : Ds} {σ : L2.St} {i : Nat}, RS K R σ δ → δ[i]? = some (some d) → ∃ v, σ[i]? = some (some v) ∧ Rp K R v d
  | _, _, _, .nil, e => by simp at e
  | _, _, 0, .un s, e => by simp at e
  | _, _, i + 1, .un s, e => RS.get (i := i) s (by simpa using e)
  | _, _, 0, .so r s, e => by simp at e; subst e; exact ⟨_, rfl, r⟩
  | _, _, i + 1, .so r s, e => RS.get (i := i) s (by simpa using e)
theorem RS.set {v : V} {d : D} (r : Rp K R v d) : ∀ {δ : Ds} {σ : L2.St} (i : Nat), RS K R σ δ → RS K R (σ.set i (some v)) (δ.set i (some d))
  | _, _, _, .nil => .nil
  | _, _, 0, .un s => .so r s
  | _, _, i + 1, .un s => .un (RS.set r i s)
  | _, _, 0, .so _ s => .so r s
  | _, _, i + 1, .so q s => .so q (RS.set r i s)
theorem RS.wipe1 : ∀ {δ : Ds} {σ : L2.St} (i : Nat), RS K R σ δ → RS K R (σ.set i none) (δ.set i none)
  | _, _, _, .nil => .nil
  | _, _, 0, .un s => .un s
  | _, _, i + 1, .un s => .un (RS.wipe1 i s)
  | _, _, 0, .so _ s => .un s
  | _, _, i + 1, .so q s => .so q (RS.wipe1 i s)
theorem RS.start : ∀ {ds : List D} {vs : List V} {n : Nat}, Rps K R vs ds → RS K R (vs.map some ++ List.replicate n none) (ds.map some ++ List.replicate n none)
  | [], _, 0, q => by cases q; exact .nil
  | [], _, n + 1, q => by cases q; exact .un (RS.start (n := n) .nil)
  | _ :: _, _, n, q => by cases q with | cons r s => exact .so r (RS.start s)
/-- slots that nothing asks for any more -/
theorem RS.bot : ∀ {δ : Ds} {σ : L2.St}, RS K R σ δ → RS K R σ (List.replicate δ.length none)
  | _, _, .nil => .nil
  | _, _, .un s => .un (RS.bot s)
  | _, _, .so r s => .un (RS.bot s)
theorem MOk.lw {o : MO} (h : Lw R R') (q : MOk K R H a o) : MOk K R' H a o := by
  match o, q with
  | .lst xs, ⟨vs, e, r⟩ => exact ⟨vs, e, r.lw h⟩
  | .dct ks, ⟨kvs, e, r⟩ => exact ⟨kvs, e, r.lw h⟩
  | .ins C fs, ⟨dx, gs, e, n, r⟩ => exact ⟨dx, gs, by rw [h.c]; exact e, by rw [h.c]; exact n, r.lw h⟩
  | .dtt ks, ⟨kvs, e, r⟩ => exact ⟨kvs, e, r.lw h⟩
theorem MOk.le {o : MO} (h : Le R R') (q : MOk K R H a o) : MOk K R' H a o := q.lw h.toLw
theorem MOk.at {o : MO} (q : MOk K R H a o) (e : H' a = H a) : MOk K R H' a o := by
  match o, q with
  | .lst xs, ⟨vs, h, r⟩ => exact ⟨vs, e.trans h, r⟩
  | .dct ks, ⟨kvs, h, r⟩ => exact ⟨kvs, e.trans h, r⟩
  | .ins C fs, ⟨dx, gs, h, n, r⟩ => exact ⟨dx, gs, e.trans h, n, r⟩
  | .dtt ks, ⟨kvs, h, r⟩ => exact ⟨kvs, e.trans h, r⟩
theorem MOk.there {o : MO} (q : MOk K R H a o) : ∃ u, H a = some u ∧ Wr u := by
  match o, q with
  | .lst xs, ⟨vs, h, r⟩ => exact ⟨_, h, trivial⟩
  | .dct ks, ⟨kvs, h, r⟩ => exact ⟨_, h, trivial⟩
  | .ins C fs, ⟨dx, gs, h, _, r⟩ => exact ⟨_, h, trivial⟩
  | .dtt ks, ⟨kvs, h, r⟩ => exact ⟨_, h, trivial⟩
theorem TabN.new {P p : Addr} {nm : Str} {o : HO} (t : LamX.TabS H P nm) (h : H p = none) : LamX.TabS (L2.upd H p o) P nm := by
  obtain ⟨ps, h1, h2, h3⟩ := t
  refine ⟨ps, by rw [upd_ne (ne_of_none h1 h)]; exact h1, h2, fun pos cv hc => ?_⟩
  obtain ⟨c, e1, e2⟩ := h3 pos cv hc
  exact ⟨c, e1, by rw [upd_ne (ne_of_none e2 h)]; exact e2⟩
theorem TabN.write {P p : Addr} {nm : Str} {o u : HO} (t : LamX.TabS H P nm) (h : H p = some u) (h1 : ∀ ps, u ≠ .tbl ps) (h2 : ∀ φ, u ≠ .ext φ) : LamX.TabS (L2.upd H p o) P nm := by
  obtain ⟨ps, e1, e2, e3⟩ := t
  refine ⟨ps, by rw [upd_ne (ne_of e1 h fun z => h1 ps z.symm)]; exact e1, e2, fun pos cv hc => ?_⟩
  obtain ⟨c, q1, q2⟩ := e3 pos cv hc
  exact ⟨c, q1, by rw [upd_ne (ne_of q2 h fun z => h2 _ (by unfold LamX.CodeO at z; exact z.symm))]; exact q2⟩
theorem AR.at (A : AR T K R L H) {i : Nat} {m : MO} (h : L[i]? = some m) {v : V} (r : Rp K R v (.rf i)) : ∃ a, v = .ref a ∧ R.v i = some a ∧ MOk K R H a m := by
  cases r with
  | rf e =>
    obtain ⟨a, e1, _, _, q⟩ := A.cel i m h
    rw [e] at e1
    cases e1
    exact ⟨_, rfl, e, q⟩
/-- something new stands in H, and nobody knows of it -/
theorem AR.newU {p : Addr} {o : HO} (A : AR T K R L H) (h : H p = none) : AR T K R L (L2.upd H p o) := by
  have hR : R.h p = none := A.sub.non h
  refine ⟨A.sub.write hR, fun i m hi => ?_, A.inj, A.dom, fun a u e => ?_, A.tnd, fun t ht => ?_, A.ntb⟩
  · obtain ⟨a, e1, e2, e3, q⟩ := A.cel i m hi
    obtain ⟨u, hu, _⟩ := q.there
    exact ⟨a, e1, e2, e3, q.at (upd_ne (ne_of_none hu h))⟩
  · obtain ⟨e1, e2, w⟩ := A.hid a u e
    exact ⟨by rw [upd_ne (ne_of_none e1 h)]; exact e1, e2, w⟩
  · obtain ⟨h1, h3, h2⟩ := A.tab t ht
    exact ⟨h1, h3, TabN.new h2 h⟩
/-- something that stands in H is known from now on -/
theorem AR.know {p : Addr} {o : HO} (A : AR T K R L H) (h : H p = some o) (hR : R.h p = none) (hP : R.p p = none) (hv : ∀ i, R.v i ≠ some p) (no : ∀ ps, o ≠ .tbl ps) : AR T K (R.upd p o) L H := by
  refine ⟨fun b u q => ?_, fun i m hi => ?_, A.inj, A.dom, fun a u e => ?_, A.tnd, fun t ht => ?_, fun a ps e => ?_⟩
  · by_cases hb : b = p
    · subst hb
      change L2.upd R.h b o b = some u at q
      rw [upd_same] at q; cases q; exact .inl h
    · change L2.upd R.h p o b = some u at q
      rw [upd_ne hb] at q; exact A.sub b u q
  · obtain ⟨a, e1, e2, e3, q⟩ := A.cel i m hi
    have ne : a ≠ p := fun z => hv i (by rw [← z]; exact e1)
    exact ⟨a, e1, by show L2.upd R.h p o a = none; rw [upd_ne ne]; exact e2, e3, q.le (Le.upd hR)⟩
  · obtain ⟨e1, e2, w⟩ := A.hid a u e
    have ne : a ≠ p := fun z => by subst z; rw [hP] at e; cases e
    exact ⟨e1, by show L2.upd R.h p o a = none; rw [upd_ne ne]; exact e2, w⟩
  · obtain ⟨h1, h3, h2⟩ := A.tab t ht
    obtain ⟨ps, e, _⟩ := _root_.id h2
    have ne : t.1 ≠ p := fun z => by rw [z, h] at e; exact no ps (Option.some.inj e)
    exact ⟨by show L2.upd R.h p o t.1 = none; rw [upd_ne ne]; exact h1, h3, h2⟩
  · by_cases hb : a = p
    · subst hb
      change L2.upd R.h a o a = _ at e
      rw [upd_same] at e; exact no ps (Option.some.inj e)
    · change L2.upd R.h p o a = _ at e
      rw [upd_ne hb] at e; exact A.ntb a ps e
theorem AR.vne (A : AR T K R L H) {p : Addr} (h : H p = none) (i : Nat) : R.v i ≠ some p := fun e => by
  by_cases hi : i < L.length
  · obtain ⟨a, e1, _, _, q⟩ := A.cel i L[i] (by simp [hi])
    obtain ⟨u, hu, _⟩ := q.there
    rw [e] at e1
    cases e1
    rw [h] at hu; cases hu
  · rw [A.dom i (Nat.le_of_not_lt hi)] at e; cases e
theorem AR.pne (A : AR T K R L H) {p : Addr} (h : H p = none) : R.p p = none := by
  cases e : R.p p with
  | none => rfl
  | some o => obtain ⟨z, _⟩ := A.hid p o e; rw [h] at z; cases z
/-- a new thing that stands for good -/
theorem AR.new {p : Addr} {o : HO} (A : AR T K R L H) (h : H p = none) (no : ∀ ps, o ≠ .tbl ps := by intro _ z; cases z) : AR T K (R.upd p o) L (L2.upd H p o) :=
  (A.newU (o := o) h).know upd_same (A.sub.non h) (A.pne h) (fun i => A.vne h i) no
/-- a thing of H becomes a cell -/
theorem AR.bind {p : Addr} {m : MO} (A : AR T K R L H) (hR : R.h p = none) (hP : R.p p = none) (hv : ∀ i, R.v i ≠ some p) (q : MOk K R H p m) : AR T K (R.bind L.length p) (L ++ [m]) H ∧ Le R (R.bind L.length p) := by
  have l : Le R (R.bind L.length p) := Le.bind (A.dom _ (Nat.le_refl _))
  refine ⟨⟨A.sub, fun i m' hi => ?_, fun i j a h1 h2 => ?_, fun i hi => ?_, A.hid, A.tnd, A.tab, A.ntb⟩, l⟩
  · by_cases e : i < L.length
    · rw [List.getElem?_append_left e] at hi
      obtain ⟨a, e1, e2, e3, q'⟩ := A.cel i m' hi
      exact ⟨a, l.v _ _ e1, e2, e3, q'.le l⟩
    · have e' : i = L.length := by
        have := (List.getElem?_eq_some_iff.mp hi).1
        rw [List.length_append, List.length_singleton] at this
        omega
      subst e'
      rw [List.getElem?_append_right (Nat.le_refl _), Nat.sub_self] at hi
      cases hi
      exact ⟨p, if_pos rfl, hR, hP, q.le l⟩
  · change (if i = L.length then some p else R.v i) = some a at h1
    change (if j = L.length then some p else R.v j) = some a at h2
    by_cases e1 : i = L.length
    · by_cases e2 : j = L.length
      · rw [e1, e2]
      · rw [if_pos e1] at h1; rw [if_neg e2] at h2
        cases h1
        exact absurd h2 (hv j)
    · rw [if_neg e1] at h1
      by_cases e2 : j = L.length
      · rw [if_pos e2] at h2
        cases h2
        exact absurd h1 (hv i)
      · rw [if_neg e2] at h2
        exact A.inj i j a h1 h2
  · rw [List.length_append, List.length_singleton] at hi
    show (if i = L.length then some p else R.v i) = none
    rw [if_neg (by omega)]
    exact A.dom i (by omega)
/-- a new cell -/
theorem AR.cell {p : Addr} {o : HO} {m : MO} (A : AR T K R L H) (h : H p = none) (hm : MOk K R (L2.upd H p o) p m) : AR T K (R.bind L.length p) (L ++ [m]) (L2.upd H p o) ∧ Le R (R.bind L.length p) :=
  (A.newU (o := o) h).bind (A.sub.non h) (A.pne h) (fun i => A.vne h i) hm
theorem Rp.new {n : Nat} {p : Addr} : Rp K (R.bind n p) (.ref p) (.rf n) := .rf (if_pos rfl)
/-- a cell is written -/
theorem AR.write {i : Nat} {p : Addr} {o u : HO} {m n : MO} (A : AR T K R L H) (hi : L[i]? = some n) (hv : R.v i = some p) (hu : H p = some u) (w : Wr u) (hm : MOk K R (L2.upd H p o) p m) : AR T K R (L.set i m) (L2.upd H p o) := by
  have hlt : i < L.length := (List.getElem?_eq_some_iff.mp hi).1
  obtain ⟨a, e1, hR, hP, _⟩ := A.cel _ _ hi
  rw [hv] at e1
  cases e1
  refine ⟨A.sub.write hR, fun j m' hj => ?_, A.inj, fun j hj => A.dom j (by rw [List.length_set] at hj; exact hj), fun a u' e => ?_, A.tnd, fun t ht => ⟨(A.tab t ht).1, (A.tab t ht).2.1, TabN.write (A.tab t ht).2.2 hu w.tbl w.ext⟩, A.ntb⟩
  · by_cases e : i = j
    · subst e
      rw [List.getElem?_set_self hlt] at hj
      cases hj
      exact ⟨p, hv, hR, hP, hm⟩
    · rw [List.getElem?_set_ne e] at hj
      obtain ⟨a, e1, e2, e3, q⟩ := A.cel j m' hj
      exact ⟨a, e1, e2, e3, q.at (upd_ne fun z => e (A.inj i j p hv (by rw [← z]; exact e1)))⟩
  · obtain ⟨e1, e2, w'⟩ := A.hid a u' e
    have ne : a ≠ p := fun z => by subst z; rw [hP] at e; cases e
    exact ⟨by rw [upd_ne ne]; exact e1, e2, w'⟩
end
section
variable {K : PySem.W.Frag} {R R' : Rw} {H H' : Hp} {a : Addr} {T : Tbl} {L L' : Mu} {σ : L2.St} {δ : Ds}
theorem Lw.hid {p : Hp} : Lw R { R with p := p } := ⟨fun _ _ h => h, fun _ _ h => h, rfl⟩
/-- something new is hidden -/
theorem AR.hide {p : Addr} {o : HO} (A : AR T K R L H) (h : H p = none) (w : Wr o) : AR T K (R.hide p o) L (L2.upd H p o) := by
  have B := A.newU (o := o) h
  have hR : R.h p = none := A.sub.non h
  refine ⟨B.sub, fun i m hi => ?_, B.inj, B.dom, fun a u e => ?_, B.tnd, fun t ht => ?_, B.ntb⟩
  · obtain ⟨a, e1, e2, e3, q⟩ := B.cel i m hi
    refine ⟨a, e1, e2, ?_, ?_⟩
    · show L2.upd R.p p o a = none
      rw [upd_ne (fun z => A.vne h i (by rw [← z]; exact e1))]; exact e3
    · exact MOk.lw (R := R) Lw.hid q
  · by_cases z : a = p
    · subst z
      change L2.upd R.p a o a = some u at e
      rw [upd_same] at e; cases e
      exact ⟨upd_same, hR, w⟩
    · change L2.upd R.p p o a = some u at e
      rw [upd_ne z] at e
      exact B.hid a u e
  · obtain ⟨h1, h3, h2⟩ := B.tab t ht
    obtain ⟨ps, e, _⟩ := _root_.id (A.tab t ht).2.2
    exact ⟨h1, by show L2.upd R.p p o t.1 = none; rw [upd_ne (ne_of_none e h)]; exact h3, h2⟩
/-- a hidden thing is written -/
theorem AR.hwrite {p : Addr} {o u : HO} (A : AR T K R L H) (hp : R.p p = some u) (w : Wr o) : AR T K (R.hide p o) L (L2.upd H p o) := by
  obtain ⟨hu, hR, wu⟩ := A.hid p u hp
  refine ⟨A.sub.write hR, fun i m hi => ?_, A.inj, A.dom, fun a u' e => ?_, A.tnd, fun t ht => ?_, A.ntb⟩
  · obtain ⟨a, e1, e2, e3, q⟩ := A.cel i m hi
    have ne : a ≠ p := fun z => by subst z; rw [hp] at e3; cases e3
    exact ⟨a, e1, e2, by show L2.upd R.p p o a = none; rw [upd_ne ne]; exact e3, MOk.lw (R := R) Lw.hid (q.at (upd_ne ne))⟩
  · by_cases z : a = p
    · subst z
      change L2.upd R.p a o a = some u' at e
      rw [upd_same] at e; cases e
      exact ⟨upd_same, hR, w⟩
    · change L2.upd R.p p o a = some u' at e
      rw [upd_ne z] at e
      obtain ⟨e1, e2, w'⟩ := A.hid a u' e
      exact ⟨by rw [upd_ne z]; exact e1, e2, w'⟩
  · obtain ⟨h1, h3, h2⟩ := A.tab t ht
    have ne : t.1 ≠ p := fun z => by rw [z, hp] at h3; cases h3
    exact ⟨h1, by show L2.upd R.p p o t.1 = none; rw [upd_ne ne]; exact h3, TabN.write h2 hu wu.tbl wu.ext⟩
/-- a hidden thing comes forth: it belongs to nobody -/
theorem AR.unhide {p : Addr} {o : HO} (P0 : Hp) (A : AR T K R L H) (hp : R.p p = some o) (h0 : P0 p = none) (hne : ∀ b, b ≠ p → R.p b = P0 b) : AR T K { R with p := P0 } L H ∧ (∀ i, R.v i ≠ some p) := by
  have sub : ∀ b u, P0 b = some u → R.p b = some u := fun b u e => by
    by_cases z : b = p
    · subst z; rw [h0] at e; cases e
    · rw [hne b z]; exact e
  have non : ∀ b, R.p b = none → P0 b = none := fun b e => by
    cases z : P0 b with
    | none => rfl
    | some u => rw [sub b u z] at e; cases e
  refine ⟨⟨A.sub, fun i m hi => ?_, A.inj, A.dom, fun a u e => A.hid a u (sub a u e), A.tnd, fun t ht => ?_, A.ntb⟩, fun i e => ?_⟩
  · obtain ⟨a, e1, e2, e3, q⟩ := A.cel i m hi
    exact ⟨a, e1, e2, non a e3, MOk.lw (R := R) Lw.hid q⟩
  · obtain ⟨h1, h3, h2⟩ := A.tab t ht
    exact ⟨h1, non _ h3, h2⟩
  · by_cases hi : i < L.length
    · obtain ⟨a, e1, _, e3, _⟩ := A.cel i L[i] (by simp [hi])
      rw [e] at e1; cases e1
      rw [hp] at e3; cases e3
    · rw [A.dom i (Nat.le_of_not_lt hi)] at e; cases e
/-- the tables have grown -/
theorem AR.ext (A : AR T K R L H) (e : LamX.ExtN H H') (t : LamX.Tabs T H') : AR T K R L H' := by
  refine ⟨fun a o q => ?_, fun i m hi => ?_, A.inj, A.dom, fun a u q => ?_, A.tnd, fun p hp => ⟨(A.tab p hp).1, (A.tab p hp).2.1, t p hp⟩, A.ntb⟩
  · rcases A.sub a o q with z | ⟨z, ob, y⟩
    · exact .inl (e _ _ z fun ps w => A.ntb a ps (by rw [q, w]))
    · exact .inr ⟨z, ob, e _ _ y fun ps w => nomatch w⟩
  · obtain ⟨a, e1, e2, e3, q⟩ := A.cel i m hi
    obtain ⟨u, hu, w⟩ := q.there
    exact ⟨a, e1, e2, e3, q.at ((e _ _ hu w.tbl).trans hu.symm)⟩
  · obtain ⟨e1, e2, w⟩ := A.hid a u q
    exact ⟨e _ _ e1 w.tbl, e2, w⟩
theorem AR.tabs (A : AR T K R L H) : LamX.Tabs T H := fun p hp => (A.tab p hp).2.2
end
end Ac
end
section
/-! Ac2: the judgements and the first rules. -/
namespace Ac
open PySem PySem.Spec PyProof.Rows L2

/-! ### names -/
class Ix {α : Type} (l : List α) (x : α) (i : outParam Nat) : Prop where
  at_ : l[i]? = some x
instance Ix.here {α : Type} {x : α} {l : List α} : Ix (x :: l) x 0 := ⟨rfl⟩
instance (priority := low) Ix.there {α : Type} {x y : α} {l : List α} {i : Nat} [h : Ix l x i] : Ix (y :: l) x (i + 1) := ⟨by simpa using h.at_⟩
class Kd (l : List (Str × NameKind)) (x : Str) (k : outParam NameKind) : Prop where
  mem : (x, k) ∈ l
instance Kd.here {x : Str} {k : NameKind} {l : List (Str × NameKind)} : Kd ((x, k) :: l) x k := ⟨List.mem_cons_self⟩
instance (priority := low) Kd.there {x : Str} {k : NameKind} {y : Str × NameKind} {l : List (Str × NameKind)} [h : Kd l x k] : Kd (y :: l) x k := ⟨List.mem_cons_of_mem _ h.mem⟩
def codeS (s : Str) : Nat := s.cps.foldl (fun a c => a * 1114113 + c + 1) 0
def ndN : List Nat → Bool
  | [] => true
  | n :: l => !l.contains n && ndN l
theorem ndN_ok {α : Type} (f : α → Nat) : ∀ {l : List α}, ndN (l.map f) = true → l.Nodup
  | [], _ => .nil
  | a :: l, h => by
    rw [List.map_cons, ndN, Bool.and_eq_true, Bool.not_eq_true'] at h
    refine List.nodup_cons.mpr ⟨fun m => ?_, ndN_ok f h.2⟩
    have : (l.map f).contains (f a) = true := List.contains_iff_mem.mpr (List.mem_map.mpr ⟨a, m, rfl⟩)
    rw [this] at h
    exact nomatch h.1
/-- no name twice, none odd -/
def ScB (l : List (Str × NameKind)) : Bool := ndN (l.map fun p => codeS p.1) && l.all fun p => (codeS p.1 != codeS "__debug__") && (codeS p.1 != codeS "__classdict__")
def NmB (l : List Str) : Bool := ndN (l.map codeS)
theorem NmB.nd {l : List Str} (h : NmB l = true) : l.Nodup := ndN_ok codeS h
theorem ScB.look {l : List (Str × NameKind)} (h : ScB l = true) {x : Str} {k : NameKind} (m : (x, k) ∈ l) : l.lookup x = some k := by
  have h1 := (Bool.and_eq_true_iff.mp h).1
  clear h
  induction l with
  | nil => cases m
  | cons p l ih =>
    rw [List.map_cons, ndN, Bool.and_eq_true, Bool.not_eq_true'] at h1
    obtain ⟨y, k'⟩ := p
    rw [List.lookup_cons]
    rcases List.mem_cons.mp m with e | m
    · cases e; simp
    · have ne : x ≠ y := fun e => by
        subst e
        have : (l.map fun p => codeS p.1).contains (codeS x) = true := List.contains_iff_mem.mpr (List.mem_map.mpr ⟨(x, k), (by assumption), rfl⟩)
        rw [this] at h1
        exact nomatch h1.1
      have hb : (x == y) = false := beq_eq_false_iff_ne.mpr ne
      rw [hb]
      exact ih m h1.2
theorem ScB.dbg {l : List (Str × NameKind)} (h : ScB l = true) {x : Str} {k : NameKind} (m : (x, k) ∈ l) : (x == ("__debug__" : Str)) = false ∧ (x == ("__classdict__" : Str)) = false := by
  have h2 := List.all_eq_true.mp (Bool.and_eq_true_iff.mp h).2 _ m
  obtain ⟨a, b⟩ := Bool.and_eq_true_iff.mp h2
  refine ⟨beq_eq_false_iff_ne.mpr fun e => ?_, beq_eq_false_iff_ne.mpr fun e => ?_⟩
  · have z : codeS x = codeS "__debug__" := by rw [e]
    simp [z] at a
  · have z : codeS x = codeS "__classdict__" := by rw [e]
    simp [z] at b
def visK : NameKind → Bool
  | .local => true
  | .cell => true
  | .free => true
  | _ => false
def locK : NameKind → Bool
  | .local => true
  | .cell => true
  | _ => false
def capK : NameKind → Bool
  | .cell => true
  | .free => true
  | _ => false
theorem vis_of {sc : Scope} {x : Str} {k : NameKind} (h : sc.names.lookup x = some k) (v : visK k = true) : Vis sc x := by
  cases k with
  | «local» => exact .inl h
  | cell => exact .inr (.inl h)
  | free => exact .inr (.inr h)
  | _ => cases v

/-- the world of one law -/
structure Wd where
  P : Program
  w : World
  K : PySem.W.Frag
  mg : Str → Option Value
  base : Heap
  T : Tbl
  cls : Nat → Addr × List Str
abbrev EXT := Value → Option D → Ds → Mu → Prop
structure Ct extends Wd where
  N : List Str
  sc : Scope
  k : Nat
  calm : Bool
  top : Bool
  qual : Str
  cp : Option (Addr × Addr)
  EX : EXT
def PayOk (K : PySem.W.Frag) (R : Rw) (H : Hp) : Option Addr → Option D → Prop
  | none, none => True
  | some d, some p => ∃ v, H d = some (.xd [("row", v)]) ∧ Rp K R v p
  | _, _ => False
structure Fits (Γ : Ct) (X : Cx) (R0 : Rw) : Prop where
  cls : R0.c = Γ.cls
  prog : X.prog = Γ.P
  w : X.w = Γ.w
  K : X.K = Γ.K
  mg : X.mg = Γ.mg
  base : X.base = Γ.base
  N : X.N = Γ.N
  nd : Γ.N.Nodup
  scok : ScB Γ.sc.names = true
  kind : X.env.scope.kind = .function
  vis : ∀ x k, (x, k) ∈ Γ.sc.names → visK k = true → Vis X.env.scope x
  gl : ∀ x, (x, .globalImplicit) ∈ Γ.sc.names → Gl X x
  loc : ∀ x k, (x, k) ∈ Γ.sc.names → locK k = true → Loc X.env.scope x ∧ (X.fn x = true ∨ X.env.scope.names.lookup x = some .local)
  lcl : ∀ x, (x, .local) ∈ Γ.sc.names → X.env.scope.names.lookup x = some .local
  ncl : ∀ x k, (x, k) ∈ Γ.sc.names → k ≠ .local → ∃ k', X.env.scope.names.lookup x = some k' ∧ k' ≠ .local
  cap : ∀ x k, (x, k) ∈ Γ.sc.names → capK k = true → X.env.scope.names.lookup x = some .cell ∨ X.env.scope.names.lookup x = some .free
  un : X.A.units + 64 < cLine
  room : Γ.calm = true → Room Γ.k X.A
  calm : X.calm = Γ.calm
  tk : ∃ W : WX, Takes X W ∧ ∀ cls oa pay σ δ R H L, Le R0 R → AR Γ.T Γ.K R L H → RS Γ.K R σ δ → PayOk Γ.K R H oa pay → Γ.EX cls pay δ L → W cls oa σ H
  own : PassesOwn (model X.prog X.w) X.A X.env X.xe
  frame : Γ.top = true → X.stack = X.env :: X.outer ∧ X.env.frame = some X.env.locals
  qual : X.env.qual = Γ.qual
  cp : ∀ c P, Γ.cp = some (c, P) → X.env.code = .ref c ∧ LamX.TabB X.base X.mg c P

/-! ### runs, told by what is wanted -/
section
variable (X : Cx)
def wE (e : Expr) : TE := fun σ H Q => ∀ (pins : List (Addr × Obj)) (s : Shared), Inv X pins σ H s → wpAny (model X.prog X.w) X.A (eval e X.env) (EP X pins σ Q) X.xe s
def wT (e : Expr) : TT := fun σ H Q => ∀ (pins : List (Addr × Obj)) (s : Shared), Inv X pins σ H s → wpAny (model X.prog X.w) X.A (isTrue e X.env (eval e X.env)) (TP X pins σ Q) X.xe s
def wW (e : Expr) : TT := fun σ H Q => ∀ (whole : Sem Value) (pins : List (Addr × Obj)) (s : Shared), Inv X pins σ H s → wpAny (model X.prog X.w) X.A (isTrue e X.env whole) (TP X pins σ Q) X.xe s
def wA (es : List Expr) : TA := fun σ H Q => ∀ (pos : Pos) (pins : List (Addr × Obj)) (s : Shared), Inv X pins σ H s → wpAny (model X.prog X.w) X.A (spliced (backTo pos (starEach es X.env))) (AP X pins σ Q) X.xe s
def wS (st : Stmt) : TS := fun D σ H => ∀ (pins : List (Addr × Obj)) (s : Shared), Inv X pins σ H s → wpAny (model X.prog X.w) X.A (exec st X.env) (SP X pins D) X.xe s
def wSs (st : List Stmt) : TS := fun D σ H => ∀ (pins : List (Addr × Obj)) (s : Shared), Inv X pins σ H s → wpAny (model X.prog X.w) X.A (execs st X.env) (SP X pins D) X.xe s
def wG (tg : Expr) : TG := fun v σ H Q => ∀ (pins : List (Addr × Obj)) (s : Shared) (u : Value), Inv X pins σ H s → RelV v u → wpAny (model X.prog X.w) X.A (assign tg X.env u) (fun _ s' => ∃ σ' H', Inv X pins σ' H' s' ∧ Q σ' H') X.xe s
def wGs (ts : List Expr) : TGs := fun vs σ H Q => ∀ (pins : List (Addr × Obj)) (s : Shared) (us : List Value), Inv X pins σ H s → Vals vs us → wpAny (model X.prog X.w) X.A (assignInOrder ((assignEach ts X.env).map (·.2)) us) (fun _ s' => ∃ σ' H', Inv X pins σ' H' s' ∧ Q σ' H') X.xe s
def wI (tg iter : Expr) : TI := fun σ H R => ∀ (pins : List (Addr × Obj)) (s : Shared), Inv X pins σ H s → wpAny (model X.prog X.w) X.A (eval iter X.env) (fun v s1 => wpAny (model X.prog X.w) X.A (pyIter v) (PIE X pins σ tg R) X.xe s1) X.xe s
def wR (f : Value → Value → Sem Value) : R2 := fun x y H Q => ∀ (pins : List (Addr × Obj)) (s : Shared) (σ : L2.St) (v u : Value), Inv X pins σ H s → RelV x v → RelV y u → wpAny (model X.prog X.w) X.A (f v u) (EP X pins σ Q) X.xe s
def wU (f : Value → Sem Value) : V → Hp → VK → Prop := fun x H Q => ∀ (pins : List (Addr × Obj)) (s : Shared) (σ : L2.St) (v : Value), Inv X pins σ H s → RelV x v → wpAny (model X.prog X.w) X.A (f v) (EP X pins σ Q) X.xe s
def wC (f : Value) : List V → Hp → VK → Prop := fun xs H Q => ∀ (pins : List (Addr × Obj)) (s : Shared) (σ : L2.St) (us : List Value), Inv X pins σ H s → Vals xs us → wpAny (model X.prog X.w) X.A (call f us) (EP X pins σ Q) X.xe s
end
section
variable {X : Cx}
theorem peW {e : Expr} : PE X e (wE X e) := ⟨fun pins s _ _ _ I h => h pins s I⟩
theorem ptW {e : Expr} : PT X e (wT X e) := ⟨fun pins s _ _ _ I h => h pins s I⟩
theorem pwW {e : Expr} : PW X e (wW X e) := ⟨fun w pins s _ _ _ I h => h w pins s I⟩
theorem paW {es : List Expr} : PA X es (wA X es) := ⟨fun pos pins s _ _ _ I h => h pos pins s I⟩
theorem psW {st : Stmt} : PS X st (wS X st) := ⟨fun pins s _ _ _ I h => h pins s I⟩
theorem pssW {st : List Stmt} : PSs X st (wSs X st) := ⟨fun pins s _ _ _ I h => h pins s I⟩
theorem pgW {tg : Expr} : PG X tg (wG X tg) := ⟨fun pins s _ _ _ u _ I r h => h pins s u I r⟩
theorem pgsW {ts : List Expr} : PGs X ts (wGs X ts) := ⟨fun pins s _ _ _ us _ I r h => h pins s us I r⟩
theorem piW {tg iter : Expr} : PI X tg iter (wI X tg iter) := ⟨fun pins s _ _ _ I h => h pins s I⟩
theorem orW {f : Value → Value → Sem Value} : OpR X f (wR X f) := fun pins s σ H x y v u Q I r1 r2 h => h pins s σ v u I r1 r2
theorem urW {f : Value → Sem Value} : UnR X f (wU X f) := fun pins s σ H x v Q I r h => h pins s σ v I r
theorem crW {f : Value} : CallR X f (wC X f) := fun pins s σ H xs us Q I r h => h pins s σ us I r
end
section
variable {X : Cx} {e : Expr} {es : List Expr} {st : Stmt} {sts : List Stmt} {tg iter : Expr} {σ : L2.St} {H : Hp}
theorem PE_w {t : TE} {Q : VK} (h : PE X e t) (q : t σ H Q) : wE X e σ H Q := fun pins s I => h.run pins s σ H Q I q
theorem PT_w {t : TT} {Q : Bool → Hp → Prop} (h : PT X e t) (q : t σ H Q) : wT X e σ H Q := fun pins s I => h.run pins s σ H Q I q
theorem PW_w {t : TT} {Q : Bool → Hp → Prop} (h : PW X e t) (q : t σ H Q) : wW X e σ H Q := fun wh pins s I => h.run wh pins s σ H Q I q
theorem PA_w {t : TA} {Q : List V → Hp → Prop} (h : PA X es t) (q : t σ H Q) : wA X es σ H Q := fun pos pins s I => h.run pos pins s σ H Q I q
theorem PS_w {t : TS} {D : Ends} (h : PS X st t) (q : t D σ H) : wS X st D σ H := fun pins s I => h.run pins s σ H D I q
theorem PSs_w {t : TS} {D : Ends} (h : PSs X sts t) (q : t D σ H) : wSs X sts D σ H := fun pins s I => h.run pins s σ H D I q
theorem PG_w {t : TG} {v : V} {Q : L2.St → Hp → Prop} (h : PG X tg t) (q : t v σ H Q) : wG X tg v σ H Q := fun pins s u I r => h.run pins s σ H v u Q I r q
theorem PGs_w {t : TGs} {v : List V} {Q : L2.St → Hp → Prop} (h : PGs X es t) (q : t v σ H Q) : wGs X es v σ H Q := fun pins s u I r => h.run pins s σ H v u Q I r q
theorem PI_w {t : TI} {Q : It → Hp → Prop} (h : PI X tg iter t) (q : t σ H Q) : wI X tg iter σ H Q := fun pins s I => h.run pins s σ H Q I q
theorem OR_w {f : Value → Value → Sem Value} {r : R2} {x y : V} {Q : VK} (h : OpR X f r) (q : r x y H Q) : wR X f x y H Q := fun pins s σ v u I r1 r2 => h pins s σ H x y v u Q I r1 r2 q
theorem UR_w {f : Value → Sem Value} {r : V → Hp → VK → Prop} {x : V} {Q : VK} (h : UnR X f r) (q : r x H Q) : wU X f x H Q := fun pins s σ v I r1 => h pins s σ H x v Q I r1 q
theorem CR_w {f : Value} {r : List V → Hp → VK → Prop} {xs : List V} {Q : VK} (h : CallR X f r) (q : r xs H Q) : wC X f xs H Q := fun pins s σ us I r1 => h pins s σ H xs us Q I r1 q
end

/-! ### the judgements -/
structure AEnds where
  nx : Ds → Mu → Prop
  rt : D → Mu → Prop
  bk : Ds → Mu → Prop := fun _ _ => False
  ct : Ds → Mu → Prop := fun _ _ => False
section
variable (Γ : Ct)
def Got (R : Rw) (Q : D → Mu → Prop) (QV : VK) : Prop := ∀ v d R' H' L', Le R R' → AR Γ.T Γ.K R' L' H' → Rp Γ.K R' v d → Q d L' → QV v H'
def GotT (R : Rw) (Q : Bool → Mu → Prop) (QV : Bool → Hp → Prop) : Prop := ∀ b R' H' L', Le R R' → AR Γ.T Γ.K R' L' H' → Q b L' → QV b H'
def GotA (R : Rw) (Q : List D → Mu → Prop) (QV : List V → Hp → Prop) : Prop := ∀ v d R' H' L', Le R R' → AR Γ.T Γ.K R' L' H' → Rps Γ.K R' v d → Q d L' → QV v H'
def GotG (R : Rw) (Q : Ds → Mu → Prop) (QV : L2.St → Hp → Prop) : Prop := ∀ σ δ R' H' L', Le R R' → AR Γ.T Γ.K R' L' H' → RS Γ.K R' σ δ → Q δ L' → QV σ H'
structure GotS (R : Rw) (A : AEnds) (E : Ends) : Prop where
  nx : GotG Γ R A.nx E.nx
  rt : Got Γ R A.rt E.rt
  bk : GotG Γ R A.bk E.bk
  ct : GotG Γ R A.ct E.ct
/-- what is walked: ds, while cond holds of the cells -/
def Yl (J : It) (R : Rw) (cond : Mu → Prop) (ds : List D) : Prop := ∀ i R1 H1 L1, Lw R R1 → AR Γ.T Γ.K R1 L1 H1 → cond L1 →
  (∀ d, ds[i]? = some d → J.go i H1 ∧ ∀ x H2, J.yld i H1 x H2 → ∃ R2, Le R1 R2 ∧ AR Γ.T Γ.K R2 L1 H2 ∧ Rp Γ.K R2 x d) ∧ (i = ds.length → J.stop i H1)
def GotI (R : Rw) (Q : List D → (Mu → Prop) → Mu → Prop) (QV : It → Hp → Prop) : Prop := ∀ J R' H' L' ds cond, Le R R' → AR Γ.T Γ.K R' L' H' → Yl Γ J R' cond ds → cond L' → Q ds cond L' → QV J H'

def BE (e : Expr) (δ : Ds) (L : Mu) (Q : D → Mu → Prop) : Prop := ∀ X R0, Fits Γ X R0 → ∀ R σ H, Le R0 R → AR Γ.T Γ.K R L H → RS Γ.K R σ δ → ∀ QV, Got Γ R Q QV → wE X e σ H QV
def BT (e : Expr) (δ : Ds) (L : Mu) (Q : Bool → Mu → Prop) : Prop := ∀ X R0, Fits Γ X R0 → ∀ R σ H, Le R0 R → AR Γ.T Γ.K R L H → RS Γ.K R σ δ → ∀ QV, GotT Γ R Q QV → wT X e σ H QV
def BW (e : Expr) (δ : Ds) (L : Mu) (Q : Bool → Mu → Prop) : Prop := ∀ X R0, Fits Γ X R0 → ∀ R σ H, Le R0 R → AR Γ.T Γ.K R L H → RS Γ.K R σ δ → ∀ QV, GotT Γ R Q QV → wW X e σ H QV
def BA (es : List Expr) (δ : Ds) (L : Mu) (Q : List D → Mu → Prop) : Prop := ∀ X R0, Fits Γ X R0 → ∀ R σ H, Le R0 R → AR Γ.T Γ.K R L H → RS Γ.K R σ δ → ∀ QV, GotA Γ R Q QV → wA X es σ H QV
def BS (st : Stmt) (δ : Ds) (L : Mu) (A : AEnds) : Prop := ∀ X R0, Fits Γ X R0 → ∀ R σ H, Le R0 R → AR Γ.T Γ.K R L H → RS Γ.K R σ δ → ∀ E, GotS Γ R A E → wS X st E σ H
def BSs (st : List Stmt) (δ : Ds) (L : Mu) (A : AEnds) : Prop := ∀ X R0, Fits Γ X R0 → ∀ R σ H, Le R0 R → AR Γ.T Γ.K R L H → RS Γ.K R σ δ → ∀ E, GotS Γ R A E → wSs X st E σ H
def BG (tg : Expr) (d : D) (δ : Ds) (L : Mu) (Q : Ds → Mu → Prop) : Prop := ∀ X R0, Fits Γ X R0 → ∀ R σ H v, Le R0 R → AR Γ.T Γ.K R L H → RS Γ.K R σ δ → Rp Γ.K R v d → ∀ QV, GotG Γ R Q QV → wG X tg v σ H QV
def BGs (ts : List Expr) (ds : List D) (δ : Ds) (L : Mu) (Q : Ds → Mu → Prop) : Prop := ∀ X R0, Fits Γ X R0 → ∀ R σ H vs, Le R0 R → AR Γ.T Γ.K R L H → RS Γ.K R σ δ → Rps Γ.K R vs ds → ∀ QV, GotG Γ R Q QV → wGs X ts vs σ H QV
def BI (tg iter : Expr) (δ : Ds) (L : Mu) (Q : List D → (Mu → Prop) → Mu → Prop) : Prop := ∀ X R0, Fits Γ X R0 → ∀ R σ H, Le R0 R → AR Γ.T Γ.K R L H → RS Γ.K R σ δ → ∀ QV, GotI Γ R Q QV → wI X tg iter σ H QV
/-- two values, one value, several values: an operation, a call -/
def B2 (f : Value → Value → Sem Value) (x y : D) (L : Mu) (Q : D → Mu → Prop) : Prop := ∀ X R0, Fits Γ X R0 → ∀ R H v u, Le R0 R → AR Γ.T Γ.K R L H → Rp Γ.K R v x → Rp Γ.K R u y → ∀ QV, Got Γ R Q QV → wR X f v u H QV
def B1 (f : Value → Sem Value) (x : D) (L : Mu) (Q : D → Mu → Prop) : Prop := ∀ X R0, Fits Γ X R0 → ∀ R H v, Le R0 R → AR Γ.T Γ.K R L H → Rp Γ.K R v x → ∀ QV, Got Γ R Q QV → wU X f v H QV
def BC (f : Value) (xs : List D) (L : Mu) (Q : D → Mu → Prop) : Prop := ∀ X R0, Fits Γ X R0 → ∀ R H vs, Le R0 R → AR Γ.T Γ.K R L H → Rps Γ.K R vs xs → ∀ QV, Got Γ R Q QV → wC X f vs H QV
end
section
variable {Γ : Ct} {R R1 : Rw}
theorem Got.le {Q : D → Mu → Prop} {QV : VK} (g : Got Γ R Q QV) (l : Le R R1) : Got Γ R1 Q QV := fun v d R' H' L' l' => g v d R' H' L' (l.trans l')
theorem GotT.le {Q : Bool → Mu → Prop} {QV : Bool → Hp → Prop} (g : GotT Γ R Q QV) (l : Le R R1) : GotT Γ R1 Q QV := fun v R' H' L' l' => g v R' H' L' (l.trans l')
theorem GotA.le {Q : List D → Mu → Prop} {QV : List V → Hp → Prop} (g : GotA Γ R Q QV) (l : Le R R1) : GotA Γ R1 Q QV := fun v d R' H' L' l' => g v d R' H' L' (l.trans l')
theorem GotG.le {Q : Ds → Mu → Prop} {QV : L2.St → Hp → Prop} (g : GotG Γ R Q QV) (l : Le R R1) : GotG Γ R1 Q QV := fun v d R' H' L' l' => g v d R' H' L' (l.trans l')
theorem GotI.le {Q : List D → (Mu → Prop) → Mu → Prop} {QV : It → Hp → Prop} (g : GotI Γ R Q QV) (l : Le R R1) : GotI Γ R1 Q QV := fun J R' H' L' ds cond l' => g J R' H' L' ds cond (l.trans l')
theorem GotS.le {A : AEnds} {E : Ends} (g : GotS Γ R A E) (l : Le R R1) : GotS Γ R1 A E := ⟨g.nx.le l, g.rt.le l, g.bk.le l, g.ct.le l⟩
theorem Yl.le {J : It} {cond : Mu → Prop} {ds : List D} (g : Yl Γ J R cond ds) (l : Le R R1) : Yl Γ J R1 cond ds := fun i R1 H1 L1 l' => g i R1 H1 L1 (l.toLw.trans l')
end

/-! ### names and constants -/
section
variable {Γ : Ct} {δ : Ds} {L : Mu} {Q : D → Mu → Prop} {pos : Pos}
theorem be_name {x : Str} {d : D} {i : Nat} {k : NameKind} [hN : Ix Γ.N x i] [hK : Kd Γ.sc.names x k] (hi : δ[i]? = some (some d)) (hq : Q d L) (hv : visK k = true := by rfl) : BE Γ (.Name x pos) δ L Q := fun X R0 F R σ H l A S QV g => by
  obtain ⟨v, hv', r⟩ := S.get hi
  exact PE_w (pe_var (i := i) (by rw [F.N]; exact hN.at_) (F.vis _ _ hK.mem hv) (ScB.dbg F.scok hK.mem).1 (ScB.dbg F.scok hK.mem).2) ⟨v, hv', g v d R H L (Le.refl R) A r hq⟩
theorem be_int {i : Int} {j : Nat} (hq : Q (.int i) L) : BE Γ (.Constant (.int i) j pos) δ L Q := fun X R0 F R σ H l A S QV g => PE_w pe_int (g _ _ R H L (Le.refl R) A .int hq)
theorem be_bl {b : Bool} {j : Nat} (hq : Q (.bl b) L) : BE Γ (.Constant (.bool b) j pos) δ L Q := fun X R0 F R σ H l A S QV g => PE_w pe_bl (g _ _ R H L (Le.refl R) A .bl hq)
theorem be_non {j : Nat} (hq : Q .non L) : BE Γ (.Constant .none j pos) δ L Q := fun X R0 F R σ H l A S QV g => PE_w pe_non (g _ _ R H L (Le.refl R) A .non hq)
theorem be_str {x : Tx} {j : Nat} (hq : Q (.str x) L) : BE Γ (.Constant (.str (Tx.s x)) j pos) δ L Q := fun X R0 F R σ H l A S QV g => PE_w pe_str (g _ _ R H L (Le.refl R) A .str hq)
/-- a written thing of the module -/
def RpK (K : PySem.W.Frag) (u : Value) (d : D) : Prop := ∃ v, RelV v u ∧ ∀ R, Rp K R v d
theorem be_glob {x : Str} {u : Value} {d : D} [hK : Kd Γ.sc.names x .globalImplicit] (hm : Γ.mg x = some u) (hd : RpK Γ.K u d) (hq : Q d L) : BE Γ (.Name x pos) δ L Q := fun X R0 F R σ H l A S QV g => by
  obtain ⟨v, rv, r⟩ := hd
  exact PE_w (pe_glob (F.gl _ hK.mem) (by rw [F.mg]; exact hm) rv (ScB.dbg F.scok hK.mem).1) (g v d R H L (Le.refl R) A (r R) hq)
theorem BE.mono {e : Expr} {Q' : D → Mu → Prop} (h : BE Γ e δ L Q) (hq : ∀ d L', Q d L' → Q' d L') : BE Γ e δ L Q' := fun X R0 F R σ H l A S QV g => h X R0 F R σ H l A S QV fun v d R' H' L' l' A' r q => g v d R' H' L' l' A' r (hq d L' q)
/-! ### operators -/
variable {a b c : Expr}
theorem be_bin {op : Operator} (h : BE Γ a δ L fun x L1 => BE Γ b δ L1 fun y L2 => B2 Γ (binaryOp op) x y L2 Q) : BE Γ (.BinOp a op b pos) δ L Q := fun X R0 F R σ H l A S QV g =>
  PE_w (pe_op orW peW peW) (h X R0 F R σ H l A S _ fun v d R1 H1 L1 l1 A1 r1 q1 => q1 X R0 F R1 σ H1 (l.trans l1) A1 (S.le l1) _ fun u e R2 H2 L2 l2 A2 r2 q2 =>
    q2 X R0 F R2 H2 v u ((l.trans l1).trans l2) A2 (r1.le l2) r2 QV (g.le (l1.trans l2)))
theorem be_un {op : UnaryOp} (h : BE Γ a δ L fun x L1 => B1 Γ (unaryOp op) x L1 Q) : BE Γ (.UnaryOp op a pos) δ L Q := fun X R0 F R σ H l A S QV g =>
  PE_w (pe_un urW peW) (h X R0 F R σ H l A S _ fun v d R1 H1 L1 l1 A1 r1 q1 => q1 X R0 F R1 H1 v (l.trans l1) A1 r1 QV (g.le l1))
theorem be_cmp {op : CmpOp} (h : BE Γ a δ L fun x L1 => BE Γ b δ L1 fun y L2 => B2 Γ (compareOp op) x y L2 Q) (hm : behindInMarks op b = false := by first | exact nomark _ | rfl) : BE Γ (.Compare a [op] [b] pos) δ L Q := fun X R0 F R σ H l A S QV g =>
  PE_w (pe_cmpR orW peW peW hm) (h X R0 F R σ H l A S _ fun v d R1 H1 L1 l1 A1 r1 q1 => q1 X R0 F R1 σ H1 (l.trans l1) A1 (S.le l1) _ fun u e R2 H2 L2 l2 A2 r2 q2 =>
    q2 X R0 F R2 H2 v u ((l.trans l1).trans l2) A2 (r1.le l2) r2 QV (g.le (l1.trans l2)))
theorem bt_cmp {op : CmpOp} {Q : Bool → Mu → Prop} (h : BE Γ a δ L fun x L1 => BE Γ b δ L1 fun y L2 => B2 Γ (compareOp op) x y L2 fun d L3 => ∃ k, d = .bl k ∧ Q k L3) (hm : behindInMarks op b = false := by first | exact nomark _ | rfl) : BT Γ (.Compare a [op] [b] pos) δ L Q := fun X R0 F R σ H l A S QV g =>
  PT_w (pt_cmpR orW peW peW hm) (h X R0 F R σ H l A S _ fun v d R1 H1 L1 l1 A1 r1 q1 => q1 X R0 F R1 σ H1 (l.trans l1) A1 (S.le l1) _ fun u e R2 H2 L2 l2 A2 r2 q2 =>
    q2 X R0 F R2 H2 v u ((l.trans l1).trans l2) A2 (r1.le l2) r2 _ fun w d3 R3 H3 L3 l3 A3 r3 q3 => by
      obtain ⟨k, rfl, q3⟩ := q3
      cases r3
      exact ⟨k, rfl, g k R3 H3 L3 ((l1.trans l2).trans l3) A3 q3⟩)
theorem chain_core {op op' : CmpOp} (h : BE Γ a δ L fun x L1 => BE Γ b δ L1 fun y L2 => B2 Γ (compareOp op) x y L2 fun d L3 => ∃ k, d = .bl k ∧ (k = false → Q (.bl false) L3) ∧ (k = true → BE Γ c δ L3 fun z L4 => B2 Γ (compareOp op') y z L4 Q))
    {X : Cx} {R0 R : Rw} {σ : L2.St} {H : Hp} (F : Fits Γ X R0) (l : Le R0 R) (A : AR Γ.T Γ.K R L H) (S : RS Γ.K R σ δ) {QV : VK} (g : Got Γ R Q QV) : tChain (wR X (compareOp op)) (wR X (compareOp op')) (wE X a) (wE X b) (wE X c) σ H QV :=
  h X R0 F R σ H l A S _ fun v d R1 H1 L1 l1 A1 r1 q1 => q1 X R0 F R1 σ H1 (l.trans l1) A1 (S.le l1) _ fun u e R2 H2 L2 l2 A2 r2 q2 =>
    q2 X R0 F R2 H2 v u ((l.trans l1).trans l2) A2 (r1.le l2) r2 _ fun w d3 R3 H3 L3 l3 A3 r3 q3 => by
      obtain ⟨k, rfl, q4, q5⟩ := q3
      cases r3
      refine ⟨k, rfl, ?_⟩
      cases k with
      | false => exact iteF (g _ _ R3 H3 L3 ((l1.trans l2).trans l3) A3 .bl (q4 rfl))
      | true => exact iteT (q5 rfl X R0 F R3 σ H3 (((l.trans l1).trans l2).trans l3) A3 (((S.le l1).le l2).le l3) _ fun z f R4 H4 L4 l4 A4 r4 q6 => q6 X R0 F R4 H4 u z ((((l.trans l1).trans l2).trans l3).trans l4) A4 ((r2.le l3).le l4) r4 QV (g.le (((l1.trans l2).trans l3).trans l4)))
theorem be_chain {op op' : CmpOp} (h : BE Γ a δ L fun x L1 => BE Γ b δ L1 fun y L2 => B2 Γ (compareOp op) x y L2 fun d L3 => ∃ k, d = .bl k ∧ (k = false → Q (.bl false) L3) ∧ (k = true → BE Γ c δ L3 fun z L4 => B2 Γ (compareOp op') y z L4 Q))
    (hm : lastMarks [op, op'] [b, c] = false := by with_unfolding_all rfl) : BE Γ (.Compare a [op, op'] [b, c] pos) δ L Q := fun X R0 F R σ H l A S QV g =>
  PE_w (pe_chain orW orW peW peW peW hm) (chain_core h F l A S g)
theorem bt_chain {op op' : CmpOp} {Q : Bool → Mu → Prop} (h : BE Γ a δ L fun x L1 => BE Γ b δ L1 fun y L2 => B2 Γ (compareOp op) x y L2 fun d L3 => ∃ k, d = .bl k ∧ (k = false → Q false L3) ∧ (k = true → BE Γ c δ L3 fun z L4 => B2 Γ (compareOp op') y z L4 fun d L5 => ∃ k, d = .bl k ∧ Q k L5))
    (hm : lastMarks [op, op'] [b, c] = false := by with_unfolding_all rfl) : BT Γ (.Compare a [op, op'] [b, c] pos) δ L Q := fun X R0 F R σ H l A S QV g =>
  PT_w (pt_chain orW orW peW peW peW hm) (chain_core (Q := fun d L5 => ∃ k, d = .bl k ∧ Q k L5) (BE.mono h fun x L1 h1 => BE.mono h1 fun y L2 h2 X R0 F R H v u l A r1 r2 QV g => h2 X R0 F R H v u l A r1 r2 QV fun v d R' H' L' l' A' r q => by
    obtain ⟨k, e, q1, q2⟩ := q
    exact g v d R' H' L' l' A' r ⟨k, e, fun z => ⟨false, rfl, q1 z⟩, q2⟩) F l A S (QV := fun x H1 => ∃ k, x = .bl k ∧ QV k H1) fun v d R' H' L' l' A' r q => by
      obtain ⟨k, rfl, q⟩ := q
      cases r
      exact ⟨k, rfl, g k R' H' L' l' A' q⟩)

/-! ### tests -/
/-- truth, by the value -/
def truD : D → Option Bool
  | .non => some false
  | .bl b => some b
  | .int i => some (i != 0)
  | _ => none
theorem bt_val {e : Expr} {Q : Bool → Mu → Prop} (h : BE Γ e δ L fun d L1 => ∃ k, d = .bl k ∧ Q k L1) (he : ∀ env whole, isTrue e env whole = (do let v ← whole; standAt e.pos; holding [v] (truthy v)) := by intro _ _; rfl) : BT Γ e δ L Q := fun X R0 F R σ H l A S QV g =>
  PT_w (pt_val peW (he _)) (h X R0 F R σ H l A S _ fun v d R1 H1 L1 l1 A1 r1 q1 => by
    obtain ⟨k, rfl, q1⟩ := q1
    cases r1
    exact ⟨k, rfl, g k R1 H1 L1 l1 A1 q1⟩)
theorem bt_not {Q : Bool → Mu → Prop} (h : BT Γ a δ L fun k L1 => Q (!k) L1) : BT Γ (.UnaryOp .Not a pos) δ L Q := fun X R0 F R σ H l A S QV g =>
  PT_w (pt_not ptW) (h X R0 F R σ H l A S _ fun k R1 H1 L1 l1 A1 q1 => g _ R1 H1 L1 l1 A1 q1)
theorem bw_bt {e : Expr} {Q : Bool → Mu → Prop} (h : BW Γ e δ L Q) : BT Γ e δ L Q := fun X R0 F R σ H l A S QV g pins s I => h X R0 F R σ H l A S QV g _ pins s I
theorem bw_and1 {Q : Bool → Mu → Prop} (h : BT Γ a δ L Q) : BW Γ (.BoolOp .And [a] pos) δ L Q := fun X R0 F R σ H l A S QV g => PW_w (pw_and1 ptW) (h X R0 F R σ H l A S QV g)
theorem bw_or1 {Q : Bool → Mu → Prop} (h : BT Γ a δ L Q) : BW Γ (.BoolOp .Or [a] pos) δ L Q := fun X R0 F R σ H l A S QV g => PW_w (pw_or1 ptW) (h X R0 F R σ H l A S QV g)
theorem bw_and {es : List Expr} {Q : Bool → Mu → Prop} (h : BT Γ a δ L fun k L1 => (k = false → Q false L1) ∧ (k = true → BW Γ (.BoolOp .And (b :: es) pos) δ L1 Q)) : BW Γ (.BoolOp .And (a :: b :: es) pos) δ L Q := fun X R0 F R σ H l A S QV g =>
  PW_w (pw_and ptW pwW) (h X R0 F R σ H l A S _ fun k R1 H1 L1 l1 A1 q1 => by
    cases k with
    | false => exact iteF (g _ R1 H1 L1 l1 A1 (q1.1 rfl))
    | true => exact iteT (q1.2 rfl X R0 F R1 σ H1 (l.trans l1) A1 (S.le l1) QV (g.le l1)))
theorem bw_or {es : List Expr} {Q : Bool → Mu → Prop} (h : BT Γ a δ L fun k L1 => (k = true → Q true L1) ∧ (k = false → BW Γ (.BoolOp .Or (b :: es) pos) δ L1 Q)) : BW Γ (.BoolOp .Or (a :: b :: es) pos) δ L Q := fun X R0 F R σ H l A S QV g =>
  PW_w (pw_or ptW pwW) (h X R0 F R σ H l A S _ fun k R1 H1 L1 l1 A1 q1 => by
    cases k with
    | true => exact iteT (g _ R1 H1 L1 l1 A1 (q1.1 rfl))
    | false => exact iteF (q1.2 rfl X R0 F R1 σ H1 (l.trans l1) A1 (S.le l1) QV (g.le l1)))
/-! and, or, not as values, all bools -/
theorem be_one {op : BoolOp} (h : BE Γ a δ L Q) : BE Γ (.BoolOp op [a] pos) δ L Q := fun X R0 F R σ H l A S QV g => PE_w (pe_one peW) (h X R0 F R σ H l A S QV g)
theorem be_and {es : List Expr} (h : BE Γ a δ L fun d L1 => ∃ k, d = .bl k ∧ (k = false → Q (.bl false) L1) ∧ (k = true → BE Γ (.BoolOp .And (b :: es) pos) δ L1 Q)) : BE Γ (.BoolOp .And (a :: b :: es) pos) δ L Q := fun X R0 F R σ H l A S QV g =>
  PE_w (pe_and peW peW) (h X R0 F R σ H l A S _ fun v d R1 H1 L1 l1 A1 r1 q1 => by
    obtain ⟨k, rfl, q1⟩ := q1
    cases r1
    refine ⟨k, rfl, ?_⟩
    cases k with
    | false => exact iteF (g _ _ R1 H1 L1 l1 A1 .bl (q1.1 rfl))
    | true => exact iteT (q1.2 rfl X R0 F R1 σ H1 (l.trans l1) A1 (S.le l1) QV (g.le l1)))
theorem be_or {es : List Expr} (h : BE Γ a δ L fun d L1 => ∃ k, d = .bl k ∧ (k = true → Q (.bl true) L1) ∧ (k = false → BE Γ (.BoolOp .Or (b :: es) pos) δ L1 Q)) : BE Γ (.BoolOp .Or (a :: b :: es) pos) δ L Q := fun X R0 F R σ H l A S QV g =>
  PE_w (pe_or peW peW) (h X R0 F R σ H l A S _ fun v d R1 H1 L1 l1 A1 r1 q1 => by
    obtain ⟨k, rfl, q1⟩ := q1
    cases r1
    refine ⟨k, rfl, ?_⟩
    cases k with
    | true => exact iteT (g _ _ R1 H1 L1 l1 A1 .bl (q1.1 rfl))
    | false => exact iteF (q1.2 rfl X R0 F R1 σ H1 (l.trans l1) A1 (S.le l1) QV (g.le l1)))
theorem be_not (h : BE Γ a δ L fun d L1 => ∃ k, d = .bl k ∧ Q (.bl (!k)) L1) : BE Γ (.UnaryOp .Not a pos) δ L Q := fun X R0 F R σ H l A S QV g =>
  PE_w (pe_not peW) (h X R0 F R σ H l A S _ fun v d R1 H1 L1 l1 A1 r1 q1 => by
    obtain ⟨k, rfl, q1⟩ := q1
    cases r1
    exact ⟨k, rfl, g _ _ R1 H1 L1 l1 A1 .bl q1⟩)
theorem be_if (h : BT Γ c δ L fun k L1 => (k = true → BE Γ a δ L1 Q) ∧ (k = false → BE Γ b δ L1 Q)) : BE Γ (.IfExp c a b pos) δ L Q := fun X R0 F R σ H l A S QV g =>
  PE_w (pe_ifExp ptW peW peW) (h X R0 F R σ H l A S _ fun k R1 H1 L1 l1 A1 q1 => by
    cases k with
    | false => exact iteF (q1.2 rfl X R0 F R1 σ H1 (l.trans l1) A1 (S.le l1) QV (g.le l1))
    | true => exact iteT (q1.1 rfl X R0 F R1 σ H1 (l.trans l1) A1 (S.le l1) QV (g.le l1)))

/-! ### argument lists, displays -/
theorem ba_nil {Q : List D → Mu → Prop} (h : Q [] L) : BA Γ [] δ L Q := fun X R0 F R σ H l A S QV g => PA_w pa_nil (g [] [] R H L (Le.refl R) A .nil h)
theorem ba_cons {e : Expr} {es : List Expr} {Q : List D → Mu → Prop} (h : BE Γ e δ L fun d L1 => BA Γ es δ L1 fun ds L2 => Q (d :: ds) L2) (hs : ∀ env, starEach (e :: es) env = (false, eval e env) :: starEach es env := by intro _; rfl) : BA Γ (e :: es) δ L Q := fun X R0 F R σ H l A S QV g =>
  PA_w (pa_cons peW paW (hs _)) (h X R0 F R σ H l A S _ fun v d R1 H1 L1 l1 A1 r1 q1 => q1 X R0 F R1 σ H1 (l.trans l1) A1 (S.le l1) _ fun vs ds R2 H2 L2 l2 A2 r2 q2 => g _ _ R2 H2 L2 (l1.trans l2) A2 (.cons (r1.le l2) r2) q2)
theorem be_tup {es : List Expr} {j : Nat} (h : BA Γ es δ L fun ds L1 => ds.length ≤ sizeLine ∧ Q (.tup ds) L1) : BE Γ (.Tuple es j pos) δ L Q := fun X R0 F R σ H l A S QV g =>
  PE_w (pe_tup paW) (h X R0 F R σ H l A S _ fun vs ds R1 H1 L1 l1 A1 r1 q1 => ⟨by rw [r1.length]; exact q1.1, fun p hp => by
    have hR := A1.sub.non hp
    exact g _ _ _ _ L1 (l1.trans (Le.upd hR)) (A1.new hp) (.tup (.inl (.inl upd_same)) (r1.le (Le.upd hR))) q1.2⟩)
/-- a list that nobody will change -/
theorem be_lst {es : List Expr} (h : BA Γ es δ L fun ds L1 => ds.length ≤ sizeLine ∧ Q (.lst ds) L1) : BE Γ (.List es pos) δ L Q := fun X R0 F R σ H l A S QV g =>
  PE_w (pe_lst paW) (h X R0 F R σ H l A S _ fun vs ds R1 H1 L1 l1 A1 r1 q1 => ⟨by rw [r1.length]; exact q1.1, fun p hp => by
    have hR := A1.sub.non hp
    exact g _ _ _ _ L1 (l1.trans (Le.upd hR)) (A1.new hp) (.lst upd_same (r1.le (Le.upd hR))) q1.2⟩)
/-- a list that will change: a cell -/
theorem be_lstM {es : List Expr} (h : BA Γ es δ L fun ds L1 => ds.length ≤ sizeLine ∧ Q (.rf L1.length) (L1 ++ [.lst ds])) : BE Γ (.List es pos) δ L Q := fun X R0 F R σ H l A S QV g =>
  PE_w (pe_lst paW) (h X R0 F R σ H l A S _ fun vs ds R1 H1 L1 l1 A1 r1 q1 => ⟨by rw [r1.length]; exact q1.1, fun p hp => by
    obtain ⟨A2, l2⟩ := A1.cell (o := .lst vs) (m := .lst ds) hp ⟨vs, upd_same, r1⟩
    exact g _ _ _ _ _ (l1.trans l2) A2 Rp.new q1.2⟩)
end

/-! ### several stores at once -/
theorem sw_fold {ts vs : List Expr} {a b : Nat} {p q : Pos} {env : Env} (h : vs.all (foldedForSure 8) = true) : swappedStores [.Tuple ts a p] (.Tuple vs b q) env = pure none := by
  unfold swappedStores
  simp only [h]
  repeat' split
  all_goals first | rfl | simp_all
def isStar : Expr → Bool
  | .Starred .. => true
  | _ => false
theorem sw_par2 {x y : Str} {a b : Expr} {px py pt pt2 : Pos} {kt k2 : Nat} {env : Env} (hk : env.scope.kind = .function) (hx : env.scope.names.lookup x = some .local) (hy : env.scope.names.lookup y = some .local) (hl : py.line = px.line)
    (hne : x ≠ y) (ha : isStar a = false) (hb : isStar b = false) (hf : (foldedForSure 8 a && foldedForSure 8 b) = false) (hc : (constantsAlone 8 a && constantsAlone 8 b) = false) :
    swappedStores [.Tuple [.Name x px, .Name y py] kt pt] (.Tuple [a, b] k2 pt2) env = pure (some [x, y]) := by
  have kx : env.kindOf x = some .local := hx
  have ky : env.kindOf y = some .local := hy
  have kb : env.blockKind = .function := by unfold Env.blockKind; rw [hk]; rfl
  have e1 : (env.blockKind != .function) = false := by rw [kb]; rfl
  have e2 : [x, y].eraseDups.length = 2 := by
    have : (y == x) = false := beq_eq_false_iff_ne.mpr (fun e => hne e.symm)
    simp [List.eraseDups_cons, this]
  have px' : (Expr.Name x px).pos = px := rfl
  unfold swappedStores
  simp only [e1]
  refine (if_neg (by simp)).trans ?_
  refine (if_neg (fun h => ?_)).trans ?_
  · simp only [List.any_cons, List.any_nil, Bool.or_false, Bool.or_eq_true] at h
    rcases h with h | h
    · exact absurd (ha.symm.trans h) (by decide)
    · exact absurd (hb.symm.trans h) (by decide)
  have hf' : ¬ (foldedForSure 8 a = true ∧ foldedForSure 8 b = true) := fun h => by rw [h.1, h.2] at hf; cases hf
  have hc' : ¬ (constantsAlone 8 a = true ∧ constantsAlone 8 b = true) := fun h => by rw [h.1, h.2] at hc; cases hc
  have hl' : (Expr.Name y py).pos.line = (Expr.Name x px).pos.line := hl
  clear hf hc
  simp [kx, ky, hl, px', e2]
  rw [if_neg hf', if_neg hc']
theorem sw_par3 {x y z : Str} {a b c : Expr} {px py pz pt pt2 : Pos} {kt k2 : Nat} {env : Env} (hk : env.scope.kind = .function) (hx : env.scope.names.lookup x = some .local) (hy : env.scope.names.lookup y = some .local) (hz : env.scope.names.lookup z = some .local) (hl : py.line = px.line) (hl2 : pz.line = px.line)
    (hxy : x ≠ y) (hxz : x ≠ z) (hyz : y ≠ z) (ha : isStar a = false) (hb : isStar b = false) (hcs : isStar c = false) (hf : (foldedForSure 8 a && (foldedForSure 8 b && foldedForSure 8 c)) = false) (hc : (constantsAlone 8 a && (constantsAlone 8 b && constantsAlone 8 c)) = false) :
    swappedStores [.Tuple [.Name x px, .Name y py, .Name z pz] kt pt] (.Tuple [a, b, c] k2 pt2) env = pure (some [x, y, z]) := by
  have kx : env.kindOf x = some .local := hx
  have ky : env.kindOf y = some .local := hy
  have kz : env.kindOf z = some .local := hz
  have kb : env.blockKind = .function := by unfold Env.blockKind; rw [hk]; rfl
  have e1 : (env.blockKind != .function) = false := by rw [kb]; rfl
  have e2 : [x, y, z].eraseDups.length = 3 := by
    have h1 : (y == x) = false := beq_eq_false_iff_ne.mpr (fun e => hxy e.symm)
    have h2 : (z == x) = false := beq_eq_false_iff_ne.mpr (fun e => hxz e.symm)
    have h3 : (z == y) = false := beq_eq_false_iff_ne.mpr (fun e => hyz e.symm)
    simp [List.eraseDups_cons, h1, h2, h3]
  have px' : (Expr.Name x px).pos = px := rfl
  unfold swappedStores
  simp only [e1]
  refine (if_neg (by simp)).trans ?_
  refine (if_neg (fun h => ?_)).trans ?_
  · simp only [List.any_cons, List.any_nil, Bool.or_false, Bool.or_eq_true] at h
    rcases h with h | h | h
    · exact absurd (ha.symm.trans h) (by decide)
    · exact absurd (hb.symm.trans h) (by decide)
    · exact absurd (hcs.symm.trans h) (by decide)
  have hf' : ¬ (foldedForSure 8 a = true ∧ foldedForSure 8 b = true ∧ foldedForSure 8 c = true) := fun h => by rw [h.1, h.2.1, h.2.2] at hf; cases hf
  have hc' : ¬ (constantsAlone 8 a = true ∧ constantsAlone 8 b = true ∧ constantsAlone 8 c = true) := fun h => by rw [h.1, h.2.1, h.2.2] at hc; cases hc
  clear hf hc
  simp [kx, ky, kz, hl, hl2, px', e2]
  rw [if_neg hf', if_neg hc']
theorem fm_lt {α β : Type} {f : α → Option β} : ∀ {l : List α} {a : α}, a ∈ l → f a = none → (l.filterMap f).length < l.length
  | b :: l, a, hm, hf => by
    rcases List.mem_cons.mp hm with e | hm
    · subst e
      rw [List.filterMap_cons_none hf]
      exact Nat.lt_succ_of_le (List.length_filterMap_le f l)
    · have ih := fm_lt hm hf
      cases e : f b with
      | none => rw [List.filterMap_cons_none e]; exact Nat.lt_succ_of_lt ih
      | some c => rw [List.filterMap_cons_some e]; exact Nat.succ_lt_succ ih
/-- some name is no plain local -/
theorem sw_cell {ts vs : List Expr} {a b : Nat} {p q : Pos} {env : Env} {x : Str} {px : Pos} {k : NameKind} (hm : .Name x px ∈ ts) (hl : env.scope.names.lookup x = some k) (hk : k ≠ .local) : swappedStores [.Tuple ts a p] (.Tuple vs b q) env = pure none := by
  have kx : (env.kindOf x == some NameKind.local) = false := by
    show (env.scope.names.lookup x == some NameKind.local) = false
    rw [hl]
    cases k <;> first | rfl | exact absurd rfl hk
  unfold swappedStores
  simp only []
  split
  · rfl
  · split
    · rfl
    · refine if_pos ?_
      rw [Bool.or_eq_true]
      refine .inl (bne_iff_ne.mpr (Nat.ne_of_lt (fm_lt hm ?_)))
      show (if _ then _ else _) = none
      rw [kx, Bool.false_and]
      rfl

/-! ### statements -/
section
variable {Γ : Ct} {δ : Ds} {L : Mu} {A : AEnds} {pos : Pos} {e : Expr}
theorem bss_nil (h : A.nx δ L) : BSs Γ [] δ L A := fun X R0 F R σ H l Ar S E g => PSs_w pss_nil (g.nx σ δ R H L (Le.refl R) Ar S h)
theorem bss_cons {st : Stmt} {rest : List Stmt} (h : BS Γ st δ L { A with nx := fun δ' L' => BSs Γ rest δ' L' A }) : BSs Γ (st :: rest) δ L A := fun X R0 F R σ H l Ar S E g =>
  PSs_w (pss_cons psW pssW) (h X R0 F R σ H l Ar S _ ⟨fun σ1 δ1 R1 H1 L1 l1 A1 S1 q1 => q1 X R0 F R1 σ1 H1 (l.trans l1) A1 S1 E (g.le l1), g.rt, g.bk, g.ct⟩)
theorem bss_one {st : Stmt} (h : BS Γ st δ L A) : BSs Γ [st] δ L A := fun X R0 F R σ H l Ar S E g => PSs_w (pss_one psW) (h X R0 F R σ H l Ar S E g)
/-- a word between -/
theorem bss_cut {st : Stmt} {rest : List Stmt} (Mid : Ds → Mu → Prop) (h : BS Γ st δ L { A with nx := Mid }) (h2 : ∀ δ' L', Mid δ' L' → BSs Γ rest δ' L' A) : BSs Γ (st :: rest) δ L A := bss_cons (fun X R0 F R σ H l Ar S E g => h X R0 F R σ H l Ar S E ⟨fun σ1 δ1 R1 H1 L1 l1 A1 S1 q1 => g.nx σ1 δ1 R1 H1 L1 l1 A1 S1 (h2 _ _ q1), g.rt, g.bk, g.ct⟩)
theorem bs_pass (h : A.nx δ L) : BS Γ (.Pass pos) δ L A := fun X R0 F R σ H l Ar S E g => PS_w ps_pass (g.nx σ δ R H L (Le.refl R) Ar S h)
theorem bs_break (h : A.bk δ L) : BS Γ (.Break pos) δ L A := fun X R0 F R σ H l Ar S E g => PS_w ps_break (g.bk σ δ R H L (Le.refl R) Ar S h)
theorem bs_continue (h : A.ct δ L) : BS Γ (.Continue pos) δ L A := fun X R0 F R σ H l Ar S E g => PS_w ps_continue (g.ct σ δ R H L (Le.refl R) Ar S h)
theorem bs_doc {x : Str} {j : Nat} {pos' : Pos} (h : A.nx δ L) : BS Γ (.Expr (.Constant (.str x) j pos) pos') δ L A := fun X R0 F R σ H l Ar S E g => PS_w ps_doc (g.nx σ δ R H L (Le.refl R) Ar S h)
theorem bs_expr (h : BE Γ e δ L fun _ L1 => A.nx δ L1) (hs : ∀ env, swapsWith e none pos.line env = pure false := by intro _; rfl) : BS Γ (.Expr e pos) δ L A := fun X R0 F R σ H l Ar S E g =>
  PS_w (ps_expr peW (hs _)) (h X R0 F R σ H l Ar S _ fun v d R1 H1 L1 l1 A1 r1 q1 => g.nx σ δ R1 H1 L1 l1 A1 (S.le l1) q1)
theorem bs_ret (h : BE Γ e δ L A.rt) : BS Γ (.Return (some e) pos) δ L A := fun X R0 F R σ H l Ar S E g => PS_w (ps_ret peW) (h X R0 F R σ H l Ar S _ g.rt)
theorem bs_retN (h : A.rt .non L) : BS Γ (.Return none pos) δ L A := fun X R0 F R σ H l Ar S E g => PS_w ps_retN (g.rt _ _ R H L (Le.refl R) Ar .non h)
theorem bs_if {c : Expr} {a b : List Stmt} (h : BT Γ c δ L fun k L1 => (k = true → BSs Γ a δ L1 A) ∧ (k = false → BSs Γ b δ L1 A)) : BS Γ (.If c a b pos) δ L A := fun X R0 F R σ H l Ar S E g =>
  PS_w (ps_if ptW pssW pssW) (h X R0 F R σ H l Ar S _ fun k R1 H1 L1 l1 A1 q1 => by
    cases k with
    | false => exact iteF (q1.2 rfl X R0 F R1 σ H1 (l.trans l1) A1 (S.le l1) E (g.le l1))
    | true => exact iteT (q1.1 rfl X R0 F R1 σ H1 (l.trans l1) A1 (S.le l1) E (g.le l1)))
/-! targets -/
theorem bg_name {x : Str} {d : D} {i : Nat} {k : NameKind} {Q : Ds → Mu → Prop} [hN : Ix Γ.N x i] [hK : Kd Γ.sc.names x k] (h : Q (δ.set i (some d)) L) (hv : locK k = true := by rfl) : BG Γ (.Name x pos) d δ L Q := fun X R0 F R σ H v l Ar S r QV g =>
  have hx := F.loc _ _ hK.mem hv
  PG_w (pg_name (i := i) (by rw [F.N]; exact F.nd) (by rw [F.N]; exact hN.at_) hx.1 hx.2) (g _ _ R H L (Le.refl R) Ar (S.set r i) h)
theorem bs_set {x : Str} {i : Nat} {k : NameKind} {pos' : Pos} [hN : Ix Γ.N x i] [hK : Kd Γ.sc.names x k] (h : BE Γ e δ L fun d L1 => A.nx (δ.set i (some d)) L1) (hs : ∀ env, swapsWith e (some (.Name x pos')) pos.line env = pure false) (hv : locK k = true := by rfl) : BS Γ (.Assign [.Name x pos'] e pos) δ L A := fun X R0 F R σ H l Ar S E g =>
  have hx := F.loc _ _ hK.mem hv
  PS_w (ps_set (i := i) (by rw [F.N]; exact F.nd) (by rw [F.N]; exact hN.at_) hx.1 peW (hs _) hx.2) (h X R0 F R σ H l Ar S _ fun v d R1 H1 L1 l1 A1 r1 q1 => g.nx _ _ R1 H1 L1 l1 A1 ((S.le l1).set r1 i) q1)
theorem bs_asg {tg : Expr} (h : BE Γ e δ L fun d L1 => BG Γ tg d δ L1 A.nx) (hs : ∀ env, swapsWithSole [tg] e pos.line env = pure false := by intro _; rfl) (hw : ∀ env, swappedStores [tg] e env = pure none := by intro _; rfl)
    (h1 : ∀ env, (assignEach [tg] env).map (·.2) = [assign tg env] := by intro _; rfl) : BS Γ (.Assign [tg] e pos) δ L A := fun X R0 F R σ H l Ar S E g =>
  PS_w (ps_asg peW pgW (hs _) (hw _) (h1 _)) (h X R0 F R σ H l Ar S _ fun v d R1 H1 L1 l1 A1 r1 q1 => q1 X R0 F R1 σ H1 v (l.trans l1) A1 (S.le l1) r1 _ (g.nx.le l1))
theorem bgs_nil {Q : Ds → Mu → Prop} (h : Q δ L) : BGs Γ [] [] δ L Q := fun X R0 F R σ H vs l Ar S r QV g => by
  cases r
  exact PGs_w pgs_nil ⟨rfl, g σ δ R H L (Le.refl R) Ar S h⟩
theorem bgs_cons {t : Expr} {ts : List Expr} {d : D} {ds : List D} {Q : Ds → Mu → Prop} (h : BG Γ t d δ L fun δ' L' => BGs Γ ts ds δ' L' Q) (hs : ∀ env, (assignEach (t :: ts) env).map (·.2) = assign t env :: (assignEach ts env).map (·.2) := by intro _; rfl) : BGs Γ (t :: ts) (d :: ds) δ L Q := fun X R0 F R σ H vs l Ar S r QV g => by
  cases r with
  | cons r1 rs =>
    exact PGs_w (pgs_cons pgW pgsW (hs _)) ⟨_, _, rfl, h X R0 F R σ H _ l Ar S r1 _ fun σ1 δ1 R1 H1 L1 l1 A1 S1 q1 => q1 X R0 F R1 σ1 H1 _ (l.trans l1) A1 S1 (rs.le l1) QV (g.le l1)⟩
theorem bg_tup {ts : List Expr} {j : Nat} {ds : List D} {Q : Ds → Mu → Prop} (h : BGs Γ ts ds δ L Q) (hc : Γ.calm = true := by rfl) (hn : ∀ env, (assignEach ts env).length = ds.length := by intro _; rfl)
    (hst : ∀ env, (assignEach ts env).findIdx? (·.1) = none := by intro _; rfl) : BG Γ (.Tuple ts j pos) (.tup ds) δ L Q := fun X R0 F R σ H v l Ar S r QV g => by
  cases r with
  | tup s rs =>
    rw [← F.K] at s
    exact PG_w (pg_tup (n := ds.length) (by rw [F.calm]; exact hc) pgsW (hn _) (hst _)) ⟨_, _, rfl, by
      have := Ar.sub.sqT s
      exact this, rs.length, h X R0 F R σ H _ l Ar S rs QV g⟩
/-- a, b = x, y of local names -/
theorem ix_ne {Γ : Ct} {X : Cx} {R0 : Rw} (F : Fits Γ X R0) {x y : Str} {i j : Nat} (hi : Ix Γ.N x i) (hj : Ix Γ.N y j) (h : i ≠ j) : x ≠ y := fun e => by
  subst e
  obtain ⟨q1, f1⟩ := List.getElem?_eq_some_iff.mp hi.at_
  obtain ⟨q2, f2⟩ := List.getElem?_eq_some_iff.mp hj.at_
  exact h ((List.getElem_inj F.nd).mp (f1.trans f2.symm))
/-- a, b = x, y of plain local names -/
theorem bs_par {x y : Str} {i j : Nat} {a b : Expr} {px py pt : Pos} {kt k2 : Nat} {pt2 : Pos} [hi : Ix Γ.N x i] [hj : Ix Γ.N y j] [hx : Kd Γ.sc.names x .local] [hy : Kd Γ.sc.names y .local] (h : BA Γ [a, b] δ L fun ds L1 => ∃ d e, ds = [d, e] ∧ A.nx ((δ.set i (some d)).set j (some e)) L1)
    (hij : i ≠ j) (hl : py.line = px.line) (ha : isStar a = false) (hb : isStar b = false) (hf : (foldedForSure 8 a && foldedForSure 8 b) = false) (hcn : (constantsAlone 8 a && constantsAlone 8 b) = false) (hc : Γ.calm = true) :
    BS Γ (.Assign [.Tuple [.Name x px, .Name y py] kt pt] (.Tuple [a, b] k2 pt2) pos) δ L A := fun X R0 F R σ H l Ar S E g =>
  have lx : X.env.scope.names.lookup x = some .local := F.lcl _ hx.mem
  have ly : X.env.scope.names.lookup y = some .local := F.lcl _ hy.mem
  PS_w (ps_par (by rw [F.calm]; exact hc) (by rw [F.N]; exact F.nd) (by rw [F.N]; exact hi.at_) (by rw [F.N]; exact hj.at_) hij lx ly paW (sw_par2 F.kind lx ly hl (ix_ne F hi hj hij) ha hb hf hcn) rfl)
    (h X R0 F R σ H l Ar S _ fun vs ds R1 H1 L1 l1 A1 r1 q1 => by
      obtain ⟨d, e, rfl, q⟩ := q1
      cases r1 with
      | cons ra rt =>
        cases rt with
        | cons rb rn =>
          cases rn
          exact ⟨_, _, rfl, g.nx _ _ R1 H1 L1 l1 A1 (((S.le l1).set ra i).set rb j) q⟩)
theorem bs_par3 {x y z : Str} {i j m : Nat} {a b c : Expr} {px py pz pt : Pos} {kt k2 : Nat} {pt2 : Pos} [hi : Ix Γ.N x i] [hj : Ix Γ.N y j] [hm : Ix Γ.N z m] [hx : Kd Γ.sc.names x .local] [hy : Kd Γ.sc.names y .local] [hz : Kd Γ.sc.names z .local]
    (h : BA Γ [a, b, c] δ L fun ds L1 => ∃ d e f, ds = [d, e, f] ∧ A.nx (((δ.set i (some d)).set j (some e)).set m (some f)) L1)
    (hij : i ≠ j) (him : i ≠ m) (hjm : j ≠ m) (hl : py.line = px.line) (hl2 : pz.line = px.line) (ha : isStar a = false) (hb : isStar b = false) (hcs : isStar c = false) (hf : (foldedForSure 8 a && (foldedForSure 8 b && foldedForSure 8 c)) = false) (hcn : (constantsAlone 8 a && (constantsAlone 8 b && constantsAlone 8 c)) = false) (hc : Γ.calm = true) :
    BS Γ (.Assign [.Tuple [.Name x px, .Name y py, .Name z pz] kt pt] (.Tuple [a, b, c] k2 pt2) pos) δ L A := fun X R0 F R σ H l Ar S E g =>
  have lx : X.env.scope.names.lookup x = some .local := F.lcl _ hx.mem
  have ly : X.env.scope.names.lookup y = some .local := F.lcl _ hy.mem
  have lz : X.env.scope.names.lookup z = some .local := F.lcl _ hz.mem
  PS_w (ps_par3 (by rw [F.calm]; exact hc) (by rw [F.N]; exact F.nd) (by rw [F.N]; exact hi.at_) (by rw [F.N]; exact hj.at_) (by rw [F.N]; exact hm.at_) hij him hjm lx ly lz paW (sw_par3 F.kind lx ly lz hl hl2 (ix_ne F hi hj hij) (ix_ne F hi hm him) (ix_ne F hj hm hjm) ha hb hcs hf hcn))
    (h X R0 F R σ H l Ar S _ fun vs ds R1 H1 L1 l1 A1 r1 q1 => by
      obtain ⟨d, e, f, rfl, q⟩ := q1
      cases r1 with
      | cons ra rt =>
        cases rt with
        | cons rb rn =>
          cases rn with
          | cons rc rn =>
            cases rn
            exact ⟨_, _, _, rfl, g.nx _ _ R1 H1 L1 l1 A1 ((((S.le l1).set ra i).set rb j).set rc m) q⟩)
/-- several stores of written constants -/
theorem bs_asgF {ts vs : List Expr} {kt k2 : Nat} {pt pt2 : Pos} (h : BE Γ (.Tuple vs k2 pt2) δ L fun d L1 => BG Γ (.Tuple ts kt pt) d δ L1 A.nx) (hf : vs.all (foldedForSure 8) = true) : BS Γ (.Assign [.Tuple ts kt pt] (.Tuple vs k2 pt2) pos) δ L A := fun X R0 F R σ H l Ar S E g =>
  PS_w (ps_asg peW pgW rfl (sw_fold hf) rfl) (h X R0 F R σ H l Ar S _ fun v d R1 H1 L1 l1 A1 r1 q1 => q1 X R0 F R1 σ H1 v (l.trans l1) A1 (S.le l1) r1 _ (g.nx.le l1))
/-- several stores, some name being captured -/
theorem bs_asgC {ts vs : List Expr} {kt k2 : Nat} {pt pt2 : Pos} {x : Str} {px : Pos} {k : NameKind} [hK : Kd Γ.sc.names x k] (h : BE Γ (.Tuple vs k2 pt2) δ L fun d L1 => BG Γ (.Tuple ts kt pt) d δ L1 A.nx) (hm : .Name x px ∈ ts) (hk : k ≠ .local) : BS Γ (.Assign [.Tuple ts kt pt] (.Tuple vs k2 pt2) pos) δ L A := fun X R0 F R σ H l Ar S E g =>
  have ⟨k', e', n'⟩ := F.ncl _ _ hK.mem hk
  PS_w (ps_asg peW pgW rfl (sw_cell hm e' n') rfl) (h X R0 F R σ H l Ar S _ fun v d R1 H1 L1 l1 A1 r1 q1 => q1 X R0 F R1 σ H1 v (l.trans l1) A1 (S.le l1) r1 _ (g.nx.le l1))
theorem bs_aug {x : Str} {i : Nat} {k : NameKind} {op : Operator} {d : D} {pos' : Pos} [hN : Ix Γ.N x i] [hK : Kd Γ.sc.names x k] (hd : δ[i]? = some (some d)) (h : BE Γ e δ L fun y L1 => B2 Γ (inplaceOp op) d y L1 fun z L2 => A.nx (δ.set i (some z)) L2) (hv : locK k = true := by rfl) :
    BS Γ (.AugAssign (.Name x pos') op e pos) δ L A := fun X R0 F R σ H l Ar S E g => by
  have hx := F.loc _ _ hK.mem hv
  obtain ⟨v, hv, rv⟩ := S.get hd
  refine PS_w (ps_aug (i := i) (ti := wR X (inplaceOp op)) (by rw [F.N]; exact F.nd) (by rw [F.N]; exact hN.at_) hx.1 peW ?_ hx.2) ⟨v, hv, h X R0 F R σ H l Ar S _ fun u y R1 H1 L1 l1 A1 r1 q1 => q1 X R0 F R1 H1 v u (l.trans l1) A1 (rv.le l1) r1 _ fun z d2 R2 H2 L2 l2 A2 r2 q2 => g.nx _ _ R2 H2 L2 (l1.trans l2) A2 (((S.le l1).le l2).set r2 i) q2⟩
  exact fun pins s σ H x y v u Q I r1 r2 h => h pins s σ v u I r1 r2

/-! ### loops -/
theorem bs_for {tg iter : Expr} {body : List Stmt} (h : BI Γ tg iter δ L fun ds cond L1 => ∃ Iv : Nat → Ds → Mu → Prop, Iv 0 δ L1 ∧ (∀ i δ' L', i ≤ ds.length → Iv i δ' L' → cond L') ∧
      (∀ i d δ' L', ds[i]? = some d → Iv i δ' L' → BG Γ tg d δ' L' fun δ2 L2 => BSs Γ body δ2 L2 { A with nx := Iv (i + 1), ct := Iv (i + 1), bk := A.nx }) ∧ (∀ δ' L', Iv ds.length δ' L' → A.nx δ' L'))
    (hc : Γ.calm = true := by rfl) (hs : ∀ env x, foldedSetIterable iter env x = pure x := by intro _ _; rfl) : BS Γ (.For tg iter body [] pos) δ L A := fun X R0 F R σ H l Ar S E g =>
  PS_w (ps_for F.own (by rw [F.calm]; exact hc) piW pgW pssW (hs _)) (h X R0 F R σ H l Ar S _ fun J R1 H1 L1 ds cond l1 A1 Y hcnd q1 => by
    obtain ⟨Iv, h0, hcond, hstep, hend⟩ := q1
    refine ⟨fun i m σ' H' => m = ds.length - i ∧ i ≤ ds.length ∧ ∃ R' δ' L', Le R1 R' ∧ AR Γ.T Γ.K R' L' H' ∧ RS Γ.K R' σ' δ' ∧ Iv i δ' L', ⟨ds.length, by simp, Nat.zero_le _, R1, δ, L1, Le.refl _, A1, S.le l1, h0⟩, ?_⟩
    rintro i m σ' H' ⟨rfl, hi, R', δ', L', l', A', S', q⟩
    have Yi := Y i R' H' L' l'.toLw A' (hcond i δ' L' hi q)
    by_cases hlt : i < ds.length
    · obtain ⟨hgo, hy⟩ := Yi.1 ds[i] (by simp [hlt])
      refine .inr ⟨hgo, fun σ2 H2 => ∃ R2 δ2 L2, Le R1 R2 ∧ AR Γ.T Γ.K R2 L2 H2 ∧ RS Γ.K R2 σ2 δ2 ∧ Iv (i + 1) δ2 L2, fun σ2 H2 ⟨R2, δ2, L2, l2, A2, S2, q2⟩ => ⟨ds.length - (i + 1), by omega, rfl, hlt, R2, δ2, L2, l2, A2, S2, q2⟩, fun x H2 hx => ?_⟩
      obtain ⟨R2, l2, A2, rx⟩ := hy x H2 hx
      refine hstep i ds[i] δ' L' (by simp [hlt]) q X R0 F R2 σ' H2 x (((l.trans l1).trans l').trans l2) A2 (S'.le l2) rx _ fun σ3 δ3 R3 H3 L3 l3 A3 S3 q3 => ?_
      have lR : Le R R3 := ((l1.trans l').trans l2).trans l3
      exact q3 X R0 F R3 σ3 H3 (l.trans lR) A3 S3 _ ⟨fun σ4 δ4 R4 H4 L4 l4 A4 S4 q4 => ⟨R4, δ4, L4, ((l'.trans l2).trans l3).trans l4, A4, S4, q4⟩, g.rt.le lR, g.nx.le lR, fun σ4 δ4 R4 H4 L4 l4 A4 S4 q4 => ⟨R4, δ4, L4, ((l'.trans l2).trans l3).trans l4, A4, S4, q4⟩⟩
    · have e : i = ds.length := by omega
      exact .inl ⟨Yi.2 e, g.nx σ' δ' R' H' L' (l1.trans l') A' S' (hend δ' L' (e ▸ q))⟩)
theorem bs_while {c : Expr} {body : List Stmt} (Iv : Nat → Ds → Mu → Prop) (m0 : Nat) (h0 : Iv m0 δ L) (h : ∀ m δ' L', Iv m δ' L' → BT Γ c δ' L' fun k L2 => (k = true → BSs Γ body δ' L2 { A with nx := fun δ3 L3 => ∃ m', m' < m ∧ Iv m' δ3 L3, ct := fun δ3 L3 => ∃ m', m' < m ∧ Iv m' δ3 L3, bk := A.nx }) ∧ (k = false → A.nx δ' L2)) :
    BS Γ (.While c body [] pos) δ L A := fun X R0 F R σ H l Ar S E g =>
  PS_w (ps_while F.own ptW pssW) ⟨fun m σ' H' => ∃ R' δ' L', Le R R' ∧ AR Γ.T Γ.K R' L' H' ∧ RS Γ.K R' σ' δ' ∧ Iv m δ' L', ⟨m0, R, δ, L, Le.refl _, Ar, S, h0⟩, by
    rintro m σ' H' ⟨R', δ', L', l', A', S', q⟩
    refine h m δ' L' q X R0 F R' σ' H' (l.trans l') A' S' _ fun k R2 H2 L2 l2 A2 q2 => ?_
    cases k with
    | false => exact iteF (g.nx σ' δ' R2 H2 L2 (l'.trans l2) A2 (S'.le l2) (q2.2 rfl))
    | true =>
      refine iteT ⟨fun σ3 H3 => ∃ m', m' < m ∧ ∃ R3 δ3 L3, Le R R3 ∧ AR Γ.T Γ.K R3 L3 H3 ∧ RS Γ.K R3 σ3 δ3 ∧ Iv m' δ3 L3, fun σ3 H3 ⟨m', hm, z⟩ => ⟨m', hm, z⟩, ?_⟩
      have lR : Le R R2 := l'.trans l2
      exact q2.1 rfl X R0 F R2 σ' H2 (l.trans lR) A2 (S'.le l2) _ ⟨fun σ4 δ4 R4 H4 L4 l4 A4 S4 ⟨m', hm, q4⟩ => ⟨m', hm, R4, δ4, L4, lR.trans l4, A4, S4, q4⟩, g.rt.le lR, g.nx.le lR, fun σ4 δ4 R4 H4 L4 l4 A4 S4 ⟨m', hm, q4⟩ => ⟨m', hm, R4, δ4, L4, lR.trans l4, A4, S4, q4⟩⟩⟩
end
end Ac
end
section
/-! Ac3: attributes, calls, methods, classes, defs. -/
namespace Ac
open PySem PySem.Spec PyProof.Rows L2

/-! ### instances -/
theorem zip_look {f : Str} : ∀ {fl : List Str} {vs : List V} {j : Nat} {v : V}, fl.Nodup → fl[j]? = some f → vs[j]? = some v → (fl.zip vs).lookup f = some v
  | [], _, _, _, _, h, _ => by simp at h
  | _ :: _, [], _, _, _, _, h => by simp at h
  | g :: fl, w :: vs, 0, v, _, h1, h2 => by
    simp at h1 h2
    subst h1; subst h2
    simp [List.lookup]
  | g :: fl, w :: vs, j + 1, v, nd, h1, h2 => by
    have e1 : fl[j]? = some f := by simpa using h1
    have e2 : vs[j]? = some v := by simpa using h2
    have ne : f ≠ g := fun e => (List.nodup_cons.mp nd).1 (by rw [← e]; exact List.mem_of_getElem? e1)
    rw [List.zip_cons_cons, List.lookup_cons, beq_eq_false_iff_ne.mpr ne]
    exact zip_look (List.nodup_cons.mp nd).2 e1 e2
theorem zip_no {f : Str} : ∀ {fl : List Str} {vs : List V}, f ∉ fl → (fl.zip vs).lookup f = none
  | [], _, _ => by simp
  | _ :: _, [], _ => by simp
  | g :: fl, w :: vs, h => by
    have ne : f ≠ g := fun e => h (by rw [e]; exact List.mem_cons_self)
    rw [List.zip_cons_cons, List.lookup_cons, beq_eq_false_iff_ne.mpr ne]
    exact zip_no fun e => h (List.mem_cons_of_mem _ e)
theorem zip_put {f : Str} {y : V} : ∀ {fl : List Str} {vs : List V} {j : Nat}, fl.Nodup → fl[j]? = some f → j < vs.length → putF f y (fl.zip vs) = fl.zip (vs.set j y)
  | [], _, _, _, h, _ => by simp at h
  | _ :: _, [], _, _, _, h => by simp at h
  | g :: fl, w :: vs, 0, _, h1, _ => by
    simp at h1
    subst h1
    simp [putF]
  | g :: fl, w :: vs, j + 1, nd, h1, h2 => by
    have e1 : fl[j]? = some f := by simpa using h1
    have ne : ¬ g = f := fun e => (List.nodup_cons.mp nd).1 (by rw [e]; exact List.mem_of_getElem? e1)
    simp only [List.zip_cons_cons, putF, if_neg ne, List.set_cons_succ]
    rw [zip_put (List.nodup_cons.mp nd).2 e1 (by simpa using h2)]
theorem zip_add {f : Str} {y : V} : ∀ {fl : List Str} {vs : List V}, fl.Nodup → fl[vs.length]? = some f → putF f y (fl.zip vs) = fl.zip (vs ++ [y])
  | [], _, _, h => by simp at h
  | g :: fl, [], _, h => by
    simp at h
    subst h
    simp [putF]
  | g :: fl, w :: vs, nd, h => by
    have e1 : fl[vs.length]? = some f := by simpa using h
    have ne : ¬ g = f := fun e => (List.nodup_cons.mp nd).1 (by rw [e]; exact List.mem_of_getElem? e1)
    simp only [List.zip_cons_cons, putF, if_neg ne, List.cons_append]
    rw [zip_add (List.nodup_cons.mp nd).2 e1]
/-- d is an instance of C, in a cell or for good, of the fields xs -/
def InsAt (L : Mu) (d : D) (C : Nat) (xs : List D) : Prop := d = .obj C xs ∨ ∃ i, d = .rf i ∧ L[i]? = some (.ins C xs)
theorem InsAt.at {T : Tbl} {K : PySem.W.Frag} {R : Rw} {L : Mu} {H : Hp} {d : D} {C : Nat} {xs : List D} {v : V} (h : InsAt L d C xs) (A : AR T K R L H) (r : Rp K R v d) : ∃ p dx vs, v = .ref p ∧ H p = some (.ins (R.c C).1 dx ((R.c C).2.zip vs)) ∧ vs.length ≤ (R.c C).2.length ∧ Rps K R vs xs := by
  rcases h with rfl | ⟨i, rfl, hi⟩
  · cases r with
    | obj s n r => exact ⟨_, _, _, rfl, A.sub.at s (fun z => z), n, r⟩
  · obtain ⟨a, rfl, _, dx, vs, e, n, r⟩ := A.at hi r
    exact ⟨_, _, _, rfl, e, n, r⟩
/-- a class of the text: its fields in the order of __init__ -/
structure Kl (W : Wd) (C : Nat) : Prop where
  cls : Cls W.K (W.cls C).1
  na : ∀ f ∈ (W.cls C).2, NoAttr W.K (W.cls C).1 f
  nd : (W.cls C).2.Nodup
  sm : (W.cls C).2.length < 1000
section
variable {Γ : Ct} {δ : Ds} {L : Mu} {Q : D → Mu → Prop} {o value : Expr} {f : Str} {pos tpos : Pos} {A : AEnds}
/-- o.f -/
theorem be_at (h : BE Γ o δ L fun d L1 => ∃ (C : Nat) (xs : List D) (j : Nat) (v : D), InsAt L1 d C xs ∧ Kl Γ.toWd C ∧ (Γ.cls C).2[j]? = some f ∧ xs[j]? = some v ∧ Q v L1)
    (hb : ∀ env, attributeBase o f env (eval o env) = eval o env) : BE Γ (.Attribute o f pos) δ L Q := fun X R0 F R σ H l Ar S QV g =>
  PE_w (pe_fld peW (hb _)) (h X R0 F R σ H l Ar S _ fun v d R1 H1 L1 l1 A1 r1 q1 => by
    obtain ⟨C, xs, j, v', hi, k, hf, hv, q⟩ := q1
    obtain ⟨p, dx, vs, rfl, hp, hn, r⟩ := hi.at A1 r1
    obtain ⟨w, hw, rw'⟩ := r.get hv
    have ec : R1.c = Γ.cls := (l.trans l1).c.trans F.cls
    rw [ec] at hp
    exact ⟨p, _, dx, _, w, rfl, hp, by rw [F.K]; exact k.cls, by rw [F.K]; exact k.na f (List.mem_of_getElem? hf), zip_look k.nd hf hw, g w v' R1 H1 L1 l1 A1 rw' q⟩)
/-- the fields of an instance behind a store at j -/
def putX (j : Nat) (y : D) (xs : List D) : List D := if j < xs.length then xs.set j y else xs ++ [y]
theorem ins_write {T : Tbl} {K : PySem.W.Frag} {R : Rw} {L : Mu} {H : Hp} {W : Wd} {i C j : Nat} {xs : List D} {a dx : Addr} {vs : List V} {y : V} {dy : D} (A : AR T K R L H) (ec : R.c = W.cls) (k : Kl W C) (hi : L[i]? = some (.ins C xs)) (hv : R.v i = some a)
    (hp : H a = some (.ins (R.c C).1 dx ((R.c C).2.zip vs))) (hn : vs.length ≤ (R.c C).2.length) (r : Rps K R vs xs) (hf : (W.cls C).2[j]? = some f) (hj : j ≤ xs.length) (ry : Rp K R y dy) :
    AR T K R (L.set i (.ins C (putX j dy xs))) (L2.upd H a (.ins (R.c C).1 dx (putF f y ((R.c C).2.zip vs)))) := by
  have hl : j < (R.c C).2.length := by rw [ec]; exact (List.getElem?_eq_some_iff.mp hf).1
  unfold putX
  by_cases hlt : j < xs.length
  · rw [if_pos hlt]
    refine A.write hi hv hp trivial ⟨dx, vs.set j y, ?_, by rw [List.length_set]; exact hn, r.set ry j⟩
    rw [upd_same, zip_put (by rw [ec]; exact k.nd) (by rw [ec]; exact hf) (by rw [r.length]; exact hlt)]
  · rw [if_neg hlt]
    have e : j = vs.length := by rw [r.length]; omega
    refine A.write hi hv hp trivial ⟨dx, vs ++ [y], ?_, by rw [List.length_append, List.length_singleton]; omega, r.append (.cons ry .nil)⟩
    rw [upd_same, zip_add (by rw [ec]; exact k.nd) (by rw [ec, ← e]; exact hf)]
theorem zip_len {fl : List Str} {vs : List V} : (fl.zip vs).length ≤ fl.length := by rw [List.length_zip]; omega
/-- o.f = e -/
theorem bs_fld (h : BE Γ value δ L fun y L1 => BE Γ o δ L1 fun d L2 => ∃ (i C j : Nat) (xs : List D), d = .rf i ∧ L2[i]? = some (.ins C xs) ∧ Kl Γ.toWd C ∧ (Γ.cls C).2[j]? = some f ∧ j ≤ xs.length ∧ A.nx δ (L2.set i (.ins C (putX j y xs))))
    (hs : ∀ env, swapsWith value (some (.Attribute o f tpos)) pos.line env = pure false) : BS Γ (.Assign [.Attribute o f tpos] value pos) δ L A := fun X R0 F R σ H l Ar S E g =>
  PS_w (ps_fld peW peW (hs _)) (h X R0 F R σ H l Ar S _ fun y dy R1 H1 L1 l1 A1 r1 q1 => q1 X R0 F R1 σ H1 (l.trans l1) A1 (S.le l1) _ fun x d R2 H2 L2 l2 A2 r2 q2 => by
    obtain ⟨i, C, j, xs, rfl, hi, k, hf, hj, q⟩ := q2
    obtain ⟨a, rfl, hv, dx, vs, hp, hn, r⟩ := A2.at hi r2
    have ec : R2.c = Γ.cls := ((l.trans l1).trans l2).c.trans F.cls
    have W := ins_write A2 ec k hi hv hp hn r hf hj (r1.le l2)
    rw [ec] at hp W
    exact ⟨a, _, dx, _, rfl, hp, by rw [F.K]; exact k.cls, by rw [F.K]; exact k.na f (List.mem_of_getElem? hf), Nat.lt_of_le_of_lt zip_len k.sm, g.nx σ δ R2 _ _ (l1.trans l2) W ((S.le l1).le l2) q⟩)
/-- o.f op= e -/
theorem bs_fldAug {op : Operator} (h : BE Γ o δ L fun d L1 => ∃ (i C j : Nat) (xs : List D) (x : D), d = .rf i ∧ L1[i]? = some (.ins C xs) ∧ Kl Γ.toWd C ∧ (Γ.cls C).2[j]? = some f ∧ xs[j]? = some x ∧ BE Γ value δ L1 fun y L2 => B2 Γ (inplaceOp op) x y L2 fun z L3 => ∃ xs' : List D, L3[i]? = some (.ins C xs') ∧ j < xs'.length ∧ A.nx δ (L3.set i (.ins C (xs'.set j z)))) :
    BS Γ (.AugAssign (.Attribute o f tpos) op value pos) δ L A := fun X R0 F R σ H l Ar S E g =>
  PS_w (ps_fldaug (rd := wR X (inplaceOp op)) peW peW (fun pins s σ H x y u v Q I r1 r2 h => h pins s σ u v I r1 r2)) (h X R0 F R σ H l Ar S _ fun v d R1 H1 L1 l1 A1 r1 q1 => by
    obtain ⟨i, C, j, xs, x, rfl, hi, k, hf, hx, q⟩ := q1
    obtain ⟨a, rfl, hv, dx, vs, hp, hn, r⟩ := A1.at hi r1
    have ec : R1.c = Γ.cls := (l.trans l1).c.trans F.cls
    obtain ⟨w, hw, rw'⟩ := r.get hx
    rw [ec] at hp
    refine ⟨a, _, dx, _, w, rfl, hp, by rw [F.K]; exact k.cls, by rw [F.K]; exact k.na f (List.mem_of_getElem? hf), zip_look k.nd hf hw, ?_⟩
    refine q X R0 F R1 σ H1 (l.trans l1) A1 (S.le l1) _ fun y dy R2 H2 L2 l2 A2 r2 q2 => q2 X R0 F R2 H2 w y ((l.trans l1).trans l2) A2 (rw'.le l2) r2 _ fun z dz R3 H3 L3 l3 A3 r3 q3 => ?_
    obtain ⟨xs', hi3, hlt, q3⟩ := q3
    obtain ⟨a3, e3, hv3, dx3, vs3, hp3, hn3, r3'⟩ := A3.at hi3 (.rf (l3.v _ _ (l2.v _ _ hv)))
    cases e3
    have ec3 : R3.c = Γ.cls := (((l.trans l1).trans l2).trans l3).c.trans F.cls
    have W := ins_write A3 ec3 k hi3 hv3 hp3 hn3 r3' hf (Nat.le_of_lt hlt) r3
    rw [ec3] at hp3 W
    unfold putX at W
    rw [if_pos hlt] at W
    exact ⟨dx3, _, hp3, Nat.lt_of_le_of_lt zip_len k.sm, g.nx σ δ R3 _ _ ((l1.trans l2).trans l3) W (((S.le l1).le l2).le l3) q3⟩)
end

/-! ### calls -/
abbrev EXm := Value → Option D → Mu → Prop
/-- what a call asks: arguments, cells, what is wanted of the answer, of an exception -/
abbrev Con := List D → Mu → (D → Mu → Prop) → EXm → Prop
def spOf (W : Wd) (C : Con) : Sp := fun vs H QV E => ∃ R xs L Q EQ, R.c = W.cls ∧ AR W.T W.K R L H ∧ Rps W.K R vs xs ∧ C xs L Q EQ ∧
  (∀ v d R' H' L', Le R R' → AR W.T W.K R' L' H' → Rp W.K R' v d → Q d L' → QV v H') ∧
  (∀ cls oa pay R' H' L', Le R R' → AR W.T W.K R' L' H' → PayOk W.K R' H' oa pay → EQ cls pay L' → E cls oa H')
/-- the def at f keeps C -/
structure Fn (W : Wd) (k : Nat) (f : Addr) (C : Con) : Prop where
  ex : ∃ fd ps, FnOk W.P W.w W.K W.mg W.base (L2.CX W.P W.w) k f fd ps (spOf W C) ∧ Binds W.K fd ps []
  kp : PySem.W.keepIn W.K (.ref f) = true
theorem Fn.mono {W : Wd} {j k : Nat} {f : Addr} {C : Con} (F : Fn W j f C) (h : j ≤ k) : Fn W k f C := by
  obtain ⟨fd, ps, a, b⟩ := F.ex
  exact ⟨⟨fd, ps, a.mono h, b⟩, F.kp⟩

section
variable {X : Cx} {CX : CXT} {k : Nat} {f C : Addr} {fd : FuncData} {ps : List Str} {sp : Sp} {E : XK}
theorem run_makeS {pins : List (Addr × Obj)} {σ : L2.St} {H : Hp} {s : Shared} {Q : VK} {us : List Value} {vs : List V} (M : Mk X.K C f) (F : FnOk X.prog X.w X.K X.mg X.base CX k f fd ps sp) (hr : Room (k + 1) X.A) (hb : Binds X.K fd ps [])
    (hx : PassesAt CX X σ E) (I : Inv X pins σ H s) (r : Vals vs us)
    (h : ∀ x dx, H x = none → H dx = none → dx ≠ x → sp (.ref x :: vs) (upd (upd H dx (.own x)) x (.ins C dx [])) (fun v H2 => v = .non ∧ Q (.ref x) H2) E) :
    wpAny (model X.prog X.w) X.A (call (.ref C) us) (EP X pins σ Q) X.xe s := by
  have hq := h (s.heap.objs.size + 1) s.heap.objs.size (I.hok.fresh (Nat.le_succ _)) (I.hok.fresh (Nat.le_refl _)) (Nat.ne_of_lt (Nat.lt_succ_self _))
  have I2 := Inv.made (C := C) I
  have r2 : Vals (V.ref (s.heap.objs.size + 1) :: vs) (Value.ref (s.heap.objs.size + 1) :: us) := .cons rfl r
  have hl : (Value.ref (s.heap.objs.size + 1) :: us).length = ps.length := by
    have e := r2.length
    rw [F.len _ _ _ _ hq] at e
    exact e.symm
  have b := hb { s with heap := (s.heap.push _).push _ } (Value.ref (s.heap.objs.size + 1) :: us) I2.kIn (by rw [List.append_nil]; exact hl)
  rw [List.append_nil] at b
  refine wpAny_call (make_map (f := f) I.kIn M.makes M.init (beq_iff_eq.mp M.fn) (codeAny_mono (F.run _ X.stack _ _ ⟨Value.ref (s.heap.objs.size + 1) :: us, []⟩ (Value.ref (s.heap.objs.size + 1) :: us) _ _ E (hr.make C us [])
    (I2.env0.make C us []) b r2 hq) fun r s' hq' => ?_))
  cases r with
  | error e => exact hx pins _ _ e s' I2 hq'
  | ok fl =>
    cases fl with
    | ret u =>
      obtain ⟨v, H', I3, rv, ev, q3⟩ := I2.after hq'
      subst ev
      exact ⟨rv, ⟨V.ref (s.heap.objs.size + 1), H', I3, rfl, q3⟩⟩
    | next => exact False.elim hq'
    | brk => exact False.elim hq'
    | cont => exact False.elim hq'
end

section
variable {Γ : Ct} {δ : Ds} {L : Mu} {Q : D → Mu → Prop} {pos p apos : Pos} {x m : Str} {e o : Expr} {es : List Expr} {f C : Addr} {k : Nat} {Cn : Con}
abbrev Ct.ex (Γ : Ct) (δ : Ds) : EXm := fun cls pay L => Γ.EX cls pay δ L
/-- the wish at the slots in hand -/
theorem sp_of {R0 R : Rw} {σ : L2.St} {H : Hp} {W : WX} {QV : VK} {vs : List V} {xs : List D} (hEX : ∀ cls oa pay σ δ R H L, Le R0 R → AR Γ.T Γ.K R L H → RS Γ.K R σ δ → PayOk Γ.K R H oa pay → Γ.EX cls pay δ L → W cls oa σ H)
    (hc : R.c = Γ.cls) (l : Le R0 R) (A : AR Γ.T Γ.K R L H) (S : RS Γ.K R σ δ) (r : Rps Γ.K R vs xs) (h : Cn xs L Q (Γ.ex δ)) (g : Got Γ R Q QV) : spOf Γ.toWd Cn vs H QV (WE W σ) :=
  ⟨R, xs, L, Q, Γ.ex δ, hc, A, r, h, g, fun cls oa pay R' H' L' l' A' po q => hEX cls oa pay σ δ R' H' L' (l.trans l') A' (S.le l') po q⟩
theorem Fn.at {X : Cx} {R0 : Rw} (Fn' : Fn Γ.toWd k f Cn) (F : Fits Γ X R0) : ∃ fd ps, FnOk X.prog X.w X.K X.mg X.base (L2.CX X.prog X.w) k f fd ps (spOf Γ.toWd Cn) ∧ Binds X.K fd ps [] := by
  obtain ⟨fd, ps, a, b⟩ := Fn'.ex
  exact ⟨fd, ps, by rw [F.prog, F.w, F.K, F.mg, F.base]; exact a, by rw [F.K]; exact b⟩
/-- f(e, ..) -/
theorem be_call (Fc : Fn Γ.toWd k f Cn) (hm : Γ.mg x = some (.ref f)) [hK : Kd Γ.sc.names x .globalImplicit] (h : BA Γ (e :: es) δ L fun ds L1 => Cn ds L1 Q (Γ.ex δ)) (hk : k ≤ Γ.k) (hc : Γ.calm = true)
    (he : ∀ env, starEach (e :: es) env = (false, eval e env) :: starEach es env) (hpl : ∀ env, (backTo pos (starEach es env)).any (·.1) = false) : BE Γ (.Call (.Name x p) (e :: es) [] pos) δ L Q := fun X R0 F R σ H l A S QV g => by
  obtain ⟨W, tk, hEX⟩ := F.tk
  obtain ⟨fd, ps, F1, b1⟩ := Fc.at F
  refine PE_w (pe_callS (E := WE W) F1 ((F.room hc).mono hk) (F.gl _ hK.mem) (by rw [F.mg]; exact hm) (by rw [F.K]; exact Fc.kp) b1 (fun σ => passAt tk σ) paW (ScB.dbg F.scok hK.mem).1 (he _) (hpl _)) ?_
  exact h X R0 F R σ H l A S _ fun vs xs R1 H1 L1 l1 A1 r1 q1 => sp_of hEX ((l.trans l1).c.trans F.cls) (l.trans l1) A1 (S.le l1) r1 q1 (g.le l1)
/-- f() -/
theorem be_call0 (Fc : Fn Γ.toWd k f Cn) (hm : Γ.mg x = some (.ref f)) [hK : Kd Γ.sc.names x .globalImplicit] (h : Cn [] L Q (Γ.ex δ)) (hk : k ≤ Γ.k) (hc : Γ.calm = true) : BE Γ (.Call (.Name x p) [] [] pos) δ L Q := fun X R0 F R σ H l A S QV g pins s I => by
  obtain ⟨W, tk, hEX⟩ := F.tk
  obtain ⟨fd, ps, F1, b1⟩ := Fc.at F
  refine wpAny_Call_Name_kw (ld_glob I (F.gl _ hK.mem) (by rw [F.mg]; exact hm) ?_ (ScB.dbg F.scok hK.mem).1)
  exact PySem.W.callWith_K0 I.kIn (by rw [F.K]; exact Fc.kp) (run_fnS (E := WE W) (us := []) (vs := []) F1 ((F.room hc).mono hk) b1 (passAt tk σ) I .nil (sp_of hEX (l.c.trans F.cls) l A S .nil h g))
/-- o.m(e, ..) -/
theorem be_meth (h : BE Γ o δ L fun d L1 => ∃ (C : Nat) (xs : List D) (f : Addr) (Cn : Con), InsAt L1 d C xs ∧ Cls Γ.K (Γ.cls C).1 ∧ Meth Γ.K (Γ.cls C).1 m f ∧ Fn Γ.toWd k f Cn ∧ m ∉ (Γ.cls C).2 ∧ BA Γ (e :: es) δ L1 fun ds L2 => Cn (d :: ds) L2 Q (Γ.ex δ)) (hk : k ≤ Γ.k) (hc : Γ.calm = true)
    {pl : Env → Sem Bool} (he : ∀ env, starEach (e :: es) env = (false, eval e env) :: starEach es env) (hpl : ∀ env, (backTo pos (starEach es env)).any (·.1) = false)
    (ht : ∀ env, eval (.Call (.Attribute o m apos) (e :: es) [] pos) env = (do
      let ov ← eval o env
      standAt apos.atName
      let (f, first) ← holding [ov] (getMethod ov m (pl env))
      callWith pos f first (backTo pos (starEach (e :: es) env)) (backToKw pos (keywordEach [] env)))) : BE Γ (.Call (.Attribute o m apos) (e :: es) [] pos) δ L Q := fun X R0 F R σ H l A S QV g pins s I => by
  obtain ⟨W, tk, hEX⟩ := F.tk
  refine PySem.W.methodCall_KW (pl := pl X.env) (thn ((peW (X := X) (e := o)).run pins s σ H _ I (h X R0 F R σ H l A S (fun v H1 => ∃ a C0 dx gs f fd ps Cn, v = .ref a ∧ H1 a = some (.ins C0 dx gs) ∧ gs.lookup m = none ∧ Cls X.K C0 ∧ Meth X.K C0 m f ∧ FnOk X.prog X.w X.K X.mg X.base (L2.CX X.prog X.w) k f fd ps (spOf Γ.toWd Cn) ∧ Binds X.K fd ps [] ∧ wA X (e :: es) σ H1 fun vs H2 => spOf Γ.toWd Cn (.ref a :: vs) H2 QV (WE W σ)) ?_)) ?_) (ht _)
  · intro v d R1 H1 L1 l1 A1 r1 ⟨C, xs, f, Cn, hi, hcl, hm, Fc, nm, q⟩
    obtain ⟨fd, ps, F1, b1⟩ := Fc.at F
    obtain ⟨p, dx, vs, rfl, hp, _, rv⟩ := hi.at A1 r1
    have ec : R1.c = Γ.cls := (l.trans l1).c.trans F.cls
    rw [ec] at hp
    exact ⟨p, _, dx, _, f, fd, ps, Cn, rfl, hp, zip_no nm, by rw [F.K]; exact hcl, by rw [F.K]; exact hm, F1, b1, q X R0 F R1 σ H1 (l.trans l1) A1 (S.le l1) _ fun vs xs R2 H2 L2 l2 A2 r2 q2 => sp_of hEX (((l.trans l1).trans l2).c.trans F.cls) ((l.trans l1).trans l2) A2 ((S.le l1).le l2) (.cons (r1.le l2) r2) q2 (g.le (l1.trans l2))⟩
  · rintro u s1 ⟨x, H1, I1, rx, a, C0, dx, gs, f, fd, ps, Cn, ex, ea, lm, c', hm', F1, b1, q⟩
    subst ex
    obtain rfl : u = Value.ref a := rx
    refine getmeth_ok I1 ea c' hm' lm ?_
    refine PySem.W.callWith_K (first := [.ref a]) (h₀ := X.base) I.ok.mod.kin hm'.kp (thn ((paW (X := X) (es := e :: es)).run pos pins s1 σ H1 _ I1 q) fun us s2 ⟨vs, H2, I2, r, q2⟩ => ⟨I2.kIn, ?_⟩) (he _) (hpl _)
    exact run_fnS (E := WE W) (us := .ref a :: us) (vs := .ref a :: vs) F1 ((F.room hc).mono hk) b1 (passAt tk σ) I2 (.cons rfl r) q2
theorem be_meth0 (h : BE Γ o δ L fun d L1 => ∃ (C : Nat) (xs : List D) (f : Addr) (Cn : Con), InsAt L1 d C xs ∧ Cls Γ.K (Γ.cls C).1 ∧ Meth Γ.K (Γ.cls C).1 m f ∧ Fn Γ.toWd k f Cn ∧ m ∉ (Γ.cls C).2 ∧ Cn [d] L1 Q (Γ.ex δ)) (hk : k ≤ Γ.k) (hc : Γ.calm = true)
    {pl : Env → Sem Bool} (ht : ∀ env, eval (.Call (.Attribute o m apos) [] [] pos) env = (do
      let ov ← eval o env
      standAt apos.atName
      let (f, first) ← holding [ov] (getMethod ov m (pl env))
      callWith pos f first (backTo pos (starEach [] env)) (backToKw pos (keywordEach [] env)))) : BE Γ (.Call (.Attribute o m apos) [] [] pos) δ L Q := fun X R0 F R σ H l A S QV g pins s I => by
  obtain ⟨W, tk, hEX⟩ := F.tk
  refine PySem.W.methodCall_KW (pl := pl X.env) (thn ((peW (X := X) (e := o)).run pins s σ H _ I (h X R0 F R σ H l A S (fun v H1 => ∃ a C0 dx gs f fd ps Cn, v = .ref a ∧ H1 a = some (.ins C0 dx gs) ∧ gs.lookup m = none ∧ Cls X.K C0 ∧ Meth X.K C0 m f ∧ FnOk X.prog X.w X.K X.mg X.base (L2.CX X.prog X.w) k f fd ps (spOf Γ.toWd Cn) ∧ Binds X.K fd ps [] ∧ spOf Γ.toWd Cn [.ref a] H1 QV (WE W σ)) ?_)) ?_) (ht _)
  · intro v d R1 H1 L1 l1 A1 r1 ⟨C, xs, f, Cn, hi, hcl, hm, Fc, nm, q⟩
    obtain ⟨fd, ps, F1, b1⟩ := Fc.at F
    obtain ⟨p, dx, vs, rfl, hp, _, rv⟩ := hi.at A1 r1
    have ec : R1.c = Γ.cls := (l.trans l1).c.trans F.cls
    rw [ec] at hp
    exact ⟨p, _, dx, _, f, fd, ps, Cn, rfl, hp, zip_no nm, by rw [F.K]; exact hcl, by rw [F.K]; exact hm, F1, b1, sp_of hEX ((l.trans l1).c.trans F.cls) (l.trans l1) A1 (S.le l1) (.cons r1 .nil) q (g.le l1)⟩
  · rintro u s1 ⟨x, H1, I1, rx, a, C0, dx, gs, f, fd, ps, Cn, ex, ea, lm, c', hm', F1, b1, q⟩
    subst ex
    obtain rfl : u = Value.ref a := rx
    refine getmeth_ok I1 ea c' hm' lm ?_
    exact PySem.W.callWith_K0 (first := [.ref a]) I1.kIn hm'.kp (run_fnS (E := WE W) (us := [.ref a]) (vs := [.ref a]) F1 ((F.room hc).mono hk) b1 (passAt tk σ) I1 (.cons rfl .nil) q)
theorem AR.made {T : Tbl} {K : PySem.W.Frag} {R : Rw} {H : Hp} {L : Mu} {x dx : Addr} {C : Nat} (A : AR T K R L H) (hx : H x = none) (hd : H dx = none) (ne : dx ≠ x) : AR T K (R.bind L.length x) (L ++ [.ins C []]) (upd (upd H dx (.own x)) x (.ins (R.c C).1 dx [])) ∧ Le R (R.bind L.length x) :=
  (A.newU (o := .own x) hd).cell (m := .ins C []) (by rw [upd_ne (Ne.symm ne)]; exact hx) ⟨dx, [], by rw [upd_same, List.zip_nil_right], Nat.zero_le _, .nil⟩
/-- C(e, ..): the new instance is a cell -/
theorem be_make {C : Nat} (M : Mk Γ.K (Γ.cls C).1 f) (Fc : Fn Γ.toWd k f Cn) (hm : Γ.mg x = some (.ref (Γ.cls C).1)) [hK : Kd Γ.sc.names x .globalImplicit] (h : BA Γ (e :: es) δ L fun ds L1 => Cn (.rf L1.length :: ds) (L1 ++ [.ins C []]) (fun d L2 => d = .non ∧ Q (.rf L1.length) L2) (Γ.ex δ)) (hk : k + 1 ≤ Γ.k) (hc : Γ.calm = true)
    (he : ∀ env, starEach (e :: es) env = (false, eval e env) :: starEach es env) (hpl : ∀ env, (backTo pos (starEach es env)).any (·.1) = false) : BE Γ (.Call (.Name x p) (e :: es) [] pos) δ L Q := fun X R0 F R σ H l A S QV g pins s I => by
  obtain ⟨W, tk, hEX⟩ := F.tk
  obtain ⟨fd, ps, F1, b1⟩ := Fc.at F
  have M' : Mk X.K (Γ.cls C).1 f := by rw [F.K]; exact M
  refine wpAny_Call_Name_kw (ld_glob I (F.gl _ hK.mem) (by rw [F.mg]; exact hm) ?_ (ScB.dbg F.scok hK.mem).1)
  refine PySem.W.callWith_K (h₀ := X.base) I.ok.mod.kin M'.kp (thn ((paW (X := X) (es := e :: es)).run pos pins s σ H _ I (h X R0 F R σ H l A S (fun vs H1 => ∀ x dx, H1 x = none → H1 dx = none → dx ≠ x → spOf Γ.toWd Cn (.ref x :: vs) (upd (upd H1 dx (.own x)) x (.ins (Γ.cls C).1 dx [])) (fun v H2 => v = .non ∧ QV (.ref x) H2) (WE W σ)) ?_)) fun us s1 ⟨vs, H1, I1, r, q⟩ => ⟨I1.kIn, ?_⟩) (he _) (hpl _)
  · intro vs xs R1 H1 L1 l1 A1 r1 q1 x' dx hx hdx ne
    have ec : R1.c = Γ.cls := (l.trans l1).c.trans F.cls
    obtain ⟨A2, l2⟩ := A1.made (C := C) hx hdx ne
    rw [ec] at A2
    refine sp_of hEX (show (R1.bind L1.length x').c = Γ.cls from ec) ((l.trans l1).trans l2) A2 ((S.le l1).le l2) (.cons Rp.new (r1.le l2)) q1 fun v d R' H' L' l' A' r' ⟨e', q'⟩ => ?_
    subst e'
    cases r'
    exact ⟨rfl, g _ _ R' H' L' ((l1.trans l2).trans l') A' (.rf (l'.v _ _ (if_pos rfl))) q'⟩
  · exact run_makeS M' F1 ((F.room hc).mono hk) b1 (passAt tk σ) I1 r q
theorem be_make0 {C : Nat} (M : Mk Γ.K (Γ.cls C).1 f) (Fc : Fn Γ.toWd k f Cn) (hm : Γ.mg x = some (.ref (Γ.cls C).1)) [hK : Kd Γ.sc.names x .globalImplicit] (h : Cn [.rf L.length] (L ++ [.ins C []]) (fun d L2 => d = .non ∧ Q (.rf L.length) L2) (Γ.ex δ)) (hk : k + 1 ≤ Γ.k) (hc : Γ.calm = true) : BE Γ (.Call (.Name x p) [] [] pos) δ L Q := fun X R0 F R σ H l A S QV g pins s I => by
  obtain ⟨W, tk, hEX⟩ := F.tk
  obtain ⟨fd, ps, F1, b1⟩ := Fc.at F
  have M' : Mk X.K (Γ.cls C).1 f := by rw [F.K]; exact M
  refine wpAny_Call_Name_kw (ld_glob I (F.gl _ hK.mem) (by rw [F.mg]; exact hm) ?_ (ScB.dbg F.scok hK.mem).1)
  refine PySem.W.callWith_K0 I.kIn M'.kp (run_makeS (us := []) (vs := []) M' F1 ((F.room hc).mono hk) b1 (passAt tk σ) I .nil fun x' dx hx hdx ne => ?_)
  have ec : R.c = Γ.cls := l.c.trans F.cls
  obtain ⟨A2, l2⟩ := A.made (C := C) hx hdx ne
  rw [ec] at A2
  refine sp_of hEX (show (R.bind L.length x').c = Γ.cls from ec) (l.trans l2) A2 (S.le l2) (.cons Rp.new .nil) h fun v d R' H' L' l' A' r' ⟨e', q'⟩ => ?_
  subst e'
  cases r'
  exact ⟨rfl, g _ _ R' H' L' (l2.trans l') A' (.rf (l'.v _ _ (if_pos rfl))) q'⟩
end

/-! ### defs -/
/-- a def's own context -/
abbrev ctD (W : Wd) (N : List Str) (sc : Scope) (k : Nat) (qual : Str) (cp : Option (Addr × Addr)) (EQ : EXm) : Ct := { toWd := W, N := N, sc := sc, k := k, calm := true, top := true, qual := qual ++ ".<locals>.", cp := cp, EX := fun cls pay _ L => EQ cls pay L }
theorem fnOk_of {W : Wd} {x qual : Str} {params : Arguments} {body : List Stmt} {scope : Scope} {f : Addr} {fd : FuncData} {kws : List (Str × V)} {N ps : List Str} {k : Nat} {C : Con} {cp : Option (Addr × Addr)}
    (F : FunD W.K x qual params body scope [] kws f fd) (S : FnScope N ps scope) (hsc : ScB scope.names = true) (hcp : ∀ c P, cp = some (c, P) → fd.code = .ref c ∧ LamX.TabB W.base W.mg c P)
    (len : ∀ xs L Q E, C xs L Q E → xs.length = ps.length)
    (h : ∀ xs L Q EQ, C xs L Q EQ → BSs (ctD W N scope k qual cp EQ) body (xs.map some ++ List.replicate (N.length - xs.length) none) L { nx := fun _ L' => Q .non L', rt := Q }) : FnOk W.P W.w W.K W.mg W.base (L2.CX W.P W.w) (k + 1) f fd ps (spOf W C) := by
  obtain ⟨oc, od, dV, kV, doc, pm, an, cdv, ct, osl, rfl, lk, hcd, _, _⟩ := F.ex
  refine fn_of lk hcd S (fun vs H Q E ⟨R, xs, L, Q', EQ, _, _, r, hc, _⟩ => by rw [r.length]; exact len _ _ _ _ hc) fun A outer s H vs QV E hr ⟨R, xs, L, Q, EQ, ec, Ar, r, hc, hQ, hE⟩ => ⟨_, pssW, ?_⟩
  refine h xs L Q EQ hc _ R ?_ R _ H (Le.refl R) Ar ?_ _ ⟨fun σ δ R' H' L' l' A' S' q => hQ _ _ R' H' L' l' A' .non q, hQ, fun _ _ _ _ _ _ _ _ q => q.elim, fun _ _ _ _ _ _ _ _ q => q.elim⟩
  · refine ⟨ec, rfl, rfl, rfl, rfl, rfl, rfl, S.nd, hsc, S.kind, fun x k m v => vis_of (ScB.look hsc m) v, fun x m => ScB.look hsc m, fun x k m v => ⟨?_, .inl rfl⟩, fun x m => ScB.look hsc m, fun x k m n => ⟨k, ScB.look hsc m, n⟩, fun x k m c => ?_, ?_, fun _ => hr, rfl, ⟨_, L2.takes_of rfl rfl rfl rfl, fun cls oa pay σ δ R' H' L' l' A' _ po q => hE cls oa pay R' H' L' l' A' po q⟩, L2.passes_of rfl, fun _ => ⟨rfl, rfl⟩, rfl, fun c P e => ?_⟩
    · have z := ScB.look hsc m
      cases k with
      | «local» => exact .inl z
      | cell => exact .inr z
      | _ => cases v
    · have z := ScB.look hsc m
      cases k with
      | cell => exact .inl z
      | free => exact .inr z
      | _ => cases c
    · have := hr.un
      show _ + 64 < _
      have h2 : (A.deeper (envOfC qual scope s.heap.objs.size f cdv)).units + 16 * k + 200 < cLine := this
      show (A.deeper (envOfC qual scope s.heap.objs.size f cdv)).units + 64 < cLine
      omega
    · exact hcp c P e
  · have e : L2.start N vs = vs.map some ++ List.replicate (N.length - xs.length) none := by
      unfold L2.start
      rw [← r.length]
    rw [e]
    exact RS.start r
theorem fn_ok {W : Wd} {x qual : Str} {params : Arguments} {body : List Stmt} {scope : Scope} {f : Addr} {fd : FuncData} {kws : List (Str × V)} {N ps : List Str} {k : Nat} {C : Con} {cp : Option (Addr × Addr)}
    (F : FunD W.K x qual params body scope [] kws f fd) (S : FnScope N ps scope) (hsc : ScB scope.names = true) (hb : Binds W.K fd ps []) (hcp : ∀ c P, cp = some (c, P) → fd.code = .ref c ∧ LamX.TabB W.base W.mg c P)
    (len : ∀ xs L Q E, C xs L Q E → xs.length = ps.length)
    (h : ∀ xs L Q EQ, C xs L Q EQ → BSs (ctD W N scope k qual cp EQ) body (xs.map some ++ List.replicate (N.length - xs.length) none) L { nx := fun _ L' => Q .non L', rt := Q }) : Fn W (k + 1) f C := ⟨⟨fd, ps, fnOk_of F S hsc hcp len h, hb⟩, F.kp⟩
end Ac
end
section
/-! Ab5: operators, subscripts, slices, built-ins. -/
namespace Ac
open PySem PySem.Spec PyProof.Rows L2

/-! ### what reads as a list, a tuple -/
def LsOf (L : Mu) (d : D) (ds : List D) : Prop := d = .lst ds ∨ d = .lsk ds ∨ ∃ (i : Nat), d = .rf i ∧ L[i]? = some (MO.lst ds)
def SqOf (L : Mu) (d : D) (ds : List D) : Prop := LsOf L d ds ∨ d = .tup ds
section
variable {T : Tbl} {K : PySem.W.Frag} {R : Rw} {H : Hp} {L : Mu} {v : V} {d : D} {ds : List D}
theorem LsOf.sql (h : LsOf L d ds) (A : AR T K R L H) (r : Rp K R v d) : ∃ p vs, v = .ref p ∧ SqL K H p vs ∧ Rps K R vs ds := by
  rcases h with rfl | rfl | ⟨i, rfl, hi⟩
  · cases r with | lst s r => exact ⟨_, _, rfl, .inl (.inl (A.sub.at s (fun z => z))), r⟩
  · cases r with | lsk s r => exact ⟨_, _, rfl, A.sub.sqL s, r⟩
  · obtain ⟨a, rfl, _, vs, e, r⟩ := A.at hi r
    exact ⟨_, vs, rfl, .inl (.inl e), r⟩
theorem sqt_of (A : AR T K R L H) (r : Rp K R v (.tup ds)) : ∃ p vs, v = .ref p ∧ SqT K H p vs ∧ Rps K R vs ds := by
  cases r with | tup s r => exact ⟨_, _, rfl, A.sub.sqT s, r⟩
theorem SqOf.sq (h : SqOf L d ds) (A : AR T K R L H) (r : Rp K R v d) : ∃ p vs, v = .ref p ∧ (SqL K H p vs ∨ SqT K H p vs) ∧ Rps K R vs ds := by
  rcases h with h | rfl
  · obtain ⟨p, vs, e, s, r⟩ := h.sql A r
    exact ⟨p, vs, e, .inl s, r⟩
  · obtain ⟨p, vs, e, s, r⟩ := sqt_of A r
    exact ⟨p, vs, e, .inr s, r⟩
/-- a list that is tracked as one -/
def LtOf (L : Mu) (d : D) (ds : List D) : Prop := d = .lst ds ∨ ∃ (i : Nat), d = .rf i ∧ L[i]? = some (MO.lst ds)
theorem LtOf.at (h : LtOf L d ds) (A : AR T K R L H) (r : Rp K R v d) : ∃ p vs, v = .ref p ∧ H p = some (.lst vs) ∧ Rps K R vs ds := by
  rcases h with rfl | ⟨i, rfl, hi⟩
  · cases r with | lst s r => exact ⟨_, _, rfl, A.sub.at s (fun z => z), r⟩
  · obtain ⟨a, rfl, _, vs, e, r⟩ := A.at hi r
    exact ⟨_, vs, rfl, e, r⟩
end
theorem Tx.len (x : Tx) : (Tx.s x).length = x.length := by simp [Tx.s, Str.length]
theorem Tx.app (x y : Tx) : Tx.s x ++ Tx.s y = Tx.s (x ++ y) := by
  show Str.append _ _ = _
  simp [Tx.s, Str.append]
theorem Tx.inj {x y : Tx} (h : Tx.s x = Tx.s y) : x = y := by
  have := congrArg (fun s : Str => s.cps.toList) h
  simpa [Tx.s] using this
theorem Rps.atI {K : PySem.W.Frag} {R : Rw} {vs : List V} {ds : List D} {i : Int} {d : D} (r : Rps K R vs ds) (h : L2.atI ds i = some d) : ∃ v, L2.atI vs i = some v ∧ Rp K R v d := by
  unfold L2.atI at h ⊢
  rw [r.length]
  cases e : ixN ds.length i with
  | none => rw [e] at h; cases h
  | some j => rw [e] at h; exact r.get h
theorem atI_map {α β : Type} (f : α → β) (xs : List α) (i : Int) : L2.atI (xs.map f) i = (L2.atI xs i).map f := by
  unfold L2.atI
  rw [List.length_map]
  cases ixN xs.length i with
  | none => rfl
  | some j => simp

/-! ### operators -/
section
variable {Γ : Ct} {δ : Ds} {L : Mu} {Q : D → Mu → Prop} {pos : Pos} {f : Value → Value → Sem Value}
/-- from a rule over values that changes nothing -/
theorem b2_of {r : R2} {x y d : D} (ho : ∀ X R0, Fits Γ X R0 → OpR X f r)
    (h : ∀ (X : Cx) (R : Rw) (H : Hp) (v u : V) (QV : VK), X.K = Γ.K → AR Γ.T Γ.K R L H → Rp Γ.K R v x → Rp Γ.K R u y → (∀ w, Rp Γ.K R w d → QV w H) → r v u H QV) (hq : Q d L) : B2 Γ f x y L Q := fun X R0 F R H v u l A r1 r2 QV g =>
  OR_w (ho X R0 F) (h X R H v u QV F.K A r1 r2 fun w rw' => g w d R H L (Le.refl R) A rw' hq)
theorem b2_ii {r : R2} {i j : Int} {d : D} {v : V} (ho : ∀ X, OpR X f r) (h : ∀ H (QV : VK), QV v H → r (.int i) (.int j) H QV) (hv : ∀ K R, Rp K R v d) (hq : Q d L) : B2 Γ f (.int i) (.int j) L Q :=
  b2_of (fun X _ _ => ho X) (fun X R H u w QV _ _ r1 r2 k => by cases r1; cases r2; exact h H QV (k v (hv _ _))) hq
theorem b2_add {i j : Int} (hq : Q (.int (i + j)) L) : B2 Γ (binaryOp .Add) (.int i) (.int j) L Q := b2_ii (fun X => op_add) (fun H QV k => ⟨i, j, rfl, rfl, k⟩) (fun _ _ => .int) hq
theorem b2_sub {i j : Int} (hq : Q (.int (i - j)) L) : B2 Γ (binaryOp .Sub) (.int i) (.int j) L Q := b2_ii (fun X => op_sub) (fun H QV k => ⟨i, j, rfl, rfl, k⟩) (fun _ _ => .int) hq
theorem b2_mul {i j : Int} (hc : CMul i j) (hq : Q (.int (i * j)) L) : B2 Γ (binaryOp .Mult) (.int i) (.int j) L Q := b2_ii (fun X => op_mul) (fun H QV k => ⟨i, j, rfl, rfl, hc, k⟩) (fun _ _ => .int) hq
theorem b2_fdiv {i j : Int} (hc : CDiv i j) (hq : Q (.int (i / j)) L) : B2 Γ (binaryOp .FloorDiv) (.int i) (.int j) L Q := b2_ii (fun X => op_fdiv) (fun H QV k => ⟨i, j, rfl, rfl, hc, k⟩) (fun _ _ => .int) hq
theorem b2_mod {i j : Int} (hc : 0 < j) (hq : Q (.int (i % j)) L) : B2 Γ (binaryOp .Mod) (.int i) (.int j) L Q := b2_ii (fun X => op_mod) (fun H QV k => ⟨i, j, rfl, rfl, hc, k⟩) (fun _ _ => .int) hq
theorem b2_pow {i j : Int} (hc : CPow i j) (hq : Q (.int (i ^ j.toNat)) L) : B2 Γ (binaryOp .Pow) (.int i) (.int j) L Q := b2_ii (fun X => op_pow) (fun H QV k => ⟨i, j, rfl, rfl, hc, k⟩) (fun _ _ => .int) hq
theorem b2_iadd {i j : Int} (hq : Q (.int (i + j)) L) : B2 Γ (inplaceOp .Add) (.int i) (.int j) L Q := b2_ii (fun X => iop_add) (fun H QV k => ⟨i, j, rfl, rfl, k⟩) (fun _ _ => .int) hq
theorem b2_isub {i j : Int} (hq : Q (.int (i - j)) L) : B2 Γ (inplaceOp .Sub) (.int i) (.int j) L Q := b2_ii (fun X => iop_sub) (fun H QV k => ⟨i, j, rfl, rfl, k⟩) (fun _ _ => .int) hq
theorem b2_lt {i j : Int} (hq : Q (.bl (decide (i < j))) L) : B2 Γ (compareOp .Lt) (.int i) (.int j) L Q := b2_ii (fun X => op_lt) (fun H QV k => ⟨i, j, rfl, rfl, k⟩) (fun _ _ => .bl) hq
theorem b2_le {i j : Int} (hq : Q (.bl (decide (i ≤ j))) L) : B2 Γ (compareOp .LtE) (.int i) (.int j) L Q := b2_ii (fun X => op_le) (fun H QV k => ⟨i, j, rfl, rfl, k⟩) (fun _ _ => .bl) hq
theorem b2_gt {i j : Int} (hq : Q (.bl (decide (j < i))) L) : B2 Γ (compareOp .Gt) (.int i) (.int j) L Q := b2_ii (fun X => op_gt) (fun H QV k => ⟨i, j, rfl, rfl, k⟩) (fun _ _ => .bl) hq
theorem b2_ge {i j : Int} (hq : Q (.bl (decide (j ≤ i))) L) : B2 Γ (compareOp .GtE) (.int i) (.int j) L Q := b2_ii (fun X => op_ge) (fun H QV k => ⟨i, j, rfl, rfl, k⟩) (fun _ _ => .bl) hq
theorem b1_neg {i : Int} (hq : Q (.int (-i)) L) : B1 Γ (unaryOp .USub) (.int i) L Q := fun X R0 F R H v l A r QV g => by
  cases r
  exact UR_w un_neg ⟨i, rfl, g _ _ R H L (Le.refl R) A .int hq⟩
theorem b2_isN {x : D} {k : Bool} (hk : (match x with | .non => true | _ => false) = k) (hq : Q (.bl k) L) : B2 Γ (compareOp .Is) x .non L Q :=
  b2_of (fun X _ _ => op_isN) (fun X R H v u QV _ _ r1 r2 q => by
    cases r2
    refine ⟨rfl, ?_⟩
    have e : decide (v = .non) = k := by
      subst hk
      cases r1 <;> simp
    rw [e]
    exact q _ .bl) hq
theorem b2_notN {x : D} {k : Bool} (hk : (match x with | .non => false | _ => true) = k) (hq : Q (.bl k) L) : B2 Γ (compareOp .IsNot) x .non L Q :=
  b2_of (fun X _ _ => op_notN) (fun X R H v u QV _ _ r1 r2 q => by
    cases r2
    refine ⟨rfl, ?_⟩
    have e : (!decide (v = .non)) = k := by
      subst hk
      cases r1 <;> simp
    rw [e]
    exact q _ .bl) hq
theorem b2_adds {x y : Tx} (hz : x.length + y.length ≤ sizeLine) (hq : Q (.str (x ++ y)) L) : B2 Γ (binaryOp .Add) (.str x) (.str y) L Q :=
  b2_of (fun X _ _ => op_add_str) (fun X R H v u QV _ _ r1 r2 q => by cases r1; cases r2; exact ⟨Tx.s x, Tx.s y, rfl, rfl, by rw [Tx.len, Tx.len]; exact hz, by rw [Tx.app]; exact q _ .str⟩) hq
/-- list + list -/
theorem b2_cat {x y : D} {xs ys : List D} (hx : LtOf L x xs) (hy : LtOf L y ys) (hz : xs.length + ys.length ≤ sizeLine) (hq : Q (.lst (xs ++ ys)) L) : B2 Γ (binaryOp .Add) x y L Q := fun X R0 F R H v u l A r1 r2 QV g => by
  obtain ⟨p, vs, rfl, hp, rv⟩ := hx.at A r1
  obtain ⟨q, ws, rfl, hq', rw'⟩ := hy.at A r2
  refine OR_w op_cat ⟨p, q, vs, ws, rfl, rfl, hp, hq', by rw [rv.length, rw'.length]; exact hz, fun z hz' => ?_⟩
  have hR := A.sub.non hz'
  exact g _ _ _ _ L (Le.upd hR) (A.new hz') (.lst upd_same ((rv.append rw').le (Le.upd hR))) hq
/-- tuple + tuple -/
theorem b2_catT {xs ys : List D} (hz : xs.length + ys.length ≤ sizeLine) (hq : Q (.tup (xs ++ ys)) L) : B2 Γ (binaryOp .Add) (.tup xs) (.tup ys) L Q := fun X R0 F R H v u l A r1 r2 QV g => by
  obtain ⟨p, vs, rfl, hp, rv⟩ := sqt_of A r1
  obtain ⟨q, ws, rfl, hq', rw'⟩ := sqt_of A r2
  refine OR_w op_catA ⟨p, q, vs, ws, rfl, rfl, by rw [F.K]; exact hp, by rw [F.K]; exact hq', by rw [rv.length, rw'.length]; exact hz, fun e => ?_, fun n e => ?_, fun n n2 z hz' => ?_⟩
  · subst e
    have : xs = [] := List.eq_nil_of_length_eq_zero (by rw [← rv.length]; rfl)
    subst this
    exact g _ _ R H L (Le.refl R) A r2 hq
  · subst e
    have : ys = [] := List.eq_nil_of_length_eq_zero (by rw [← rw'.length]; rfl)
    subst this
    rw [List.append_nil] at hq
    exact g _ _ R H L (Le.refl R) A r1 hq
  · have hR := A.sub.non hz'
    exact g _ _ _ _ L (Le.upd hR) (A.new hz') (.tup (.inl (.inl upd_same)) ((rv.append rw').le (Le.upd hR))) hq
theorem flatten_rep {K : PySem.W.Frag} {R : Rw} {vs : List V} {xs : List D} (r : Rps K R vs xs) : ∀ n : Nat, Rps K R (List.replicate n vs).flatten (List.replicate n xs).flatten
  | 0 => .nil
  | n + 1 => by
    rw [List.replicate_succ, List.replicate_succ, List.flatten_cons, List.flatten_cons]
    exact r.append (flatten_rep r n)
/-- list * int -/
theorem b2_rep {x : D} {xs : List D} {k : Int} (hx : LtOf L x xs) (h1 : -(2 ^ 63) ≤ k) (h2 : k < 2 ^ 63) (hz : xs.length * k.toNat ≤ sizeLine) (hq : Q (.lst (List.replicate k.toNat xs).flatten) L) : B2 Γ (binaryOp .Mult) x (.int k) L Q := fun X R0 F R H v u l A r1 r2 QV g => by
  obtain ⟨p, vs, rfl, hp, rv⟩ := hx.at A r1
  cases r2
  refine OR_w op_rep ⟨p, k, vs, rfl, rfl, hp, h1, h2, by rw [rv.length]; exact hz, fun z hz' => ?_⟩
  have hR := A.sub.non hz'
  exact g _ _ _ _ L (Le.upd hR) (A.new hz') (.lst upd_same ((flatten_rep rv _).le (Le.upd hR))) hq

/-! equality of data -/
mutual
def D.pd : D → PyData
  | .non => .none
  | .bl b => .bool b
  | .int i => .int i
  | .str x => .str (Tx.s x)
  | .tup xs => .tuple (pds xs)
  | .lst xs => .list (pds xs)
  | .lsk xs => .list (pds xs)
  | _ => .none
def pds : List D → List PyData
  | [] => []
  | d :: ds => d.pd :: pds ds
end
mutual
/-- plain data, not deeper than n -/
def D.flat : Nat → D → Bool
  | _, .non => true
  | _, .bl _ => true
  | _, .int _ => true
  | _, .str x => PyData.strOk (Tx.s x)
  | n + 1, .tup xs => flats n xs
  | n + 1, .lst xs => flats n xs
  | _, _ => false
def flats : Nat → List D → Bool
  | _, [] => true
  | n, d :: ds => d.flat n && flats n ds
end
theorem flats_all (n : Nat) : ∀ ds : List D, flats n ds = ds.all (D.flat n)
  | [] => by unfold flats; rfl
  | d :: ds => by unfold flats; rw [List.all_cons, flats_all n ds]
theorem pds_map : ∀ ds : List D, pds ds = ds.map D.pd
  | [] => by unfold pds; rfl
  | d :: ds => by unfold pds; rw [List.map_cons, pds_map ds]
mutual
theorem D.flat_dp {K : PySem.W.Frag} {R : Rw} {H : Hp} (s : Sb R.h H) : ∀ {n : Nat} {d : D} {v : V}, d.flat n = true → Rp K R v d → Dp K H v d.pd ∧ d.pd.canLay0 = true ∧ d.pd.depth ≤ n
  | n, .non, _, _, r => by cases r; exact ⟨.non, rfl, Nat.zero_le _⟩
  | n, .bl _, _, _, r => by cases r; exact ⟨.bl _, rfl, Nat.zero_le _⟩
  | n, .int _, _, _, r => by cases r; exact ⟨.int _, rfl, Nat.zero_le _⟩
  | n, .str x, _, h, r => by
    cases r
    refine ⟨.str _, ?_, Nat.zero_le _⟩
    unfold D.flat at h
    exact h
  | n + 1, .tup xs, _, h, r => by
    cases r with
    | tup s1 r1 =>
      unfold D.flat at h
      obtain ⟨a, b, c⟩ := flats_dp s h r1
      unfold D.pd
      refine ⟨.tup (s.sqT s1) a, b, ?_⟩
      show PyData.depthAll _ + 1 ≤ n + 1
      omega
  | n + 1, .lst xs, _, h, r => by
    cases r with
    | lst s1 r1 =>
      unfold D.flat at h
      obtain ⟨a, b, c⟩ := flats_dp s h r1
      unfold D.pd
      refine ⟨.lst (.inl (.inl (s.at s1 (fun z => z)))) a, b, ?_⟩
      show PyData.depthAll _ + 1 ≤ n + 1
      omega
  | 0, .tup _, _, h, _ => by simp [D.flat] at h
  | 0, .lst _, _, h, _ => by simp [D.flat] at h
  | _, .dct _, _, h, _ => by simp [D.flat] at h
  | _, .rf _, _, h, _ => by simp [D.flat] at h
  | _, .ty _, _, h, _ => by simp [D.flat] at h
  | _, .dtt _, _, h, _ => by simp [D.flat] at h
  | _, .obj _ _, _, h, _ => by simp [D.flat] at h
  | _, .lsk _, _, h, _ => by simp [D.flat] at h
  | _, .lam _, _, h, _ => by simp [D.flat] at h
theorem flats_dp {K : PySem.W.Frag} {R : Rw} {H : Hp} (s : Sb R.h H) : ∀ {n : Nat} {ds : List D} {vs : List V}, flats n ds = true → Rps K R vs ds → DpAll K H vs (pds ds) ∧ PyData.canLayAll0 (pds ds) = true ∧ PyData.depthAll (pds ds) ≤ n
  | n, [], _, _, r => by cases r; unfold pds; exact ⟨.nil, rfl, Nat.zero_le _⟩
  | n, d :: ds, _, h, r => by
    cases r with
    | cons r1 r2 =>
      unfold flats at h
      obtain ⟨h1, h2⟩ := Bool.and_eq_true_iff.mp h
      obtain ⟨a, b, c⟩ := D.flat_dp s h1 r1
      obtain ⟨a2, b2, c2⟩ := flats_dp s h2 r2
      unfold pds
      refine ⟨.cons a a2, ?_, ?_⟩
      · unfold PyData.canLayAll0; rw [b, b2]; rfl
      · unfold PyData.depthAll; exact Nat.max_le.mpr ⟨c, c2⟩
end
def D.eq (x y : D) : Bool := PyData.eqv x.pd y.pd
mutual
theorem eqv_refl : ∀ {d : PyData}, d.canLay0 = true → PyData.eqv d d = true
  | .none, _ => rfl
  | .bool b, _ => by unfold PyData.eqv; simp
  | .int b, _ => by unfold PyData.eqv; simp
  | .str b, _ => by unfold PyData.eqv; simp
  | .list xs, h => by unfold PyData.eqv; exact eqvAll_refl h
  | .tuple xs, h => by unfold PyData.eqv; exact eqvAll_refl h
  | .dict _, h => by simp [PyData.canLay0] at h
theorem eqvAll_refl : ∀ {ds : List PyData}, PyData.canLayAll0 ds = true → PyData.eqvAll ds ds = true
  | [], _ => by unfold PyData.eqvAll; rfl
  | d :: ds, h => by
    unfold PyData.canLayAll0 at h
    obtain ⟨h1, h2⟩ := Bool.and_eq_true_iff.mp h
    unfold PyData.eqvAll
    rw [eqv_refl h1, eqvAll_refl h2]; rfl
end
theorem b2_eq {x y : D} (hx : x.flat 60 = true) (hy : y.flat 60 = true) (hq : Q (.bl (x.eq y)) L) : B2 Γ (compareOp .Eq) x y L Q := fun X R0 F R H v u l A r1 r2 QV g => by
  obtain ⟨a, b, c⟩ := D.flat_dp A.sub hx r1
  obtain ⟨a2, b2, c2⟩ := D.flat_dp A.sub hy r2
  refine OR_w (op_eqD F.un) ⟨_, _, by rw [F.K]; exact a, by rw [F.K]; exact a2, ?_, ?_, g _ _ R H L (Le.refl R) A .bl hq⟩
  · unfold SeqAt.shaped; rw [b, decide_eq_true (by omega)]; rfl
  · unfold SeqAt.shaped; rw [b2, decide_eq_true (by omega)]; rfl
theorem b2_ne {x y : D} (hx : x.flat 60 = true) (hy : y.flat 60 = true) (hq : Q (.bl (!x.eq y)) L) : B2 Γ (compareOp .NotEq) x y L Q := fun X R0 F R H v u l A r1 r2 QV g => by
  obtain ⟨a, b, c⟩ := D.flat_dp A.sub hx r1
  obtain ⟨a2, b2, c2⟩ := D.flat_dp A.sub hy r2
  refine OR_w (op_neD F.un) ⟨_, _, by rw [F.K]; exact a, by rw [F.K]; exact a2, ?_, ?_, g _ _ R H L (Le.refl R) A .bl hq⟩
  · unfold SeqAt.shaped; rw [b, decide_eq_true (by omega)]; rfl
  · unfold SeqAt.shaped; rw [b2, decide_eq_true (by omega)]; rfl
mutual
theorem flat_refl : ∀ {n : Nat} {d : D}, d.flat n = true → d.pd.canLay0 = true
  | n, .non, _ => rfl
  | n, .bl _, _ => rfl
  | n, .int _, _ => rfl
  | n, .str x, h => by unfold D.flat at h; exact h
  | n + 1, .tup xs, h => by unfold D.flat at h; unfold D.pd; exact flats_refl h
  | n + 1, .lst xs, h => by unfold D.flat at h; unfold D.pd; exact flats_refl h
  | 0, .tup _, h => by simp [D.flat] at h
  | 0, .lst _, h => by simp [D.flat] at h
  | _, .dct _, h => by simp [D.flat] at h
  | _, .rf _, h => by simp [D.flat] at h
  | _, .ty _, h => by simp [D.flat] at h
  | _, .dtt _, h => by simp [D.flat] at h
  | _, .obj _ _, h => by simp [D.flat] at h
  | _, .lsk _, h => by simp [D.flat] at h
  | _, .lam _, h => by simp [D.flat] at h
theorem flats_refl : ∀ {n : Nat} {ds : List D}, flats n ds = true → PyData.canLayAll0 (pds ds) = true
  | n, [], _ => by unfold pds; rfl
  | n, d :: ds, h => by
    unfold flats at h
    obtain ⟨h1, h2⟩ := Bool.and_eq_true_iff.mp h
    unfold pds PyData.canLayAll0
    rw [flat_refl h1, flats_refl h2]; rfl
end
theorem D.eq_refl {n : Nat} {d : D} (h : d.flat n = true) : d.eq d = true := eqv_refl (flat_refl h)
/-- x != y, both the same -/
theorem b2_ne_same {x y : D} (e : x = y) (hx : x.flat 60 = true) (hq : Q (.bl false) L) : B2 Γ (compareOp .NotEq) x y L Q := by
  subst e
  refine b2_ne hx hx ?_
  rw [D.eq_refl hx]
  exact hq
end
end Ac
end
section
/-! Ab6: subscripts, slices, built-ins, what is walked. -/
namespace Ac
open PySem PySem.Spec PyProof.Rows L2

section
variable {Γ : Ct} {δ : Ds} {L : Mu} {Q : D → Mu → Prop} {pos p apos : Pos} {a b e o : Expr} {es : List Expr} {x : Str}

/-! ### subscripts -/
theorem be_ixL (h : BE Γ a δ L fun d L1 => BE Γ b δ L1 fun y L2 => ∃ ds i z, LsOf L2 d ds ∧ y = .int i ∧ atI ds i = some z ∧ Q z L2) (hs : PlainIx b := by intro _ _; rfl) : BE Γ (.Subscript a b pos) δ L Q := fun X R0 F R σ H l A S QV g =>
  PE_w (pe_ix ix_list peW peW hs) (h X R0 F R σ H l A S _ fun v d R1 H1 L1 l1 A1 r1 q1 => q1 X R0 F R1 σ H1 (l.trans l1) A1 (S.le l1) _ fun u y R2 H2 L2 l2 A2 r2 q2 => by
    obtain ⟨ds, i, z, hd, rfl, hi, q⟩ := q2
    cases r2
    obtain ⟨p, vs, rfl, hp, rv⟩ := hd.sql A2 (r1.le l2)
    obtain ⟨w, hw, rw'⟩ := rv.atI hi
    exact ⟨p, vs, i, w, rfl, rfl, by rw [F.K]; exact hp, hw, g w z R2 H2 L2 (l1.trans l2) A2 rw' q⟩)
theorem be_ixT (h : BE Γ a δ L fun d L1 => BE Γ b δ L1 fun y L2 => ∃ ds i z, d = .tup ds ∧ y = .int i ∧ atI ds i = some z ∧ Q z L2) (hs : PlainIx b := by intro _ _; rfl) : BE Γ (.Subscript a b pos) δ L Q := fun X R0 F R σ H l A S QV g =>
  PE_w (pe_ix ix_tup peW peW hs) (h X R0 F R σ H l A S _ fun v d R1 H1 L1 l1 A1 r1 q1 => q1 X R0 F R1 σ H1 (l.trans l1) A1 (S.le l1) _ fun u y R2 H2 L2 l2 A2 r2 q2 => by
    obtain ⟨ds, i, z, rfl, rfl, hi, q⟩ := q2
    cases r2
    obtain ⟨p, vs, rfl, hp, rv⟩ := sqt_of A2 (r1.le l2)
    obtain ⟨w, hw, rw'⟩ := rv.atI hi
    exact ⟨p, vs, i, w, rfl, rfl, by rw [F.K]; exact hp, hw, g w z R2 H2 L2 (l1.trans l2) A2 rw' q⟩)
theorem be_ixS (h : BE Γ a δ L fun d L1 => BE Γ b δ L1 fun y L2 => ∃ (x : Tx) (i : Int) (c : Nat), d = .str x ∧ y = .int i ∧ x.length ≤ sizeLine ∧ atI x i = some c ∧ Q (.str [c]) L2) (hs : PlainIx b := by intro _ _; rfl) : BE Γ (.Subscript a b pos) δ L Q := fun X R0 F R σ H l A S QV g =>
  PE_w (pe_ix ix_str peW peW hs) (h X R0 F R σ H l A S _ fun v d R1 H1 L1 l1 A1 r1 q1 => q1 X R0 F R1 σ H1 (l.trans l1) A1 (S.le l1) _ fun u y R2 H2 L2 l2 A2 r2 q2 => by
    obtain ⟨x, i, c, rfl, rfl, hx, hi, q⟩ := q2
    cases r2
    cases r1
    exact ⟨Tx.s x, i, c, rfl, rfl, by rw [Tx.len]; exact hx, by simpa [Tx.s] using hi, g _ _ R2 H2 L2 (l1.trans l2) A2 (.str (x := [c])) q⟩)

/-! ### slices -/
def BO (Γ : Ct) (o : Option Expr) (δ : Ds) (L : Mu) (Q : Option Int → Mu → Prop) : Prop := match o with
  | none => Q none L
  | some e => BE Γ e δ L fun d L1 => ∃ i, d = .int i ∧ Q (some i) L1
def wO (X : Cx) (o : Option Expr) : TO := match o with
  | none => tNoPart
  | some e => tPart (wE X e)
theorem poW {X : Cx} {o : Option Expr} : PO X o (wO X o) := by
  cases o with
  | none => exact po_none
  | some e => exact po_some peW
theorem BO.run {X : Cx} {R0 R : Rw} {σ : L2.St} {H : Hp} {o : Option Expr} {Q : Option Int → Mu → Prop} {QV : Option Int → Hp → Prop} (h : BO Γ o δ L Q) (F : Fits Γ X R0) (l : Le R0 R) (A : AR Γ.T Γ.K R L H) (S : RS Γ.K R σ δ) (g : ∀ i R' H' L', Le R R' → AR Γ.T Γ.K R' L' H' → Q i L' → QV i H') : wO X o σ H QV := by
  cases o with
  | none => exact g none R H L (Le.refl R) A h
  | some e =>
    refine h X R0 F R σ H l A S _ fun v d R1 H1 L1 l1 A1 r1 q1 => ?_
    obtain ⟨i, rfl, q⟩ := q1
    cases r1
    exact ⟨i, rfl, g _ R1 H1 L1 l1 A1 q⟩
/-- the items of xs[lo:hi] -/
def cut {α : Type} (xs : List α) (lo hi : Option Int) : List α := (xs.drop (HT.sIx xs.length 0 lo)).take (HT.sIx xs.length xs.length hi - HT.sIx xs.length 0 lo)
theorem cut_rps {K : PySem.W.Frag} {R : Rw} {vs : List V} {ds : List D} (r : Rps K R vs ds) (lo hi : Option Int) : Rps K R (cutV vs lo hi) (cut ds lo hi) := by
  unfold cutV cut
  rw [r.length]
  exact (r.drop _).take _
theorem cut_map {α β : Type} (f : α → β) (xs : List α) (lo hi : Option Int) : cut (xs.map f) lo hi = (cut xs lo hi).map f := by
  unfold cut
  rw [List.length_map, List.drop_eq_drop_iff.mpr rfl, ← List.map_drop, ← List.map_take]
theorem be_slL {lo hi : Option Expr} {p2 : Pos} (h : BE Γ e δ L fun d L1 => BO Γ lo δ L1 fun i L2 => BO Γ hi δ L2 fun j L3 => ∃ ds, LsOf L3 d ds ∧ Q (.lst (cut ds i j)) L3) : BE Γ (.Subscript e (.Slice lo hi none p2) pos) δ L Q := fun X R0 F R σ H l A S QV g =>
  PE_w (pe_slice sl_list peW poW poW) (h X R0 F R σ H l A S _ fun v d R1 H1 L1 l1 A1 r1 q1 => q1.run F (l.trans l1) A1 (S.le l1) fun i R2 H2 L2 l2 A2 q2 => q2.run F ((l.trans l1).trans l2) A2 ((S.le l1).le l2) fun j R3 H3 L3 l3 A3 q3 => by
    obtain ⟨ds, hd, q⟩ := q3
    obtain ⟨p, vs, rfl, hp, rv⟩ := hd.sql A3 ((r1.le l2).le l3)
    refine ⟨p, vs, rfl, by rw [F.K]; exact hp, fun z hz => ?_⟩
    have hR := A3.sub.non hz
    exact g _ _ _ _ L3 (((l1.trans l2).trans l3).trans (Le.upd hR)) (A3.new hz) (.lst upd_same ((cut_rps rv i j).le (Le.upd hR))) q)
theorem be_slT {lo hi : Option Expr} {p2 : Pos} (h : BE Γ e δ L fun d L1 => BO Γ lo δ L1 fun i L2 => BO Γ hi δ L2 fun j L3 => ∃ ds, d = .tup ds ∧ Q (.tup (cut ds i j)) L3) : BE Γ (.Subscript e (.Slice lo hi none p2) pos) δ L Q := fun X R0 F R σ H l A S QV g =>
  PE_w (pe_slice sl_tupA peW poW poW) (h X R0 F R σ H l A S _ fun v d R1 H1 L1 l1 A1 r1 q1 => q1.run F (l.trans l1) A1 (S.le l1) fun i R2 H2 L2 l2 A2 q2 => q2.run F ((l.trans l1).trans l2) A2 ((S.le l1).le l2) fun j R3 H3 L3 l3 A3 q3 => by
    obtain ⟨ds, rfl, q⟩ := q3
    obtain ⟨p, vs, rfl, hp, rv⟩ := sqt_of A3 ((r1.le l2).le l3)
    refine ⟨p, vs, rfl, by rw [F.K]; exact hp, fun hw => ?_, fun _ z hz => ?_⟩
    · have e : cut ds i j = ds := by
        rw [rv.length] at hw
        unfold cut
        rw [hw.1, hw.2]
        simp
      rw [e] at q
      exact g _ _ R3 H3 L3 ((l1.trans l2).trans l3) A3 ((r1.le l2).le l3) q
    · have hR := A3.sub.non hz
      exact g _ _ _ _ L3 (((l1.trans l2).trans l3).trans (Le.upd hR)) (A3.new hz) (.tup (.inl (.inl upd_same)) ((cut_rps rv i j).le (Le.upd hR))) q)
theorem cutS_tx (x : Tx) (lo hi : Option Int) : cutS (Tx.s x) lo hi = Tx.s (cut x lo hi) := by
  simp [cutS, cut, Tx.s, Str.length]
theorem be_slS {lo hi : Option Expr} {p2 : Pos} (h : BE Γ e δ L fun d L1 => BO Γ lo δ L1 fun i L2 => BO Γ hi δ L2 fun j L3 => ∃ x : Tx, d = .str x ∧ x.length ≤ sizeLine ∧ Q (.str (cut x i j)) L3) : BE Γ (.Subscript e (.Slice lo hi none p2) pos) δ L Q := fun X R0 F R σ H l A S QV g =>
  PE_w (pe_slice sl_str peW poW poW) (h X R0 F R σ H l A S _ fun v d R1 H1 L1 l1 A1 r1 q1 => q1.run F (l.trans l1) A1 (S.le l1) fun i R2 H2 L2 l2 A2 q2 => q2.run F ((l.trans l1).trans l2) A2 ((S.le l1).le l2) fun j R3 H3 L3 l3 A3 q3 => by
    obtain ⟨x, rfl, hx, q⟩ := q3
    cases r1
    refine ⟨Tx.s x, rfl, by rw [Tx.len]; exact hx, ?_⟩
    rw [cutS_tx]
    exact g _ _ R3 H3 L3 ((l1.trans l2).trans l3) A3 .str q)

/-! ### built-ins -/
structure Bn (mg : Str → Option Value) (x : Str) (u : Value) : Prop where
  no : mg x = none
  at_ : bootBuiltins x = some u
  nn : x ≠ "__name__"
theorem be_cb {id : String} (hb : Bn Γ.mg x (.builtin id)) [hK : Kd Γ.sc.names x .globalImplicit] (h : BA Γ (e :: es) δ L fun ds L1 => BC Γ (.builtin id) ds L1 Q)
    (he : ∀ env, starEach (e :: es) env = (false, eval e env) :: starEach es env := by intro _; rfl) (hpl : ∀ env, (backTo pos (starEach es env)).any (·.1) = false := by intro _; rfl) : BE Γ (.Call (.Name x p) (e :: es) [] pos) δ L Q := fun X R0 F R σ H l A S QV g =>
  PE_w (pe_callB crW (F.gl _ hK.mem) (by rw [F.mg]; exact hb.no) hb.at_ paW hb.nn (ScB.dbg F.scok hK.mem).1 (he _) (hpl _)) (h X R0 F R σ H l A S _ fun vs ds R1 H1 L1 l1 A1 r1 q1 => q1 X R0 F R1 H1 vs (l.trans l1) A1 r1 QV (g.le l1))
theorem be_ct {T : String} (hb : Bn Γ.mg x (.type T)) [hK : Kd Γ.sc.names x .globalImplicit] (h : BA Γ (e :: es) δ L fun ds L1 => BC Γ (.type T) ds L1 Q)
    (he : ∀ env, starEach (e :: es) env = (false, eval e env) :: starEach es env := by intro _; rfl) (hpl : ∀ env, (backTo pos (starEach es env)).any (·.1) = false := by intro _; rfl) : BE Γ (.Call (.Name x p) (e :: es) [] pos) δ L Q := fun X R0 F R σ H l A S QV g =>
  PE_w (pe_callTy crW (F.gl _ hK.mem) (by rw [F.mg]; exact hb.no) hb.at_ paW hb.nn (ScB.dbg F.scok hK.mem).1 (he _) (hpl _)) (h X R0 F R σ H l A S _ fun vs ds R1 H1 L1 l1 A1 r1 q1 => q1 X R0 F R1 H1 vs (l.trans l1) A1 r1 QV (g.le l1))
theorem Rps.one {K : PySem.W.Frag} {R : Rw} {vs : List V} {d : D} (r : Rps K R vs [d]) : ∃ v, vs = [v] ∧ Rp K R v d := by
  cases r with | cons a b => cases b; exact ⟨_, rfl, a⟩
theorem Rps.two {K : PySem.W.Frag} {R : Rw} {vs : List V} {d d2 : D} (r : Rps K R vs [d, d2]) : ∃ v u, vs = [v, u] ∧ Rp K R v d ∧ Rp K R u d2 := by
  cases r with | cons a b => obtain ⟨u, rfl, r⟩ := b.one; exact ⟨_, u, rfl, a, r⟩
theorem bc_lenS {x : Tx} (hz : x.length ≤ sizeLine) (hq : Q (.int x.length) L) : BC Γ (.builtin "len") [.str x] L Q := fun X R0 F R H vs l A r0 QV g => by
  obtain ⟨v, rfl, r⟩ := r0.one
  cases r
  refine CR_w call_len_str ⟨Tx.s x, rfl, by rw [Tx.len]; exact hz, ?_⟩
  rw [Tx.len]
  exact g _ _ R H L (Le.refl R) A .int hq
theorem bc_len {d : D} {ds : List D} (hd : SqOf L d ds) (hq : Q (.int ds.length) L) : BC Γ (.builtin "len") [d] L Q := fun X R0 F R H vs l A r0 QV g => by
  obtain ⟨v, rfl, r⟩ := r0.one
  obtain ⟨p, ws, rfl, hp, rw'⟩ := hd.sq A r
  refine CR_w call_len_seq ⟨p, ws, rfl, by rw [F.K]; exact hp, ?_⟩
  rw [rw'.length]
  exact g _ _ R H L (Le.refl R) A .int hq
theorem bc_abs {i : Int} (hq : Q (.int (if i < 0 then -i else i)) L) : BC Γ (.builtin "abs") [.int i] L Q := fun X R0 F R H vs l A r0 QV g => by
  obtain ⟨v, rfl, r⟩ := r0.one
  cases r
  exact CR_w call_abs ⟨i, rfl, g _ _ R H L (Le.refl R) A .int hq⟩
theorem bc_max2 {i j : Int} (hc : Γ.calm = true) (hq : Q (.int (max i j)) L) : BC Γ (.builtin "max") [.int i, .int j] L Q := fun X R0 F R H vs l A r0 QV g => by
  obtain ⟨v, u, rfl, r1, r2⟩ := r0.two
  cases r1; cases r2
  refine CR_w (call_max2 (by rw [F.calm]; exact hc)) ⟨i, j, rfl, ?_⟩
  rw [show (if j > i then j else i) = max i j from by omega]
  exact g _ _ R H L (Le.refl R) A .int hq
theorem bc_min2 {i j : Int} (hc : Γ.calm = true) (hq : Q (.int (min i j)) L) : BC Γ (.builtin "min") [.int i, .int j] L Q := fun X R0 F R H vs l A r0 QV g => by
  obtain ⟨v, u, rfl, r1, r2⟩ := r0.two
  cases r1; cases r2
  refine CR_w (call_min2 (by rw [F.calm]; exact hc)) ⟨i, j, rfl, ?_⟩
  rw [show (if j < i then j else i) = min i j from by omega]
  exact g _ _ R H L (Le.refl R) A .int hq
theorem bc_int {i : Int} (hq : Q (.int i) L) : BC Γ (.type "int") [.int i] L Q := fun X R0 F R H vs l A r0 QV g => by
  obtain ⟨v, rfl, r⟩ := r0.one
  cases r
  exact CR_w call_int1 (.inl ⟨i, rfl, g _ _ R H L (Le.refl R) A .int hq⟩)
theorem bc_intB {k : Bool} (hq : Q (.int (if k then 1 else 0)) L) : BC Γ (.type "int") [.bl k] L Q := fun X R0 F R H vs l A r0 QV g => by
  obtain ⟨v, rfl, r⟩ := r0.one
  cases r
  exact CR_w call_int1 (.inr ⟨k, rfl, g _ _ R H L (Le.refl R) A .int hq⟩)
theorem bc_list {d : D} {ds : List D} (hd : SqOf L d ds) (hq : Q (.lst ds) L) : BC Γ (.type "list") [d] L Q := fun X R0 F R H vs l A r0 QV g => by
  obtain ⟨v, rfl, r⟩ := r0.one
  obtain ⟨p, ws, rfl, hp, rw'⟩ := hd.sq A r
  refine CR_w call_list_of ⟨p, ws, rfl, by rw [F.K]; exact hp, fun z hz => ?_⟩
  have hR := A.sub.non hz
  exact g _ _ _ _ L (Le.upd hR) (A.new hz) (.lst upd_same (rw'.le (Le.upd hR))) hq
/-- list(d) that will be changed: a cell -/
theorem bc_listM {d : D} {ds : List D} (hd : SqOf L d ds) (hq : Q (.rf L.length) (L ++ [.lst ds])) : BC Γ (.type "list") [d] L Q := fun X R0 F R H vs l A r0 QV g => by
  obtain ⟨v, rfl, r⟩ := r0.one
  obtain ⟨p, ws, rfl, hp, rw'⟩ := hd.sq A r
  refine CR_w call_list_of ⟨p, ws, rfl, by rw [F.K]; exact hp, fun z hz => ?_⟩
  obtain ⟨A2, l2⟩ := A.cell (o := .lst ws) (m := .lst ds) hz ⟨ws, upd_same, rw'⟩
  exact g _ _ _ _ _ l2 A2 Rp.new hq
theorem bc_tup {d : D} {ds : List D} (hd : SqOf L d ds) (hq : Q (.tup ds) L) : BC Γ (.type "tuple") [d] L Q := fun X R0 F R H vs l A r0 QV g => by
  obtain ⟨v, rfl, r⟩ := r0.one
  rcases hd with hd | rfl
  · obtain ⟨p, ws, rfl, hp, rw'⟩ := hd.sql A r
    refine CR_w call_tuple_of ⟨p, ws, rfl, .inl ⟨by rw [F.K]; exact hp, fun z hz => ?_⟩⟩
    have hR := A.sub.non hz
    exact g _ _ _ _ L (Le.upd hR) (A.new hz) (.tup (.inl (.inl upd_same)) (rw'.le (Le.upd hR))) hq
  · obtain ⟨p, ws, e, hp, rw'⟩ := sqt_of A r
    subst e
    exact CR_w call_tuple_of ⟨p, ws, rfl, .inr ⟨by rw [F.K]; exact hp, g _ _ R H L (Le.refl R) A r hq⟩⟩
theorem bc_sum {d : D} {ns : List Int} (hd : LsOf L d (ns.map .int)) (hc : Γ.calm = true) (hq : Q (.int ns.sum) L) : BC Γ (.builtin "sum") [d] L Q := fun X R0 F R H vs l A r0 QV g => by
  obtain ⟨v, rfl, r⟩ := r0.one
  obtain ⟨p, ws, rfl, hp, rw'⟩ := hd.sql A r
  have := rw'.ints
  subst this
  exact CR_w (cr_sum (by rw [F.calm]; exact hc)) ⟨p, ns, rfl, by rw [F.K]; exact hp, g _ _ R H L (Le.refl R) A .int hq⟩
def maxI : List Int → Int
  | [] => 0
  | n :: ns => ns.foldl max n
def minI : List Int → Int
  | [] => 0
  | n :: ns => ns.foldl min n
theorem foldl_max_le : ∀ (ns : List Int) (n : Int), n ≤ ns.foldl max n ∧ (∀ m ∈ ns, m ≤ ns.foldl max n) ∧ (ns.foldl max n = n ∨ ns.foldl max n ∈ ns)
  | [], n => ⟨Int.le_refl _, by simp, .inl rfl⟩
  | m :: ns, n => by
    obtain ⟨a, b, c⟩ := foldl_max_le ns (max n m)
    rw [List.foldl_cons]
    refine ⟨by omega, fun k hk => ?_, ?_⟩
    · rcases List.mem_cons.mp hk with rfl | hk
      · omega
      · exact b k hk
    · rcases c with c | c
      · by_cases h : n ≤ m
        · right; rw [c, show max n m = m by omega]; exact List.mem_cons_self
        · left; rw [c]; omega
      · right; exact List.mem_cons_of_mem _ c
theorem foldl_min_le : ∀ (ns : List Int) (n : Int), ns.foldl min n ≤ n ∧ (∀ m ∈ ns, ns.foldl min n ≤ m) ∧ (ns.foldl min n = n ∨ ns.foldl min n ∈ ns)
  | [], n => ⟨Int.le_refl _, by simp, .inl rfl⟩
  | m :: ns, n => by
    obtain ⟨a, b, c⟩ := foldl_min_le ns (min n m)
    rw [List.foldl_cons]
    refine ⟨by omega, fun k hk => ?_, ?_⟩
    · rcases List.mem_cons.mp hk with rfl | hk
      · omega
      · exact b k hk
    · rcases c with c | c
      · by_cases h : m ≤ n
        · right; rw [c, show min n m = m by omega]; exact List.mem_cons_self
        · left; rw [c]; omega
      · right; exact List.mem_cons_of_mem _ c
theorem maxI_mem : ∀ {ns : List Int}, ns ≠ [] → maxI ns ∈ ns
  | [], h => absurd rfl h
  | n :: ns, _ => by
    obtain ⟨_, _, c⟩ := foldl_max_le ns n
    show ns.foldl max n ∈ n :: ns
    rcases c with c | c
    · rw [c]; exact List.mem_cons_self
    · exact List.mem_cons_of_mem _ c
theorem le_maxI : ∀ {ns : List Int} {m : Int}, m ∈ ns → m ≤ maxI ns
  | n :: ns, m, h => by
    obtain ⟨a, b, _⟩ := foldl_max_le ns n
    unfold maxI
    rcases List.mem_cons.mp h with rfl | h
    · exact a
    · exact b m h
theorem minI_mem : ∀ {ns : List Int}, ns ≠ [] → minI ns ∈ ns
  | [], h => absurd rfl h
  | n :: ns, _ => by
    obtain ⟨_, _, c⟩ := foldl_min_le ns n
    show ns.foldl min n ∈ n :: ns
    rcases c with c | c
    · rw [c]; exact List.mem_cons_self
    · exact List.mem_cons_of_mem _ c
theorem minI_le : ∀ {ns : List Int} {m : Int}, m ∈ ns → minI ns ≤ m
  | n :: ns, m, h => by
    obtain ⟨a, b, _⟩ := foldl_min_le ns n
    unfold minI
    rcases List.mem_cons.mp h with rfl | h
    · exact a
    · exact b m h
theorem ne_of_len {α : Type} {xs : List α} (h : 0 < xs.length) : xs ≠ [] := fun e => by subst e; simp at h
theorem len_of_ne {α : Type} {xs : List α} (h : xs ≠ []) : 0 < xs.length := List.length_pos_iff.mpr h
theorem bc_max {d : D} {ns : List Int} (hd : LsOf L d (ns.map .int)) (hn : ns ≠ []) (hc : Γ.calm = true) (hq : Q (.int (maxI ns)) L) : BC Γ (.builtin "max") [d] L Q := fun X R0 F R H vs l A r0 QV g => by
  obtain ⟨v, rfl, r⟩ := r0.one
  obtain ⟨p, ws, rfl, hp, rw'⟩ := hd.sql A r
  have := rw'.ints
  subst this
  refine CR_w (cr_max (by rw [F.calm]; exact hc)) ⟨p, ns, rfl, by rw [F.K]; exact hp, len_of_ne hn, fun m h1 h2 => ?_⟩
  have e : m = maxI ns := Int.le_antisymm (le_maxI h1) (h2 _ (maxI_mem hn))
  rw [e]
  exact g _ _ R H L (Le.refl R) A .int hq
theorem bc_min {d : D} {ns : List Int} (hd : LsOf L d (ns.map .int)) (hn : ns ≠ []) (hc : Γ.calm = true) (hq : Q (.int (minI ns)) L) : BC Γ (.builtin "min") [d] L Q := fun X R0 F R H vs l A r0 QV g => by
  obtain ⟨v, rfl, r⟩ := r0.one
  obtain ⟨p, ws, rfl, hp, rw'⟩ := hd.sql A r
  have := rw'.ints
  subst this
  refine CR_w (cr_min (by rw [F.calm]; exact hc)) ⟨p, ns, rfl, by rw [F.K]; exact hp, len_of_ne hn, fun m h1 h2 => ?_⟩
  have e : m = minI ns := Int.le_antisymm (h2 _ (minI_mem hn)) (minI_le h1)
  rw [e]
  exact g _ _ R H L (Le.refl R) A .int hq
/-- the ints of range(a, b) -/
def rg (a b : Int) : List Int := (List.range (b - a).toNat).map fun (i : Nat) => a + i
theorem rg_length (a b : Int) : (rg a b).length = (b - a).toNat := by simp [rg]
theorem rgV_eq (a b : Int) : rgV a b = (rg a b).map V.int := by simp [rgV, rg]
theorem mem_rg {a b k : Int} : k ∈ rg a b ↔ a ≤ k ∧ k < b := by
  unfold rg
  simp only [List.mem_map, List.mem_range]
  constructor
  · rintro ⟨i, hi, rfl⟩; omega
  · rintro ⟨h1, h2⟩; exact ⟨(k - a).toNat, by omega, by omega⟩
/-- a range as an argument -/
def BR (Γ : Ct) (e : Expr) (δ : Ds) (L : Mu) (Q : Int → Int → Mu → Prop) : Prop := ∀ X R0, Fits Γ X R0 → ∀ R σ H, Le R0 R → AR Γ.T Γ.K R L H → RS Γ.K R σ δ → ∀ (QV : Int → Int → Hp → Prop), (∀ i j R' H' L', Le R R' → AR Γ.T Γ.K R' L' H' → Q i j L' → QV i j H') → ∃ te, PRg X e te ∧ te σ H QV
theorem br_1 {Q : Int → Int → Mu → Prop} (hb : Bn Γ.mg "range" (.type "range")) [hK : Kd Γ.sc.names "range" .globalImplicit] (h : BE Γ a δ L fun d L1 => ∃ n, d = .int n ∧ Q 0 n L1) (na : ∀ env, starEach [a] env = (false, eval a env) :: starEach [] env := by intro _; rfl) : BR Γ (.Call (.Name "range" p) [a] [] pos) δ L Q := fun X R0 F R σ H l A S QV g =>
  ⟨_, prg_1 (F.gl _ hK.mem) (by rw [F.mg]; exact hb.no) peW (na _), h X R0 F R σ H l A S _ fun v d R1 H1 L1 l1 A1 r1 q1 => by
    obtain ⟨n, rfl, q⟩ := q1
    cases r1
    exact ⟨n, rfl, g 0 n R1 H1 L1 l1 A1 q⟩⟩
theorem br_2 {Q : Int → Int → Mu → Prop} (hb : Bn Γ.mg "range" (.type "range")) [hK : Kd Γ.sc.names "range" .globalImplicit] (h : BE Γ a δ L fun d L1 => BE Γ b δ L1 fun d2 L2 => ∃ i j, d = .int i ∧ d2 = .int j ∧ Q i j L2) (na : ∀ env, starEach [a, b] env = (false, eval a env) :: starEach [b] env := by intro _; rfl)
    (nb : ∀ env, starEach [b] env = (false, eval b env) :: starEach [] env := by intro _; rfl) (hpl : ∀ env, (backTo pos (starEach [b] env)).any (·.1) = false := by intro _; rfl) : BR Γ (.Call (.Name "range" p) [a, b] [] pos) δ L Q := fun X R0 F R σ H l A S QV g =>
  ⟨_, prg_2 (F.gl _ hK.mem) (by rw [F.mg]; exact hb.no) peW peW (na _) (nb _) (hpl _), h X R0 F R σ H l A S _ fun v d R1 H1 L1 l1 A1 r1 q1 => q1 X R0 F R1 σ H1 (l.trans l1) A1 (S.le l1) _ fun u d2 R2 H2 L2 l2 A2 r2 q2 => by
    obtain ⟨i, j, rfl, rfl, q⟩ := q2
    cases r1; cases r2
    exact ⟨i, j, rfl, rfl, g i j R2 H2 L2 (l1.trans l2) A2 q⟩⟩
theorem be_listR (hb : Bn Γ.mg "list" (.type "list")) [hK : Kd Γ.sc.names "list" .globalImplicit] (hc : Γ.calm = true) (h : BR Γ e δ L fun i j L1 => RgOk i j ∧ Q (.lst ((rg i j).map .int)) L1) (na : ∀ env, starEach [e] env = (false, eval e env) :: starEach [] env := by intro _; rfl) : BE Γ (.Call (.Name "list" p) [e] [] pos) δ L Q := fun X R0 F R σ H l A S QV g => by
  obtain ⟨te, pt, ht⟩ := h X R0 F R σ H l A S (fun i j H1 => RgOk i j ∧ ∀ q, H1 q = none → QV (.ref q) (upd H1 q (.lst (rgV i j)))) fun i j R1 H1 L1 l1 A1 q1 => ⟨q1.1, fun z hz => by
    have hR := A1.sub.non hz
    exact g _ _ _ _ L1 (l1.trans (Le.upd hR)) (A1.new hz) (.lst upd_same (by rw [rgV_eq]; exact Rps.ofInts)) q1.2⟩
  exact PE_w (pe_listRg (by rw [F.calm]; exact hc) (F.gl _ hK.mem) (by rw [F.mg]; exact hb.no) pt (na _)) ht
theorem be_tupR (hb : Bn Γ.mg "tuple" (.type "tuple")) [hK : Kd Γ.sc.names "tuple" .globalImplicit] (hc : Γ.calm = true) (h : BR Γ e δ L fun i j L1 => RgOk i j ∧ Q (.tup ((rg i j).map .int)) L1) (na : ∀ env, starEach [e] env = (false, eval e env) :: starEach [] env := by intro _; rfl) : BE Γ (.Call (.Name "tuple" p) [e] [] pos) δ L Q := fun X R0 F R σ H l A S QV g => by
  obtain ⟨te, pt, ht⟩ := h X R0 F R σ H l A S (fun i j H1 => RgOk i j ∧ ∀ q, H1 q = none → QV (.ref q) (upd H1 q (.tup (rgV i j)))) fun i j R1 H1 L1 l1 A1 q1 => ⟨q1.1, fun z hz => by
    have hR := A1.sub.non hz
    exact g _ _ _ _ L1 (l1.trans (Le.upd hR)) (A1.new hz) (.tup (.inl (.inl upd_same)) (by rw [rgV_eq]; exact Rps.ofInts)) q1.2⟩
  exact PE_w (pe_tupRg (by rw [F.calm]; exact hc) (F.gl _ hK.mem) (by rw [F.mg]; exact hb.no) pt (na _)) ht
end
end Ac
end
section
/-! Ab7: what is walked, list comprehensions. -/
namespace Ac
open PySem PySem.Spec PyProof.Rows L2

section
variable {Γ : Ct} {δ : Ds} {L : Mu} {QI : List D → (Mu → Prop) → Mu → Prop} {tg iter a b : Expr} {p pos : Pos}
theorem yl_list {R : Rw} {p : Addr} {vs : List V} {ds : List D} (hs : ∀ R1 H1 L1, Lw R R1 → AR Γ.T Γ.K R1 L1 H1 → SqL Γ.K H1 p vs) (r : Rps Γ.K R vs ds) : Yl Γ (Itl Γ.K p) R (fun _ => True) ds := fun i R1 H1 L1 l1 A1 _ => by
  have s1 := hs R1 H1 L1 l1 A1
  refine ⟨fun d hd => ?_, fun hi => ⟨vs, s1, by rw [r.length, hi]; exact Nat.le_refl _⟩⟩
  obtain ⟨v, hv, rv⟩ := r.get hd
  refine ⟨⟨vs, v, s1, hv⟩, fun x H2 ⟨e, hx⟩ => ⟨R1, Le.refl _, by rw [e]; exact A1, ?_⟩⟩
  have := hx vs s1
  rw [hv] at this
  cases this
  exact rv.lw l1
theorem bi_lst (h : BE Γ iter δ L fun d L1 => ∃ ds, (d = .lst ds ∨ d = .lsk ds) ∧ QI ds (fun _ => True) L1) : BI Γ tg iter δ L QI := fun X R0 F R σ H l A S QV g =>
  PI_w (pi_list peW) (h X R0 F R σ H l A S _ fun v d R1 H1 L1 l1 A1 r1 q1 => by
    obtain ⟨ds, hd, q⟩ := q1
    have key : ∃ p vs, v = .ref p ∧ SqL Γ.K R1.h p vs ∧ Rps Γ.K R1 vs ds := by
      rcases hd with rfl | rfl
      · cases r1 with | lst s r => exact ⟨_, _, rfl, .inl (.inl s), r⟩
      · cases r1 with | lsk s r => exact ⟨_, _, rfl, s, r⟩
    obtain ⟨p, vs, rfl, s, r⟩ := key
    refine ⟨p, rfl, ⟨vs, by rw [F.K]; exact A1.sub.sqL s⟩, ?_⟩
    rw [F.K]
    exact g _ R1 H1 L1 ds _ l1 A1 (yl_list (fun R2 H2 L2 l2 A2 => A2.sub.sqL (l2.sqL s)) r) trivial q)
theorem bi_cell (h : BE Γ iter δ L fun d L1 => ∃ (i : Nat) (ds : List D), d = .rf i ∧ L1[i]? = some (.lst ds) ∧ QI ds (fun L2 => L2[i]? = some (.lst ds)) L1) : BI Γ tg iter δ L QI := fun X R0 F R σ H l A S QV g =>
  PI_w (pi_list peW) (h X R0 F R σ H l A S _ fun v d R1 H1 L1 l1 A1 r1 q1 => by
    obtain ⟨i, ds, rfl, hi, q⟩ := q1
    obtain ⟨p, rfl, hv, vs, hp, r⟩ := A1.at hi r1
    refine ⟨p, rfl, ⟨vs, .inl (.inl hp)⟩, ?_⟩
    rw [F.K]
    refine g _ R1 H1 L1 ds _ l1 A1 ?_ hi q
    intro j R2 H2 L2 l2 A2 hk
    obtain ⟨p2, e2, _, _, ws, hw, r2⟩ := A2.cel _ _ hk
    rw [l2.v _ _ hv] at e2
    cases e2
    have s2 : SqL Γ.K H2 p ws := .inl (.inl hw)
    refine ⟨fun d hd => ?_, fun hi => ⟨ws, s2, by rw [r2.length, hi]; exact Nat.le_refl _⟩⟩
    obtain ⟨v, hv, rv⟩ := r2.get hd
    refine ⟨⟨ws, v, s2, hv⟩, fun x H3 ⟨e, hx⟩ => ⟨R2, Le.refl _, by rw [e]; exact A2, ?_⟩⟩
    have := hx ws s2
    rw [hv] at this
    cases this
    exact rv)
theorem bi_tup (h : BE Γ iter δ L fun d L1 => ∃ ds, d = .tup ds ∧ QI ds (fun _ => True) L1) : BI Γ tg iter δ L QI := fun X R0 F R σ H l A S QV g =>
  PI_w (pi_tup peW) (h X R0 F R σ H l A S _ fun v d R1 H1 L1 l1 A1 r1 q1 => by
    obtain ⟨ds, rfl, q⟩ := q1
    cases r1 with
    | tup s r =>
      rename_i p vs
      refine ⟨p, rfl, ⟨vs, by rw [F.K]; exact A1.sub.sqT s⟩, ?_⟩
      rw [F.K]
      refine g _ R1 H1 L1 ds _ l1 A1 ?_ trivial q
      intro j R2 H2 L2 l2 A2 _
      have s2 : SqT Γ.K H2 p vs := A2.sub.sqT (l2.sqT s)
      refine ⟨fun d hd => ?_, fun hi => ⟨vs, s2, by rw [r.length, hi]; exact Nat.le_refl _⟩⟩
      obtain ⟨v, hv, rv⟩ := r.get hd
      refine ⟨⟨vs, v, s2, hv⟩, fun x H3 ⟨e, hx⟩ => ⟨R2, Le.refl _, by rw [e]; exact A2, ?_⟩⟩
      have := hx vs s2
      rw [hv] at this
      cases this
      exact rv.lw l2)
theorem yl_range {R : Rw} {lo hi : Int} : Yl Γ (Itr lo (hi - lo).toNat) R (fun _ => True) ((rg lo hi).map .int) := fun i R1 H1 L1 l1 A1 _ => by
  refine ⟨fun d hd => ?_, fun e => ?_⟩
  · rw [List.getElem?_map] at hd
    cases e : (rg lo hi)[i]? with
    | none => rw [e] at hd; cases hd
    | some k =>
      rw [e] at hd
      cases hd
      have hlt : i < (hi - lo).toNat := by rw [← rg_length]; exact (List.getElem?_eq_some_iff.mp e).1
      have hk : k = lo + i := by
        unfold rg at e
        rw [List.getElem?_map, List.getElem?_range hlt] at e
        exact (Option.some.inj e).symm
      exact ⟨hlt, fun x H2 ⟨e1, e2⟩ => ⟨R1, Le.refl _, by rw [e1]; exact A1, by rw [e2, hk]; exact .int⟩⟩
  · show (hi - lo).toNat ≤ i
    rw [e, List.length_map, rg_length]
    exact Nat.le_refl _
theorem bi_range1 (hb : Bn Γ.mg "range" (.type "range")) [hK : Kd Γ.sc.names "range" .globalImplicit] (h : BE Γ a δ L fun d L1 => ∃ j, d = .int j ∧ -(2 ^ 62) ≤ j ∧ j < 2 ^ 62 ∧ QI ((rg 0 j).map .int) (fun _ => True) L1) (hs : ∀ env, starEach [a] env = (false, eval a env) :: starEach [] env := by intro _; rfl) : BI Γ tg (.Call (.Name "range" p) [a] [] pos) δ L QI := fun X R0 F R σ H l A S QV g =>
  PI_w (pi_range1 (ta := tCons (wE X a) tNil) (F.gl _ hK.mem) (by rw [F.mg]; exact hb.no) (pa_cons peW pa_nil (hs _)) (hs _)) (h X R0 F R σ H l A S _ fun v d R1 H1 L1 l1 A1 r1 q1 => by
    obtain ⟨j, rfl, h1, h2, q⟩ := q1
    cases r1
    refine ⟨j, rfl, h1, h2, ?_⟩
    have y := yl_range (Γ := Γ) (R := R1) (lo := 0) (hi := j)
    rw [Int.sub_zero] at y
    exact g _ R1 H1 L1 _ _ l1 A1 y trivial q)
theorem bi_range2 (hb : Bn Γ.mg "range" (.type "range")) [hK : Kd Γ.sc.names "range" .globalImplicit] (h : BE Γ a δ L fun d L1 => BE Γ b δ L1 fun d2 L2 => ∃ i j, d = .int i ∧ d2 = .int j ∧ (-(2 ^ 62) ≤ i ∧ i < 2 ^ 62 ∧ -(2 ^ 62) ≤ j ∧ j < 2 ^ 62) ∧ QI ((rg i j).map .int) (fun _ => True) L2) (hs : ∀ env, starEach [a, b] env = (false, eval a env) :: starEach [b] env := by intro _; rfl)
    (hs2 : ∀ env, starEach [b] env = (false, eval b env) :: starEach [] env := by intro _; rfl) (hpl : ∀ env, (backTo pos (starEach [b] env)).any (·.1) = false := by intro _; rfl) : BI Γ tg (.Call (.Name "range" p) [a, b] [] pos) δ L QI := fun X R0 F R σ H l A S QV g =>
  PI_w (pi_range2 (ta := tCons (wE X a) (tCons (wE X b) tNil)) (F.gl _ hK.mem) (by rw [F.mg]; exact hb.no) (pa_cons peW (pa_cons peW pa_nil (hs2 _)) (hs _)) ((hs _).trans (congrArg _ (hs2 _))) (hs2 _)) (h X R0 F R σ H l A S _ fun v d R1 H1 L1 l1 A1 r1 q1 => q1 X R0 F R1 σ H1 (l.trans l1) A1 (S.le l1) _ fun u d2 R2 H2 L2 l2 A2 r2 q2 => by
    obtain ⟨i, j, rfl, rfl, hb, q⟩ := q2
    cases r1; cases r2
    exact ⟨i, j, rfl, hb, g _ R2 H2 L2 _ _ (l1.trans l2) A2 yl_range trivial q⟩)
theorem bi_str (h : BE Γ iter δ L fun d L1 => ∃ x : Tx, d = .str x ∧ QI (x.map fun c => .str [c]) (fun _ => True) L1) : BI Γ tg iter δ L QI := fun X R0 F R σ H l A S QV g =>
  PI_w (pi_str peW) (h X R0 F R σ H l A S _ fun v d R1 H1 L1 l1 A1 r1 q1 => by
    obtain ⟨x, rfl, q⟩ := q1
    cases r1
    refine ⟨Tx.s x, rfl, g _ R1 H1 L1 _ _ l1 A1 (fun i R2 H2 L2 l2 A2 _ => ⟨fun d hd => ?_, fun e => ?_⟩) trivial q⟩
    · rw [List.getElem?_map] at hd
      cases e : x[i]? with
      | none => rw [e] at hd; cases hd
      | some c =>
        rw [e] at hd
        cases hd
        have hlt : i < x.length := (List.getElem?_eq_some_iff.mp e).1
        refine ⟨(show i < (Tx.s x).cps.size by simpa [Tx.s] using hlt), fun y H3 ⟨e1, c', e2, e3⟩ => ⟨R2, Le.refl _, by rw [e1]; exact A2, ?_⟩⟩
        have e4 : x[i]? = some c' := by simpa [Tx.s] using e2
        rw [e] at e4
        cases e4
        rw [e3]
        exact .str (x := [c])
    · show (Tx.s x).cps.size ≤ i
      rw [e, List.length_map]
      simp [Tx.s])
end

/-! ### a block's names -/
class Blk (N : List Str) (ns : List (Str × NameKind)) (names : List (Str × NameKind)) (own : outParam (List (Str × Nat))) : Prop where
  ix : ∀ q ∈ own, N[q.2]? = some q.1
  fr : ∀ y k, (y, k) ∈ names → k = .free → ∃ k', (y, k') ∈ ns ∧ capK k' = true
  ow : ∀ y k, (y, k) ∈ names → k = .local ∨ k = .cell → y ∈ own.map (·.1)
class CapK (k : NameKind) : Prop where
  h : capK k = true
instance : CapK .cell := ⟨rfl⟩
instance : CapK .free := ⟨rfl⟩
section
variable {N : List Str} {ns l : List (Str × NameKind)} {own : List (Str × Nat)} {y : Str} {i : Nat} {k : NameKind}
instance : Blk N ns [] [] := ⟨fun _ h => (nomatch h), fun _ _ h => (nomatch h), fun _ _ h => (nomatch h)⟩
instance [hK : Kd ns y k] [c : CapK k] [B : Blk N ns l own] : Blk N ns ((y, .free) :: l) own := ⟨B.ix, fun z k' h e => by
  rcases List.mem_cons.mp h with h | h
  · cases h; exact ⟨k, hK.mem, c.h⟩
  · exact B.fr z k' h e, fun z k' h e => by
  rcases List.mem_cons.mp h with h | h
  · cases h; rcases e with e | e <;> cases e
  · exact B.ow z k' h e⟩
instance [B : Blk N ns l own] : Blk N ns ((y, .globalImplicit) :: l) own := ⟨B.ix, fun z k' h e => by
  rcases List.mem_cons.mp h with h | h
  · cases h; cases e
  · exact B.fr z k' h e, fun z k' h e => by
  rcases List.mem_cons.mp h with h | h
  · cases h; rcases e with e | e <;> cases e
  · exact B.ow z k' h e⟩
instance [hN : Ix N y i] [B : Blk N ns l own] : Blk N ns ((y, .local) :: l) ((y, i) :: own) := ⟨fun q h => by
  rcases List.mem_cons.mp h with h | h
  · rw [h]; exact hN.at_
  · exact B.ix q h, fun z k' h e => by
  rcases List.mem_cons.mp h with h | h
  · cases h; cases e
  · exact B.fr z k' h e, fun z k' h e => by
  rcases List.mem_cons.mp h with h | h
  · cases h; exact List.mem_cons_self
  · exact List.mem_cons_of_mem _ (B.ow z k' h e)⟩
instance [hN : Ix N y i] [B : Blk N ns l own] : Blk N ns ((y, .cell) :: l) ((y, i) :: own) := ⟨fun q h => by
  rcases List.mem_cons.mp h with h | h
  · rw [h]; exact hN.at_
  · exact B.ix q h, fun z k' h e => by
  rcases List.mem_cons.mp h with h | h
  · cases h; cases e
  · exact B.fr z k' h e, fun z k' h e => by
  rcases List.mem_cons.mp h with h | h
  · cases h; exact List.mem_cons_self
  · exact List.mem_cons_of_mem _ (B.ow z k' h e)⟩
end
theorem look_mapK (g : Str → NameKind → NameKind) {x : Str} {k : NameKind} : ∀ {names : List (Str × NameKind)}, names.lookup x = some k → (names.map fun q => (q.1, g q.1 q.2)).lookup x = some (g x k)
  | [], e => by cases e
  | (n, k0) :: r, e => by
    rw [List.lookup_cons] at e
    rw [List.map_cons, List.lookup_cons]
    by_cases hx : x = n
    · subst hx
      simp at e
      subst e
      simp
    · have hb : (x == n) = false := beq_eq_false_iff_ne.mpr hx
      rw [hb] at e
      show (match x == n with | true => _ | false => _) = _
      rw [hb]
      exact look_mapK g e
theorem look_relS {scope sc : Scope} {x : Str} {k : NameKind} (h : scope.names.lookup x = some k) : (relS scope sc).names.lookup x = some k ∨ (k = .free ∧ (relS scope sc).names.lookup x = some .cell) := by
  have e : (relS scope sc).names = scope.names.map fun q => (q.1, if (q.2 == NameKind.free && sc.kind == .function && sc.names.lookup q.1 == some .cell) = true then NameKind.cell else q.2) := by
    unfold relS
    refine List.map_congr_left fun q _ => ?_
    obtain ⟨n, k⟩ := q
    show (if _ then _ else _) = _
    split <;> simp_all
  have q := look_mapK (fun n k => if (k == NameKind.free && sc.kind == .function && sc.names.lookup n == some .cell) = true then NameKind.cell else k) h
  rw [← e] at q
  by_cases hc : (k == NameKind.free && sc.kind == .function && sc.names.lookup x == some .cell) = true
  · rw [if_pos hc] at q
    have : k = .free := by
      simp only [Bool.and_eq_true, beq_iff_eq] at hc
      exact hc.1.1
    exact .inr ⟨this, q⟩
  · rw [if_neg hc] at q
    exact .inl q
/-- the context of a comprehension's block -/
abbrev ctB (Γ : Ct) (scope : Scope) : Ct := { Γ with sc := scope, top := false, EX := fun _ _ _ _ => False }
theorem fits_blk {Γ : Ct} {X : Cx} {R0 R : Rw} (F : Fits Γ X R0) (ec : R.c = Γ.cls) {scope : Scope} {own : List (Str × Nat)} (B : Blk Γ.N Γ.sc.names scope.names own) (hk : scope.kind = .function) (hs : ScB scope.names = true) (s : Shared) (H : Hp) (C : Addr) (cl : List (Str × Addr)) (fp : List Addr) :
    Fits (ctB Γ scope) (X.blk s H scope (compEnvC scope cl C X.env) fp) R := by
  have look : ∀ x k, (x, k) ∈ scope.names → (relS scope X.env.scope).names.lookup x = some k ∨ (k = .free ∧ (relS scope X.env.scope).names.lookup x = some .cell) := fun x k m => look_relS (ScB.look hs m)
  refine ⟨ec, F.prog, F.w, F.K, F.mg, F.base, F.N, F.nd, hs, hk, fun x k m v => ?_, fun x m => ?_, fun x k m v => ?_, fun x m => ?_, fun x k m n => ?_, fun x k m c => ?_, F.un, F.room, F.calm, ⟨fun _ _ _ _ => False, takes0, fun _ _ _ _ _ _ _ _ _ _ _ _ q => q⟩, ?_, fun z => (nomatch z), F.qual, fun c P e => F.cp c P e⟩
  · rcases look x k m with z | ⟨_, z⟩
    · exact vis_of z v
    · exact .inr (.inl z)
  · rcases look x _ m with z | ⟨z, _⟩
    · exact z
    · cases z
  · rcases look x k m with z | ⟨e, z⟩
    · refine ⟨?_, ?_⟩
      · cases k with
        | «local» => exact .inl z
        | cell => exact .inr z
        | _ => cases v
      · cases k with
        | «local» => exact .inr z
        | cell => exact .inl (by show (scope.names.lookup x == some NameKind.cell) = true; rw [ScB.look hs m]; rfl)
        | _ => cases v
    · rw [e] at v; cases v
  · rcases look x _ m with z | ⟨z, _⟩
    · exact z
    · cases z
  · rcases look x k m with z | ⟨_, z⟩
    · exact ⟨k, z, n⟩
    · exact ⟨.cell, z, fun e => nomatch e⟩
  · rcases look x k m with z | ⟨_, z⟩
    · cases k with
      | cell => exact .inl z
      | free => exact .inr z
      | _ => cases c
    · exact .inl z
  · exact PassesOwn.never
theorem blk_ok {Γ : Ct} {X : Cx} {R0 : Rw} (F : Fits Γ X R0) {scope : Scope} {own : List (Str × Nat)} (B : Blk Γ.N Γ.sc.names scope.names own) (hk : scope.kind = .function) (hs : ScB scope.names = true) : BlkOk X.N X.env.scope scope own :=
  ⟨hk, fun y m => ScB.look hs m, fun q m => by rw [F.N]; exact B.ix q m, fun y m e => by
    obtain ⟨k', m', c⟩ := B.fr y.1 y.2 m e
    exact F.cap _ _ m' c, fun y m e => .inl (B.ow y.1 y.2 m e)⟩
def wipeD (δ : Ds) : List Nat → Ds
  | [] => δ
  | v :: vs => (wipeD δ vs).set v none
theorem RS.wipe {K : PySem.W.Frag} {R : Rw} {σ : L2.St} {δ : Ds} (s : RS K R σ δ) : ∀ vs : List Nat, RS K R (wipe σ vs) (wipeD δ vs)
  | [] => s
  | v :: vs => (RS.wipe s vs).wipe1 v
end Ac
end
section
/-! Ab8: list comprehensions. -/
namespace Ac
open PySem PySem.Spec PyProof.Rows L2

/-- the tests of a comprehension -/
def BTs (Γ : Ct) (ifs : List Expr) (δ : Ds) (L : Mu) (Q : Bool → Mu → Prop) : Prop := match ifs with
  | [] => Q true L
  | [c] => BT Γ c δ L Q
  | _ => False
def wTs (X : Cx) (ifs : List Expr) : TT := match ifs with
  | [] => tYes
  | [c] => wT X c
  | _ => fun _ _ _ => False
theorem ptsW {X : Cx} {ifs : List Expr} : PTs X ifs (wTs X ifs) := by
  match ifs with
  | [] => exact pts_nil
  | [c] => exact pts_one ptW
  | _ :: _ :: _ => exact ⟨fun _ _ _ _ _ _ h => h.elim⟩
theorem BTs.run {Γ : Ct} {δ : Ds} {L : Mu} {X : Cx} {R0 R : Rw} {σ : L2.St} {H : Hp} {ifs : List Expr} {Q : Bool → Mu → Prop} {QV : Bool → Hp → Prop} (h : BTs Γ ifs δ L Q) (F : Fits Γ X R0) (l : Le R0 R) (A : AR Γ.T Γ.K R L H) (S : RS Γ.K R σ δ) (g : GotT Γ R Q QV) : wTs X ifs σ H QV := by
  match ifs, h with
  | [], h => exact g true R H L (Le.refl R) A h
  | [c], h => exact h X R0 F R σ H l A S QV g

/-! ### the targets of a block -/
theorem wipe_get {σ : L2.St} {j : Nat} : ∀ {vs : List Nat}, (wipe σ vs)[j]? = if j ∈ vs then (if j < σ.length then some none else none) else σ[j]?
  | [] => by simp [wipe]
  | v :: vs => by
    unfold wipe
    by_cases hj : v = j
    · subst hj
      rw [if_pos List.mem_cons_self]
      by_cases hl : v < σ.length
      · rw [if_pos hl, List.getElem?_set_self (by rw [wipe_length]; exact hl)]
      · rw [if_neg hl]
        exact List.getElem?_eq_none (by rw [List.length_set, wipe_length]; omega)
    · rw [List.getElem?_set_ne hj, wipe_get (vs := vs)]
      have : j ∈ v :: vs ↔ j ∈ vs := by
        rw [List.mem_cons]
        exact ⟨fun h => h.resolve_left (fun e => hj e.symm), .inr⟩
      by_cases h : j ∈ vs
      · rw [if_pos h, if_pos (this.mpr h)]
      · rw [if_neg h, if_neg (fun z => h (this.mp z))]
theorem wipe_set {σ : L2.St} {i : Nat} {x : Option V} {vs : List Nat} (h : i ∈ vs) : wipe (σ.set i x) vs = wipe σ vs := by
  apply List.ext_getElem?
  intro j
  rw [wipe_get, wipe_get, List.length_set]
  by_cases hj : j ∈ vs
  · rw [if_pos hj, if_pos hj]
  · rw [if_neg hj, if_neg hj, List.getElem?_set_ne (fun e : i = j => hj (by rw [← e]; exact h))]
theorem wipe_wipe {σ : L2.St} {vs : List Nat} : wipe (wipe σ vs) vs = wipe σ vs := by
  apply List.ext_getElem?
  intro j
  rw [wipe_get, wipe_length]
  by_cases hj : j ∈ vs
  · rw [if_pos hj, wipe_get, if_pos hj]
  · rw [if_neg hj]
def BGv (Γ : Ct) (vs : List Nat) (tg : Expr) (d : D) (δ : Ds) (L : Mu) (Q : Ds → Mu → Prop) : Prop := ∀ X R0, Fits Γ X R0 → ∀ R σ H v, Le R0 R → AR Γ.T Γ.K R L H → RS Γ.K R σ δ → Rp Γ.K R v d → ∀ QV : L2.St → Hp → Prop,
  (∀ σ2 δ2 R' H' L', Le R R' → AR Γ.T Γ.K R' L' H' → RS Γ.K R' σ2 δ2 → wipe σ2 vs = wipe σ vs → Q δ2 L' → QV σ2 H') → wG X tg v σ H QV
def BGsv (Γ : Ct) (vs : List Nat) (ts : List Expr) (ds : List D) (δ : Ds) (L : Mu) (Q : Ds → Mu → Prop) : Prop := ∀ X R0, Fits Γ X R0 → ∀ R σ H ws, Le R0 R → AR Γ.T Γ.K R L H → RS Γ.K R σ δ → Rps Γ.K R ws ds → ∀ QV : L2.St → Hp → Prop,
  (∀ σ2 δ2 R' H' L', Le R R' → AR Γ.T Γ.K R' L' H' → RS Γ.K R' σ2 δ2 → wipe σ2 vs = wipe σ vs → Q δ2 L' → QV σ2 H') → wGs X ts ws σ H QV
section
variable {Γ : Ct} {δ : Ds} {L : Mu} {Q : Ds → Mu → Prop} {vs : List Nat} {pos : Pos}
theorem bgv_name {x : Str} {d : D} {i : Nat} {k : NameKind} [hN : Ix Γ.N x i] [hK : Kd Γ.sc.names x k] (h : Q (δ.set i (some d)) L) (hi : i ∈ vs) (hv : locK k = true := by rfl) : BGv Γ vs (.Name x pos) d δ L Q := fun X R0 F R σ H v l Ar S r QV g =>
  have hx := F.loc _ _ hK.mem hv
  PG_w (pg_name (i := i) (by rw [F.N]; exact F.nd) (by rw [F.N]; exact hN.at_) hx.1 hx.2) (g _ _ R H L (Le.refl R) Ar (S.set r i) (wipe_set hi) h)
theorem bgsv_nil (h : Q δ L) : BGsv Γ vs [] [] δ L Q := fun X R0 F R σ H ws l Ar S r QV g => by
  cases r
  exact PGs_w pgs_nil ⟨rfl, g σ δ R H L (Le.refl R) Ar S rfl h⟩
theorem bgsv_cons {t : Expr} {ts : List Expr} {d : D} {ds : List D} (h : BGv Γ vs t d δ L fun δ' L' => BGsv Γ vs ts ds δ' L' Q) (hs : ∀ env, (assignEach (t :: ts) env).map (·.2) = assign t env :: (assignEach ts env).map (·.2) := by intro _; rfl) : BGsv Γ vs (t :: ts) (d :: ds) δ L Q := fun X R0 F R σ H ws l Ar S r QV g => by
  cases r with
  | cons r1 rs =>
    exact PGs_w (pgs_cons pgW pgsW (hs _)) ⟨_, _, rfl, h X R0 F R σ H _ l Ar S r1 _ fun σ1 δ1 R1 H1 L1 l1 A1 S1 e1 q1 => q1 X R0 F R1 σ1 H1 _ (l.trans l1) A1 S1 (rs.le l1) QV fun σ2 δ2 R2 H2 L2 l2 A2 S2 e2 q2 => g σ2 δ2 R2 H2 L2 (l1.trans l2) A2 S2 (e2.trans e1) q2⟩
theorem bgv_tup {ts : List Expr} {j : Nat} {ds : List D} (h : BGsv Γ vs ts ds δ L Q) (hc : Γ.calm = true) (hn : ∀ env, (assignEach ts env).length = ds.length)
    (hst : ∀ env, (assignEach ts env).findIdx? (·.1) = none) : BGv Γ vs (.Tuple ts j pos) (.tup ds) δ L Q := fun X R0 F R σ H v l Ar S r QV g => by
  cases r with
  | tup s rs =>
    rw [← F.K] at s
    exact PG_w (pg_tup (n := ds.length) (by rw [F.calm]; exact hc) pgsW (hn _) (hst _)) ⟨_, _, rfl, by
      have := Ar.sub.sqT s
      exact this, rs.length, h X R0 F R σ H _ l Ar S rs QV g⟩
end
section
variable {Γ : Ct} {δ : Ds} {L : Mu} {Q : D → Mu → Prop} {tg iter elt : Expr} {ifs : List Expr} {scope : Scope} {own : List (Str × Nat)} {pos : Pos}
/-- what a comprehension asks: a word about the turn, what is made so far, the cells -/
def LcI (Γ : Ct) (scope : Scope) (own : List (Str × Nat)) (tg elt : Expr) (ifs : List Expr) (δ : Ds) (ds : List D) (cond : Mu → Prop) (L1 : Mu) (Q : List D → Mu → Prop) : Prop :=
  ∃ Iv : Nat → List D → Mu → Prop, Iv 0 [] L1 ∧ (∀ i acc L', i ≤ ds.length → Iv i acc L' → cond L') ∧
    (∀ i d acc L', ds[i]? = some d → Iv i acc L' → BGv (ctB Γ scope) (own.map (·.2)) tg d (wipeD δ (own.map (·.2))) L' fun δ2 L2 => BTs (ctB Γ scope) ifs δ2 L2 fun b L3 =>
      (b = false → Iv (i + 1) acc L3) ∧ (b = true → BE (ctB Γ scope) elt δ2 L3 fun y L4 => acc.length < sizeLine ∧ Iv (i + 1) (acc ++ [y]) L4)) ∧
    (∀ acc L', Iv ds.length acc L' → Q acc L')
/-- what a comprehension hands on: a list that nobody knows of yet -/
def GotL (Γ : Ct) (R : Rw) (Q : List D → Mu → Prop) (QV : VK) : Prop := ∀ a vs ds R' H' L', Le R R' → AR Γ.T Γ.K R' L' H' → H' a = some (.lst vs) → R'.h a = none → R'.p a = none → (∀ i, R'.v i ≠ some a) → Rps Γ.K R' vs ds → Q ds L' → QV (.ref a) H'
theorem lcI_run {X : Cx} {R0 R : Rw} {σ : L2.St} {H : Hp} {QV : VK} {Q : List D → Mu → Prop} (B : Blk Γ.N Γ.sc.names scope.names own) (hk : scope.kind = .function) (hs : ScB scope.names = true)
    (h : BI Γ tg iter δ L fun ds cond L1 => LcI Γ scope own tg elt ifs δ ds cond L1 Q) (F : Fits Γ X R0) (l : Le R0 R) (A : AR Γ.T Γ.K R L H) (Sg : RS Γ.K R σ δ) (g : GotL Γ R Q QV) :
    tLc (wI X tg iter) (fun v σ H Qg => ∀ (s : Shared) (H0 : Hp) (C : Addr) (cl : List (Str × Addr)) (fp : List Addr), wG (X.blk s H0 scope (compEnvC scope cl C X.env) fp) tg v σ H Qg)
      (fun σ H Qt => ∀ (s : Shared) (H0 : Hp) (C : Addr) (cl : List (Str × Addr)) (fp : List Addr), wTs (X.blk s H0 scope (compEnvC scope cl C X.env) fp) ifs σ H Qt)
      (fun σ H Qe => ∀ (s : Shared) (H0 : Hp) (C : Addr) (cl : List (Str × Addr)) (fp : List Addr), wE (X.blk s H0 scope (compEnvC scope cl C X.env) fp) elt σ H Qe) (own.map (·.2)) σ H QV :=
  h X R0 F R σ H l A Sg _ fun J R1 H1 L1 ds cond l1 A1 Y hcnd q1 => by
    obtain ⟨Iv, i0, hcond, hstep, hend⟩ := q1
    intro D hD
    have pD : R1.p D = none := A1.pne hD
    have ec : R1.c = Γ.cls := (l.trans l1).c.trans F.cls
    have A1D : AR Γ.T Γ.K (R1.hide D (.lst [])) L1 (upd H1 D (.lst [])) := A1.hide hD trivial
    refine ⟨fun i m H' => m = ds.length - i ∧ i ≤ ds.length ∧ ∃ R' acc L' vs, Lw R1 R' ∧ R'.p D = some (.lst vs) ∧ (∀ b, b ≠ D → R'.p b = R1.p b) ∧ AR Γ.T Γ.K R' L' H' ∧ Rps Γ.K R' vs acc ∧ Iv i acc L', ⟨ds.length, by simp, Nat.zero_le _, R1.hide D (.lst []), [], L1, [], Lw.hid, upd_same, fun b hb => upd_ne hb, A1D, .nil, i0⟩, ?_⟩
    rintro i m H' ⟨rfl, hi, R', acc, L', vs, l', hp, hpn, A', rv, q⟩
    have Yi := Y i R' H' _ l' A' (hcond i acc L' hi q)
    by_cases hlt : i < ds.length
    · obtain ⟨hgo, hy⟩ := Yi.1 ds[i] (by simp [hlt])
      refine .inr ⟨hgo, fun H2 => ∃ R' acc L' vs, Lw R1 R' ∧ R'.p D = some (.lst vs) ∧ (∀ b, b ≠ D → R'.p b = R1.p b) ∧ AR Γ.T Γ.K R' L' H2 ∧ Rps Γ.K R' vs acc ∧ Iv (i + 1) acc L', fun H2 z => ⟨ds.length - (i + 1), by omega, rfl, hlt, z⟩, fun x H2 hx => ?_⟩
      obtain ⟨R2, l2, A2, rx⟩ := hy x H2 hx
      have lw2 : Lw R R2 := (l1.toLw.trans l').trans l2.toLw
      have ec2 : R2.c = Γ.cls := (l'.trans l2.toLw).c.trans ec
      have Sw := (Sg.lw lw2).wipe (own.map (·.2))
      have st := hstep i ds[i] acc L' (by simp [hlt]) q
      intro sh H0 C cl fp
      have Fb : ∀ R sh H0 C cl fp, R.c = Γ.cls → Fits (ctB Γ scope) (X.blk sh H0 scope (compEnvC scope cl C X.env) fp) R := fun R sh H0 C cl fp ec => fits_blk F ec B hk hs sh H0 C cl fp
      refine st _ R2 (Fb R2 sh H0 C cl fp ec2) R2 _ H2 x (Le.refl _) A2 Sw rx _ fun σ3 δ3 R3 H3 L3 l3 A3 S3 ew q3 => ?_
      refine ⟨?_, fun sh2 H02 C2 cl2 fp2 => ?_⟩
      · exact ew.trans wipe_wipe
      · refine q3.run (Fb R3 sh2 H02 C2 cl2 fp2 (l3.c.trans ec2)) (Le.refl _) A3 S3 fun b R4 H4 L4 l4 A4 ⟨qf, qt⟩ => ?_
        have l24 : Le R' R4 := (l2.trans l3).trans l4
        have lR4 : Lw R1 R4 := l'.trans l24.toLw
        cases b with
        | false => exact iteF ⟨R4, acc, L4, vs, lR4, by rw [l24.p]; exact hp, fun b hb => by rw [l24.p]; exact hpn b hb, A4, rv.le l24, qf rfl⟩
        | true =>
          refine iteT fun sh3 H03 C3 cl3 fp3 => ?_
          refine qt rfl _ R4 (Fb R4 sh3 H03 C3 cl3 fp3 (lR4.c.trans ec)) R4 _ H4 (Le.refl _) A4 (S3.le l4) _ fun v d R5 H5 L5 l5 A5 r5 ⟨hz, i'⟩ => ?_
          have l25 : Le R' R5 := l24.trans l5
          have hp5 : R5.p D = some (.lst vs) := by rw [l25.p]; exact hp
          obtain ⟨hvs, _, _⟩ := A5.hid D _ hp5
          refine ⟨vs, hvs, by rw [rv.length]; exact hz, R5.hide D (.lst (vs ++ [v])), acc ++ [d], L5, vs ++ [v], (lR4.trans l5.toLw).trans Lw.hid, upd_same, fun b hb => ?_, A5.hwrite hp5 trivial, ((rv.le l25).append (.cons r5 .nil)).lw Lw.hid, i'⟩
          show L2.upd R5.p D _ b = _
          rw [upd_ne hb, l25.p]
          exact hpn b hb
    · have e : i = ds.length := by omega
      subst e
      refine .inl ⟨Yi.2 rfl, ?_⟩
      obtain ⟨hvs, hR, _⟩ := A'.hid D _ hp
      obtain ⟨A2, hv⟩ := A'.unhide R1.p hp pD hpn
      have l2 : Le R1 { R' with p := R1.p } := ⟨l'.trans Lw.hid, rfl⟩
      exact g D vs acc _ H' L' (l1.trans l2) A2 hvs hR pD hv (rv.lw Lw.hid) (hend acc L' q)
theorem GotL.frz {R : Rw} {Q : D → Mu → Prop} {QV : VK} (g : Got Γ R Q QV) : GotL Γ R (fun ds L => Q (.lst ds) L) QV := fun a vs ds R' H' L' l A h hR hP hv r q =>
  g (.ref a) (.lst ds) _ H' L' (l.trans (Le.upd hR)) (A.know h hR hP hv (fun _ z => nomatch z)) (.lst upd_same (r.le (Le.upd hR))) q
theorem GotL.cel {R : Rw} {Q : D → Mu → Prop} {QV : VK} (g : Got Γ R Q QV) : GotL Γ R (fun ds L => Q (.rf L.length) (L ++ [.lst ds])) QV := fun a vs ds R' H' L' l A h hR hP hv r q => by
  obtain ⟨A2, l2⟩ := A.bind (m := .lst ds) hR hP hv ⟨vs, h, r⟩
  exact g (.ref a) (.rf L'.length) _ H' _ (l.trans l2) A2 Rp.new q
theorem pgAll {X : Cx} {tg : Expr} (s : Shared) (H0 : Hp) (C : Addr) (cl : List (Str × Addr)) (fp : List Addr) : PG (X.blk s H0 scope (compEnvC scope cl C X.env) fp) tg (fun v σ H Qg => ∀ (s : Shared) (H0 : Hp) (C : Addr) (cl : List (Str × Addr)) (fp : List Addr), wG (X.blk s H0 scope (compEnvC scope cl C X.env) fp) tg v σ H Qg) :=
  ⟨fun pins s' σ H v u Q I r h => h s H0 C cl fp pins s' u I r⟩
theorem ptsAll {X : Cx} {ifs : List Expr} (s : Shared) (H0 : Hp) (C : Addr) (cl : List (Str × Addr)) (fp : List Addr) : PTs (X.blk s H0 scope (compEnvC scope cl C X.env) fp) ifs (fun σ H Qt => ∀ (s : Shared) (H0 : Hp) (C : Addr) (cl : List (Str × Addr)) (fp : List Addr), wTs (X.blk s H0 scope (compEnvC scope cl C X.env) fp) ifs σ H Qt) :=
  ⟨fun pins s' σ H Q I h => ptsW.run pins s' σ H Q I (h s H0 C cl fp)⟩
theorem peAll {X : Cx} {elt : Expr} (s : Shared) (H0 : Hp) (C : Addr) (cl : List (Str × Addr)) (fp : List Addr) : PE (X.blk s H0 scope (compEnvC scope cl C X.env) fp) elt (fun σ H Qe => ∀ (s : Shared) (H0 : Hp) (C : Addr) (cl : List (Str × Addr)) (fp : List Addr), wE (X.blk s H0 scope (compEnvC scope cl C X.env) fp) elt σ H Qe) :=
  ⟨fun pins s' σ H Q I h => h s H0 C cl fp pins s' I⟩
/-- [elt for tg in iter if ..], a list for good -/
theorem be_lcI [B : Blk Γ.N Γ.sc.names scope.names own] (h : BI Γ tg iter δ L fun ds cond L1 => LcI Γ scope own tg elt ifs δ ds cond L1 fun ds L2 => Q (.lst ds) L2) (hc : Γ.calm = true) (hk : scope.kind = .function) (hs : ScB scope.names = true) (hf : ∀ env x, foldedSetIterable iter env x = pure x) :
    BE Γ (.ListComp elt [⟨tg, iter, ifs, 0⟩] scope pos) δ L Q := fun X R0 F R σ H l A S QV g =>
  PE_w (pe_lc (by rw [F.calm]; exact hc) (by rw [F.N]; exact F.nd) piW (blk_ok F B hk hs) pgAll ptsAll peAll (hf _)) (lcI_run B hk hs h F l A S (GotL.frz g))
/-- .. that will change -/
theorem be_lcIM [B : Blk Γ.N Γ.sc.names scope.names own] (h : BI Γ tg iter δ L fun ds cond L1 => LcI Γ scope own tg elt ifs δ ds cond L1 fun ds L2 => Q (.rf L2.length) (L2 ++ [.lst ds])) (hc : Γ.calm = true) (hk : scope.kind = .function) (hs : ScB scope.names = true) (hf : ∀ env x, foldedSetIterable iter env x = pure x) :
    BE Γ (.ListComp elt [⟨tg, iter, ifs, 0⟩] scope pos) δ L Q := fun X R0 F R σ H l A S QV g =>
  PE_w (pe_lc (by rw [F.calm]; exact hc) (by rw [F.N]; exact F.nd) piW (blk_ok F B hk hs) pgAll ptsAll peAll (hf _)) (lcI_run B hk hs h F l A S (GotL.cel g))
/-- y = [elt for ..] on one line, y a plain local -/
theorem bs_setLc {y : Str} {i : Nat} {py spos : Pos} {A : AEnds} [hN : Ix Γ.N y i] [hK : Kd Γ.sc.names y .local] [B : Blk Γ.N Γ.sc.names scope.names own] (h : BI Γ tg iter δ L fun ds cond L1 => LcI Γ scope own tg elt ifs δ ds cond L1 fun ds L2 => A.nx (δ.set i (some (.lst ds))) L2)
    (hc : Γ.calm = true) (hk : scope.kind = .function) (hs : ScB scope.names = true) (hf : ∀ env x, foldedSetIterable iter env x = pure x) (hl : (py.line == pos.line) = true) (hy : (scope.names.any fun (n, k) => n == y && (k == .local || k == .cell)) = false) :
    BS Γ (.Assign [.Name y py] (.ListComp elt [⟨tg, iter, ifs, 0⟩] scope pos) spos) δ L A := fun X R0 F R σ H l Ar S E g =>
  PS_w (ps_setLc (i := i) (by rw [F.calm]; exact hc) (by rw [F.N]; exact F.nd) (by rw [F.N]; exact hN.at_) (F.lcl _ hK.mem) (sw_true F.kind (F.lcl _ hK.mem) hl hy) piW (blk_ok F B hk hs) pgAll ptsAll peAll (hf _))
    (lcI_run B hk hs h F l Ar S (GotL.frz (Q := fun d L2 => A.nx (δ.set i (some d)) L2) (QV := fun v H => E.nx (σ.set i (some v)) H) fun v d R1 H1 L1 l1 A1 r1 q1 => g.nx _ _ R1 H1 L1 l1 A1 ((S.le l1).set r1 i) q1))
theorem bs_setLcM {y : Str} {i : Nat} {py spos : Pos} {A : AEnds} [hN : Ix Γ.N y i] [hK : Kd Γ.sc.names y .local] [B : Blk Γ.N Γ.sc.names scope.names own] (h : BI Γ tg iter δ L fun ds cond L1 => LcI Γ scope own tg elt ifs δ ds cond L1 fun ds L2 => A.nx (δ.set i (some (.rf L2.length))) (L2 ++ [.lst ds]))
    (hc : Γ.calm = true) (hk : scope.kind = .function) (hs : ScB scope.names = true) (hf : ∀ env x, foldedSetIterable iter env x = pure x) (hl : (py.line == pos.line) = true) (hy : (scope.names.any fun (n, k) => n == y && (k == .local || k == .cell)) = false) :
    BS Γ (.Assign [.Name y py] (.ListComp elt [⟨tg, iter, ifs, 0⟩] scope pos) spos) δ L A := fun X R0 F R σ H l Ar S E g =>
  PS_w (ps_setLc (i := i) (by rw [F.calm]; exact hc) (by rw [F.N]; exact F.nd) (by rw [F.N]; exact hN.at_) (F.lcl _ hK.mem) (sw_true F.kind (F.lcl _ hK.mem) hl hy) piW (blk_ok F B hk hs) pgAll ptsAll peAll (hf _))
    (lcI_run B hk hs h F l Ar S (GotL.cel (Q := fun d L2 => A.nx (δ.set i (some d)) L2) (QV := fun v H => E.nx (σ.set i (some v)) H) fun v d R1 H1 L1 l1 A1 r1 q1 => g.nx _ _ R1 H1 L1 l1 A1 ((S.le l1).set r1 i) q1))
end
end Ac
end
section
/-! Ab9: raising, texts' methods, a lambda handed to a def that calls it within a try. -/
namespace Ac
open PySem PySem.Spec PyProof.Rows L2

/-- an own exception class -/
structure Xc (W : Wd) (x : Str) (C : Addr) : Prop where
  at_ : W.mg x = some (.ref C)
  ex : PySem.W.excIn W.K C He.veBase "ValueError.__new__" = true
  kp : PySem.W.keepIn W.K (.ref C) = true
  sub : PySem.W.subIn W.K (.ref C) (.type "BaseException") = some true
  ty : PySem.W.typeIn W.K (.ref C) = some (.type "type")
section
variable {Γ : Ct} {δ : Ds} {L : Mu} {Q : D → Mu → Prop} {A : AEnds} {x m : Str} {C : Addr} {j : Nat} {p p2 pos pos' apos : Pos} {e o : Expr}
theorem bs_raise (c : Xc Γ.toWd x C) [hK : Kd Γ.sc.names x .globalImplicit] (hq : Γ.EX (.ref C) none δ L) (hc : Γ.calm = true) : BS Γ (.Raise (some (.Call (.Name x p) [.Constant (.str m) j p2] [] pos)) none pos') δ L A := fun X R0 F R σ H l Ar S E g => by
  obtain ⟨W, tk, hEX⟩ := F.tk
  refine PS_w (L2.ps_raise (by rw [F.calm]; exact hc) tk (L2.pmk_own PySem.F.excBase_ValueError (by rw [F.K]; exact c.ex) (by rw [F.mg]; exact c.at_) (by rw [F.K]; exact c.kp) (L2.raises_own (by rw [F.K]; exact c.sub) (by rw [F.K]; exact c.ty)) (F.gl _ hK.mem) (ScB.dbg F.scok hK.mem).1)) ?_
  exact hEX _ _ none σ δ R H L l Ar S trivial hq
theorem bs_raise1 (c : Xc Γ.toWd x C) [hK : Kd Γ.sc.names x .globalImplicit] (h : BE Γ e δ L fun _ L1 => Γ.EX (.ref C) none δ L1) (hc : Γ.calm = true) (hs : ∀ env, starEach [e] env = (false, eval e env) :: starEach [] env := by intro _; rfl) : BS Γ (.Raise (some (.Call (.Name x p) [e] [] pos)) none pos') δ L A := fun X R0 F R σ H l Ar S E g => by
  obtain ⟨W, tk, hEX⟩ := F.tk
  refine PS_w (L2.ps_raise (by rw [F.calm]; exact hc) tk (SkE.pmk_own1 PySem.F.excBase_ValueError (by rw [F.K]; exact c.ex) (by rw [F.mg]; exact c.at_) (by rw [F.K]; exact c.kp) (L2.raises_own (by rw [F.K]; exact c.sub) (by rw [F.K]; exact c.ty)) (F.gl _ hK.mem) peW (hs _) (ScB.dbg F.scok hK.mem).1)) ?_
  exact h X R0 F R σ H l Ar S _ fun v d R1 H1 L1 l1 A1 r1 q1 => hEX _ _ none σ δ R1 H1 L1 (l.trans l1) A1 (S.le l1) trivial q1

/-! ### methods of texts -/
theorem be_sw (h : BE Γ o δ L fun d L1 => ∃ a : Tx, d = .str a ∧ BE Γ e δ L1 fun d2 L2 => ∃ b : Tx, d2 = .str b ∧ Q (.bl (Txt.startswith (Tx.s a) (Tx.s b))) L2) (hs : ∀ env, starEach [e] env = [(false, eval e env)]) (hb : ∀ env, attributeBase o "startswith" env (eval o env) = eval o env) (hl : (apos.endLine == pos.line) = true) :
    BE Γ (.Call (.Attribute o "startswith" apos) [e] [] pos) δ L Q := fun X R0 F R σ H l A S QV g =>
  PE_w (pe_m1 PySem.F.slot_str_startswith PySem.F.type_str_startswith mt_startswith peW peW (hs _) (hb _) hl) (h X R0 F R σ H l A S _ fun v d R1 H1 L1 l1 A1 r1 q1 => by
    obtain ⟨a, rfl, q⟩ := q1
    cases r1
    exact ⟨⟨Tx.s a, rfl⟩, q X R0 F R1 σ H1 (l.trans l1) A1 (S.le l1) _ fun u d2 R2 H2 L2 l2 A2 r2 q2 => by
      obtain ⟨b, rfl, q⟩ := q2
      cases r2
      exact ⟨Tx.s a, Tx.s b, rfl, rfl, g _ _ R2 H2 L2 (l1.trans l2) A2 .bl q⟩⟩)
theorem Tx.s_tl (s : Str) : Tx.s s.cps.toList = s := by cases s; simp [Tx.s]
theorem Tx.tl_s (x : Tx) : TL.tl (Tx.s x) = x := by simp [TL.tl, Tx.s]
theorem joinT_eq (a : Tx) (ys : List Tx) : Txt.join (Tx.s a) (ys.map Tx.s) = Tx.s (TL.joinL a ys) := by
  rw [TL.join_eq, ← Tx.s_tl (Str.join _ _)]
  congr 1
  show TL.tl _ = _
  rw [TL.tl_join, Tx.tl_s, List.map_map]
  congr 1
  conv => rhs; rw [← List.map_id ys]
  exact List.map_congr_left fun x _ => Tx.tl_s x
theorem be_join (h : BE Γ o δ L fun d L1 => ∃ a : Tx, d = .str a ∧ BE Γ e δ L1 fun d2 L2 => ∃ ys : List Tx, SqOf L2 d2 (ys.map .str) ∧ (ys.map (·.length)).sum + ys.length * a.length ≤ 16777216 ∧ Q (.str (TL.joinL a ys)) L2) (hs : ∀ env, starEach [e] env = [(false, eval e env)]) (hb : ∀ env, attributeBase o "join" env (eval o env) = eval o env) (hl : (apos.endLine == pos.line) = true) :
    BE Γ (.Call (.Attribute o "join" apos) [e] [] pos) δ L Q := fun X R0 F R σ H l A S QV g =>
  PE_w (pe_join peW peW (hs _) (hb _) hl) (h X R0 F R σ H l A S _ fun v d R1 H1 L1 l1 A1 r1 q1 => by
    obtain ⟨a, rfl, q⟩ := q1
    cases r1
    exact ⟨⟨Tx.s a, rfl⟩, q X R0 F R1 σ H1 (l.trans l1) A1 (S.le l1) _ fun u d2 R2 H2 L2 l2 A2 r2 q2 => by
      obtain ⟨ys, hd, hz, q⟩ := q2
      obtain ⟨p, vs, rfl, hp, rv⟩ := hd.sq A2 r2
      have := rv.strs
      subst this
      refine ⟨Tx.s a, p, ys.map Tx.s, rfl, rfl, by rw [F.K, List.map_map]; exact hp, ?_, ?_⟩
      · rw [List.map_map, List.length_map, Tx.len]
        rw [show (ys.map ((fun x => x.length) ∘ Tx.s)) = ys.map (·.length) from List.map_congr_left fun x _ => Tx.len x]
        exact hz
      · rw [joinT_eq]
        exact g _ _ R2 H2 L2 (l1.trans l2) A2 .str q⟩)
end

/-! ### told -/
/-- the clauses: class, what is answered -/
inductive HdL (W : Wd) (sg : Scope) : List ExceptHandler → List (Addr × Tx) → Prop
  | nil : HdL W sg [] []
  | cons {x : Str} {ret : Tx} {C : Addr} {np pr pc pos' : Pos} {j : Nat} {hds : List ExceptHandler} {l : List (Addr × Tx)} (hg : sg.names.lookup x = some .globalImplicit) (hd : (x == ("__debug__" : Str)) = false) (hm : W.mg x = some (.ref C)) (r : HdL W sg hds l) :
      HdL W sg (.ExceptHandler (some (.Name x np)) none [.Return (some (.Constant (.str (Tx.s ret)) j pc)) pr] pos' :: hds) ((C, ret) :: l)
/-- what is answered to an exception -/
def tell (K : PySem.W.Frag) (cls : Value) (Q : Tx → Prop) : List (Addr × Tx) → Prop
  | [] => False
  | (C, ret) :: l => ∃ b, PySem.W.exmOne K cls (.ref C) = some b ∧ (b = true → Q ret) ∧ (b = false → tell K cls Q l)
theorem hds_ok {W : Wd} {sg : Scope} {X : Cx} (hmg : X.mg = W.mg) (hsc : X.env.scope = sg) : ∀ {hds : List ExceptHandler} {l : List (Addr × Tx)}, HdL W sg hds l → HdsOk X hds (l.map fun c => (.ref c.1, fun _ _ _ => tRet (tC (.str (Tx.s c.2)))))
  | _, _, .nil => .nil
  | _, _, .cons hg hd hm r => .cons ⟨by show X.env.scope.names.lookup _ = _; rw [hsc]; exact hg, hd, .inl (by rw [hmg]; exact hm)⟩ (fun a oe cls d pn _ _ => pss_one (ps_ret pe_str)) (hds_ok hmg hsc r)
theorem tell_many {K : PySem.W.Frag} {D : Ends} {cls : Value} {d : Option Addr} {σ : L2.St} {H : Hp} : ∀ {l : List (Addr × Tx)}, tell K cls (fun ret => D.rt (.str (Tx.s ret)) H) l → wMany K (fun _ _ _ _ => False) D (l.map fun c => (.ref c.1, fun _ _ _ => tRet (tC (.str (Tx.s c.2))))) cls d σ H
  | [], h => h
  | (C, ret) :: l, ⟨b, e1, e2, e3⟩ => ⟨b, e1, fun hb a _ => e2 hb, fun hb => tell_many (e3 hb)⟩
def TTolds (K : PySem.W.Frag) (l : List (Addr × Tx)) : (XK → Hp → VK → Prop) → Hp → VK → Prop := fun tl H Q => tl (fun cls _ H' => tell K cls (fun ret => Q (.str (Tx.s ret)) H') l) H Q
theorem tolds_gives {W : Wd} {X : Cx} {Ng : List Str} {x a q : Str} {sg : Scope} {g : Addr} {cdg : Value} {p1 p2 p3 p8 : Pos} {hd0 : ExceptHandler} {hds : List ExceptHandler} {l : List (Addr × Tx)} (hmg : X.mg = W.mg) (hl : HdL W sg (hd0 :: hds) l) (h0 : ∀ f : Addr, (L2.start Ng [V.ref f])[0]? = some (some (V.ref f))) :
    LamX.GivesTo X Ng x sg g cdg [.Try [.Return (some (.Call (.Name a p1) [] [] p2)) p3] (hd0 :: hds) [] [] p8] a q (TTolds X.K l) := by
  intro f c' s H Q tl act hc h
  refine ⟨_, pss_one (ps_try_many (X := (cxOf C8.CX0 X.prog X.w X.K X.mg X.base Ng x sg g cdg X.A X.stack s H C8.E0).nox) (Wout := fun _ _ _ _ => False)
      (tb := fun W D σ H => ∃ Ech : XK, (∀ cls d σ' H', Ech cls d H' → W cls d σ' H') ∧ σ[0]? = some (some (.ref f)) ∧ H c' = some (LamX.CodeO c' q) ∧ tl Ech H D.rt)
      rfl rfl LamX.takes0 (fun W pn xe tk _ => ?_) (hds_ok (W := W) (X := (cxOf C8.CX0 X.prog X.w X.K X.mg X.base Ng x sg g cdg X.A X.stack s H C8.E0).nox) hmg rfl hl)), ?_⟩
  · refine ⟨fun pins s' σ H' D I h' => ?_⟩
    obtain ⟨Ech, hW, h1, h2, h3⟩ := h'
    have hp := act W pn xe Ech p1 p2 tk hW
    exact (pss_one (ps_ret (pos := p3) hp)).run pins s' σ H' D I ⟨h1, h2, h3⟩
  · exact ⟨fun cls _ H' => tell X.K cls (fun ret => Q (.str (Tx.s ret)) H') l, fun cls d σ' H' ht => tell_many (D := { nx := fun _ H' => Q .non H', rt := Q }) ht, h0 f, hc, h⟩
/-- the def x, its one parameter a, tells what it calls -/
structure Told (W : Wd) (x : Str) (l : List (Addr × Tx)) : Prop where
  ex : ∃ (g : Addr) (Ng : List Str) (a : Str) (pg : Arguments) (sg : Scope) (dV kV doc pm cdv ct oc : Value) (an od : Option Addr) (osl : Array (Option Value)) (p1 p2 p3 p8 : Pos) (hd0 : ExceptHandler) (hds : List ExceptHandler),
    W.mg x = some (.ref g) ∧ PySem.W.keepIn W.K (.ref g) = true ∧ W.K.lookup g = some ⟨oc, od, .func (PySem.W.fnOf x x pg [.Try [.Return (some (.Call (.Name a p1) [] [] p2)) p3] (hd0 :: hds) [] [] p8] sg dV kV doc pm an cdv ct), osl⟩ ∧ PySem.W.codeIn W.K cdv x = true ∧
    L2.Binds W.K (PySem.W.fnOf x x pg [.Try [.Return (some (.Call (.Name a p1) [] [] p2)) p3] (hd0 :: hds) [] [] p8] sg dV kV doc pm an cdv ct) [a] [] ∧ FnScope Ng [a] sg ∧ Ng[0]? = some a ∧ Vis sg a ∧ HdL W sg (hd0 :: hds) l ∧ (∀ f : Addr, (L2.start Ng [V.ref f])[0]? = some (some (V.ref f))) ∧ (a == ("__debug__" : Str)) = false ∧ (a == ("__classdict__" : Str)) = false
/-- the context of a lambda's body -/
abbrev ctL (Γ : Ct) (scope : Scope) (k : Nat) (q : Str) (EX : EXT) : Ct := { Γ with sc := scope, top := true, k := k, calm := true, qual := q, cp := none, EX := EX }
theorem fits_lam {Γ : Ct} {X : Cx} {R0 R : Rw} (F : Fits Γ X R0) (ec : R.c = Γ.cls) {scope : Scope} (B : Blk Γ.N Γ.sc.names scope.names []) (hk : scope.kind = .function) (hs : ScB scope.names = true) {A : Around} {outer : List Env} {s : Shared} {H : Hp} {E : XK} {f c' : Addr} {k : Nat} {EX : EXT}
    (hr : Room k (A.deeper (LamX.lamEnv X scope s.heap.objs.size f c'))) (hE : ∀ cls oa pay σ δ R' H' L', Le R R' → AR Γ.T Γ.K R' L' H' → RS Γ.K R' σ δ → PayOk Γ.K R' H' oa pay → EX cls pay δ L' → E cls oa H') :
    Fits (ctL Γ scope k (LamX.lamEnv X scope s.heap.objs.size f c').qual EX) (LamX.lamCx X A outer s H E scope f c') R := by
  refine ⟨ec, F.prog, F.w, F.K, F.mg, F.base, F.N, F.nd, hs, hk, fun x k m v => vis_of (ScB.look hs m) v, fun x m => ScB.look hs m, fun x k m v => ?_, fun x m => ScB.look hs m, fun x k m n => ⟨k, ScB.look hs m, n⟩, fun x k m c => ?_, ?_, fun _ => hr, rfl, ⟨_, L2.takes_of rfl rfl rfl rfl, hE⟩, L2.passes_of rfl, fun _ => ⟨rfl, rfl⟩, rfl, fun c P e => (nomatch e)⟩
  · have := B.ow x k m (by cases k with | «local» => exact .inl rfl | cell => exact .inr rfl | _ => cases v)
    cases this
  · have z := ScB.look hs m
    cases k with
    | cell => exact .inl z
    | free => exact .inr z
    | _ => cases c
  · have := hr.un
    show (A.deeper (LamX.lamEnv X scope s.heap.objs.size f c')).units + 64 < cLine
    omega
/-- x(lambda: body) -/
theorem be_told {Γ : Ct} {δ : Ds} {L : Mu} {Q : D → Mu → Prop} {x : Str} {l : List (Addr × Tx)} {c P : Addr} {params : Arguments} {body : Expr} {scope : Scope} {p lpos pos : Pos} {k : Nat} (T : Told Γ.toWd x l) [hK : Kd Γ.sc.names x .globalImplicit] [B : Blk Γ.N Γ.sc.names scope.names []]
    (hcp : Γ.cp = some (c, P)) (hT : (P, Γ.qual ++ "<lambda>") ∈ Γ.T) (hk : k + 2 ≤ Γ.k) (hc : Γ.calm = true) (hsk : scope.kind = .function) (hco : scope.isCoroutine = false) (hge : scope.isGenerator = false) (hs : ScB scope.names = true)
    (hdef : ∀ env, defaultsOf params env = ([], [])) (hbind : ∀ (q : Str) (cl : List (Str × Addr)) (pm cv ctv : Value), bindArgs (PySem.W.kla_fn "<lambda>" q params body scope cl pm cv ctv) ⟨[], []⟩ = pure [])
    (h : ∀ q, BE (ctL Γ scope k q fun cls _ _ L1 => tell Γ.K cls (fun ret => Q (.str ret) L1) l) body δ L Q) : BE Γ (.Call (.Name x p) [.Lambda params body scope lpos] [] pos) δ L Q := fun X R0 F R σ H l0 A S QV gg => by
  obtain ⟨g, Ng, a, pg, sg, dV, kV, doc, pm, cdv, ct, oc, an, od, osl, p1, p2, p3, p8, hd0, hds, t1, t2, t3, t4, t5, t6, t7, t8, t9, t10, t11, t12⟩ := T.ex
  obtain ⟨e1, TB⟩ := F.cp c P hcp
  have LS : LamX.LamS X.env.scope scope := by
    refine ⟨hsk, hco, hge, fun y m => ⟨fun e => ?_, fun e => ?_⟩, fun y m e => ?_⟩
    · exact (List.not_mem_nil (B.ow y.1 y.2 m (.inl e))).elim
    · exact (List.not_mem_nil (B.ow y.1 y.2 m (.inr e))).elim
    · obtain ⟨k', m', c'⟩ := B.fr y.1 y.2 m e
      exact F.cap _ _ m' c'
  refine PE_w (LamX.pe_lamcall (T := Γ.T) (k := k) (TT := TTolds X.K l) (t := fun E σ H Q => ∀ (A : Around) (outer : List Env) (s : Shared) (H0 : Hp) (f c' : Addr), Room k (A.deeper (LamX.lamEnv X scope s.heap.objs.size f c')) → wE (LamX.lamCx X A outer s H0 E scope f c') body σ H Q)
    (F.gl _ hK.mem) (by rw [F.mg]; exact t1) (by rw [F.K]; exact t2) (by rw [F.K]; exact t3) (by rw [F.K]; exact t4) (by rw [F.K]; exact t5) t6 t7 t8 (tolds_gives F.mg t9 t10) TB e1 (by rw [F.qual]; exact hT) (fun q hq e => ?_) ((F.room hc).mono hk) LS (hdef _) hbind (fun A' outer s H0 E f c' hr => ⟨fun pins s' σ' H' Q' I' h' => h' A' outer s H0 f c' hr pins s' I'⟩) (ScB.dbg F.scok hK.mem).1 t11 t12) ?_
  · obtain ⟨i, hi⟩ := List.getElem?_of_mem hq
    obtain ⟨j, hj⟩ := List.getElem?_of_mem hT
    have e3 : (Γ.T.map (·.1))[i]? = some P := by rw [List.getElem?_map, hi]; exact congrArg some e
    have e4 : (Γ.T.map (·.1))[j]? = some P := by rw [List.getElem?_map, hj]; rfl
    obtain ⟨q1, f1⟩ := List.getElem?_eq_some_iff.mp e3
    obtain ⟨q2, f2⟩ := List.getElem?_eq_some_iff.mp e4
    have ij := (List.getElem_inj A.tnd).mp (f1.trans f2.symm)
    subst ij
    rw [hi] at hj
    cases hj
    rw [F.qual]
  · refine ⟨A.tabs, fun H1 eN T1 => ?_⟩
    have A1 := A.ext eN T1
    intro A' outer s H0 f c' hr
    refine h _ _ R (fits_lam F (l0.c.trans F.cls) B hsk hs hr fun cls oa pay σ' δ' R' H' L' l' A' S' po q => ?_) R σ H1 (Le.refl R) A1 S QV gg
    rw [F.K]
    have mono : ∀ l : List (Addr × Tx), tell Γ.K cls (fun ret => Q (.str ret) L') l → tell Γ.K cls (fun ret => QV (.str (Tx.s ret)) H') l := fun l => by
      induction l with
      | nil => exact id
      | cons c r ih => exact fun ⟨b, e1, e2, e3⟩ => ⟨b, e1, fun hb => gg _ _ R' H' L' l' A' .str (e2 hb), fun hb => ih (e3 hb)⟩
    exact mono l q
end Ac
end
section
/-! Ab10: the law's end. -/
namespace Ac
open PySem PySem.Spec PyProof.Rows L2

/-- the defs that make lambdas: where, the lambda's qualified name -/
abbrev TQ := List (He.Defn × Str)
def tblOf (K : PySem.W.Frag) (tq : TQ) : Tbl := tq.map fun q => ((He.cT K q.1).2, q.2)
def LawC : Con := fun xs L Q E => ∃ ns : List Int, xs = [.lsk (ns.map .int)] ∧ L = [] ∧ ns.length ≤ 63 ∧ (∀ z ∈ ns, Builtin.Int.intBits z ≤ 1048576) ∧ ∀ L', Q (.bl true) L'
def tqB (K : PySem.W.Frag) (tq : TQ) : Bool := ndN (tq.map fun q => (He.cT K q.1).2) && tq.all fun q => mainGlobals != (He.cT K q.1).2
/-- what is known where the law's defs are judged -/
structure Env0 (W : Wd) (l : PySem.W.OpenLaw) (fa : List He.Fa) (fn : List He.DefD) (tq : TQ) (ex : PySem.W.Frag → Bool) (cls : PySem.W.Frag → Nat → Addr × List Str) : Prop where
  P : W.P = l.prog
  X : W.K.In W.base
  G : W.base.Ns mainGlobals W.mg
  S : He.SaysD fa fn W.K
  E : ex W.K = true
  T : W.T = tblOf W.K tq
  C : W.cls = cls W.K
  B : ∀ p ∈ tq.map (·.1), LamX.TabB W.base W.mg (He.cT W.K p).1 (He.cT W.K p).2
theorem rps_ints {K : PySem.W.Frag} {R : Rw} : ∀ ns : List Int, Rps K R (ns.map V.int) (ns.map D.int)
  | [] => .nil
  | n :: ns => .cons .int (rps_ints ns)
theorem sp_law {W : Wd} {tq : TQ} (hT : W.T = tblOf W.K tq) (hq : tqB W.K tq = true) {H : Hp} {a : Addr} {ns : List Int} (hl : ns.length ≤ 63) (hb : ∀ z ∈ ns, Builtin.Int.intBits z ≤ 1048576)
    (hH : ∀ p ∈ (tq.map fun q => He.cT W.K q.1), H p.2 = some (.tbl #[])) (hS : SqL W.K H a (ns.map V.int)) : spOf W LawC [.ref a] H (fun v _ => v = .bl true) fun _ _ _ => False := by
  obtain ⟨q1, q2⟩ := Bool.and_eq_true_iff.mp hq
  have htab : ∀ t ∈ W.T, H t.1 = some (.tbl #[]) := fun t ht => by
    rw [hT] at ht
    obtain ⟨q, hq, rfl⟩ := List.mem_map.mp ht
    exact hH _ (List.mem_map.mpr ⟨q, hq, rfl⟩)
  have hnd : (W.T.map (·.1)).Nodup := by
    rw [hT]
    have := ndN_ok (fun q : He.Defn × Str => (He.cT W.K q.1).2) q1
    unfold tblOf
    rw [List.map_map]
    refine ndN_ok (α := Nat) id ?_
    rw [List.map_id]
    exact q1
  have core : ∀ R : Hp, (∀ b o, R b = some o → H b = some o) → (∀ b o, R b = some o → b = a) → (∀ ps, H a = some (.tbl ps) → R a = none) → SqL W.K R a (ns.map V.int) → spOf W LawC [.ref a] H (fun v _ => v = .bl true) fun _ _ _ => False := fun R l ho ht hs => by
    refine ⟨⟨R, fun _ => none, fun _ => none, W.cls⟩, [.lsk (ns.map .int)], [], fun d _ => d = .bl true, fun _ _ _ => False, rfl, ⟨fun a o e => .inl (l a o e), fun i m h => by simp at h, fun i j a h => (nomatch h), fun _ _ => rfl, fun a o h => (nomatch h), hnd, fun t h => ⟨?_, rfl, ?_⟩, fun b ps e => ?_⟩, .cons (.lsk hs (rps_ints ns)) .nil, ⟨ns, rfl, rfl, hl, hb, fun _ => rfl⟩, fun v d R' H' L' l' A' r q => ?_, fun _ _ _ _ _ _ _ _ _ z => z⟩
    · show R t.1 = none
      cases e : R t.1 with
      | none => rfl
      | some o =>
        have e2 := ho _ _ e
        have e3 := htab t h
        rw [e2] at e3 e
        rw [ht _ e3] at e
        cases e
    · refine ⟨#[], htab t h, ?_, fun pos cv e => ?_⟩
      · first | exact trivial | (show True; trivial) | simp [LamX.TriplesOk]
      · cases e
    · change R b = _ at e
      have e2 := ho _ _ e
      subst e2
      rw [ht _ (l _ _ e)] at e
      cases e
    · subst q
      cases r
      rfl
  rcases hS with hS | ⟨o, its, n, h1, h2, h3, h4, h5, h6⟩
  · refine core (fun b => if b = a then H a else none) (fun b o e => ?_) (fun b o e => ?_) (fun ps e => ?_) (.inl ?_)
    · by_cases z : b = a
      · subst z
        exact (if_pos rfl).symm.trans e
      · exact nomatch (if_neg z).symm.trans e
    · by_cases z : b = a
      · exact z
      · exact nomatch (if_neg z).symm.trans e
    · rcases hS with z | ⟨o, z⟩ <;> (rw [e] at z; cases z)
    · rcases hS with z | ⟨o, z⟩
      · exact .inl ((if_pos rfl).trans z)
      · exact .inr ⟨o, (if_pos rfl).trans z⟩
  · exact core (fun _ => none) (fun _ _ e => nomatch e) (fun _ _ e => nomatch e) (fun _ _ => rfl) (.inr ⟨o, its, n, h1, h2, h3, h4, h5, h6⟩)
theorem law_walk {l : PySem.W.OpenLaw} {q : Program} {loose : List Str} {XP : (Str → Option Value) → Heap → Prop} {d : DefRec} {n : Nat} {fa : List He.Fa} {fn : List He.DefD} {tq : TQ} {ex : PySem.W.Frag → Bool} {cls : PySem.W.Frag → Nat → Addr × List Str} {k : Nat} {ld : He.DefD}
    (hn : l.most = some 63) (hdf : d.params.defaults = []) (hr : Room k callerA) (hx : ∀ K, ex K = true → tqB K tq = true) (hm : ld ∈ fn) (hat : ld.at_ = (("law" : Str), (none : Option Str))) (hdn : d.name = ("law" : Str)) (hgl : He.Fa.glo "law" ∈ fa)
    (hb : ∀ (K : PySem.W.Frag) (fd : FuncData), FunD K ld.name ld.qual ld.params ld.body ld.scope (ld.dvs K) (ld.kws K) (He.fAd K ld.at_) fd → ∀ (s : Shared) (v : Value), BindsTo s fd ⟨[v], []⟩ [("script", v)])
    (F : ∀ W : Wd, Env0 W l fa fn tq ex cls → ∀ fd, FunD W.K ld.name ld.qual ld.params ld.body ld.scope (ld.dvs W.K) (ld.kws W.K) (He.fAd W.K ld.at_) fd → FnOk W.P W.w W.K W.mg W.base (L2.CX W.P W.w) k (He.fAd W.K ld.at_) fd ["script"] (spOf W LawC)) :
    PySem.W.WalkO q loose XP (He.hookX n fa fn [] (tq.map (·.1)) ex).says l.row.toRowW d [] (fun f vs => PySem.call f vs) := by
  refine LamX.walk_ofTsE (l := l) (n := 63) (k := k) (x := "script") (CX := fun w => L2.CX l.prog w) hn (by decide) hdf hr (fun w mg fa' h Y G hmg => ?_) (fun w H s e s' z => ?_)
  · obtain ⟨K, KX, c⟩ := Y
    obtain ⟨fd, F1⟩ := c.t.d.defs hm
    have hgo := He.glo_ok KX G (c.t.d.facts hgl)
    rw [hdn] at hmg
    have ef : fa' = He.fAd K ld.at_ := by
      rw [hat]
      have e := hmg.symm.trans hgo
      exact Value.ref.inj (Option.some.inj e)
    have c0 := hx K c.more
    refine ⟨K, KX, fd, tq.map fun q => He.cT K q.1, spOf ⟨l.prog, w, K, mg, h, tblOf K tq, cls K⟩ LawC, ?_, ?_, ?_, hb K fd F1, ?_, ?_⟩
    · intro p hp
      obtain ⟨q, hq, rfl⟩ := List.mem_map.mp hp
      exact c.empty _ (List.mem_map.mpr ⟨q, hq, rfl⟩)
    · intro p hp
      obtain ⟨q, hq, rfl⟩ := List.mem_map.mp hp
      exact c.out _ (List.mem_map.mpr ⟨q, hq, rfl⟩)
    · intro p hp
      obtain ⟨q, hq, rfl⟩ := List.mem_map.mp hp
      exact PySem.W.codeHd_of_K KX (c.hd _ (List.mem_map.mpr ⟨q, hq, rfl⟩))
    · intro H a ns h1 h2 h3 h4
      exact sp_law (W := ⟨l.prog, w, K, mg, h, tblOf K tq, cls K⟩) rfl c0 h1 h2 h3 h4
    · intro base KB GB TB
      rw [ef]
      exact F ⟨l.prog, w, K, mg, base, tblOf K tq, cls K⟩ ⟨rfl, KB, GB, c.t.d, c.more, rfl, rfl, fun p hp => by
        obtain ⟨q, hq, rfl⟩ := List.mem_map.mp hp
        exact TB _ (List.mem_map.mpr ⟨q, hq, rfl⟩)⟩ fd F1
  · obtain ⟨_, _, _, _, _, _, _, _, _, _, _, _, z⟩ := z
    exact z
end Ac
end
section
/-! Ab11: in, more of min, cells written, append, count, ranges by steps. -/
namespace Ac
open PySem PySem.Spec PyProof.Rows L2

def D.fl : D → Bool
  | .non => true
  | .bl _ => true
  | .int _ => true
  | .str _ => true
  | _ => false
def D.v : D → V
  | .bl b => .bl b
  | .int i => .int i
  | .str x => .str (Tx.s x)
  | _ => .non
theorem D.fl_v {K : PySem.W.Frag} {R : Rw} {d : D} {v : V} (h : d.fl = true) (r : Rp K R v d) : v = d.v ∧ flatV v = true := by
  cases r <;> first | exact ⟨rfl, rfl⟩ | cases h
theorem D.fl_vs {K : PySem.W.Frag} {R : Rw} : ∀ {ds : List D} {vs : List V}, ds.all D.fl = true → Rps K R vs ds → vs = ds.map D.v ∧ vs.all flatV = true
  | [], _, _, .nil => ⟨rfl, rfl⟩
  | d :: ds, _, h, .cons r rs => by
    obtain ⟨h1, h2⟩ := Bool.and_eq_true_iff.mp (by rw [List.all_cons] at h; exact h)
    obtain ⟨e1, f1⟩ := D.fl_v h1 r
    obtain ⟨e2, f2⟩ := D.fl_vs h2 rs
    subst e1 e2
    exact ⟨rfl, by rw [List.all_cons, f1, f2]; rfl⟩
section
variable {Γ : Ct} {δ : Ds} {L : Mu} {Q : D → Mu → Prop} {pos p apos : Pos} {e o i a b c : Expr}
theorem b2_in {x y : D} {ds : List D} (hy : SqOf L y ds) (hx : x.fl = true) (hd : ds.all D.fl = true) (hq : Q (.bl (inV x.v (ds.map D.v))) L) : B2 Γ (compareOp .In) x y L Q := fun X R0 F R H v u l A r1 r2 QV g => by
  obtain ⟨p, vs, rfl, hp, rv⟩ := hy.sq A r2
  obtain ⟨e1, f1⟩ := D.fl_v hx r1
  obtain ⟨e2, f2⟩ := D.fl_vs hd rv
  subst e1 e2
  exact OR_w op_in_seq ⟨p, _, rfl, by rw [F.K]; exact hp, f1, f2, g _ _ R H L (Le.refl R) A .bl hq⟩
theorem b2_nin {x y : D} {ds : List D} (hy : SqOf L y ds) (hx : x.fl = true) (hd : ds.all D.fl = true) (hq : Q (.bl (!inV x.v (ds.map D.v))) L) : B2 Γ (compareOp .NotIn) x y L Q := fun X R0 F R H v u l A r1 r2 QV g => by
  obtain ⟨p, vs, rfl, hp, rv⟩ := hy.sq A r2
  obtain ⟨e1, f1⟩ := D.fl_v hx r1
  obtain ⟨e2, f2⟩ := D.fl_vs hd rv
  subst e1 e2
  exact OR_w op_notIn_seq ⟨p, _, rfl, by rw [F.K]; exact hp, f1, f2, g _ _ R H L (Le.refl R) A .bl hq⟩
theorem Rps.three {K : PySem.W.Frag} {R : Rw} {vs : List V} {d d2 d3 : D} (r : Rps K R vs [d, d2, d3]) : ∃ v u w, vs = [v, u, w] ∧ Rp K R v d ∧ Rp K R u d2 ∧ Rp K R w d3 := by
  cases r with
  | cons r rr =>
    obtain ⟨u, w, rfl, r2, r3⟩ := rr.two
    exact ⟨_, u, w, rfl, r, r2, r3⟩
theorem vals_tail {v : V} {vs : List V} {us : List Value} (r : Vals (v :: vs) us) : ∃ u us', us = u :: us' ∧ RelV v u ∧ Vals vs us' := by
  cases r with
  | cons h t => exact ⟨_, _, rfl, h, t⟩
theorem bc_min3 {i j k : Int} (hc : Γ.calm = true) (hq : Q (.int (min (min i j) k)) L) : BC Γ (.builtin "min") [.int i, .int j, .int k] L Q := fun X R0 F R H vs l A r0 QV g => by
  obtain ⟨v, u, w, rfl, r1, r2, r3⟩ := r0.three
  cases r1; cases r2; cases r3
  intro pins s σ us I r
  obtain ⟨_, us1, rfl, ⟨t1, rfl⟩, ra⟩ := vals_tail r
  obtain ⟨_, us2, rfl, ⟨t2, rfl⟩, rb⟩ := vals_tail ra
  obtain ⟨_, us3, rfl, ⟨t3, rfl⟩, rc⟩ := vals_tail rb
  cases rc
  refine min_three_ints (I.ok.hd (by rw [F.calm]; exact hc)) fun h' tk kk => ⟨.int (min (min i j) k), H, I.kept kk, ?_, g _ _ R H L (Le.refl R) A .int hq⟩
  by_cases h1 : j < i
  · by_cases h2 : k < j
    · rw [if_pos h1, if_pos h2]; exact ⟨_, by rw [show min (min i j) k = k by omega]⟩
    · rw [if_pos h1, if_neg h2]; exact ⟨_, by rw [show min (min i j) k = j by omega]⟩
  · by_cases h2 : k < i
    · rw [if_neg h1, if_pos h2]; exact ⟨_, by rw [show min (min i j) k = k by omega]⟩
    · rw [if_neg h1, if_neg h2]; exact ⟨_, by rw [show min (min i j) k = i by omega]⟩
theorem min4_args (a b c d : Value) : argsOk "min" ⟨[a, b, c, d], []⟩ := by
  unfold argsOk
  kernel_rfl
theorem min4_int {prog : Program} {w : World} {A : Around} {E : Value → Shared → Prop} {s : Shared} {a b c d : Int} {t u x y : Tok} {QQ : Value → Shared → Prop} (hh : A.handled = none)
    (h : ∀ h' tk, (∀ d o, s.heap.get? d = some o → h'.get? d = some o) → ∀ t', QQ (.int (min (min (min a b) c) d) t') { s with heap := h', toks := tk }) :
    wpAny (model prog w) A (call (.builtin "min") [.int a t, .int b u, .int c x, .int d y]) QQ E s := by
  let items := intItems #[(a, t), (b, u), (c, x), (d, y)]
  have hname : (toString "min" ++ toString ".loop" : String) = "min.loop" := by decide
  refine call_function_tree F.kind_min F.plain_min F.entry_min (min4_args _ _ _ _) ?_
  show wpAny _ A.in1 (Builtin.Builtins.bindParams "min" ["key", "default"] 0 ⟨[], []⟩ >>= _) _ _ s
  refine wpAny_bind (wpAny_of_eq (show Builtin.Builtins.bindParams "min" ["key", "default"] 0 ⟨[], []⟩ = pure [none, none] from rfl) ?_)
  show wpAny _ A.in1 (newTuple [.int a t, .int b u, .int c x, .int d y] >>= _) _ _ s
  have hT : (s.heap.push { cls := .type "tuple", data := .seq #[.int a t, .int b u, .int c x, .int d y] }).IsTuple s.heap.objs.size items := ⟨_, Heap.get?_push_size _ rfl, rfl, 0, by simp [items, intItems]⟩
  have hsz : (s.heap.push { cls := .type "tuple", data := .seq #[.int a t, .int b u, .int c x, .int d y] }).objs.size = s.heap.objs.size + 1 := Heap.size_push ..
  refine wpAny_bind (wpAny_newObj_type ?_)
  refine wpAny_bind (wpAny_pyIter_tuple hT ?_)
  refine wpAny_bind (wpAny_newObj_type ?_)
  rw [hname]
  have W := Walks.tuple (prog := prog) (w := w) (A := A.in1) (by exact hh) (s.heap.push { cls := .type "tuple", data := .seq #[.int a t, .int b u, .int c x, .int d y] }).objs.size s.heap.objs.size (by rw [hsz]; exact Nat.ne_of_lt (Nat.lt_succ_self _)) items
  let s2 : Heap := s.heap.push { cls := .type "tuple", data := .seq #[.int a t, .int b u, .int c x, .int d y] }
  have hgoal : ∀ (v : Value) (h' : Heap) (tk : Nat), items[argBest (fun i j => decide (numAt #[(a, t), (b, u), (c, x), (d, y)] i < numAt #[(a, t), (b, u), (c, x), (d, y)] j)) 3]? = some v → (∀ z o, s.heap.get? z = some o → h'.get? z = some o) → QQ v { s with heap := h', toks := tk } := fun v h' tk hv hk => by
    have key : ∃ t', v = .int (min (min (min a b) c) d) t' := by
      by_cases h1 : b < a
      · by_cases h2 : c < b
        · by_cases h3 : d < c
          · have e : argBest (fun i j => decide (numAt #[(a, t), (b, u), (c, x), (d, y)] i < numAt #[(a, t), (b, u), (c, x), (d, y)] j)) 3 = 3 := by simp [argBest, numAt, h1, h2, h3]
            rw [e] at hv
            exact ⟨y, by rw [show min (min (min a b) c) d = d by omega]; simpa [items, intItems] using hv.symm⟩
          · have e : argBest (fun i j => decide (numAt #[(a, t), (b, u), (c, x), (d, y)] i < numAt #[(a, t), (b, u), (c, x), (d, y)] j)) 3 = 2 := by simp [argBest, numAt, h1, h2, h3]
            rw [e] at hv
            exact ⟨x, by rw [show min (min (min a b) c) d = c by omega]; simpa [items, intItems] using hv.symm⟩
        · by_cases h3 : d < b
          · have e : argBest (fun i j => decide (numAt #[(a, t), (b, u), (c, x), (d, y)] i < numAt #[(a, t), (b, u), (c, x), (d, y)] j)) 3 = 3 := by simp [argBest, numAt, h1, h2, h3]
            rw [e] at hv
            exact ⟨y, by rw [show min (min (min a b) c) d = d by omega]; simpa [items, intItems] using hv.symm⟩
          · have e : argBest (fun i j => decide (numAt #[(a, t), (b, u), (c, x), (d, y)] i < numAt #[(a, t), (b, u), (c, x), (d, y)] j)) 3 = 1 := by simp [argBest, numAt, h1, h2, h3]
            rw [e] at hv
            exact ⟨u, by rw [show min (min (min a b) c) d = b by omega]; simpa [items, intItems] using hv.symm⟩
      · by_cases h2 : c < a
        · by_cases h3 : d < c
          · have e : argBest (fun i j => decide (numAt #[(a, t), (b, u), (c, x), (d, y)] i < numAt #[(a, t), (b, u), (c, x), (d, y)] j)) 3 = 3 := by simp [argBest, numAt, h1, h2, h3]
            rw [e] at hv
            exact ⟨y, by rw [show min (min (min a b) c) d = d by omega]; simpa [items, intItems] using hv.symm⟩
          · have e : argBest (fun i j => decide (numAt #[(a, t), (b, u), (c, x), (d, y)] i < numAt #[(a, t), (b, u), (c, x), (d, y)] j)) 3 = 2 := by simp [argBest, numAt, h1, h2, h3]
            rw [e] at hv
            exact ⟨x, by rw [show min (min (min a b) c) d = c by omega]; simpa [items, intItems] using hv.symm⟩
        · by_cases h3 : d < a
          · have e : argBest (fun i j => decide (numAt #[(a, t), (b, u), (c, x), (d, y)] i < numAt #[(a, t), (b, u), (c, x), (d, y)] j)) 3 = 3 := by simp [argBest, numAt, h1, h2, h3]
            rw [e] at hv
            exact ⟨y, by rw [show min (min (min a b) c) d = d by omega]; simpa [items, intItems] using hv.symm⟩
          · have e : argBest (fun i j => decide (numAt #[(a, t), (b, u), (c, x), (d, y)] i < numAt #[(a, t), (b, u), (c, x), (d, y)] j)) 3 = 0 := by simp [argBest, numAt, h1, h2, h3]
            rw [e] at hv
            exact ⟨t, by rw [show min (min (min a b) c) d = a by omega]; simpa [items, intItems] using hv.symm⟩
    obtain ⟨t', rfl⟩ := key
    exact h h' tk hk t'
  refine wpAny_pure ⟨plainId_quiet F.plain_min_loop _, codeAny_min_loop_first W _ (CmpOf.ints_lt (numAt #[(a, t), (b, u), (c, x), (d, y)]) (fun _ _ => intItems_at)) _ (fun hm => ?_) (by simp [items, intItems]) (W.frame _ _ _ ⟨⟨_, Heap.get?_push_size _ rfl, rfl, rfl⟩, hT.push _⟩ fun z _ o e => Heap.get?_push_of_some _ e) (Heap.get?_push_size _ rfl) fun v h' tk hP hk => ?_⟩
  · rcases List.mem_cons.mp hm with e1 | hm
    · simp [Heap.size_push] at e1
    · rcases List.mem_cons.mp hm with e1 | hm
      · simp [Heap.size_push] at e1
        all_goals exact absurd e1 (Nat.ne_of_gt (Nat.lt_succ_of_lt (Nat.lt_succ_self _)))
      · cases hm
  · refine hgoal v h' tk (by simpa [items, intItems] using hP) fun z o e => ?_
    have lt := Heap.lt_size e
    refine hk z o (fun hm => ?_) (Nat.ne_of_lt ?_) (Heap.get?_push_of_some _ (Heap.get?_push_of_some _ (Heap.get?_push_of_some _ e)))
    · rcases List.mem_cons.mp hm with e1 | hm
      · rw [e1, hsz] at lt; exact Nat.lt_irrefl _ (Nat.lt_of_succ_lt lt)
      · cases hm
    · simp [Heap.size_push]; exact Nat.lt_succ_of_lt (Nat.lt_succ_of_lt lt)
theorem bc_min4 {i j k m : Int} (hc : Γ.calm = true) (hq : Q (.int (min (min (min i j) k) m)) L) : BC Γ (.builtin "min") [.int i, .int j, .int k, .int m] L Q := fun X R0 F R H vs l A r0 QV g => by
  cases r0 with
  | cons r1 r0 =>
    obtain ⟨v, u, w, rfl, r2, r3, r4⟩ := r0.three
    cases r1; cases r2; cases r3; cases r4
    intro pins s σ us I r
    obtain ⟨_, us1, rfl, ⟨t1, rfl⟩, ra⟩ := vals_tail r
    obtain ⟨_, us2, rfl, ⟨t2, rfl⟩, rb⟩ := vals_tail ra
    obtain ⟨_, us3, rfl, ⟨t3, rfl⟩, rc⟩ := vals_tail rb
    obtain ⟨_, us4, rfl, ⟨t4, rfl⟩, rd⟩ := vals_tail rc
    cases rd
    exact min4_int (I.ok.hd (by rw [F.calm]; exact hc)) fun h' tk kk t' => ⟨.int (min (min (min i j) k) m), H, I.kept kk, ⟨t', rfl⟩, g _ _ R H L (Le.refl R) A .int hq⟩
theorem bc_max3 {i j k : Int} (hc : Γ.calm = true) (hq : Q (.int (max (max i j) k)) L) : BC Γ (.builtin "max") [.int i, .int j, .int k] L Q := fun X R0 F R H vs l A r0 QV g => by
  obtain ⟨v, u, w, rfl, r1, r2, r3⟩ := r0.three
  cases r1; cases r2; cases r3
  intro pins s σ us I r
  obtain ⟨_, us1, rfl, ⟨t1, rfl⟩, ra⟩ := vals_tail r
  obtain ⟨_, us2, rfl, ⟨t2, rfl⟩, rb⟩ := vals_tail ra
  obtain ⟨_, us3, rfl, ⟨t3, rfl⟩, rc⟩ := vals_tail rb
  cases rc
  refine max_three_ints (I.ok.hd (by rw [F.calm]; exact hc)) fun h' tk kk => ⟨.int (max (max i j) k), H, I.kept kk, ?_, g _ _ R H L (Le.refl R) A .int hq⟩
  by_cases h1 : j > i
  · by_cases h2 : k > j
    · rw [if_pos h1, if_pos h2]; exact ⟨_, by rw [show max (max i j) k = k by omega]⟩
    · rw [if_pos h1, if_neg h2]; exact ⟨_, by rw [show max (max i j) k = j by omega]⟩
  · by_cases h2 : k > i
    · rw [if_neg h1, if_pos h2]; exact ⟨_, by rw [show max (max i j) k = k by omega]⟩
    · rw [if_neg h1, if_neg h2]; exact ⟨_, by rw [show max (max i j) k = i by omega]⟩

/-! ### a list in a cell -/
theorem bg_ixL {dv : D} {QG : Ds → Mu → Prop} (h : BE Γ o δ L fun d L1 => BE Γ i δ L1 fun y L2 => ∃ (k : Nat) (ds : List D) (z : Int) (j : Nat), d = .rf k ∧ L2[k]? = some (.lst ds) ∧ y = .int z ∧ ixN ds.length z = some j ∧ QG δ (L2.set k (.lst (ds.set j dv))))
    (ha : ∀ (env : Env) v, assign (.Subscript o i pos) env v = (do
      let ov ← holding [v] (eval o env)
      let iv ← holding [v, ov] (eval i env)
      standAt pos
      holding [v, ov, iv] (setItem ov iv v)
      release [v, ov, iv] [])) : BG Γ (.Subscript o i pos) dv δ L QG := fun X R0 F R σ H v l A S r QV g =>
  PG_w (pg_sub peW peW set_list (ha X.env)) (h X R0 F R σ H l A S _ fun x d R1 H1 L1 l1 A1 r1 q1 => q1 X R0 F R1 σ H1 (l.trans l1) A1 (S.le l1) _ fun y d2 R2 H2 L2 l2 A2 r2 q2 => by
    obtain ⟨k, ds, z, j, rfl, hk, rfl, hj, q⟩ := q2
    cases r2
    obtain ⟨p, rfl, hv, vs, hp, rv⟩ := A2.at hk (r1.le l2)
    exact ⟨p, vs, z, j, rfl, rfl, hp, by rw [rv.length]; exact hj, g _ _ R2 _ _ (l1.trans l2) (A2.write (m := .lst (ds.set j dv)) hk hv hp (by trivial) ⟨vs.set j v, upd_same, rv.set (r.le (l1.trans l2)) j⟩) ((S.le l1).le l2) q⟩)
theorem be_app (h : BE Γ o δ L fun d L1 => ∃ (k : Nat) (ds1 : List D), d = .rf k ∧ L1[k]? = some (.lst ds1) ∧ BE Γ e δ L1 fun y L2 => ∃ (ds : List D), L2[k]? = some (.lst ds) ∧ ds.length < sizeLine ∧ Q .non (L2.set k (.lst (ds ++ [y]))))
    (hs : ∀ env, starEach [e] env = (false, eval e env) :: starEach [] env) (hb : ∀ env, attributeBase o "append" env (eval o env) = eval o env) (hl : (apos.endLine == pos.line) = true)
    (hfew : ∀ env, ((backTo pos (starEach [e] env)).all (fun x => !x.1) && (backToKw pos (keywordEach [] env)).all (fun x => x.1.isSome) && decide (([e] : List Expr).length + ([] : List Keyword).length + (if ([] : List Keyword).isEmpty then 0 else 1) < 30)) = true) : BE Γ (.Call (.Attribute o "append" apos) [e] [] pos) δ L Q := fun X R0 F R σ H l A S QV g => by
  refine PE_w (pe_bm PySem.F.plainAttrs_list PySem.F.slot_list_append PySem.F.type_list_append mt_append peW paW (hb _) (hfew _) hl (hs _) (by rfl)) ?_
  refine h X R0 F R σ H l A S _ fun v d R1 H1 L1 l1 A1 r1 q1 => ?_
  obtain ⟨k, ds1, rfl, hk1, q1⟩ := q1
  obtain ⟨p, rfl, hv, vs1, hp1, rv1⟩ := A1.at hk1 r1
  refine ⟨.inl ⟨rfl, vs1, SqL.of hp1⟩, ?_⟩
  refine PA_w (pa_cons peW pa_nil (hs _)) ?_
  refine q1 X R0 F R1 σ H1 (l.trans l1) A1 (S.le l1) _ fun y d2 R2 H2 L2 l2 A2 r2 q2 => ?_
  obtain ⟨ds, hk, hz, q⟩ := q2
  obtain ⟨p2, e2, hv2, vs, hp, rv⟩ := A2.at hk (r1.le l2)
  cases e2
  exact ⟨p, vs, y, rfl, rfl, hp, by rw [rv.length]; exact hz, g _ _ R2 _ _ (l1.trans l2) (A2.write (m := .lst (ds ++ [d2])) hk hv2 hp (by trivial) ⟨vs ++ [y], upd_same, rv.append (.cons r2 .nil)⟩) .non q⟩
theorem be_cntI (h : BE Γ o δ L fun d L1 => ∃ ns : List Int, LsOf L1 d (ns.map .int) ∧ BE Γ e δ L1 fun y L2 => ∃ k : Int, y = .int k ∧ LsOf L2 d (ns.map .int) ∧ Q (.int (ns.count k : Nat)) L2)
    (hs : ∀ env, starEach [e] env = (false, eval e env) :: starEach [] env := by intro _; rfl) (hb : ∀ env, attributeBase o "count" env (eval o env) = eval o env := by intro _; rfl) (hl : (apos.endLine == pos.line) = true := by rfl)
    (hfew : ∀ env, ((backTo pos (starEach [e] env)).all (fun x => !x.1) && (backToKw pos (keywordEach [] env)).all (fun x => x.1.isSome) && decide (([e] : List Expr).length + ([] : List Keyword).length + (if ([] : List Keyword).isEmpty then 0 else 1) < 30)) = true := by intro _; rfl) : BE Γ (.Call (.Attribute o "count" apos) [e] [] pos) δ L Q := fun X R0 F R σ H l A S QV g => by
  refine PE_w (pe_bm PySem.F.plainAttrs_list PySem.F.slot_list_count PySem.F.type_list_count mt_lcount peW paW (hb _) (hfew _) hl (hs _) (by rfl)) ?_
  refine h X R0 F R σ H l A S _ fun v d R1 H1 L1 l1 A1 r1 q1 => ?_
  obtain ⟨ns, hd, q1⟩ := q1
  obtain ⟨p, ws, rfl, hp, rw1⟩ := hd.sql A1 r1
  refine ⟨.inl ⟨rfl, ws, by rw [F.K]; exact hp⟩, ?_⟩
  refine PA_w (pa_cons peW pa_nil (hs _)) ?_
  refine q1 X R0 F R1 σ H1 (l.trans l1) A1 (S.le l1) _ fun y d2 R2 H2 L2 l2 A2 r2 q2 => ?_
  obtain ⟨k, rfl, hd2, q⟩ := q2
  cases r2
  obtain ⟨p2, ws2, e2, hp2, rw2⟩ := hd2.sql A2 (r1.le l2)
  cases e2
  have := rw2.ints
  subst this
  exact ⟨p, ns, k, rfl, rfl, by rw [F.K]; exact hp2, g _ _ R2 H2 L2 (l1.trans l2) A2 .int q⟩
/-- x += y of lists, x in a cell -/
theorem b2_iext {y : D} {k : Nat} {xs ys : List D} (hk : L[k]? = some (.lst xs)) (hy : LtOf L y ys) (hz : xs.length + ys.length ≤ sizeLine) (hq : Q (.rf k) (L.set k (.lst (xs ++ ys)))) : B2 Γ (inplaceOp .Add) (.rf k) y L Q := fun X R0 F R H v u l A r1 r2 QV g => by
  obtain ⟨p, rfl, hv, vs, hp, rv⟩ := A.at hk r1
  obtain ⟨b, ws, rfl, hb, rw1⟩ := hy.at A r2
  exact OR_w iop_ext ⟨p, b, vs, ws, rfl, rfl, hp, hb, by rw [rv.length, rw1.length]; exact hz, g _ _ R _ _ (Le.refl R) (A.write (m := .lst (xs ++ ys)) hk hv hp (by trivial) ⟨vs ++ ws, upd_same, rv.append rw1⟩) r1 hq⟩
/-- list(range(i, j, c)) -/
def rgc (i c : Int) (n : Nat) : List Int := (List.range n).map fun (k : Nat) => i + k * c
abbrev Rg3 (X : Cx) (pins : List (Addr × Obj)) (σ : L2.St) (Q : Int → Int → Int → Nat → Hp → Prop) : Value → Shared → Prop := fun x s1 => ∃ (r : Addr) (i j c : Int) (n : Nat) (t u v : Tok) (H1 : Hp), x = .ref r ∧ IsRange s1.heap r i j c t u v ∧ Inv X pins σ H1 s1 ∧ RgC i j c n ∧ n ≤ 16777216 ∧ Q i j c n H1
theorem run_rg3 {X : Cx} {pins : List (Addr × Obj)} {σ : L2.St} {H : Hp} {s : Shared} {ta : TA} {Q : Int → Int → Int → Nat → Hp → Prop} {pr : Pos} (hg : Gl X "range") (hm : X.mg "range" = none) (ha : PA X [a, b, c] ta)
    (I : Inv X pins σ H s) (h : ta σ H fun vs H1 => ∃ (i j k : Int) (n : Nat), vs = [.int i, .int j, .int k] ∧ RgC i j k n ∧ n ≤ 16777216 ∧ Q i j k n H1)
    (hs : starEach [a, b, c] X.env = (false, eval a X.env) :: starEach [b, c] X.env) (hpl : (backTo p (starEach [b, c] X.env)).any (·.1) = false) :
    wpAny (model X.prog X.w) X.A (eval (.Call (.Name "range" pr) [a, b, c] [] p) X.env) (Rg3 X pins σ Q) X.xe s := by
  refine Call_ (ld_blt I hg hm boot_range (PyProof.Rows.callWith_type1 (thn (ha.run p pins s σ H _ I h) fun us s1 ⟨vs, H1, I1, r1, q1⟩ => ?_) hs hpl))
  obtain ⟨i, j, k, n, e, ⟨c0, c1, c2, c3⟩, hn, q⟩ := q1
  subst e
  obtain ⟨_, us1, rfl, ⟨t1, rfl⟩, ra⟩ := vals_tail r1
  obtain ⟨_, us2, rfl, ⟨t2, rfl⟩, rb⟩ := vals_tail ra
  obtain ⟨_, us3, rfl, ⟨t3, rfl⟩, rc⟩ := vals_tail rb
  cases rc
  refine call_range_3 c0 ?_ (.inl (PyProof.noPylong_small c1))
  exact ⟨_, i, j, k, n, _, _, _, H1, rfl, IsRange.new _ _ _ _ _ _ _, I1.kept (t' := s1.toks) fun b u e => Heap.get?_push_of_some _ e, ⟨c0, c1, c2, c3⟩, hn, q⟩
theorem vals_rgc {i c : Int} {acc : Array Value} {n : Nat} (h : ItemsOf (fun k v => ∃ t, v = Value.int (i + k * c) t) acc n) : Vals ((rgc i c n).map V.int) acc.toList := by
  have e : acc.toList.length = n := by rw [Array.length_toList]; exact h.1
  unfold rgc
  rw [← e, List.map_map]
  refine vals_of_get acc.toList _ fun j u hj => ?_
  obtain ⟨t, rfl⟩ := h.2 j u (by rw [← hj, Array.getElem?_toList])
  exact ⟨t, rfl⟩
theorem be_listR3 {pr : Pos} (hb : Bn Γ.mg "list" (.type "list")) [hK : Kd Γ.sc.names "list" .globalImplicit] (hb2 : Bn Γ.mg "range" (.type "range")) [hK2 : Kd Γ.sc.names "range" .globalImplicit] (hc : Γ.calm = true)
    (h : BA Γ [a, b, c] δ L fun ds L1 => ∃ (i j s : Int) (n : Nat), ds = [.int i, .int j, .int s] ∧ RgC i j s n ∧ n ≤ 16777216 ∧ Q (.lst ((rgc i s n).map .int)) L1)
    (na : ∀ env, starEach [.Call (.Name "range" pr) [a, b, c] [] p] env = (false, eval (.Call (.Name "range" pr) [a, b, c] [] p) env) :: starEach [] env := by intro _; rfl)
    (hs : ∀ env, starEach [a, b, c] env = (false, eval a env) :: starEach [b, c] env := by intro _; rfl) (hpl : ∀ env, (backTo p (starEach [b, c] env)).any (·.1) = false := by intro _; rfl) :
    BE Γ (.Call (.Name "list" apos) [.Call (.Name "range" pr) [a, b, c] [] p] [] pos) δ L Q := fun X R0 F R σ H l A S QV g pins s I => by
  refine Call_ (ld_blt I (F.gl _ hK.mem) (by rw [F.mg]; exact hb.no) boot_list (PyProof.Rows.callWith_type1 (args_cons (thn (run_rg3 (pins := pins) (σ := σ) (Q := fun i j k n H1 => ∀ q, H1 q = none → QV (.ref q) (upd H1 q (.lst ((rgc i k n).map .int)))) (F.gl _ hK2.mem) (by rw [F.mg]; exact hb2.no) (paW (X := X) (es := [a, b, c])) I
    (h X R0 F R σ H l A S (fun vs H1 => ∃ (i j k : Int) (n : Nat), vs = [.int i, .int j, .int k] ∧ RgC i j k n ∧ n ≤ 16777216 ∧ ∀ q, H1 q = none → QV (.ref q) (upd H1 q (.lst ((rgc i k n).map .int)))) ?_) (hs _) (hpl _)) fun x s1 ⟨r, i, j, k, n, t, u, v, H1, ex, hr, I1, ok, hn, q⟩ => args_nil ?_) (na _)) (na _)))
  · intro vs ds R1 H1 L1 l1 A1 r1 ⟨i, j, k, n, e, ok, hn, q⟩
    subst e
    obtain ⟨x1, x2, x3, rfl, a1, a2, a3⟩ := r1.three
    cases a1; cases a2; cases a3
    exact ⟨i, j, k, n, rfl, ok, hn, fun z hz => by
      have hR := A1.sub.non hz
      exact g _ _ _ _ L1 (l1.trans (Le.upd hR)) (A1.new hz) (.lst upd_same Rps.ofInts) q⟩
  · subst ex
    obtain ⟨c0, c1, c2, c3⟩ := ok
    refine call_list_range (n := n) (I1.ok.hd (by rw [F.calm]; exact hc)) hr c2 c3 (by omega) fun h' tk acc c' hk e' hi => ?_
    refine ⟨.ref s1.heap.objs.size, upd H1 s1.heap.objs.size (.lst ((rgc i k n).map .int)), I1.laid hk (Nat.le_refl _) (show ObjOk X.prog X.w _ _ _ (.lst ((rgc i k n).map .int)) from ⟨?_, acc.toList, c', vals_rgc hi, ?_⟩), rfl, q _ (I1.hok.fresh (Nat.le_refl _))⟩
    · rw [sizeLine_eq]; simp [rgc]; omega
    · rw [Array.toArray_toList]; exact e'
end
end Ac
end
section
/-! Gx1: a generator expression's frame; its loop. -/
namespace Gx
open PySem PySem.Spec PyProof.Rows L2 GenW

abbrev gEnv (X : Cx) (scope : Scope) (C : Addr) (code : Value) (bi : Addr) : Env := genEnv scope (cloFrom X.env.cells scope.names []) C code bi X.env
/-- the frame of a generator expression of X's def; fp: what it walks by -/
def gCx (X : Cx) (A : Around) (s : Shared) (H : Hp) (scope : Scope) (C : Addr) (code : Value) (bi : Addr) (fp : List Addr) : Cx where
  prog := X.prog
  w := X.w
  K := X.K
  mg := X.mg
  base := X.base
  A := A.deeper (gEnv X scope C code bi)
  N := X.N
  s_0 := s
  H_0 := H
  env := gEnv X scope C code bi
  outer := X.stack
  stack := gEnv X scope C code bi :: X.stack
  ex := fp
  fn := fun _ => false
  calm := true
  pn := []
  xe := fun _ _ => False
/-- its names: its own, captured ones, globals -/
structure GnS (X : Cx) (scope : Scope) (vs : List Nat) : Prop where
  kind : scope.kind = .function
  co : scope.isCoroutine = false
  cell : ∀ y ∈ scope.names, y.2 ≠ .cell
  dot : scope.names.lookup (".0" : Str) = some NameKind.local
  loc : ∀ x, scope.names.lookup x = some .local → ∃ i ∈ vs, X.N[i]? = some x
  free : ∀ y ∈ scope.names, y.2 = .free → X.env.scope.names.lookup y.1 = some .cell ∨ X.env.scope.names.lookup y.1 = some .free
  nd : X.N.Nodup
section
variable {X : Cx} {pins : List (Addr × Obj)} {σ : L2.St} {H : Hp} {s : Shared} {scope : Scope} {vs : List Nat}
theorem GnS.has (G : GnS X scope vs) (ok : X.Ok) : ∀ y ∈ scope.names, y.2 = .free → ∃ c, X.env.cells.lookup y.1 = some c := fun y hy e => (G.free y hy e).elim (fun k => ok.has _ (.inl k)) fun k => ok.has _ (.inr k)
/-- the frame stands: nothing of its own is bound but what it walks -/
theorem gen_start {A : Around} {code : Value} {bi : Addr} {fp : List Addr} {C : Addr} {s5 : Shared} {m : Str → Option Value} (I : Inv X pins σ H s) (G : GnS X scope vs) (hA : A.frames = some X.stack) (hd : A.handled = none) (hbi : bi = builtinsNs)
    (hfp : ∀ b ∈ fp, FpOk X pins H b ∧ b < s.heap.objs.size) (hC : s.heap.objs.size ≤ C) (hns : s5.heap.Ns C m) (kp : ∀ b o, s.heap.get? b = some o → s5.heap.get? b = some o) (hos : s5.os = s.os) (hb : AllBare s5.gens) :
    Inv (gCx X A s H scope C code bi fp) [] (wipe σ vs) H s5 := by
  have hfree := G.has I.ok
  have e0 := I.env0
  have cm : ∀ {y c}, (cloFrom X.env.cells scope.names []).lookup y = some c → X.env.cells.lookup y = some c ∧ (y, NameKind.free) ∈ scope.names := fun {y c} e => by
    rcases cloFrom_mem (PySem.mem_of_lookup e) with hm | ⟨h1, h2⟩
    · cases hm
    · obtain ⟨c1, hc⟩ := hfree _ h1 rfl
      have hc : X.env.cells.lookup y = some c1 := hc
      have e2 : c = c1 := by rw [h2, hc]; rfl
      rw [e2]; exact ⟨hc, h1⟩
  have look : ∀ {y}, scope.names.lookup y = some .free → ∃ c, (cloFrom X.env.cells scope.names []).lookup y = some c := fun {y} hl =>
    mem_lookup (cloFrom_has (cells := X.env.cells) (acc := []) (PySem.mem_of_lookup hl))
  have hCl : ∀ b o, s.heap.get? b = some o → b ≠ C := fun b o e z => Nat.lt_irrefl C (Nat.lt_of_lt_of_le (by rw [← z]; exact Heap.lt_size e) hC)
  refine ⟨⟨e0.mod, G.kind, I.ok.glob, hbi, hC, fun y z c e1 e2 => I.ok.inj y z c (cm e1).1 (cm e2).1, fun y hy => ?_, fun y c z _ => (nomatch z), fun _ => hd, Around.frames_deeper hA, .inr ⟨rfl, rfl⟩, fun b z => ⟨fun q => ?_, fun y c e => ?_⟩, e0.bs, e0.bsz, fun b o e z => ?_,
      fun b z => ?_, e0.funs, e0.frf⟩,
    hos, hb, Un.kept kp, ⟨m, hns, fun i y v e1 e2 e3 => ?_⟩, fun y c e => ?_, I.hok.fresh hC, fun y c e => I.freeC y c (cm e).1, fun q hq => (nomatch hq), I.hok.kept kp, by rw [wipe_length]; exact I.len⟩
  · have hy : scope.names.lookup y = some .cell ∨ scope.names.lookup y = some .free := hy
    rcases hy with hy | hy
    · exact absurd rfl (G.cell _ (PySem.mem_of_lookup hy))
    · exact look hy
  · have q : b = C := q
    have := (hfp b z).2
    rw [q] at this
    exact Nat.lt_irrefl _ (Nat.lt_of_lt_of_le this hC)
  · exact (hfp b z).1.2.2.2.2.1 y c (cm e).1
  · have e : X.base.get? b = some o := e
    rcases (hfp b z).1.2.2.2.1 with q | q
    · exact I.ok.noex b o e q
    · exact Nat.lt_irrefl _ (Nat.lt_of_lt_of_le (Heap.lt_size (I.ok.bs b o e).1) q)
  · intro q
    obtain ⟨f1, f2, f3, _⟩ := (hfp b z).1
    rcases List.mem_cons.mp (I.stkSub b q) with z | z
    · exact f2 z
    · exact f3 z
  · have e3 : Vis scope y := e3
    obtain ⟨w1, w2⟩ := wipe_some e2
    rcases e3 with k | k | k
    · obtain ⟨j, hj, hjn⟩ := G.loc y k
      have e1 : X.N[i]? = some y := e1
      exact absurd (by rw [nodup_ix G.nd e1 hjn]; exact hj) w2
    · exact absurd rfl (G.cell _ (PySem.mem_of_lookup k))
    · obtain ⟨m0, hn, hl⟩ := I.loc
      have hvis : Vis X.env.scope y := (G.free _ (PySem.mem_of_lookup k) rfl).elim (fun k => .inr (.inl k)) (fun k => .inr (.inr k))
      obtain ⟨w', r, q⟩ := hl i y v e1 w1 hvis
      obtain ⟨c2, h2⟩ := look k
      refine ⟨w', r, .inr ⟨.inr k, c2, h2, ?_⟩⟩
      have c1 := (cm h2).1
      rcases q with ⟨k', _⟩ | ⟨_, c3, e', z⟩
      · have k' : X.env.scope.names.lookup y = some .local := k'
        rcases G.free _ (PySem.mem_of_lookup k) rfl with k2 | k2 <;> rw [show X.env.scope.names.lookup y = _ from k2] at k' <;> cases k'
      · rw [c1] at e'; cases e'
        obtain ⟨o, ho, hdt⟩ := z
        exact ⟨o, kp _ _ ho, hdt⟩
  · obtain ⟨w', o, ho, hdt⟩ := I.cell y c (cm e).1
    exact ⟨w', o, kp _ _ ho, hdt⟩
end

/-! ### the consumer -/
/-- the consumer's own objects have changed, nothing else -/
structure Slp (sn sn' : List (Addr × Obj)) (s s' : Shared) : Prop where
  os : s'.os = s.os
  bare : AllBare s'.gens
  ads : sn'.map (·.1) = sn.map (·.1)
  keep : ∀ b o, b ∉ sn.map (·.1) → s.heap.get? b = some o → s'.heap.get? b = some o
  own : ∀ p ∈ sn', s'.heap.get? p.1 = some p.2 ∧ ∀ v, p.2.data ≠ .cell v
/-- the consumer's objects lie apart from the frame -/
def Apt (Y : Cx) (sa : List Addr) : Prop := ∀ b ∈ sa, Y.s_0.heap.objs.size ≤ b ∧ b ≠ Y.env.locals ∧ ∀ x c, Y.env.cells.lookup x = some c → c ≠ b
theorem Slp.inv {Y : Cx} {sn sn' bp : List (Addr × Obj)} {σ : L2.St} {H : Hp} {s s' : Shared} (z : Slp sn sn' s s') (hA : Apt Y (sn.map (·.1))) (hb : ∀ p ∈ Y.pn ++ bp, p.1 ∉ sn.map (·.1)) (I : Inv Y (sn ++ bp) σ H s) : Inv Y (sn' ++ bp) σ H s' := by
  have I0 : Inv Y bp σ H s := I.pins_of fun p hp => I.pin p (List.mem_append_right _ (List.mem_append_right _ hp))
  have sN : ∀ b ∈ sn.map (·.1), H b = none ∧ b ≠ Y.env.locals ∧ b ∉ Y.fs ∧ ∃ o, s'.heap.get? b = some o := fun b hbm => by
    obtain ⟨p, hp, e⟩ := List.mem_map.mp hbm
    obtain ⟨_, h2, h3, h4, _⟩ := I.pin p (List.mem_append_right _ (List.mem_append_left _ hp))
    have hm' : b ∈ sn'.map (·.1) := by rw [z.ads]; exact hbm
    obtain ⟨p', hp', e'⟩ := List.mem_map.mp hm'
    subst e
    exact ⟨h2, h3, h4, ⟨p'.2, by rw [← e']; exact (z.own p' hp').1⟩⟩
  have nt : ∀ b u, H b = some u → b ∉ sn.map (·.1) := fun b u q hbm => by rw [(sN b hbm).1] at q; cases q
  obtain ⟨hh, g, d, t, o⟩ := s'
  obtain ⟨z1, z2, z3, z4, z5⟩ := z
  have ho : o = s.os := z1
  subst ho
  have J : Inv Y bp σ H { s with heap := hh, gens := g, drawn := d, toks := t } := by
    refine I0.step (g' := g) (t' := t) (d' := d) (ch := sn.map (·.1)) (fun b hbm => ⟨.inr (hA b hbm).1, (hA b hbm).2.1, (hA b hbm).2.2, fun p hp q => hb p hp (by rw [q]; exact hbm)⟩)
      (fun b ob _ _ hc q _ => z4 b ob hc q) (fun b ob _ _ hc q _ => ⟨ob.slots, z4 b ob hc q⟩) (fun _ _ _ _ n => n) (fun b ob hc q => ⟨ob, z4 b ob hc q⟩)
      (fun _ _ q => q) (fun _ _ _ q => q) (fun b ps q => ⟨#[], by rw [q]; simp⟩) (fun m hm => ?_) (fun b u q => ?_) z2
    · obtain ⟨ob, es, ep, ho, r⟩ := hm
      exact ⟨ob, es, ep, z4 _ ob (fun hbm => (sN _ hbm).2.1 rfl) ho, r⟩
    · refine (I0.hok b u q).stay (fun c v hc y => z4 c v ?_ y) (fun _ y => y) fun _ _ y => y
      rcases hc with y | y
      · rw [y]; exact nt b u q
      · exact nt c _ y
  refine J.pins_of fun p hp => ?_
  rcases List.mem_append.mp hp with hp | hp
  · have hm : p.1 ∈ sn.map (·.1) := by rw [← z3]; exact List.mem_map.mpr ⟨p, hp, rfl⟩
    obtain ⟨h2, h3, h4, _⟩ := sN p.1 hm
    exact ⟨(z5 p hp).1, h2, h3, h4, (z5 p hp).2⟩
  · exact J.pin p (List.mem_append_right _ hp)
end Gx
end
section
/-! Gx2: the loop of a generator expression. -/
namespace Gx
open PySem PySem.Spec PyProof.Rows L2 GenW

theorem inv_wipe {Y : Cx} {pins : List (Addr × Obj)} {σ : L2.St} {H : Hp} {s : Shared} {vs : List Nat} (I : Inv Y pins σ H s) : Inv Y pins (wipe σ vs) H s :=
  ⟨I.ok, I.os, I.bare, I.base, let ⟨m, hn, hl⟩ := I.loc; ⟨m, hn, fun i x v a b c => hl i x v a (wipe_some b).1 c⟩, I.cell, I.free, I.freeC, I.pin, I.hok, by rw [wipe_length]; exact I.len⟩
/-- a consumer: its state, the objects that bear it, what an item does, what is wished at the end -/
structure Csm (α : Type) where
  own : α → List (Addr × Obj) → Prop
  step : α → V → Hp → (α → Prop) → Prop
  fin : α → Hp → Prop
/-- what is kept since the frame was made -/
structure Vw (X : Cx) (s4 : Shared) (H0 : Hp) (fp : List Addr) (a : Addr) (g : Nat) (sn : List (Addr × Obj)) (H1 : Hp) (s1 : Shared) : Prop where
  os : s1.os = s4.os
  bare : AllBare s1.gens
  un : Un (frs X.stack) fp H0 H1 s4.heap s1.heap
  hok : HOk X.prog X.w H1 s1.heap
  lim : s1.heap.NoLimit
  gen : s1.heap.IsGen a g
  sn : ∀ p ∈ sn, s1.heap.get? p.1 = some p.2 ∧ H1 p.1 = none
def GE {α : Type} (X : Cx) (s4 : Shared) (H0 : Hp) (fp : List Addr) (a : Addr) (g : Nat) (B : Csm α) : GenEnd := fun _ s₀ r s1 => r = .ok .next ∧ ∃ c sn H1, B.own c sn ∧ Vw X s4 H0 fp a g sn H1 s1 ∧ (∀ p ∈ sn, s₀.heap.get? p.1 = some p.2) ∧ B.fin c H1
def GP {α : Type} (X : Cx) (s4 : Shared) (H0 : Hp) (fp : List Addr) (a : Addr) (g : Nat) (B : Csm α) : Protocol := fun _ s₀ v s1 kap =>
  ∃ c sn H1 x Nx, B.own c sn ∧ Vw X s4 H0 fp a g sn H1 s1 ∧ (∀ p ∈ sn, s₀.heap.get? p.1 = some p.2) ∧ RelV x v ∧ B.step c x H1 Nx ∧ ∀ c' sn' s', Nx c' → B.own c' sn' → Slp sn sn' s1 s' → kap (.send .none) s'

abbrev gX (elt tg iter : Expr) (ifs : List Expr) (scope : Scope) (gpos : Pos) : Expr := .GeneratorExp elt [⟨tg, iter, ifs, 0⟩] scope gpos
section
variable {α : Type} {X : Cx} {A : Around} {s4 : Shared} {H0 : Hp} {scope : Scope} {C : Addr} {code : Value} {bi : Addr} {fp : List Addr} {a : Addr} {g : Nat} {go : Obj} {B : Csm α} {sa : List Addr}
  {elt tg iter : Expr} {ifs : List Expr} {gpos : Pos} {J : It} {it : Addr} {tn : Nat → Heap → Prop} {tgr : TG} {tt : TT} {te : TE} {W : Nat → Nat → α → L2.St → Hp → Prop} {vs : List Nat}
theorem over_gen : A.over (.compLoop (gX elt tg iter ifs scope gpos) 0 (.ref it) .none (gEnv X scope C code bi)) [] = A.deeper (gEnv X scope C code bi) := rfl
/-- where the parts lie -/
structure Lie (X : Cx) (s4 : Shared) (scope : Scope) (C : Addr) (fp : List Addr) (a : Addr) (g : Nat) (go : Obj) (sa : List Addr) : Prop where
  f : ∀ b ∈ fp, b ≠ C ∧ b ∉ frs X.stack ∧ (∀ x c, (cloFrom X.env.cells scope.names []).lookup x = some c → c ≠ b) ∧ b ≠ a ∧ b ∉ sa
  s : ∀ b ∈ sa, s4.heap.objs.size ≤ b ∧ b ≠ C ∧ (∀ x c, (cloFrom X.env.cells scope.names []).lookup x = some c → c ≠ b) ∧ b ≠ a
  gen : ∀ h : Heap, h.get? a = some go → h.IsGen a g
  gd : ∀ v, go.data ≠ .cell v
theorem Lie.vw {sn : List (Addr × Obj)} {l : List (Addr × Obj)} {σ : L2.St} {H1 : Hp} {s1 : Shared} (Z : Lie X s4 scope C fp a g go sa) (I : Inv (gCx X A s4 H0 scope C code bi fp) (sn ++ ((a, go) :: l)) σ H1 s1) : Vw X s4 H0 fp a g sn H1 s1 :=
  ⟨I.os, I.bare, I.base, I.hok, I.nolimit, Z.gen _ (I.pin (a, go) (List.mem_append_right _ (List.mem_append_right _ List.mem_cons_self))).1, fun p hp => by
    obtain ⟨h1, h2, _⟩ := I.pin p (List.mem_append_right _ (List.mem_append_left _ hp))
    exact ⟨h1, h2⟩⟩
theorem seg_gloop (hh : A.handled = none) (hco : scope.isCoroutine = false) (Z : Lie X s4 scope C fp a g go sa) (hsa : ∀ c sn, B.own c sn → sn.map (·.1) = sa) (T : Turn X.prog X.w X.K tg J fp it tn)
    (hg : PG (gCx X A s4 H0 scope C code bi fp) tg tgr) (ht : PTs (gCx X A s4 H0 scope C code bi fp) ifs tt) (he : PE (gCx X A s4 H0 scope C code bi fp) elt te)
    (turn : ∀ i m c σ H, W i m c σ H → (J.stop i H ∧ B.fin c H) ∨ (0 < m ∧ J.go i H ∧ ∀ x H', J.yld i H x H' → tgr x σ H' fun σ2 H2 => tt σ2 H2 fun b H3 =>
      if b = true then te σ2 H3 fun y H4 => B.step c y H4 fun c' => ∃ m', m' < m ∧ W (i + 1) m' c' (wipe σ2 vs) H4 else ∃ m', m' < m ∧ W (i + 1) m' c (wipe σ2 vs) H3)) :
    ∀ (m n i : Nat) (c : α) (sn : List (Addr × Obj)) (s₀ s : Shared) (σ : L2.St) (H : Hp), m ≤ n → W i m c σ H → B.own c sn → (∀ p ∈ sn, s₀.heap.get? p.1 = some p.2) → Inv (gCx X A s4 H0 scope C code bi fp) (sn ++ [(a, go)]) σ H s → tn i s.heap → (∀ b ∈ fp, H b = none) →
      Seg (model X.prog X.w) A (GE X s4 H0 fp a g B) (GP X s4 H0 fp a g B) n s₀ (.compLoop (gX elt tg iter ifs scope gpos) 0 (.ref it) .none (gEnv X scope C code bi))
        ((model X.prog X.w).den (.compLoop (gX elt tg iter ifs scope gpos) 0 (.ref it) .none (gEnv X scope C code bi))) [] s := by
  have stat : ∀ {c : α} {sn : List (Addr × Obj)} {H' : Hp}, B.own c sn → (∀ b ∈ fp, H' b = none) → ∀ b ∈ fp, FpOk (gCx X A s4 H0 scope C code bi fp) (sn ++ [(a, go)]) H' b := fun {c sn H'} ow hn b hb => by
    obtain ⟨f1, f2, f3, f4, f5⟩ := Z.f b hb
    refine ⟨hn b hb, f1, f2, .inl hb, f3, fun p hp => ?_⟩
    rcases List.mem_append.mp (show p ∈ sn ++ [(a, go)] from hp) with z | z
    · intro e
      exact f5 (by rw [← hsa c sn ow, ← e]; exact List.mem_map.mpr ⟨p, z, rfl⟩)
    · rw [List.mem_singleton.mp z]
      exact Ne.symm f4
  intro m
  induction m using Nat.strongRecOn with
  | ind m ih =>
    intro n i c sn s₀ s σ H hmn w ow h0 I st fr
    show Seg _ A _ _ n s₀ _ ((compTurn (gX elt tg iter ifs scope gpos) 0 (.ref it) .none (gEnv X scope C code bi)).onRaise (leaving (gEnv X scope C code bi))) [] s
    rw [compTurn_gen, Sem.onRaise_eq_wrap]
    refine seg_bind_wrap (wpAny_standAt ?_)
    rcases turn i m c σ H w with ⟨stop, hf⟩ | ⟨hm0, hgo, step⟩
    · refine seg_bind_wrap (thn (T.done (gCx X A s4 H0 scope C code bi fp) rfl rfl rfl rfl i _ s σ H _ I (stat ow fr) st stop) fun r s1 ⟨hr, I1⟩ => ?_)
      subst hr
      exact seg_end (.ok .next) ⟨rfl, c, sn, H, ow, Z.vw I1, h0, hf⟩
    · refine seg_bind_wrap (thn (T.item (gCx X A s4 H0 scope C code bi fp) rfl rfl rfl rfl i _ s σ H _ I (stat ow fr) st hgo) fun r s1 ⟨u, hr, h1⟩ => ?_)
      subst hr
      refine seg_bind_wrap (thn h1 fun _ s2 ⟨x, H2, I2, r2, y2, st2, fr2⟩ => ?_)
      have I2' := I2.pinned (stat ow fr2) (T.obj _ _ st2)
      have back : ∀ {c' : α} {sn' : List (Addr × Obj)} {σ' : L2.St} {H' : Hp} {s' : Shared}, Inv (gCx X A s4 H0 scope C code bi fp) (sn' ++ ((a, go) :: pinsAt fp s2.heap)) σ' H' s' → Inv (gCx X A s4 H0 scope C code bi fp) (sn' ++ [(a, go)]) σ' H' s' ∧ tn (i + 1) s'.heap ∧ ∀ b ∈ fp, H' b = none := fun {c' sn' σ' H' s'} I' =>
        ⟨I'.pins_of fun p hp => I'.pin p (List.mem_append_right _ ((List.mem_append.mp hp).elim (List.mem_append_left _) fun z => List.mem_append_right _ (by rw [List.mem_singleton.mp z]; exact List.mem_cons_self))),
          T.keep _ _ _ st2 fun b hb o e => (I'.pin (b, o) (List.mem_append_right _ (List.mem_append_right _ (List.mem_cons_of_mem _ (mem_pinsAt hb e))))).1,
          fun b hb => by
            obtain ⟨o, ho, _⟩ := T.obj _ _ st2 b hb
            exact (I'.pin (b, o) (List.mem_append_right _ (List.mem_append_right _ (List.mem_cons_of_mem _ (mem_pinsAt hb ho))))).2.1⟩
      rw [List.append_assoc] at I2'
      refine seg_bind_wrap (wpAny_mono (hg.run _ s2 σ H2 x u _ I2' r2 (step x H2 y2)) (fun _ s3 ⟨σ3, H3, I3, q3⟩ => ?_) fun _ _ e => e.elim)
      refine seg_bind_wrap (wpAny_mono (ht.run _ s3 σ3 H3 _ I3 q3) (fun b s5 ⟨H5, I5, q5⟩ => ?_) fun _ _ e => e.elim)
      cases b with
      | false =>
        obtain ⟨m', hm, w5⟩ := q5
        obtain ⟨J1, J2, J3⟩ := back (c' := c) I5
        simp only [Bool.false_eq_true, if_false]
        exact seg_again rfl (ih m' hm n (i + 1) c sn s₀ s5 (wipe σ3 vs) H5 (by omega) w5 ow h0 (inv_wipe J1) J2 J3)
      | true =>
        have hy : ∀ v, yieldOut (gEnv X scope C code bi) v = yieldValue v := fun v => by
          have e : (gEnv X scope C code bi).scope.isCoroutine = false := hco
          simp only [yieldOut, e, Bool.false_eq_true, if_false]
        simp only [hy]
        have q5 : te σ3 H5 fun y H4 => B.step c y H4 fun c' => ∃ m', m' < m ∧ W (i + 1) m' c' (wipe σ3 vs) H4 := q5
        simp only [if_true]
        rw [Sem.bind_eq_wrap', Sem.bind_eq_wrap', Sem.wrap_wrap, Sem.wrap_wrap]
        refine seg_wrap (wpAny_mono (he.run _ s5 σ3 H5 _ I5 q5) (fun y s6 ⟨v, H6, I6, r6, q6⟩ => ?_) fun _ _ e => e.elim)
        have Ap : Apt (gCx X A s4 H0 scope C code bi fp) (sn.map (·.1)) := by
          rw [hsa c sn ow]
          exact fun b hb => ⟨(Z.s b hb).1, (Z.s b hb).2.1, (Z.s b hb).2.2.1⟩
        cases n with
        | zero => omega
        | succ n =>
          refine seg_at (seg_yield rfl rfl rfl ⟨c, sn, H6, v, _, ow, Z.vw I6, h0, r6, q6, fun c' sn' s' ⟨m', hm, w'⟩ ow' z => ?_⟩)
          have I7 := z.inv Ap (fun p hp hm => ?_) I6
          · obtain ⟨J1, J2, J3⟩ := back (c' := c') I7
            exact seg_again rfl (ih m' hm n (i + 1) c' sn' s' s' (wipe σ3 vs) H6 (by omega) w' ow' (fun p hp => (z.own p hp).1) (inv_wipe J1) J2 J3)
          · rw [hsa c sn ow] at hm
            rcases List.mem_cons.mp (show p ∈ (a, go) :: pinsAt fp s2.heap from hp) with e | e
            · rw [e] at hm
              exact (Z.s _ hm).2.2.2 rfl
            · exact (Z.f _ (of_pinsAt e).1).2.2.2.2 hm
end
end Gx
end
section
/-! Gx3: any, all, sum of a generator. -/
namespace Gx
open PySem PySem.Spec PyProof.Rows L2 GenW

section
variable {α : Type} {X : Cx} {A : Around} {s4 : Shared} {H0 : Hp} {fp : List Addr} {a : Addr} {g : Nat} {B : Csm α}
/-- the generator waits; n items more at most -/
def GAt (X : Cx) (s4 : Shared) (H0 : Hp) (fp : List Addr) (a : Addr) (g : Nat) (B : Csm α) (A : Around) (n : Nat) (s : Shared) : Prop :=
  ∃ gs, s.gens[g]? = some gs ∧ gs.Goes (model X.prog X.w) A (GE X s4 H0 fp a g B) (GP X s4 H0 fp a g B) n (.send .none) (s.setGen g .running)
theorem Vw.set {sn : List (Addr × Obj)} {H1 : Hp} {s1 : Shared} {gs : GenState} (v : Vw X s4 H0 fp a g sn H1 s1) (hb : gs.bare = true) : Vw X s4 H0 fp a g sn H1 (s1.setGen g gs) :=
  ⟨v.os, allBare_setGen v.bare hb, v.un, v.hok, v.lim, v.gen, v.sn⟩
theorem Vw.kept {sn : List (Addr × Obj)} {H1 : Hp} {s1 : Shared} {h' : Heap} (v : Vw X s4 H0 fp a g sn H1 s1) (hk : ∀ b o, s1.heap.get? b = some o → h'.get? b = some o) : Vw X s4 H0 fp a g sn H1 { s1 with heap := h' } :=
  ⟨v.os, v.bare, v.un.trans (Un.kept hk), v.hok.kept hk, v.lim.keeps hk, v.gen.keeps hk, fun p hp => ⟨hk _ _ (v.sn p hp).1, (v.sn p hp).2⟩⟩
theorem gnext {n : Nat} {s : Shared} {Q : Option Value → Shared → Prop} {E : Value → Shared → Prop} (hh : A.handled = none) (hd : A.depth < recursionLimit) (hl : s.heap.NoLimit) (hg : s.heap.IsGen a g) (h : GAt X s4 H0 fp a g B A.in1 n s)
    (hY : ∀ v s1 c sn H1 x Nx, B.own c sn → (∀ p ∈ sn, s.heap.get? p.1 = some p.2) → Vw X s4 H0 fp a g sn H1 s1 → RelV x v → B.step c x H1 Nx → (∀ c' sn' s2, Nx c' → B.own c' sn' → Slp sn sn' s1 s2 → s2.gens = s1.gens → ∃ m, m + 1 = n ∧ GAt X s4 H0 fp a g B A.in1 m s2) → Q (some v) s1)
    (hN : ∀ s1 c sn H1, B.own c sn → (∀ p ∈ sn, s.heap.get? p.1 = some p.2) → Vw X s4 H0 fp a g sn H1 s1 → B.fin c H1 → Q none s1) : wpAny (model X.prog X.w) A (pyNext (.ref a)) Q E s := by
  obtain ⟨gs, hgs, hgo⟩ := h
  have hgl : g < s.gens.size := (Array.getElem?_eq_some_iff.mp hgs).1
  refine wpAny_gsz (n := g + 1) hgl (wpAny_pyNext_genexpQ (P := fun _ s₀ s1 => ∃ c sn H1, B.own c sn ∧ Vw X s4 H0 fp a g sn H1 s1 ∧ (∀ p ∈ sn, s₀.heap.get? p.1 = some p.2) ∧ B.fin c H1) hh hl hd hg hgs hgo (fun v s1 gs' hb hv => ?_) (fun s1 hp h' hk => ?_))
  · intro hsz
    obtain ⟨c, sn, H1, x, Nx, ow, vw, h0, rx, st, kap⟩ := hv
    refine hY v (s1.setGen g gs') c sn H1 x Nx ow h0 (vw.set hb) rx st fun c' sn' s2 nx ow' z e2 => ?_
    have hsz1 : g < s2.gens.size := by rw [e2]; exact hsz
    have w := kap c' sn' (s2.setGen g .running) nx ow' ⟨z.os, allBare_setGen z.bare rfl, z.ads, z.keep, z.own⟩
    cases n with
    | zero => exact w.elim
    | succ m =>
      refine ⟨m, rfl, gs', ?_, w⟩
      rw [e2]
      exact setGen_at (by have := setGen_size s1 g gs'; omega)
  · intro _
    obtain ⟨c, sn, H1, ow, vw, h0, f⟩ := hp
    exact hN _ c sn H1 ow h0 ((vw.set rfl).kept hk) f
end
section
variable {X : Cx} {A : Around} {s4 : Shared} {H0 : Hp} {fp : List Addr} {a : Addr} {g : Nat} {R : Result → Shared → Prop}
def anyC (Qt Qf : Hp → Prop) : Csm Unit := ⟨fun _ sn => sn = [], fun _ x H Nx => ∃ b, x = .bl b ∧ if b = true then Qt H else Nx (), fun _ H => Qf H⟩
def allC (Qt Qf : Hp → Prop) : Csm Unit := ⟨fun _ sn => sn = [], fun _ x H Nx => ∃ b, x = .bl b ∧ if b = true then Nx () else Qf H, fun _ H => Qt H⟩
theorem slp_refl {X : Cx} {s4 : Shared} {H0 : Hp} {fp : List Addr} {a : Addr} {g : Nat} {H1 : Hp} {s1 : Shared} (v : Vw X s4 H0 fp a g [] H1 s1) : Slp [] [] s1 s1 := ⟨rfl, v.bare, rfl, fun _ _ _ e => e, fun p hp => (nomatch hp)⟩
theorem any_loop {Qt Qf : Hp → Prop} (hh : A.handled = none) (hd : A.depth < recursionLimit) (ht : ∀ s1 H1, Vw X s4 H0 fp a g [] H1 s1 → Qt H1 → R (.ok (.ret (.bool true))) s1) (hf : ∀ s1 H1, Vw X s4 H0 fp a g [] H1 s1 → Qf H1 → R (.ok (.ret (.bool false))) s1) :
    ∀ (n : Nat) (s : Shared), s.heap.NoLimit → s.heap.IsGen a g → GAt X s4 H0 fp a g (anyC Qt Qf) A.in1.in1 n s → codeAny (model X.prog X.w) A (.builtin "any.loop" ⟨[.ref a], []⟩) R s := by
  intro n
  induction n using Nat.strongRecOn with
  | ind n ih =>
    intro s hl hg h
    refine codeAny_builtin F.entry_any_loop ?_
    rw [Around.under_plainId F.plain_any_loop _]
    show wpAny _ A.in1 (pyNext (.ref a) >>= _) _ _ s
    refine wpAny_bind (gnext hh hd hl hg h (fun v s1 c sn H1 x Nx ow _ vw rx st kap => ?_) fun s1 c sn H1 ow _ vw f => ?_)
    · obtain rfl : sn = [] := ow
      obtain ⟨b, rfl, q⟩ := st
      obtain rfl : v = Value.bool b := rx
      refine wpAny_bind (wpAny_holding (wpAny_truthy_bool ?_))
      refine wpAny_bind (wpAny_letGo ?_)
      cases b with
      | false =>
        simp only [Bool.false_eq_true, if_false] at q ⊢
        obtain ⟨m, hm, k⟩ := kap () [] s1 q rfl (slp_refl vw) rfl
        exact wpAny_pure ⟨plainId_quiet F.plain_any_loop _, ih m (by omega) s1 vw.lim vw.gen k⟩
      | true =>
        simp only [if_true] at q ⊢
        exact wpAny_bind (wpAny_rule (wpAny_pure (ht s1 H1 vw q)))
    · obtain rfl : sn = [] := ow
      exact wpAny_bind (wpAny_rule (wpAny_pure (hf s1 H1 vw f)))
theorem all_loop {Qt Qf : Hp → Prop} (hh : A.handled = none) (hd : A.depth < recursionLimit) (ht : ∀ s1 H1, Vw X s4 H0 fp a g [] H1 s1 → Qt H1 → R (.ok (.ret (.bool true))) s1) (hf : ∀ s1 H1, Vw X s4 H0 fp a g [] H1 s1 → Qf H1 → R (.ok (.ret (.bool false))) s1) :
    ∀ (n : Nat) (s : Shared), s.heap.NoLimit → s.heap.IsGen a g → GAt X s4 H0 fp a g (allC Qt Qf) A.in1.in1 n s → codeAny (model X.prog X.w) A (.builtin "all.loop" ⟨[.ref a], []⟩) R s := by
  intro n
  induction n using Nat.strongRecOn with
  | ind n ih =>
    intro s hl hg h
    refine codeAny_builtin F.entry_all_loop ?_
    rw [Around.under_plainId F.plain_all_loop _]
    show wpAny _ A.in1 (pyNext (.ref a) >>= _) _ _ s
    refine wpAny_bind (gnext hh hd hl hg h (fun v s1 c sn H1 x Nx ow _ vw rx st kap => ?_) fun s1 c sn H1 ow _ vw f => ?_)
    · obtain rfl : sn = [] := ow
      obtain ⟨b, rfl, q⟩ := st
      obtain rfl : v = Value.bool b := rx
      refine wpAny_bind (wpAny_holding (wpAny_truthy_bool ?_))
      refine wpAny_bind (wpAny_letGo ?_)
      cases b with
      | true =>
        simp only [if_true] at q ⊢
        obtain ⟨m, hm, k⟩ := kap () [] s1 q rfl (slp_refl vw) rfl
        exact wpAny_pure ⟨plainId_quiet F.plain_all_loop _, ih m (by omega) s1 vw.lim vw.gen k⟩
      | false =>
        simp only [Bool.false_eq_true, if_false] at q ⊢
        exact wpAny_bind (wpAny_rule (wpAny_pure (hf s1 H1 vw q)))
    · obtain rfl : sn = [] := ow
      exact wpAny_bind (wpAny_rule (wpAny_pure (ht s1 H1 vw f)))
/-- sum's own list -/
def sumC (S : Addr) (Q : Int → Hp → Prop) : Csm Int := ⟨fun c sn => ∃ t k, sn = [(S, lstObj #[.int c t] k)], fun c x H Nx => ∃ k : Int, (x = .int k ∨ ∃ b : Bool, x = .bl b ∧ k = if b = true then 1 else 0) ∧ InLong k ∧ InLong (c + k) ∧ Nx (c + k), Q⟩
theorem sum_loop {S : Addr} {Q : Int → Hp → Prop} (hh : A.handled = none) (hd : A.depth < recursionLimit) (hS : S ≠ a) (hSc : S ≠ cStatics) (hq : ∀ s1 H1 c t sn, Vw X s4 H0 fp a g sn H1 s1 → Q c H1 → R (.ok (.ret (.int c t))) s1) :
    ∀ (n : Nat) (s : Shared) (c : Int) (t : Tok) (k : Nat), s.heap.NoLimit → s.heap.IsGen a g → s.heap.get? S = some (lstObj #[.int c t] k) → GAt X s4 H0 fp a g (sumC S Q) A.in1.in1 n s →
      codeAny (model X.prog X.w) A (.builtin "sum.loop" ⟨[.ref a, .ref S, rawInt 0, rawInt 0], []⟩) R s := by
  intro n
  induction n using Nat.strongRecOn with
  | ind n ih =>
    intro s c t k hl hg hSo h
    have same : ∀ {c1 : Int} {sn : List (Addr × Obj)}, (sumC S Q).own c1 sn → (∀ p ∈ sn, s.heap.get? p.1 = some p.2) → c1 = c ∧ ∃ t1 k1, sn = [(S, lstObj #[.int c1 t1] k1)] := fun {c1 sn} ow h0 => by
      obtain ⟨t1, k1, rfl⟩ := ow
      have e := h0 _ (List.mem_singleton.mpr rfl)
      have e2 := hSo.symm.trans e
      simp only [Option.some.injEq, lstObj] at e2
      have e3 := (Obj.mk.inj e2).2.2.1
      simp at e3
      exact ⟨e3.1.1.symm, t1, k1, rfl⟩
    refine codeAny_builtin F.entry_sum_loop ?_
    rw [Around.under_plainId F.plain_sum_loop _]
    show wpAny _ A.in1 (seqItems? (.ref S) >>= _) _ _ s
    refine wpAny_bind (wpAny_seqItems hSo rfl ?_)
    show wpAny _ A.in1 (tryCatch (pyNext (.ref a)) _ >>= _) _ _ s
    refine wpAny_bind (wpAny_tryCatch (gnext hh hd hl hg h (fun v s1 c1 sn H1 x Nx ow h0 vw rx st kap => ?_) fun s1 c1 sn H1 ow h0 vw f => ?_))
    · obtain ⟨rfl, t1, k1, rfl⟩ := same ow h0
      obtain ⟨j, hx, l1, l2, nx⟩ := st
      have hS1 := (vw.sn _ (List.mem_singleton.mpr rfl)).1
      have hc : ((decide (-(2 ^ 63) ≤ j) && decide (j < 2 ^ 63)) && (decide (-(2 ^ 63) ≤ c1 + j) && decide (c1 + j < 2 ^ 63))) = true := by
        simp only [Bool.and_eq_true, decide_eq_true_eq]
        exact ⟨l1, l2⟩
      have go : wpAny (model X.prog X.w) A.in1 (mkInt (c1 + j) >>= fun tot => updateSeq S (fun _ => #[tot]) >>= fun _ => again (.builtin "sum.loop" ⟨[.ref a, .ref S, rawInt 0, rawInt 0], []⟩)) (fun f s' => match f with
          | .done fl => R (.ok fl) s'
          | .again c' => c'.quiet = true ∧ codeAny (model X.prog X.w) A c' R s') (fun e s' => R (.error e) s') s1 := by
        refine wpAny_bind (wpAny_mkInt ?_)
        refine wpAny_bind (wpAny_updateSeq hS1 rfl (wpAny_pure ⟨plainId_quiet F.plain_sum_loop _, ?_⟩))
        have k2 : ∀ b o, b ≠ S → s1.heap.get? b = some o → (s1.heap.update S (Obj.mapSeq fun _ => #[Value.int (c1 + j) s1.toks])).get? b = some o := fun b o hb e => (Heap.get?_update_other _ _ (Ne.symm hb)).trans e
        have hS2 := Heap.get?_update_self (Obj.mapSeq fun _ => #[Value.int (c1 + j) s1.toks]) hS1 rfl
        obtain ⟨m, hm, kk⟩ := kap (c1 + j) [(S, lstObj #[.int (c1 + j) s1.toks] _)] { s1 with heap := s1.heap.update S (Obj.mapSeq fun _ => #[Value.int (c1 + j) s1.toks]), toks := s1.toks + 1 } nx ⟨_, _, rfl⟩ ⟨rfl, vw.bare, rfl, fun b o hb e => k2 b o (fun z => hb (by rw [z]; exact List.mem_singleton.mpr rfl)) e, fun p hp => by
          rw [List.mem_singleton.mp hp]
          exact ⟨hS2, fun v q => by cases q⟩⟩ rfl
        refine ih m (by omega) _ (c1 + j) s1.toks _ ?_ ?_ hS2 kk
        · obtain ⟨mc, hns, hnn⟩ := vw.lim
          exact ⟨mc, hns.at' fun o e => k2 _ o (Ne.symm hSc) e, hnn⟩
        · obtain ⟨o, nm, qn, ho, r⟩ := vw.gen
          exact ⟨o, nm, qn, k2 a o (Ne.symm hS) ho, r⟩
      rcases hx with rfl | ⟨b, rfl, hb⟩
      · obtain ⟨tv, rfl⟩ := rx
        show wpAny _ A.in1 (if (_ : Bool) = true then (mkInt (c1 + j) >>= _) else _) _ _ _
        split
        · exact go
        · rename_i hneg
          exact absurd hc hneg
      · obtain rfl : v = Value.bool b := rx
        cases b with
        | false =>
          simp only [Bool.false_eq_true, if_false] at hb
          subst hb
          show wpAny _ A.in1 (if (_ : Bool) = true then (mkInt (c1 + 0) >>= _) else _) _ _ _
          rw [if_pos (by exact hc)]
          exact go
        | true =>
          simp only [if_true] at hb
          subst hb
          show wpAny _ A.in1 (if (_ : Bool) = true then (mkInt (c1 + 1) >>= _) else _) _ _ _
          rw [if_pos (by exact hc)]
          exact go
    · obtain ⟨rfl, t1, k1, rfl⟩ := same ow h0
      exact wpAny_pure (hq s1 H1 c1 t _ vw f)
end
end Gx
end
section
/-! Gx4: a generator expression is made. -/
namespace Gx
open PySem PySem.Spec PyProof.Rows L2 GenW LamX

/-- the generator has been made: s4 the state ahead of its frame, s5 behind it -/
structure Made (X : Cx) (pins : List (Addr × Obj)) (σ : L2.St) (T : List (Addr × Str)) (elt tg iter : Expr) (ifs : List Expr) (scope : Scope) (gpos : Pos) (J : It) (H1 H2 : Hp) (s4 s5 : Shared) (it : Addr) (fp : List Addr) (tn : Nat → Heap → Prop) (a : Addr) (g : Nat) (C : Addr) (code : Value) (go : Obj) (m : Str → Option Value) : Prop where
  ext : ExtN H1 H2
  tab : Tabs T H2
  inv : Inv X pins σ H2 s4
  turn : Turn X.prog X.w X.K tg J fp it tn
  at0 : tn 0 s5.heap
  fp : ∀ b ∈ fp, FpOk X pins H2 b ∧ b < s4.heap.objs.size
  hC : s4.heap.objs.size ≤ C
  ns : s5.heap.Ns C m
  kp : ∀ b o, s4.heap.get? b = some o → s5.heap.get? b = some o
  os : s5.os = s4.os
  bare : AllBare s5.gens
  gen : s5.gens[g]? = some (.fresh (.compStart (gX elt tg iter ifs scope gpos) 0 (.ref it) .none (gEnv X scope C code builtinsNs)))
  goAt : s5.heap.get? a = some go
  isg : ∀ h : Heap, h.get? a = some go → h.IsGen a g
  gd : ∀ v, go.data ≠ .cell v
  aC : C < a
section
variable {X : Cx} {pins : List (Addr × Obj)} {σ : L2.St} {H : Hp} {s : Shared} {scope : Scope} {vs : List Nat} {T : List (Addr × Str)} {c P : Addr} {elt tg iter : Expr} {ifs : List Expr} {gpos : Pos} {wi : TI} {Q' : Value → Shared → Prop} {R : It → Hp → Prop}
theorem gen_made (hd : X.A.depth < recursionLimit) (TB : LamX.TabB X.base X.mg c P) (hcode : X.env.code = .ref c) (hm : (P, X.env.qual ++ "<genexpr>") ∈ T) (hu : ∀ p ∈ T, p.1 = P → p.2 = X.env.qual ++ "<genexpr>") (G : GnS X scope vs)
    (hi : PI X tg iter wi) (hs : ∀ v, genFold iter X.env v = pure v) (I : Inv X pins σ H s) (h : wi σ H fun J H1 => Tabs T H1 ∧ R J H1)
    (hQ : ∀ J H1 H2 s4 s5 it fp tn a g C code go m, R J H1 → Made X pins σ T elt tg iter ifs scope gpos J H1 H2 s4 s5 it fp tn a g C code go m → Q' (.ref a) s5) :
    wpAny (model X.prog X.w) X.A (eval (gX elt tg iter ifs scope gpos) X.env) Q' X.xe s := by
  refine wpAny_GeneratorExp_make G.co (closure_ok (G.has I.ok)) G.cell G.dot G.kind hd ?_ hs
  refine thn (hi.run pins s σ H _ I h) fun xv s1 h1 => thn h1 fun itv s2 h2 => ?_
  obtain ⟨it, fp, tn, J, H1, rfl, I2, Tn, st2, f2, hT, hR⟩ := h2
  obtain ⟨ps, hP, ht, ha⟩ := hT _ hm
  have hP' : s2.heap.get? P = some { cls := .none, data := .fields ps } := I2.hok P _ hP
  have cd : PySem.W.CodeHd s2.heap c P := TB.code.keeps fun b o e => I2.bk b o e
  have fpP : ∀ b ∈ fp, b ≠ P := fun b hb z => by
    have := (f2 b hb).1
    rw [z, hP] at this; cases this
  have fpA : ∀ b ∈ fp, b < s2.heap.objs.size := fun b hb => by
    obtain ⟨o, ho, _⟩ := Tn.obj _ _ st2 b hb
    exact Heap.lt_size ho
  have cont : ∀ (code : Value) (H2 : Hp) (s4 : Shared), Inv X pins σ H2 s4 → ExtN H1 H2 → Tabs T H2 → (∀ b o, b ≠ P → s2.heap.get? b = some o → s4.heap.get? b = some o) → s2.heap.objs.size ≤ s4.heap.objs.size → (∀ b ∈ fp, H2 b = none) →
      wpAny (model X.prog X.w) X.A (builtinsFor X.env.globals X.env.builtins) (fun bi s₄ => ∀ h', h'.Ns s₄.heap.objs.size (fun y => if y = ".0" then some (Value.ref it) else none) → Heap.SameBut s₄.heap.objs.size (s₄.heap.push { cls := .type "frame", data := .dict #[] }) h' →
          Q' (.ref h'.objs.size) { s₄ with
            gens := s₄.gens.push (.fresh (.compStart (gX elt tg iter ifs scope gpos) 0 (.ref it) .none (genEnv scope (cloFrom X.env.cells scope.names []) s₄.heap.objs.size code bi X.env))),
            toks := s₄.toks + 1 + 1 + 1,
            heap := h'.push { cls := .type "generator", data := .fields #[.int s₄.gens.size 0, .str "<genexpr>" (s₄.toks + 1), .str (X.env.qual ++ "<genexpr>") (s₄.toks + 1 + 1)] } }) X.xe s4 := by
    intro code H2 s4 I4 eN t4 k4 z4 fr4
    obtain ⟨bm, ob, e1, e2, e3, e4, e5, e6, e7, e8⟩ := TB.bm
    refine wpAny_builtinsFor (m := X.mg) (by rw [I4.ok.glob]; exact I4.mod.glob.keeps I4.bk) e1 e2 (I4.bk _ _ e5) e6 e7 e8 fun h' hns hsb => ?_
    have kp' : ∀ b o, s4.heap.get? b = some o → h'.get? b = some o := fun b o e => hsb.extBut b o (Nat.ne_of_lt (Heap.lt_size e)) (Heap.get?_push_of_some _ e)
    have hlt : s4.heap.objs.size < h'.objs.size := hns.lt
    refine hQ J H1 H2 s4 _ it fp tn h'.objs.size s4.gens.size s4.heap.objs.size code _ (fun y => if y = ".0" then some (Value.ref it) else none) hR
      ⟨eN, t4, I4, Tn, Tn.keep _ _ _ st2 fun b hb o e => Heap.get?_push_of_some _ (kp' b o (k4 b o (fpP b hb) e)), fun b hb => ⟨⟨fr4 b hb, (f2 b hb).2⟩, Nat.lt_of_lt_of_le (fpA b hb) z4⟩, Nat.le_refl _, ?_, fun b o e => Heap.get?_push_of_some _ (kp' b o e), rfl, ?_, Array.getElem?_push_size .., Heap.get?_push_size _ rfl, fun h e => ⟨_, _, _, e, rfl, rfl, rfl⟩, fun v q => (by cases q), hlt⟩
    · exact hns.at' fun o e => Heap.get?_push_of_some _ e
    · exact AllBare.push I4.bare rfl
  refine ⟨I2.nolimit, ?_⟩
  cases hf : codeAmong gpos ps.toList with
  | none =>
    refine wpAny_genexprCodeX hcode (cd.code hP' ht) (cd.tab hP') hf fun c' h' tk hx hge hlt hco' hrec htb _ => ?_
    obtain ⟨c2, oc, vs', t, e2, hoc, hd', hv⟩ := hrec
    cases e2
    have nC : H1 c' = none := I2.hok.fresh hge
    have I4 := inv_table (t' := tk) (q := X.env.qual ++ "<genexpr>") (more := #[rawInt gpos.line, rawInt gpos.col, .ref c']) (h' := h') I2 hP (fun b o hb e => hx b o hb e) htb.2 hge ⟨oc, vs', t, hoc, hd', hv⟩
    have eN : ExtN H1 (upd (upd H1 P (.tbl (ps ++ #[rawInt gpos.line, rawInt gpos.col, .ref c']))) c' (CodeO c' (X.env.qual ++ "<genexpr>"))) := fun b o e n => by
      rw [upd_ne (ne_of_none e nC), upd_ne (fun z => n ps (Option.some.inj (e.symm.trans (by rw [z]; exact hP))))]
      exact e
    have eL : (ps ++ #[rawInt gpos.line, rawInt gpos.col, .ref c']).toList = ps.toList ++ [rawInt gpos.line, rawInt gpos.col, .ref c'] := by simp
    refine cont _ _ _ I4 eN (fun p hp => ?_) (fun b o hb e => hx b o hb e) (Nat.le_trans hge (Nat.le_of_lt hlt)) (fun b hb => ?_)
    · by_cases hb : p.1 = P
      · rw [hu p hp hb, hb]
        refine ⟨_, by rw [upd_ne (ne_of_none hP nC), upd_same], by rw [eL]; exact PySem.TriplesOk_snoc _ _ _ _ ht, fun p' cv hcv => ?_⟩
        rw [eL] at hcv
        rcases among_app _ ht hcv with z | z
        · obtain ⟨c0, e1, e2⟩ := ha p' cv z
          exact ⟨c0, e1, eN _ _ e2 codeO_ne⟩
        · exact ⟨c', z, upd_same⟩
      · obtain ⟨ps', a1, a2, a3⟩ := hT p hp
        refine ⟨ps', by rw [upd_ne (ne_of_none a1 nC), upd_ne hb]; exact a1, a2, fun p' cv hcv => ?_⟩
        obtain ⟨c0, e1, e2⟩ := a3 p' cv hcv
        exact ⟨c0, e1, eN _ _ e2 codeO_ne⟩
    · rw [upd_ne (Nat.ne_of_lt (Nat.lt_of_lt_of_le (fpA b hb) hge)), upd_ne (fpP b hb)]
      exact (f2 b hb).1
  | some cv =>
    exact wpAny_genexprCode_hit hcode (cd.code hP' ht) hf (cont cv H1 s2 I2 (ExtN.refl _) hT (fun b o _ e => e) (Nat.le_refl _) fun b hb => (f2 b hb).1)
end
end Gx
end
section
/-! Gx5: any(..), all(..), sum(..) of a generator expression. -/
namespace Gx
open PySem PySem.Spec PyProof.Rows L2 GenW LamX Ac

/-- what the loop of a generator expression asks -/
def Turns {α : Type} (Y : Cx) (vs : List Nat) (tg elt : Expr) (ifs : List Expr) (J : It) (B : Csm α) (W : Nat → Nat → α → L2.St → Hp → Prop) : Prop :=
  ∀ i m c σ H, W i m c σ H → (J.stop i H ∧ B.fin c H) ∨ (0 < m ∧ J.go i H ∧ ∀ x H', J.yld i H x H' → wG Y tg x σ H' fun σ2 H2 => wTs Y ifs σ2 H2 fun b H3 =>
    if b = true then wE Y elt σ2 H3 fun y H4 => B.step c y H4 fun c' => ∃ m', m' < m ∧ W (i + 1) m' c' (wipe σ2 vs) H4 else ∃ m', m' < m ∧ W (i + 1) m' c (wipe σ2 vs) H3)
section
variable {α : Type} {X : Cx} {A : Around} {pins : List (Addr × Obj)} {σ : L2.St} {T : List (Addr × Str)} {elt tg iter : Expr} {ifs : List Expr} {scope : Scope} {gpos : Pos} {J : It} {H1 H2 : Hp} {s4 s5 s6 : Shared} {it : Addr} {fp : List Addr} {tn : Nat → Heap → Prop} {a : Addr} {g : Nat} {C : Addr} {code : Value} {go : Obj} {m : Str → Option Value}
  {B : Csm α} {sa : List Addr} {W : Nat → Nat → α → L2.St → Hp → Prop} {vs : List Nat}
theorem Made.lie (M : Made X pins σ T elt tg iter ifs scope gpos J H1 H2 s4 s5 it fp tn a g C code go m) (G : GnS X scope vs) (hs : ∀ b ∈ sa, s5.heap.objs.size ≤ b) : Lie X s4 scope C fp a g go sa := by
  have hfree := G.has M.inv.ok
  have cm : ∀ {y c}, (cloFrom X.env.cells scope.names []).lookup y = some c → X.env.cells.lookup y = some c := fun {y c} e => by
    rcases cloFrom_mem (PySem.mem_of_lookup e) with hm | ⟨h1, h2⟩
    · cases hm
    · obtain ⟨c1, hc⟩ := hfree _ h1 rfl
      have hc : X.env.cells.lookup y = some c1 := hc
      have e2 : c = c1 := by rw [h2, hc]; rfl
      rw [e2]; exact hc
  have a5 : a < s5.heap.objs.size := Heap.lt_size M.goAt
  have c5 : C < s5.heap.objs.size := M.ns.lt
  have z45 : s4.heap.objs.size ≤ s5.heap.objs.size := Nat.le_trans M.hC (Nat.le_of_lt c5)
  refine ⟨fun b hb => ?_, fun b hb => ?_, M.isg, M.gd⟩
  · obtain ⟨⟨f0, f1, f2, f3, f4, f5⟩, hl⟩ := M.fp b hb
    refine ⟨Nat.ne_of_lt (Nat.lt_of_lt_of_le hl M.hC), fun q => ?_, fun x c e => f4 x c (cm e), Nat.ne_of_lt (Nat.lt_of_lt_of_le hl (Nat.le_trans M.hC (Nat.le_of_lt M.aC))), fun q => Nat.lt_irrefl _ (Nat.lt_of_lt_of_le hl (Nat.le_trans z45 (hs b q)))⟩
    rcases List.mem_cons.mp (M.inv.stkSub b q) with z | z
    · exact f1 z
    · exact f2 z
  · have hb' := hs b hb
    refine ⟨Nat.le_trans z45 hb', Nat.ne_of_gt (Nat.lt_of_lt_of_le c5 hb'), fun x c e z => ?_, Nat.ne_of_gt (Nat.lt_of_lt_of_le a5 hb')⟩
    obtain ⟨v, o, ho, _⟩ := M.inv.cell x c (cm e)
    have := Nat.lt_of_lt_of_le (Heap.lt_size ho) (Nat.le_trans z45 hb')
    rw [z] at this
    exact Nat.lt_irrefl _ this
/-- the generator waits for its consumer -/
theorem Made.gat (M : Made X pins σ T elt tg iter ifs scope gpos J H1 H2 s4 s5 it fp tn a g C code go m) (G : GnS X scope vs) (hA : A.frames = some X.stack) (hh : A.handled = none) (hs : ∀ b ∈ sa, s5.heap.objs.size ≤ b) (hsa : ∀ c sn, B.own c sn → sn.map (·.1) = sa)
    (turn : Turns (gCx X A s4 H2 scope C code builtinsNs fp) vs tg elt ifs J B W) {n : Nat} {c : α} {sn : List (Addr × Obj)} (w : W 0 n c (wipe σ vs) H2) (ow : B.own c sn) (hk : ∀ b o, s5.heap.get? b = some o → s6.heap.get? b = some o) (hos : s6.os = s5.os) (hg6 : s6.gens = s5.gens) (hsn : ∀ p ∈ sn, s6.heap.get? p.1 = some p.2 ∧ ∀ v, p.2.data ≠ .cell v) :
    GAt X s4 H2 fp a g B A n s6 := by
  have Z := M.lie (sa := sa) G hs
  have glt : g < s5.gens.size := (Array.getElem?_eq_some_iff.mp M.gen).1
  refine ⟨.fresh (.compStart (gX elt tg iter ifs scope gpos) 0 (.ref it) .none (gEnv X scope C code builtinsNs)), by rw [hg6]; exact M.gen, rfl, ?_⟩
  have hb6 : AllBare s6.gens := by rw [hg6]; exact M.bare
  have I0 : Inv (gCx X A s4 H2 scope C code builtinsNs fp) [] (wipe σ vs) H2 (s6.setGen g .running) :=
    gen_start (s5 := s6.setGen g .running) M.inv G hA hh rfl M.fp M.hC (M.ns.at' fun o e => hk _ o e) (fun b o e => hk b o (M.kp b o e)) (hos.trans M.os) (allBare_setGen hb6 rfl)
  have young : ∀ b, s4.heap.objs.size ≤ b → H2 b = none ∧ b ∉ frs X.stack := fun b hb => ⟨M.inv.hok.fresh hb, fun q => by
    rcases List.mem_cons.mp (M.inv.stkSub b q) with z | z
    · have h1 := M.inv.lt
      rw [← z] at h1
      exact Nat.lt_irrefl _ (Nat.lt_of_lt_of_le h1 hb)
    · exact M.inv.nofs hb z⟩
  have I : Inv (gCx X A s4 H2 scope C code builtinsNs fp) (sn ++ [(a, go)]) (wipe σ vs) H2 (s6.setGen g .running) := I0.pins_of fun p hp => by
    rcases List.mem_append.mp hp with hp | hp
    · have hb : p.1 ∈ sa := by rw [← hsa c sn ow]; exact List.mem_map.mpr ⟨p, hp, rfl⟩
      obtain ⟨q1, q2, q3, q4⟩ := Z.s _ hb
      obtain ⟨y1, y2⟩ := young _ q1
      exact ⟨(hsn p hp).1, y1, q2, y2, (hsn p hp).2⟩
    · rw [List.mem_singleton.mp hp]
      obtain ⟨y1, y2⟩ := young a (Nat.le_trans M.hC (Nat.le_of_lt M.aC))
      exact ⟨hk _ _ M.goAt, y1, Nat.ne_of_gt M.aC, y2, M.gd⟩
  have st0 : tn 0 (s6.setGen g .running).heap := M.turn.keep _ _ _ M.at0 fun b hb o e => hk b o e
  have loop := seg_gloop (gpos := gpos) (iter := iter) hh G.co Z hsa M.turn (pgW (X := gCx X A s4 H2 scope C code builtinsNs fp) (tg := tg)) ptsW (peW (X := gCx X A s4 H2 scope C code builtinsNs fp) (e := elt)) turn n n 0 c sn (s6.setGen g .running) (s6.setGen g .running) (wipe σ vs) H2 (Nat.le_refl _) w ow (fun p hp => (hsn p hp).1) I st0 fun b hb => (M.fp b hb).1.1
  show Seg _ A _ _ n _ _ ((compStart (gX elt tg iter ifs scope gpos) 0 (.ref it) .none (gEnv X scope C code builtinsNs)).onRaise (leaving (gEnv X scope C code builtinsNs))) [] _
  unfold compStart
  rw [Sem.onRaise_eq_wrap]
  show Seg _ A _ _ n _ _ ((ask >>= _).wrap _ _ _ _) [] _
  refine seg_bind_wrap (wpAny_askSetting ?_)
  split
  · exact seg_again rfl loop
  · refine seg_bind_wrap (wpAny_rule ?_)
    show Seg _ A _ _ n _ _ ((standAt iter.pos >>= _).wrap _ _ _ _) [] _
    exact seg_bind_wrap (wpAny_standAt (seg_bind_wrap (M.turn.self _ 0 _ _ _ st0 (seg_again rfl loop))))
/-- behind the consumer -/
theorem Made.back (M : Made X pins σ T elt tg iter ifs scope gpos J H1 H2 s4 s5 it fp tn a g C code go m) {sn : List (Addr × Obj)} {H3 : Hp} {s7 : Shared} (v : Vw X s4 H2 fp a g sn H3 s7) : Inv X pins σ H3 s7 :=
  M.inv.call' v.os v.un v.hok v.bare fun b hb => by
    obtain ⟨⟨_, f1, _, f3, f4, f5⟩, _⟩ := M.fp b hb
    exact ⟨f3, f1, f4, f5⟩
end
end Gx
end
section
/-! Gx6: any(..), all(..), sum(..) of a generator expression, as expressions. -/
namespace Gx
open PySem PySem.Spec PyProof.Rows L2 GenW LamX Ac

/-- what is asked of the loop, for every frame that may be made -/
def AskG {α : Type} (X : Cx) (k : Nat) (T : List (Addr × Str)) (scope : Scope) (vs : List Nat) (tg elt : Expr) (ifs : List Expr) (σ : L2.St) (B : Csm α) (c : α) (J : It) (H1 : Hp) : Prop :=
  ∀ (A : Around) (H2 : Hp) (s4 : Shared) (C : Addr) (code : Value) (fp : List Addr), ExtN H1 H2 → Tabs T H2 → A.frames = some X.stack → Room k (A.deeper (gEnv X scope C code builtinsNs)) →
    ∃ (n : Nat) (W : Nat → Nat → α → L2.St → Hp → Prop), W 0 n c (wipe σ vs) H2 ∧ Turns (gCx X A s4 H2 scope C code builtinsNs fp) vs tg elt ifs J B W
section
variable {X : Cx} {k : Nat} {scope : Scope} {vs : List Nat} {T : List (Addr × Str)} {c P : Addr} {elt tg iter : Expr} {ifs : List Expr} {gpos p pos : Pos} {wi : TI}
theorem pe_any (hr : Room (k + 3) X.A) (hg : Gl X "any") (hm : X.mg "any" = none) (TB : LamX.TabB X.base X.mg c P) (hcode : X.env.code = .ref c) (hmT : (P, X.env.qual ++ "<genexpr>") ∈ T) (hu : ∀ p ∈ T, p.1 = P → p.2 = X.env.qual ++ "<genexpr>") (G : GnS X scope vs)
    (hi : PI X tg iter wi) (hs : ∀ v, genFold iter X.env v = pure v) (he : starEach [gX elt tg iter ifs scope gpos] X.env = (false, eval (gX elt tg iter ifs scope gpos) X.env) :: starEach [] X.env) :
    PE X (.Call (.Name "any" p) [gX elt tg iter ifs scope gpos] [] pos) (fun σ H Q => wi σ H fun J H1 => Tabs T H1 ∧ AskG X k T scope vs tg elt ifs σ (anyC (fun H' => Q (.bl true) H') (fun H' => Q (.bl false) H')) () J H1) := by
  refine ⟨fun pins s σ H Q I h => ?_⟩
  refine wpAny_Call_Name_kw (ld_blt I hg hm boot_any ?_)
  refine PyProof.Rows.callWith_builtin1 ?_ he (by rfl)
  rw [he]
  show wpAny _ _ (spliced ((false, eval (gX elt tg iter ifs scope gpos) X.env) :: backTo pos (starEach [] X.env))) _ _ s
  refine Calls.spliced_cons (gen_made hr.depth TB hcode hmT hu G hi hs I h fun J H1 H2 s4 s5 it fp tn a g C code go m hR M => ?_)
  refine Calls.spliced_nil ?_
  have fr : X.A.in1.in1.frames = some X.stack := M.inv.ok.frames
  obtain ⟨n, W, w, turn⟩ := hR X.A.in1.in1 H2 s4 C code fp M.ext M.tab fr ((hr.in1.in1).deeper _)
  have ga := M.gat (A := X.A.in1.in1) (sa := []) (s6 := s5) G fr hr.hd (fun b hb => (nomatch hb)) (fun c sn e => by rw [show sn = [] from e]; rfl) turn w (rfl : (anyC _ _).own () []) (fun _ _ e => e) rfl rfl fun p hp => (nomatch hp)
  have lim : s5.heap.NoLimit := M.inv.nolimit.keeps M.kp
  have isg := M.isg _ M.goAt
  refine call_function_tree F.kind_any F.plain_any F.entry_any (F.args_any1 _) ?_
  unfold Builtin.«any»
  refine wpAny_bind (m := oneArg "any" _) (wpAny_pure ?_)
  refine wpAny_bind (wpAny_pyIter_gen isg ?_)
  refine wpAny_pure ⟨plainId_quiet F.plain_any_loop _, any_loop hr.hd hr.depth (fun s1 H3 v q => ?_) (fun s1 H3 v q => ?_) n s5 lim isg ga⟩
  · exact ⟨.bl true, H3, M.back v, rfl, q⟩
  · exact ⟨.bl false, H3, M.back v, rfl, q⟩
theorem pe_all (hr : Room (k + 3) X.A) (hg : Gl X "all") (hm : X.mg "all" = none) (hb : bootBuiltins "all" = some (.builtin "all")) (TB : LamX.TabB X.base X.mg c P) (hcode : X.env.code = .ref c) (hmT : (P, X.env.qual ++ "<genexpr>") ∈ T) (hu : ∀ p ∈ T, p.1 = P → p.2 = X.env.qual ++ "<genexpr>") (G : GnS X scope vs)
    (hi : PI X tg iter wi) (hs : ∀ v, genFold iter X.env v = pure v) (he : starEach [gX elt tg iter ifs scope gpos] X.env = (false, eval (gX elt tg iter ifs scope gpos) X.env) :: starEach [] X.env) :
    PE X (.Call (.Name "all" p) [gX elt tg iter ifs scope gpos] [] pos) (fun σ H Q => wi σ H fun J H1 => Tabs T H1 ∧ AskG X k T scope vs tg elt ifs σ (allC (fun H' => Q (.bl true) H') (fun H' => Q (.bl false) H')) () J H1) := by
  refine ⟨fun pins s σ H Q I h => ?_⟩
  refine wpAny_Call_Name_kw (ld_blt I hg hm hb ?_)
  refine PyProof.Rows.callWith_builtin1 ?_ he (by rfl)
  rw [he]
  show wpAny _ _ (spliced ((false, eval (gX elt tg iter ifs scope gpos) X.env) :: backTo pos (starEach [] X.env))) _ _ s
  refine Calls.spliced_cons (gen_made hr.depth TB hcode hmT hu G hi hs I h fun J H1 H2 s4 s5 it fp tn a g C code go m hR M => ?_)
  refine Calls.spliced_nil ?_
  have fr : X.A.in1.in1.frames = some X.stack := M.inv.ok.frames
  obtain ⟨n, W, w, turn⟩ := hR X.A.in1.in1 H2 s4 C code fp M.ext M.tab fr ((hr.in1.in1).deeper _)
  have ga := M.gat (A := X.A.in1.in1) (sa := []) (s6 := s5) G fr hr.hd (fun b hb => (nomatch hb)) (fun c sn e => by rw [show sn = [] from e]; rfl) turn w (rfl : (allC _ _).own () []) (fun _ _ e => e) rfl rfl fun p hp => (nomatch hp)
  have lim : s5.heap.NoLimit := M.inv.nolimit.keeps M.kp
  have isg := M.isg _ M.goAt
  refine call_function_tree F.kind_all F.plain_all F.entry_all (F.args_all1 _) ?_
  unfold Builtin.«all»
  refine wpAny_bind (m := oneArg "all" _) (wpAny_pure ?_)
  refine wpAny_bind (wpAny_pyIter_gen isg ?_)
  refine wpAny_pure ⟨plainId_quiet F.plain_all_loop _, all_loop hr.hd hr.depth (fun s1 H3 v q => ?_) (fun s1 H3 v q => ?_) n s5 lim isg ga⟩
  · exact ⟨.bl true, H3, M.back v, rfl, q⟩
  · exact ⟨.bl false, H3, M.back v, rfl, q⟩
theorem pe_sum (hr : Room (k + 3) X.A) (hg : Gl X "sum") (hm : X.mg "sum" = none) (hb : bootBuiltins "sum" = some (.builtin "sum")) (TB : LamX.TabB X.base X.mg c P) (hcode : X.env.code = .ref c) (hmT : (P, X.env.qual ++ "<genexpr>") ∈ T) (hu : ∀ p ∈ T, p.1 = P → p.2 = X.env.qual ++ "<genexpr>") (G : GnS X scope vs)
    (hi : PI X tg iter wi) (hs : ∀ v, genFold iter X.env v = pure v) (he : starEach [gX elt tg iter ifs scope gpos] X.env = (false, eval (gX elt tg iter ifs scope gpos) X.env) :: starEach [] X.env) :
    PE X (.Call (.Name "sum" p) [gX elt tg iter ifs scope gpos] [] pos) (fun σ H Q => wi σ H fun J H1 => Tabs T H1 ∧ ∀ S, AskG X k T scope vs tg elt ifs σ (sumC S (fun c H' => Q (.int c) H')) 0 J H1) := by
  refine ⟨fun pins s σ H Q I h => ?_⟩
  refine wpAny_Call_Name_kw (ld_blt I hg hm hb ?_)
  refine PyProof.Rows.callWith_builtin1 ?_ he (by rfl)
  rw [he]
  show wpAny _ _ (spliced ((false, eval (gX elt tg iter ifs scope gpos) X.env) :: backTo pos (starEach [] X.env))) _ _ s
  refine Calls.spliced_cons (gen_made hr.depth TB hcode hmT hu G hi hs I h fun J H1 H2 s4 s5 it fp tn a g C code go m hR M => ?_)
  refine Calls.spliced_nil ?_
  have fr : X.A.in1.in1.frames = some X.stack := M.inv.ok.frames
  obtain ⟨n, W, w, turn⟩ := hR s5.heap.objs.size X.A.in1.in1 H2 s4 C code fp M.ext M.tab fr ((hr.in1.in1).deeper _)
  have lim : s5.heap.NoLimit := M.inv.nolimit.keeps M.kp
  have isg := M.isg _ M.goAt
  have a5 : a < s5.heap.objs.size := Heap.lt_size M.goAt
  have hcl : cStatics < s5.heap.objs.size := let ⟨_, hn, _⟩ := lim; hn.lt
  refine call_function_tree F.kind_sum F.plain_sum F.entry_sum (F.args_sum1 _) ?_
  unfold Builtin.«sum»
  simp only [List.length_cons, List.length_nil]
  rw [if_neg (by decide)]
  refine wpAny_bind (wpAny_of_eq (show Builtin.Builtins.bindParams "sum" ["start"] 0 { } = pure [none] from rfl) ?_)
  refine wpAny_bind (wpAny_pyIter_gen isg ?_)
  refine wpAny_bind (wpAny_mkInt ?_)
  refine wpAny_bind (wpAny_pure ?_)
  simp only [List.forIn_cons, List.forIn_nil]
  refine wpAny_bind (wpAny_bind (wpAny_bind (wpAny_isInstance (T := "int") (b := false) (typeIs_int _ _ _) PySem.sub_int_str ?_)))
  simp only [Bool.false_eq_true, if_false]
  refine wpAny_pure (wpAny_bind (wpAny_bind (wpAny_isInstance (T := "int") (b := false) (typeIs_int _ _ _) PySem.sub_int_bytes ?_)))
  simp only [Bool.false_eq_true, if_false]
  refine wpAny_pure (wpAny_bind (wpAny_bind (wpAny_isInstance (T := "int") (b := false) (typeIs_int _ _ _) PySem.sub_int_bytearray ?_)))
  simp only [Bool.false_eq_true, if_false]
  refine wpAny_pure (wpAny_pure ?_)
  refine wpAny_bind (wpAny_newObj_type ?_)
  have kS : ∀ b o, s5.heap.get? b = some o → (s5.heap.push (lstObj #[.int 0 s5.toks] 0)).get? b = some o := fun b o e => Heap.get?_push_of_some _ e
  have hS : (s5.heap.push (lstObj #[.int 0 s5.toks] 0)).get? s5.heap.objs.size = some (lstObj #[.int 0 s5.toks] 0) := Heap.get?_push_size _ rfl
  refine wpAny_pure ⟨plainId_quiet F.plain_sum_loop _, sum_loop (Q := fun c H' => Q (.int c) H') hr.hd hr.depth (Nat.ne_of_gt a5) (Nat.ne_of_gt hcl) (fun s1 H3 c t sn v q => ?_) n _ 0 s5.toks 0 (lim.keeps kS) (isg.keeps kS) hS
    (M.gat (A := X.A.in1.in1) (sa := [s5.heap.objs.size]) G fr hr.hd (fun b hb => by rw [List.mem_singleton.mp hb]; exact Nat.le_refl _) (fun c sn e => by obtain ⟨t, k, rfl⟩ := e; rfl) turn w ⟨s5.toks, 0, rfl⟩ kS rfl rfl fun p hp => ?_)⟩
  · exact ⟨.int c, H3, M.back v, ⟨t, rfl⟩, q⟩
  · rw [List.mem_singleton.mp hp]
    exact ⟨hS, fun v q => by cases q⟩
end
end Gx
end
section
/-! Gx7: any, all, sum of generator expressions, judged by data. -/
namespace Ac
open PySem PySem.Spec PyProof.Rows L2 Gx

/-- a generator expression's frame -/
abbrev ctG (Γ : Ct) (scope : Scope) (k : Nat) (q : Str) : Ct := { Γ with sc := scope, top := true, k := k, calm := true, qual := q, cp := none, EX := fun _ _ _ _ => False }
theorem fits_gen {Γ : Ct} {X : Cx} {R0 R : Rw} (F : Fits Γ X R0) (ec : R.c = Γ.cls) {scope : Scope} {own : List (Str × Nat)} (B : Blk Γ.N Γ.sc.names scope.names own) (hk : scope.kind = .function) (hs : ScB scope.names = true) (hn : ∀ y ∈ scope.names, y.2 ≠ .cell)
    {A : Around} {s : Shared} {H : Hp} {C : Addr} {code : Value} {bi : Addr} {fp : List Addr} {k : Nat} (hr : Room k (A.deeper (gEnv X scope C code bi))) : Fits (ctG Γ scope k (gEnv X scope C code bi).qual) (gCx X A s H scope C code bi fp) R := by
  refine ⟨ec, F.prog, F.w, F.K, F.mg, F.base, F.N, F.nd, hs, hk, fun x k m v => vis_of (ScB.look hs m) v, fun x m => ScB.look hs m, fun x k m v => ?_, fun x m => ScB.look hs m, fun x k m n => ⟨k, ScB.look hs m, n⟩, fun x k m c => ?_, ?_, fun _ => hr, rfl, ⟨fun _ _ _ _ => False, LamX.takes0, fun _ _ _ _ _ _ _ _ _ _ _ _ q => q⟩, fun e s h => h.elim, fun _ => ⟨rfl, rfl⟩, rfl, fun c P e => (nomatch e)⟩
  · have z := ScB.look hs m
    cases k with
    | «local» => exact ⟨.inl z, .inr z⟩
    | cell => exact absurd rfl (hn _ m)
    | _ => cases v
  · have z := ScB.look hs m
    cases k with
    | cell => exact .inl z
    | free => exact .inr z
    | _ => cases c
  · have := hr.un
    show (A.deeper (gEnv X scope C code bi)).units + 64 < cLine
    omega
theorem gns_of {Γ : Ct} {X : Cx} {R0 : Rw} (F : Fits Γ X R0) {scope : Scope} {own : List (Str × Nat)} (B : Blk Γ.N Γ.sc.names scope.names own) (hk : scope.kind = .function) (hco : scope.isCoroutine = false) (hs : ScB scope.names = true) (hn : ∀ y ∈ scope.names, y.2 ≠ .cell) (hdot : scope.names.lookup (".0" : Str) = some .local) :
    GnS X scope (own.map (·.2)) := by
  refine ⟨hk, hco, hn, hdot, fun x hx => ?_, fun y m e => ?_, by rw [F.N]; exact F.nd⟩
  · have := B.ow x .local (PySem.mem_of_lookup hx) (.inl rfl)
    obtain ⟨q, hq, rfl⟩ := List.mem_map.mp this
    exact ⟨q.2, List.mem_map.mpr ⟨q, hq, rfl⟩, by rw [F.N]; exact B.ix q hq⟩
  · obtain ⟨k', m', c⟩ := B.fr y.1 y.2 m e
    exact F.cap _ _ m' c
section
variable {α : Type} {Γ : Ct} {δ : Ds} {L : Mu} {tg iter elt : Expr} {ifs : List Expr} {scope : Scope} {own : List (Str × Nat)} {pos gpos p : Pos} {k : Nat}
/-- what the loop asks: a word about the turn, the consumer's state, the cells -/
def GnI (Γ : Ct) (scope : Scope) (k : Nat) (own : List (Str × Nat)) (tg elt : Expr) (ifs : List Expr) (δ : Ds) (ds : List D) (cond : Mu → Prop) (L1 : Mu) (stp : α → D → Mu → (α → Prop) → Prop) (fn : α → Mu → Prop) (c0 : α) : Prop :=
  ∀ q, ∃ Iv : Nat → α → Mu → Prop, Iv 0 c0 L1 ∧ (∀ i c L', i ≤ ds.length → Iv i c L' → cond L') ∧
    (∀ i d c L', ds[i]? = some d → Iv i c L' → BGv (ctG Γ scope k q) (own.map (·.2)) tg d (wipeD δ (own.map (·.2))) L' fun δ2 L2 => BTs (ctG Γ scope k q) ifs δ2 L2 fun b L3 =>
      (b = false → Iv (i + 1) c L3) ∧ (b = true → BE (ctG Γ scope k q) elt δ2 L3 fun y L4 => stp c y L4 fun c' => Iv (i + 1) c' L4)) ∧
    (∀ c L', Iv ds.length c L' → fn c L')
theorem gn_run {X : Cx} {R0 R R1 : Rw} {σ : L2.St} {H1 : Hp} {L1 : Mu} {J : It} {ds : List D} {cond : Mu → Prop} {Bc : Csm α} {stp : α → D → Mu → (α → Prop) → Prop} {fn : α → Mu → Prop} {c0 : α} (B : Blk Γ.N Γ.sc.names scope.names own) (hk : scope.kind = .function) (hs : ScB scope.names = true) (hn : ∀ y ∈ scope.names, y.2 ≠ .cell)
    (F : Fits Γ X R0) (l : Le R0 R) (Sg : RS Γ.K R σ δ) (l1 : Le R R1) (A1 : AR Γ.T Γ.K R1 L1 H1) (Y : Yl Γ J R1 cond ds) (h : GnI Γ scope k own tg elt ifs δ ds cond L1 stp fn c0)
    (hst : ∀ R' H' L' c x y Nx Nx', Le R R' → AR Γ.T Γ.K R' L' H' → Rp Γ.K R' x y → stp c y L' Nx → (∀ c', Nx c' → Nx' c') → Bc.step c x H' Nx') (hfn : ∀ R' H' L' c, Le R R' → AR Γ.T Γ.K R' L' H' → fn c L' → Bc.fin c H') :
    AskG X k Γ.T scope (own.map (·.2)) tg elt ifs σ Bc c0 J H1 := by
  intro A H2 s4 C code fp eN t2 _ hr
  obtain ⟨Iv, i0, hcond, hstep, hend⟩ := h (gEnv X scope C code builtinsNs).qual
  have ec : R1.c = Γ.cls := (l.trans l1).c.trans F.cls
  have Fb : ∀ R, R.c = Γ.cls → Fits (ctG Γ scope k (gEnv X scope C code builtinsNs).qual) (gCx X A s4 H2 scope C code builtinsNs fp) R := fun R e => fits_gen F e B hk hs hn hr
  refine ⟨ds.length, fun i m c σ' H' => m = ds.length - i ∧ i ≤ ds.length ∧ σ' = wipe σ (own.map (·.2)) ∧ ∃ R' L', Le R1 R' ∧ AR Γ.T Γ.K R' L' H' ∧ Iv i c L', ⟨by omega, Nat.zero_le _, rfl, R1, L1, Le.refl _, A1.ext eN t2, i0⟩, ?_⟩
  rintro i m c σ' H' ⟨rfl, hi, rfl, R', L', l', A', q⟩
  have Yi := Y i R' H' _ l'.toLw A' (hcond i c L' hi q)
  by_cases hlt : i < ds.length
  · obtain ⟨hgo, hy⟩ := Yi.1 ds[i] (by simp [hlt])
    refine .inr ⟨by omega, hgo, fun x H3 hx => ?_⟩
    obtain ⟨R2, l2, A2, rx⟩ := hy x H3 hx
    have l02 : Le R R2 := (l1.trans l').trans l2
    have ec2 : R2.c = Γ.cls := (l'.trans l2).c.trans ec
    refine hstep i ds[i] c L' (by simp [hlt]) q _ R2 (Fb R2 ec2) R2 _ H3 x (Le.refl _) A2 ((Sg.le l02).wipe _) rx _ fun σ3 δ3 R3 H4 L3 l3 A3 S3 ew q3 => ?_
    have ew2 : wipe σ3 (own.map (·.2)) = wipe σ (own.map (·.2)) := ew.trans wipe_wipe
    refine q3.run (Fb R3 (l3.c.trans ec2)) (Le.refl _) A3 S3 fun b R4 H5 L4 l4 A4 ⟨qf, qt⟩ => ?_
    have l14 : Le R1 R4 := ((l'.trans l2).trans l3).trans l4
    cases b with
    | false => exact iteF ⟨ds.length - (i + 1), by omega, rfl, hlt, ew2, R4, L4, l14, A4, qf rfl⟩
    | true =>
      refine iteT ?_
      refine qt rfl _ R4 (Fb R4 (l14.c.trans ec)) R4 _ H5 (Le.refl _) A4 (S3.le l4) _ fun v d R5 H6 L5 l5 A5 r5 st => ?_
      exact hst R5 H6 L5 c v d _ _ (l1.trans (l14.trans l5)) A5 r5 st fun c' hc' => ⟨ds.length - (i + 1), by omega, rfl, hlt, ew2, R5, L5, l14.trans l5, A5, hc'⟩
  · have e : i = ds.length := by omega
    subst e
    exact .inl ⟨Yi.2 rfl, hfn R' H' L' c (l1.trans l') A' (hend c L' q)⟩
end
end Ac
end
section
/-! Gx8: the rules. -/
namespace Ac
open PySem PySem.Spec PyProof.Rows L2 Gx
theorem tab_uniq {T : Tbl} {P : Addr} {q : Str} (nd : (T.map (·.1)).Nodup) (hT : (P, q) ∈ T) : ∀ p ∈ T, p.1 = P → p.2 = q := fun p hp e => by
  obtain ⟨i, hi⟩ := List.getElem?_of_mem hp
  obtain ⟨j, hj⟩ := List.getElem?_of_mem hT
  have e3 : (T.map (·.1))[i]? = some P := by rw [List.getElem?_map, hi]; exact congrArg some e
  have e4 : (T.map (·.1))[j]? = some P := by rw [List.getElem?_map, hj]; rfl
  obtain ⟨q1, f1⟩ := List.getElem?_eq_some_iff.mp e3
  obtain ⟨q2, f2⟩ := List.getElem?_eq_some_iff.mp e4
  have ij := (List.getElem_inj nd).mp (f1.trans f2.symm)
  subst ij
  rw [hi] at hj
  cases hj
  rfl
section
variable {Γ : Ct} {δ : Ds} {L : Mu} {Q : D → Mu → Prop} {tg iter elt : Expr} {ifs : List Expr} {scope : Scope} {own : List (Str × Nat)} {pos gpos p : Pos} {k : Nat} {c P : Addr}
def anyS (Q : D → Mu → Prop) : Unit → D → Mu → (Unit → Prop) → Prop := fun _ y L Nx => ∃ b, y = .bl b ∧ if b = true then Q (.bl true) L else Nx ()
def allS (Q : D → Mu → Prop) : Unit → D → Mu → (Unit → Prop) → Prop := fun _ y L Nx => ∃ b, y = .bl b ∧ if b = true then Nx () else Q (.bl false) L
def sumS : Int → D → Mu → (Int → Prop) → Prop := fun c y _ Nx => ∃ k : Int, (y = .int k ∨ ∃ b : Bool, y = .bl b ∧ k = if b = true then 1 else 0) ∧ InLong k ∧ InLong (c + k) ∧ Nx (c + k)
/-- the def's table may bear what is made -/
structure GOk (Γ : Ct) (k : Nat) (scope : Scope) : Prop where
  cp : ∃ c P, Γ.cp = some (c, P) ∧ (P, Γ.qual ++ "<genexpr>") ∈ Γ.T
  kk : k + 3 ≤ Γ.k
  calm : Γ.calm = true
  kind : scope.kind = .function
  co : scope.isCoroutine = false
  scb : ScB scope.names = true
  cell : ∀ y ∈ scope.names, y.2 ≠ .cell
  dot : scope.names.lookup (".0" : Str) = some .local
theorem be_anyG [hK : Kd Γ.sc.names "any" .globalImplicit] [B : Blk Γ.N Γ.sc.names scope.names own] (hb : ∃ u, Bn Γ.mg "any" u) (O : GOk Γ k scope) (hf : ∀ env v, genFold iter env v = pure v)
    (h : BI Γ tg iter δ L fun ds cond L1 => GnI Γ scope k own tg elt ifs δ ds cond L1 (anyS Q) (fun _ L => Q (.bl false) L) ()) : BE Γ (.Call (.Name "any" p) [gX elt tg iter ifs scope gpos] [] pos) δ L Q := fun X R0 F R σ H l A S QV g => by
  obtain ⟨c, P, hcp, hT⟩ := O.cp
  obtain ⟨u, hb⟩ := hb
  obtain ⟨e1, TB⟩ := F.cp c P hcp
  refine PE_w (pe_any (T := Γ.T) ((F.room O.calm).mono O.kk) (F.gl _ hK.mem) (by rw [F.mg]; exact hb.no) TB e1 (by rw [F.qual]; exact hT) (by rw [F.qual]; exact tab_uniq A.tnd hT) (gns_of F B O.kind O.co O.scb O.cell O.dot) piW (hf _) rfl) (h X R0 F R σ H l A S _ fun J R1 H1 L1 ds cond l1 A1 Y hcnd q1 => ⟨A1.tabs, gn_run B O.kind O.scb O.cell F l S l1 A1 Y q1 (fun R' H' L' c x y Nx Nx' l' A' r st hN => ?_) fun R' H' L' c l' A' f => g _ _ R' H' L' l' A' .bl f⟩)
  obtain ⟨b, rfl, st⟩ := st
  cases r
  refine ⟨b, rfl, ?_⟩
  cases b with
  | true => exact g _ _ R' H' L' l' A' .bl st
  | false => exact hN _ st
theorem be_allG [hK : Kd Γ.sc.names "all" .globalImplicit] [B : Blk Γ.N Γ.sc.names scope.names own] (hb : ∃ u, Bn Γ.mg "all" u) (hbt : bootBuiltins "all" = some (.builtin "all")) (O : GOk Γ k scope) (hf : ∀ env v, genFold iter env v = pure v)
    (h : BI Γ tg iter δ L fun ds cond L1 => GnI Γ scope k own tg elt ifs δ ds cond L1 (allS Q) (fun _ L => Q (.bl true) L) ()) : BE Γ (.Call (.Name "all" p) [gX elt tg iter ifs scope gpos] [] pos) δ L Q := fun X R0 F R σ H l A S QV g => by
  obtain ⟨c, P, hcp, hT⟩ := O.cp
  obtain ⟨u, hb⟩ := hb
  obtain ⟨e1, TB⟩ := F.cp c P hcp
  refine PE_w (pe_all (T := Γ.T) ((F.room O.calm).mono O.kk) (F.gl _ hK.mem) (by rw [F.mg]; exact hb.no) hbt TB e1 (by rw [F.qual]; exact hT) (by rw [F.qual]; exact tab_uniq A.tnd hT) (gns_of F B O.kind O.co O.scb O.cell O.dot) piW (hf _) rfl) (h X R0 F R σ H l A S _ fun J R1 H1 L1 ds cond l1 A1 Y hcnd q1 => ⟨A1.tabs, gn_run B O.kind O.scb O.cell F l S l1 A1 Y q1 (fun R' H' L' c x y Nx Nx' l' A' r st hN => ?_) fun R' H' L' c l' A' f => g _ _ R' H' L' l' A' .bl f⟩)
  obtain ⟨b, rfl, st⟩ := st
  cases r
  refine ⟨b, rfl, ?_⟩
  cases b with
  | false => exact g _ _ R' H' L' l' A' .bl st
  | true => exact hN _ st
theorem be_sumG [hK : Kd Γ.sc.names "sum" .globalImplicit] [B : Blk Γ.N Γ.sc.names scope.names own] (hb : ∃ u, Bn Γ.mg "sum" u) (hbt : bootBuiltins "sum" = some (.builtin "sum")) (O : GOk Γ k scope) (hf : ∀ env v, genFold iter env v = pure v)
    (h : BI Γ tg iter δ L fun ds cond L1 => GnI Γ scope k own tg elt ifs δ ds cond L1 sumS (fun c L => Q (.int c) L) 0) : BE Γ (.Call (.Name "sum" p) [gX elt tg iter ifs scope gpos] [] pos) δ L Q := fun X R0 F R σ H l A S QV g => by
  obtain ⟨c, P, hcp, hT⟩ := O.cp
  obtain ⟨u, hb⟩ := hb
  obtain ⟨e1, TB⟩ := F.cp c P hcp
  refine PE_w (pe_sum (T := Γ.T) ((F.room O.calm).mono O.kk) (F.gl _ hK.mem) (by rw [F.mg]; exact hb.no) hbt TB e1 (by rw [F.qual]; exact hT) (by rw [F.qual]; exact tab_uniq A.tnd hT) (gns_of F B O.kind O.co O.scb O.cell O.dot) piW (hf _) rfl) (h X R0 F R σ H l A S _ fun J R1 H1 L1 ds cond l1 A1 Y hcnd q1 => ⟨A1.tabs, fun Sx => gn_run B O.kind O.scb O.cell F l S l1 A1 Y q1 (fun R' H' L' c x y Nx Nx' l' A' r st hN => ?_) fun R' H' L' c l' A' f => g _ _ R' H' L' l' A' .int f⟩)
  obtain ⟨j, hy, i1, i2, st⟩ := st
  refine ⟨j, ?_, i1, i2, hN _ st⟩
  rcases hy with rfl | ⟨b, rfl, e⟩
  · cases r; exact .inl rfl
  · cases r; exact .inr ⟨b, rfl, e⟩
end
end Ac
end
section
/-! Gy1: enumerate of a list. -/
namespace Ac
open PySem PySem.Spec PyProof.Rows L2
def enm : Nat → List D → List D
  | _, [] => []
  | i, d :: ds => .tup [.int (i : Nat), d] :: enm (i + 1) ds
theorem enm_len : ∀ (i : Nat) (ds : List D), (enm i ds).length = ds.length
  | _, [] => rfl
  | i, d :: ds => by unfold enm; rw [List.length_cons, List.length_cons, enm_len]
theorem enm_at : ∀ {k i : Nat} {ds : List D} {e : D}, (enm k ds)[i]? = some e → ∃ d, ds[i]? = some d ∧ e = .tup [.int ((k + i : Nat) : Int), d]
  | _, _, [], _, h => by simp [enm] at h
  | k, 0, d :: ds, e, h => by
    simp [enm] at h
    exact ⟨d, rfl, h.symm⟩
  | k, i + 1, d :: ds, e, h => by
    simp only [enm, List.getElem?_cons_succ] at h
    obtain ⟨d', h1, h2⟩ := enm_at h
    exact ⟨d', h1, by rw [h2, Nat.add_right_comm, Nat.add_assoc]⟩
section
variable {Γ : Ct} {δ : Ds} {L : Mu} {QI : List D → (Mu → Prop) → Mu → Prop} {e : Expr} {elts : List Expr} {kk : Nat} {p pos tpos : Pos}
/-- a list as it stands at each turn -/
theorem yl_enum {R : Rw} {a : Addr} {ds : List D} {cond : Mu → Prop} (hs : ∀ R1 H1 L1, Lw R R1 → AR Γ.T Γ.K R1 L1 H1 → cond L1 → ∃ vs, SqL Γ.K H1 a vs ∧ Rps Γ.K R1 vs ds) : Yl Γ (Ite Γ.K a) R cond (enm 0 ds) := fun i R1 H1 L1 l1 A1 hc => by
  obtain ⟨vs, s1, r⟩ := hs R1 H1 L1 l1 A1 hc
  refine ⟨fun d hd => ?_, fun hi => ⟨vs, s1, by rw [r.length, hi, enm_len]; exact Nat.le_refl _⟩⟩
  obtain ⟨d0, h0, rfl⟩ := enm_at hd
  rw [Nat.zero_add]
  obtain ⟨v, hv, rv⟩ := r.get h0
  refine ⟨⟨vs, v, s1, hv⟩, fun x H2 ⟨Tn, y, e1, e2, e3, e4⟩ => ?_⟩
  subst e1
  subst e3
  have hy := e4 vs s1
  rw [hv] at hy
  obtain rfl := Option.some.inj hy
  have hR := A1.sub.non e2
  exact ⟨_, Le.upd hR, A1.new e2, .tup (.inl (.inl upd_same)) (.cons .int (.cons (rv.le (Le.upd hR)) .nil))⟩
theorem bi_enumL (hb : Bn Γ.mg "enumerate" u) [hK : Kd Γ.sc.names "enumerate" .globalImplicit] (h : BE Γ e δ L fun d L1 => ∃ ds, (d = .lst ds ∨ d = .lsk ds) ∧ QI (enm 0 ds) (fun _ => True) L1) (hs : ∀ env, starEach [e] env = (false, eval e env) :: starEach [] env) : BI Γ (.Tuple elts kk tpos) (.Call (.Name "enumerate" p) [e] [] pos) δ L QI := fun X R0 F R σ H l A S QV g =>
  PI_w (pi_enum (ta := tCons (wE X e) tNil) (F.gl _ hK.mem) (by rw [F.mg]; exact hb.no) (pa_cons peW pa_nil (hs _)) (hs _)) (h X R0 F R σ H l A S _ fun v d R1 H1 L1 l1 A1 r1 q1 => by
    obtain ⟨ds, hd, q⟩ := q1
    have key : ∃ p vs, v = .ref p ∧ SqL Γ.K R1.h p vs ∧ Rps Γ.K R1 vs ds := by
      rcases hd with rfl | rfl
      · cases r1 with | lst s r => exact ⟨_, _, rfl, .inl (.inl s), r⟩
      · cases r1 with | lsk s r => exact ⟨_, _, rfl, s, r⟩
    obtain ⟨p, vs, rfl, s, r⟩ := key
    refine ⟨p, vs, rfl, by rw [F.K]; exact A1.sub.sqL s, ?_⟩
    rw [F.K]
    exact g _ R1 H1 L1 _ _ l1 A1 (yl_enum fun R2 H2 L2 l2 A2 _ => ⟨vs, A2.sub.sqL (l2.sqL s), r.lw l2⟩) trivial q)
theorem bi_enumC (hb : Bn Γ.mg "enumerate" u) [hK : Kd Γ.sc.names "enumerate" .globalImplicit] (h : BE Γ e δ L fun d L1 => ∃ (i : Nat) (ds : List D), d = .rf i ∧ L1[i]? = some (.lst ds) ∧ QI (enm 0 ds) (fun L2 => L2[i]? = some (.lst ds)) L1) (hs : ∀ env, starEach [e] env = (false, eval e env) :: starEach [] env) : BI Γ (.Tuple elts kk tpos) (.Call (.Name "enumerate" p) [e] [] pos) δ L QI := fun X R0 F R σ H l A S QV g =>
  PI_w (pi_enum (ta := tCons (wE X e) tNil) (F.gl _ hK.mem) (by rw [F.mg]; exact hb.no) (pa_cons peW pa_nil (hs _)) (hs _)) (h X R0 F R σ H l A S _ fun v d R1 H1 L1 l1 A1 r1 q1 => by
    obtain ⟨i, ds, rfl, hi, q⟩ := q1
    obtain ⟨p, rfl, hv, vs, hp, r⟩ := A1.at hi r1
    refine ⟨p, vs, rfl, .inl (.inl hp), ?_⟩
    rw [F.K]
    refine g _ R1 H1 L1 _ _ l1 A1 (yl_enum fun R2 H2 L2 l2 A2 hk => ?_) hi q
    obtain ⟨p2, e2, _, _, ws, hw, r2⟩ := A2.cel _ _ hk
    rw [l2.v _ _ hv] at e2
    obtain rfl := Option.some.inj e2
    exact ⟨ws, .inl (.inl hw), r2⟩)
end
end Ac
end
section
/-! Gy2: sorted of ints. -/
namespace Ac
open PySem PySem.Spec PyProof.Rows L2
def insI (x : Int) : List Int → List Int
  | [] => [x]
  | y :: ys => if x ≤ y then x :: y :: ys else y :: insI x ys
def sortI : List Int → List Int
  | [] => []
  | x :: xs => insI x (sortI xs)
theorem insI_perm (x : Int) : ∀ ys : List Int, (insI x ys).Perm (x :: ys)
  | [] => List.Perm.refl _
  | y :: ys => by
    unfold insI
    split
    · exact List.Perm.refl _
    · exact ((insI_perm x ys).cons y).trans (List.Perm.swap x y ys)
theorem sortI_perm : ∀ xs : List Int, (sortI xs).Perm xs
  | [] => List.Perm.refl _
  | x :: xs => (insI_perm x _).trans ((sortI_perm xs).cons x)
theorem insI_srt (x : Int) : ∀ {ys : List Int}, ys.Pairwise (· ≤ ·) → (insI x ys).Pairwise (· ≤ ·)
  | [], _ => List.pairwise_singleton _ _
  | y :: ys, h => by
    obtain ⟨h1, h2⟩ := List.pairwise_cons.mp h
    unfold insI
    split
    · rename_i hxy
      exact List.pairwise_cons.mpr ⟨fun z hz => by
        rcases List.mem_cons.mp hz with e | hz
        · rw [e]; exact hxy
        · exact Int.le_trans hxy (h1 z hz), h⟩
    · rename_i hxy
      refine List.pairwise_cons.mpr ⟨fun z hz => ?_, insI_srt x h2⟩
      rcases List.mem_cons.mp ((insI_perm x ys).mem_iff.mp hz) with e | hz
      · rw [e]; omega
      · exact h1 z hz
theorem sortI_srt : ∀ xs : List Int, (sortI xs).Pairwise (· ≤ ·)
  | [] => List.Pairwise.nil
  | x :: xs => insI_srt x (sortI_srt xs)
theorem sortI_one {xs ys : List Int} (p : ys.Perm xs) (s : ys.Pairwise (· ≤ ·)) : ys = sortI xs := PySem.W.os_sorted_one (p.trans (sortI_perm xs).symm) s (sortI_srt xs)
section
variable {Γ : Ct} {L : Mu} {Q : D → Mu → Prop}
theorem rps_intV {K : PySem.W.Frag} {R : Rw} : ∀ {ns : List Int} {vs : List V}, Rps K R vs (ns.map .int) → vs = ns.map V.int
  | [], _, r => by cases r; rfl
  | n :: ns, _, r => by
    cases r with
    | cons a b => cases a; rw [rps_intV b]; rfl
theorem bc_sortedI {d : D} {ns : List Int} (hd : LsOf L d (ns.map .int)) (hq : Q (.lst ((sortI ns).map .int)) L) : BC Γ (.builtin "sorted") [d] L Q := fun X R0 F R H vs l A r0 QV g => by
  obtain ⟨v, rfl, r⟩ := r0.one
  obtain ⟨p, ws, rfl, hp, rw'⟩ := hd.sql A r
  rw [rps_intV rw'] at hp
  refine CR_w cr_sortedI ⟨p, ns, rfl, by rw [F.K]; exact hp, fun ns' z pm pw hz => ?_⟩
  rw [sortI_one pm pw]
  exact g _ _ _ _ L (Le.upd (A.sub.non hz)) (A.new hz) (.lst upd_same (rps_ints _)) hq
theorem bc_sortedIM {d : D} {ns : List Int} (hd : LsOf L d (ns.map .int)) (hq : Q (.rf L.length) (L ++ [.lst ((sortI ns).map .int)])) : BC Γ (.builtin "sorted") [d] L Q := fun X R0 F R H vs l A r0 QV g => by
  obtain ⟨v, rfl, r⟩ := r0.one
  obtain ⟨p, ws, rfl, hp, rw'⟩ := hd.sql A r
  rw [rps_intV rw'] at hp
  refine CR_w cr_sortedI ⟨p, ns, rfl, by rw [F.K]; exact hp, fun ns' z pm pw hz => ?_⟩
  rw [sortI_one pm pw]
  obtain ⟨A2, l2⟩ := A.cell (o := .lst ((sortI ns).map V.int)) (m := .lst ((sortI ns).map .int)) hz ⟨_, upd_same, rps_ints _⟩
  exact g _ _ _ _ _ l2 A2 Rp.new hq
end
end Ac
end
section
/-! Gy3: enumerate of tuples and of texts. -/
namespace Ac
open PySem PySem.Spec PyProof.Rows L2
/-- the tuple at a, each item in a new pair -/
def IteT (K : PySem.W.Frag) (a : Addr) : It :=
  ⟨fun i H => ∃ (xs : List V) (x : V), SqT K H a xs ∧ xs[i]? = some x, fun i H v H' => ∃ T x, v = .ref T ∧ H T = none ∧ H' = upd H T (.tup [.int (i : Nat), x]) ∧ ∀ xs, SqT K H a xs → xs[i]? = some x, fun i H => ∃ xs : List V, SqT K H a xs ∧ xs.length = i⟩
theorem turn_enumT {P : Program} {w : World} {K : PySem.W.Frag} {elts : List Expr} {kk : Nat} {tpos : Pos} (a e it : Addr) :
    Turn P w K (.Tuple elts kk tpos) (IteT K a) [e, it] e (fun i h => (∃ old, IsEnum h e it ((i : Nat) : Int) old) ∧ h.IsTupleIter it a i ∧ e ≠ it ∧ e ≠ a ∧ a ≠ it) where
  mem := by simp
  obj := fun i h st b hb => by
    obtain ⟨⟨old, he⟩, ⟨o, ho, hc, hd⟩, _⟩ := st
    have e' : b = e ∨ b = it := by simpa using hb
    rcases e' with z | z
    · rw [z]; exact ⟨_, he, fun v q => nomatch q⟩
    · rw [z]; exact ⟨o, ho, fun v q => by rw [hd] at q; cases q⟩
  keep := fun i h h' st k => let ⟨⟨old, he⟩, hi, hne, h2, h3⟩ := st; ⟨⟨old, k e (by simp) _ he⟩, hi.at fun o q => k it (by simp) o q, hne, h2, h3⟩
  item := by
    intro X hP hw hK hc i pins s σ H E I hf st hg
    subst hP hw hK
    obtain ⟨⟨old, he⟩, hit, hne, hea, hai⟩ := st
    obtain ⟨xs, x, hq, hx⟩ := hg
    obtain ⟨its, rv, p, hz⟩ := I.tuple hq
    obtain ⟨u, hu, ru⟩ := rv.get hx
    have hel : e < s.heap.objs.size := Heap.lt_size he
    have hil : it < s.heap.objs.size := by obtain ⟨_, q, _⟩ := hit; exact Heap.lt_size q
    have hal : a < s.heap.objs.size := by obtain ⟨_, q, _⟩ := p; exact Heap.lt_size q
    have hlt : i < its.length := by
      have := (List.getElem?_eq_some_iff.mp hx).1
      rw [← rv.length]; exact this
    have pt : s.heap.IsTuple a its.toArray := p
    refine wpAny_pyNext_enum_itemC (Draws.tuple (A := X.A.in1) (show X.A.in1.handled = none from I.ok.hd hc) it a hai its.toArray) he ⟨hit, pt⟩ (by simpa using hlt) hne (by simp; exact ⟨hne, hea⟩) fun y h' tk hy ho st' hT hsz hk => ?_
    have hyu : y = u := by
      simp only [List.getElem?_toArray] at hy
      rw [hu] at hy
      exact (Option.some.inj hy).symm
    subst hyu
    refine ⟨_, rfl, wpAny_letOwnedTupleGo_enum (s := { s with heap := h', toks := tk + 1 }) ho fun h'' he' sb => ?_⟩
    have hT2 : h''.get? s.heap.objs.size = some { cls := .type "tuple", data := .seq #[.int i tk, y] } := (sb.2 _ (Nat.ne_of_gt hel)).trans hT
    have new : ObjOk X.prog X.w (upd H s.heap.objs.size (.tup [.int (i : Nat), x])) h'' s.heap.objs.size (.tup [.int (i : Nat), x]) :=
      ⟨by show 2 ≤ sizeLine; decide, [.int i tk, y], .cons ⟨_, rfl⟩ (.cons ru .nil), ⟨_, hT2, rfl, _, rfl⟩⟩
    have I1 : Inv X pins σ (upd H s.heap.objs.size (.tup [.int (i : Nat), x])) { s with heap := h'', toks := tk + 1 } :=
      I.turnedNew (ch := [e, it]) (fun b ob hb q => (sb.2 b (fun z => hb (by simp [z]))).trans (hk b ob (fun z => hb (by simp [z])) (fun z => hb (by simp [z])) q)) hf (Nat.le_refl _) new
    refine ⟨.ref s.heap.objs.size, _, I1, rfl, ⟨_, x, rfl, I.hok.fresh (Nat.le_refl _), rfl, fun ys hy => by rw [I.tuple_inj hy hq]; exact hx⟩, ⟨⟨y, ?_⟩, st'.1.at fun o q => (sb.2 it (Ne.symm hne)).trans q, hne, hea, hai⟩, fun b hb => ?_⟩
    · have e1 : ((i + 1 : Nat) : Int) = (i : Int) + 1 := by omega
      rw [e1]; exact he'
    · have hb' : b < s.heap.objs.size := by
        have e' : b = e ∨ b = it := by simpa using hb
        rcases e' with z | z
        · rw [z]; exact hel
        · rw [z]; exact hil
      rw [upd_ne (Nat.ne_of_lt hb')]
      exact (hf b hb).1
  done := by
    intro X hP hw hK hc i pins s σ H E I hf st hg
    subst hP hw hK
    obtain ⟨⟨old, he⟩, hit, hne, hea, hai⟩ := st
    obtain ⟨xs, hq, hx⟩ := hg
    obtain ⟨its, rv, p, hz⟩ := I.tuple hq
    obtain ⟨f0, f1, f2, f3, f4, f5⟩ := hf it (by simp)
    have hl := rv.length
    have pt : s.heap.IsTuple a its.toArray := p
    have hn : its.toArray.size = i := by simp; omega
    subst hn
    exact wpAny_pyNext_enum_endD (Draws.tuple (A := X.A.in1) (show X.A.in1.handled = none from I.ok.hd hc) it a hai its.toArray) he ⟨hit, pt⟩ fun h' eb => ⟨rfl, I.turned (t' := s.toks) (fun b o hb q => eb b o hb q) f0 f1 f3 f4 f5⟩
  self := fun A i s Q E st h => let ⟨⟨_, he⟩, _⟩ := st; wpAny_pyIter_enum he h
/-- a text, each letter in a new pair -/
def IteS (x : Str) : It :=
  ⟨fun i H => i < x.cps.size, fun i H v H' => ∃ T c, v = .ref T ∧ H T = none ∧ H' = upd H T (.tup [.int (i : Nat), .str ⟨#[c]⟩]) ∧ x.cps[i]? = some c, fun i H => x.cps.size = i⟩
theorem turn_enumS {P : Program} {w : World} {K : PySem.W.Frag} {elts : List Expr} {kk : Nat} {tpos : Pos} (x : Str) (t : Tok) (e it : Addr) :
    Turn P w K (.Tuple elts kk tpos) (IteS x) [e, it] e (fun i h => (∃ old, IsEnum h e it ((i : Nat) : Int) old) ∧ h.IsStrIter it (strIterType x) x t i ∧ e ≠ it) where
  mem := by simp
  obj := fun i h st b hb => by
    obtain ⟨⟨old, he⟩, ⟨o, ho, hc, hd⟩, _⟩ := st
    have e' : b = e ∨ b = it := by simpa using hb
    rcases e' with z | z
    · rw [z]; exact ⟨_, he, fun v q => nomatch q⟩
    · rw [z]; exact ⟨o, ho, fun v q => by rw [hd] at q; cases q⟩
  keep := fun i h h' st k => let ⟨⟨old, he⟩, hi, hne⟩ := st; ⟨⟨old, k e (by simp) _ he⟩, (let ⟨o, p, q, r⟩ := hi; ⟨o, k it (by simp) o p, q, r⟩), hne⟩
  item := by
    intro X hP hw hK hc i pins s σ H E I hf st hg
    subst hP hw hK
    obtain ⟨⟨old, he⟩, hit, hne⟩ := st
    replace hg : i < x.cps.size := hg
    have hel : e < s.heap.objs.size := Heap.lt_size he
    have hil : it < s.heap.objs.size := by obtain ⟨_, q, _⟩ := hit; exact Heap.lt_size q
    refine wpAny_pyNext_enum_itemC (Draws.text (A := X.A.in1) (show X.A.in1.handled = none from I.ok.hd hc) it x t) he hit hg hne (by simp; exact hne) fun y h' tk hy ho st' hT hsz hk => ?_
    obtain ⟨c, u, hcx, rfl⟩ := hy
    refine ⟨_, rfl, wpAny_letOwnedTupleGo_enum (s := { s with heap := h', toks := tk + 1 }) ho fun h'' he' sb => ?_⟩
    have hT2 : h''.get? s.heap.objs.size = some { cls := .type "tuple", data := .seq #[.int i tk, .str ⟨#[c]⟩ u] } := (sb.2 _ (Nat.ne_of_gt hel)).trans hT
    have new : ObjOk X.prog X.w (upd H s.heap.objs.size (.tup [.int (i : Nat), .str ⟨#[c]⟩])) h'' s.heap.objs.size (.tup [.int (i : Nat), .str ⟨#[c]⟩]) :=
      ⟨by show 2 ≤ sizeLine; decide, [.int i tk, .str ⟨#[c]⟩ u], .cons ⟨_, rfl⟩ (.cons ⟨_, rfl⟩ .nil), ⟨_, hT2, rfl, _, rfl⟩⟩
    have I1 : Inv X pins σ (upd H s.heap.objs.size (.tup [.int (i : Nat), .str ⟨#[c]⟩])) { s with heap := h'', toks := tk + 1 } :=
      I.turnedNew (ch := [e, it]) (fun b ob hb q => (sb.2 b (fun z => hb (by simp [z]))).trans (hk b ob (fun z => hb (by simp [z])) (fun z => hb (by simp [z])) q)) hf (Nat.le_refl _) new
    refine ⟨.ref s.heap.objs.size, _, I1, rfl, ⟨_, c, rfl, I.hok.fresh (Nat.le_refl _), rfl, hcx⟩, ⟨⟨.str ⟨#[c]⟩ u, ?_⟩, (let ⟨o, p, q, r⟩ := st'; ⟨o, (sb.2 it (Ne.symm hne)).trans p, q, r⟩), hne⟩, fun b hb => ?_⟩

    · have e1 : ((i + 1 : Nat) : Int) = (i : Int) + 1 := by omega
      rw [e1]; exact he'
    · have hb' : b < s.heap.objs.size := by
        have e' : b = e ∨ b = it := by simpa using hb
        rcases e' with z | z
        · rw [z]; exact hel
        · rw [z]; exact hil
      rw [upd_ne (Nat.ne_of_lt hb')]
      exact (hf b hb).1
  done := by
    intro X hP hw hK hc i pins s σ H E I hf st hg
    subst hP hw hK
    obtain ⟨⟨old, he⟩, hit, hne⟩ := st
    replace hg : x.cps.size = i := hg
    subst hg
    obtain ⟨f0, f1, f2, f3, f4, f5⟩ := hf it (by simp)
    exact wpAny_pyNext_enum_endD (Draws.text (A := X.A.in1) (show X.A.in1.handled = none from I.ok.hd hc) it x t) he hit fun h' eb => ⟨rfl, I.turned (t' := s.toks) (fun b o hb q => eb b o hb q) f0 f1 f3 f4 f5⟩
  self := fun A i s Q E st h => let ⟨⟨_, he⟩, _⟩ := st; wpAny_pyIter_enum he h
set_option maxHeartbeats 1000000 in
theorem meets_enumB1 {v : Value} {o : Obj} {H : Heap → Prop} (B : Begins v o H) :
    Meets (Builtin.«enumerate.__new__» ⟨[.type "enumerate", v], []⟩) (fun _ R s => H s.heap ∧
      R (.ok (.ret (.ref (s.heap.push o).objs.size))) { s with heap := (s.heap.push o).push { cls := .type "enumerate", data := .fields #[.none, .bool false, .ref s.heap.objs.size, rawInt 0, .none, .none] } }) :=
  .of_wp fun prog w A R s h => by
    obtain ⟨hp, g, d, tk, os⟩ := s; obtain ⟨h1, h⟩ := h
    have hsub := sub_enumerate
    have q1 : ∀ {A' : Around} {E : Value → Shared → Prop} {Q : Value → Shared → Prop}, Q (.ref hp.objs.size) ⟨hp.push o, g, d, tk, os⟩ → wpAny (model prog w) A' (pyIter v) Q E ⟨hp, g, d, tk, os⟩ :=
      fun q => B.iter prog w _ _ ⟨hp, g, d, tk, os⟩ _ h1 q
    wp_walk using q1
    refine wpAny_stack_any fun st => wpAny_pure ?_
    split
    · rename_i c _ _ _ _ _
      cases (c == Value.type "enumerate")
      · wp_walk using q1
        exact ⟨_, rfl, h⟩
      · wp_walk using q1
        exact ⟨_, rfl, h⟩
    · wp_walk using q1
      exact ⟨_, rfl, h⟩
theorem enum_begins1 {prog : Program} {w : World} {A : Around} {E : Value → Shared → Prop} {s : Shared} {v : Value} {o : Obj} {H : Heap → Prop} {Q : Value → Shared → Prop} (B : Begins v o H) (h1 : H s.heap)
    (h : ∀ h', IsEnum h' (s.heap.objs.size + 1) s.heap.objs.size 0 .none → h'.get? s.heap.objs.size = some o → h'.objs.size = s.heap.objs.size + 2 →
      (∀ b o, s.heap.get? b = some o → h'.get? b = some o) → Q (.ref (s.heap.objs.size + 1)) { s with heap := h' }) :
    wpAny (model prog w) A (call (.type "enumerate") [v]) Q E s := by
  refine callType_new F.called_enumerate (by decide) (F.typeCall_enumerate_1 _) (F.newCall_enumerate_1 _) (fun obj => F.args_object_init_2 obj _) F.entry_enumerate_new
    (meets_enumB1 B) ⟨h1, ?_⟩
  have hz : (s.heap.push o).objs.size = s.heap.objs.size + 1 := Heap.size_push ..
  show _ ∧ _
  rw [hz]
  have he : IsEnum ((s.heap.push o).push { cls := .type "enumerate", data := .fields #[.none, .bool false, .ref s.heap.objs.size, rawInt 0, .none, .none] }) (s.heap.objs.size + 1) s.heap.objs.size 0 .none := by
    have := Heap.get?_push_size (s.heap.push o) (o := { cls := .type "enumerate", data := .fields #[.none, .bool false, .ref s.heap.objs.size, rawInt 0, .none, .none] }) rfl
    rw [hz] at this; exact this
  refine ⟨⟨_, he, rfl⟩, h _ he (Heap.get?_push_of_some _ (Heap.get?_push_size _ B.free)) (by rw [Heap.size_push, hz]) fun b o x => Heap.get?_push_of_some _ (Heap.get?_push_of_some _ x)⟩
/-- enumerate of a list, a tuple, a text -/
def iEnA (K : PySem.W.Frag) (ta : TA) : TI := fun σ H R => ta σ H fun vs H1 => (∃ a xs, vs = [.ref a] ∧ SqL K H1 a xs ∧ R (Ite K a) H1) ∨ (∃ a xs, vs = [.ref a] ∧ SqT K H1 a xs ∧ R (IteT K a) H1) ∨ ∃ x, vs = [.str x] ∧ R (IteS x) H1
theorem pi_enumA {X : Cx} {e : Expr} {ta : TA} {p pos tpos : Pos} {elts : List Expr} {kk : Nat} (hg : Gl X "enumerate") (hm : X.mg "enumerate" = none) (ha : PA X [e] ta) (hs : starEach [e] X.env = [(false, eval e X.env)]) :
    PI X (.Tuple elts kk tpos) (.Call (.Name "enumerate" p) [e] [] pos) (iEnA X.K ta) := by
  refine ⟨fun pins s σ H R I h => ?_⟩
  refine Call_ (ld_blt I hg hm boot_enumerate (PyProof.Rows.callWith_type1 (thn (ha.run pos pins s σ H _ I h) fun us s1 ⟨vs, H1, I1, r1, q1⟩ => ?_) hs rfl))
  rcases q1 with ⟨a, xs, ex, hq, q⟩ | ⟨a, xs, ex, hq, q⟩ | ⟨x, ex, q⟩
  · subst ex
    cases r1 with
    | cons r rr =>
      cases rr
      cases r
      obtain ⟨its, rv, p', hz⟩ := I1.list hq
      refine call_enumerate_list p'.isList fun h' he hit hsz hk => wpAny_pyIter_enum he ?_
      have I2 : Inv X pins σ H1 { s1 with heap := h' } := I1.kept (t' := s1.toks) hk
      refine ⟨s1.heap.objs.size + 1, [s1.heap.objs.size + 1, s1.heap.objs.size], _, _, H1, rfl, I2, turn_enum a (s1.heap.objs.size + 1) s1.heap.objs.size, ⟨⟨.none, he⟩, hit, Nat.succ_ne_self _⟩, fun b hb => ?_, q⟩
      have e' : b = s1.heap.objs.size + 1 ∨ b = s1.heap.objs.size := by simpa using hb
      have hle : s1.heap.objs.size ≤ b := by
        rcases e' with z | z
        · rw [z]; exact Nat.le_add_right _ _
        · rw [z]; exact Nat.le_refl _
      exact I1.fpOk hle (I1.hok.fresh hle)
  · subst ex
    cases r1 with
    | cons r rr =>
      cases rr
      cases r
      obtain ⟨its, rv, p', hz⟩ := I1.tuple hq
      have pt : s1.heap.IsTuple a its.toArray := p'
      have hal : a < s1.heap.objs.size := by obtain ⟨_, q, _⟩ := p'; exact Heap.lt_size q
      refine enum_begins1 (begins_tuple a its.toArray) pt fun h' he hit hsz hk => wpAny_pyIter_enum he ?_
      have I2 : Inv X pins σ H1 { s1 with heap := h' } := I1.kept (t' := s1.toks) hk
      refine ⟨s1.heap.objs.size + 1, [s1.heap.objs.size + 1, s1.heap.objs.size], _, _, H1, rfl, I2, turn_enumT a (s1.heap.objs.size + 1) s1.heap.objs.size, ⟨⟨.none, he⟩, ⟨_, hit, rfl, rfl⟩, Nat.succ_ne_self _, Nat.ne_of_gt (Nat.lt_succ_of_lt hal), Nat.ne_of_lt hal⟩, fun b hb => ?_, q⟩
      have e' : b = s1.heap.objs.size + 1 ∨ b = s1.heap.objs.size := by simpa using hb
      have hle : s1.heap.objs.size ≤ b := by
        rcases e' with z | z
        · rw [z]; exact Nat.le_add_right _ _
        · rw [z]; exact Nat.le_refl _
      exact I1.fpOk hle (I1.hok.fresh hle)
  · subst ex
    cases r1 with
    | cons r rr =>
      cases rr
      obtain ⟨t, rfl⟩ := r
      refine enum_begins1 (begins_text x t) trivial fun h' he hit hsz hk => wpAny_pyIter_enum he ?_
      have I2 : Inv X pins σ H1 { s1 with heap := h' } := I1.kept (t' := s1.toks) hk
      refine ⟨s1.heap.objs.size + 1, [s1.heap.objs.size + 1, s1.heap.objs.size], _, _, H1, rfl, I2, turn_enumS x t (s1.heap.objs.size + 1) s1.heap.objs.size, ⟨⟨.none, he⟩, ⟨_, hit, rfl, rfl⟩, Nat.succ_ne_self _⟩, fun b hb => ?_, q⟩
      have e' : b = s1.heap.objs.size + 1 ∨ b = s1.heap.objs.size := by simpa using hb
      have hle : s1.heap.objs.size ≤ b := by
        rcases e' with z | z
        · rw [z]; exact Nat.le_add_right _ _
        · rw [z]; exact Nat.le_refl _
      exact I1.fpOk hle (I1.hok.fresh hle)
section
variable {Γ : Ct} {δ : Ds} {L : Mu} {QI : List D → (Mu → Prop) → Mu → Prop} {e : Expr} {elts : List Expr} {kk : Nat} {p pos tpos : Pos}
theorem yl_enumT {R : Rw} {a : Addr} {ds : List D} {vs : List V} (hs : SqT Γ.K R.h a vs) (r : Rps Γ.K R vs ds) : Yl Γ (IteT Γ.K a) R (fun _ => True) (enm 0 ds) := fun i R1 H1 L1 l1 A1 _ => by
  have s1 : SqT Γ.K H1 a vs := A1.sub.sqT (l1.sqT hs)
  have r := r.lw l1
  refine ⟨fun d hd => ?_, fun hi => ⟨vs, s1, by rw [r.length, hi, enm_len]⟩⟩
  obtain ⟨d0, h0, rfl⟩ := enm_at hd
  rw [Nat.zero_add]
  obtain ⟨v, hv, rv⟩ := r.get h0
  refine ⟨⟨vs, v, s1, hv⟩, fun x H2 ⟨Tn, y, e1, e2, e3, e4⟩ => ?_⟩
  subst e1
  subst e3
  have hy := e4 vs s1
  rw [hv] at hy
  obtain rfl := Option.some.inj hy
  have hR := A1.sub.non e2
  exact ⟨_, Le.upd hR, A1.new e2, .tup (.inl (.inl upd_same)) (.cons .int (.cons (rv.le (Le.upd hR)) .nil))⟩
theorem yl_enumS {R : Rw} {x : Tx} : Yl Γ (IteS (Tx.s x)) R (fun _ => True) (enm 0 (x.map fun c => .str [c])) := fun i R1 H1 L1 l1 A1 _ => by
  refine ⟨fun d hd => ?_, fun hi => ?_⟩
  · obtain ⟨d0, h0, rfl⟩ := enm_at hd
    rw [List.getElem?_map] at h0
    obtain ⟨c, hc, rfl⟩ := Option.map_eq_some_iff.mp h0
    rw [Nat.zero_add]
    have hl : i < x.length := (List.getElem?_eq_some_iff.mp hc).1
    refine ⟨by show i < (Tx.s x).cps.size; simpa [Tx.s] using hl, fun v H2 ⟨Tn, y, e1, e2, e3, e4⟩ => ?_⟩
    subst e1
    subst e3
    have hy : y = c := by
      have h4 : (Tx.s x).cps[i]? = some y := e4
      simp only [Tx.s, List.getElem?_toArray] at h4
      rw [hc] at h4
      exact (Option.some.inj h4).symm
    subst hy
    have hR := A1.sub.non e2
    exact ⟨_, Le.upd hR, A1.new e2, .tup (.inl (.inl upd_same)) (.cons .int (.cons (Rp.str (x := [y])) .nil))⟩
  · show (Tx.s x).cps.size = i
    rw [hi, enm_len, List.length_map]; simp [Tx.s]
/-- what does not change -/
def sqI : D → Option (List D)
  | .tup xs => some xs
  | .lst xs => some xs
  | .lsk xs => some xs
  | .str x => some (x.map fun c => .str [c])
  | _ => none
theorem bi_enumA (hb : Bn Γ.mg "enumerate" u) [hK : Kd Γ.sc.names "enumerate" .globalImplicit] (h : BE Γ e δ L fun d L1 => ∃ ds, sqI d = some ds ∧ QI (enm 0 ds) (fun _ => True) L1) (hs : ∀ env, starEach [e] env = (false, eval e env) :: starEach [] env) : BI Γ (.Tuple elts kk tpos) (.Call (.Name "enumerate" p) [e] [] pos) δ L QI := fun X R0 F R σ H l A S QV g =>
  PI_w (pi_enumA (ta := tCons (wE X e) tNil) (F.gl _ hK.mem) (by rw [F.mg]; exact hb.no) (pa_cons peW pa_nil (hs _)) (hs _)) (h X R0 F R σ H l A S _ fun v d R1 H1 L1 l1 A1 r1 q1 => by
    obtain ⟨ds, hd, q⟩ := q1
    unfold sqI at hd
    split at hd
    · cases hd
      obtain ⟨p, vs, rfl, hp, rv⟩ := sqt_of A1 r1
      refine .inr (.inl ⟨p, vs, rfl, by rw [F.K]; exact hp, ?_⟩)
      rw [F.K]
      cases r1 with | tup s r => exact g _ R1 H1 L1 _ _ l1 A1 (yl_enumT s r) trivial q
    · cases hd
      cases r1 with | lst s r =>
        refine .inl ⟨_, _, rfl, by rw [F.K]; exact A1.sub.sqL (.inl (.inl s)), ?_⟩
        rw [F.K]
        exact g _ R1 H1 L1 _ _ l1 A1 (yl_enum fun R2 H2 L2 l2 A2 _ => ⟨_, A2.sub.sqL (l2.sqL (.inl (.inl s))), r.lw l2⟩) trivial q
    · cases hd
      cases r1 with | lsk s r =>
        refine .inl ⟨_, _, rfl, by rw [F.K]; exact A1.sub.sqL s, ?_⟩
        rw [F.K]
        exact g _ R1 H1 L1 _ _ l1 A1 (yl_enum fun R2 H2 L2 l2 A2 _ => ⟨_, A2.sub.sqL (l2.sqL s), r.lw l2⟩) trivial q
    · cases hd
      cases r1
      refine .inr (.inr ⟨_, rfl, ?_⟩)
      exact g _ R1 H1 L1 _ _ l1 A1 yl_enumS trivial q
    · cases hd)
end
end Ac
end
section
/-! Gy4: pop; list(range(..)) as a cell. -/
namespace Ac
open PySem PySem.Spec PyProof.Rows L2
theorem Rps.eraseIdx {K : PySem.W.Frag} {R : Rw} : ∀ {ds : List D} {vs : List V} (i : Nat), Rps K R vs ds → Rps K R (vs.eraseIdx i) (ds.eraseIdx i)
  | [], _, _, q => by cases q; exact .nil
  | _ :: _, _, 0, q => by cases q with | cons _ t => exact t
  | _ :: _, _, i + 1, q => by cases q with | cons a t => exact .cons a (Rps.eraseIdx i t)
section
variable {Γ : Ct} {δ : Ds} {L : Mu} {Q : D → Mu → Prop} {o e : Expr} {apos pos p : Pos}
theorem be_popI (h : BE Γ o δ L fun d L1 => ∃ (k : Nat) (ds1 : List D), d = .rf k ∧ L1[k]? = some (.lst ds1) ∧ BE Γ e δ L1 fun y L2 => ∃ (ds : List D) (i : Int) (j : Nat) (z : D), y = .int i ∧ L2[k]? = some (.lst ds) ∧ -(2 ^ 63) ≤ i ∧ i < 2 ^ 63 ∧ seqIndex? i ds.length = some j ∧ ds[j]? = some z ∧ Q z (L2.set k (.lst (ds.eraseIdx j))))
    (hs : ∀ env, starEach [e] env = (false, eval e env) :: starEach [] env) (hb : ∀ env, attributeBase o "pop" env (eval o env) = eval o env) (hl : (apos.endLine == pos.line) = true)
    (hfew : ∀ env, ((backTo pos (starEach [e] env)).all (fun x => !x.1) && (backToKw pos (keywordEach [] env)).all (fun x => x.1.isSome) && decide (([e] : List Expr).length + ([] : List Keyword).length + (if ([] : List Keyword).isEmpty then 0 else 1) < 30)) = true) : BE Γ (.Call (.Attribute o "pop" apos) [e] [] pos) δ L Q := fun X R0 F R σ H l A S QV g => by
  refine PE_w (pe_bm PySem.F.plainAttrs_list PySem.F.slot_list_pop PySem.F.type_list_pop mt_popAt peW paW (hb _) (hfew _) hl (hs _) (by rfl)) ?_
  refine h X R0 F R σ H l A S _ fun v d R1 H1 L1 l1 A1 r1 q1 => ?_
  obtain ⟨k, ds1, rfl, hk1, q1⟩ := q1
  obtain ⟨p, rfl, hv, vs1, hp1, rv1⟩ := A1.at hk1 r1
  refine ⟨.inl ⟨rfl, vs1, SqL.of hp1⟩, ?_⟩
  refine PA_w (pa_cons peW pa_nil (hs _)) ?_
  refine q1 X R0 F R1 σ H1 (l.trans l1) A1 (S.le l1) _ fun y d2 R2 H2 L2 l2 A2 r2 q2 => ?_
  obtain ⟨ds, i, j, z, rfl, hk, h1, h2, hj, hz, q⟩ := q2
  cases r2
  obtain ⟨p2, e2, hv2, vs, hp, rv⟩ := A2.at hk (r1.le l2)
  cases e2
  obtain ⟨w, hw, rz⟩ := rv.get hz
  exact ⟨p, vs, i, j, w, rfl, rfl, hp, h1, h2, by rw [rv.length]; exact hj, hw, g _ _ R2 _ _ (l1.trans l2) (A2.write (m := .lst (ds.eraseIdx j)) hk hv2 hp (by trivial) ⟨vs.eraseIdx j, upd_same, rv.eraseIdx j⟩) rz q⟩
theorem be_pop0 (h : BE Γ o δ L fun d L1 => ∃ (k : Nat) (ds : List D) (z : D), d = .rf k ∧ L1[k]? = some (.lst ds) ∧ ds[ds.length - 1]? = some z ∧ Q z (L1.set k (.lst ds.dropLast)))
    (hb : ∀ env, attributeBase o "pop" env (eval o env) = eval o env) (hl : (apos.endLine == pos.line) = true) : BE Γ (.Call (.Attribute o "pop" apos) [] [] pos) δ L Q := fun X R0 F R σ H l A S QV g => by
  refine PE_w (pe_bm0 PySem.F.plainAttrs_list PySem.F.slot_list_pop PySem.F.type_list_pop mt_pop peW (hb _) hl) ?_
  refine h X R0 F R σ H l A S _ fun v d R1 H1 L1 l1 A1 r1 q1 => ?_
  obtain ⟨k, ds, z, rfl, hk, hz, q⟩ := q1
  obtain ⟨p, rfl, hv, vs, hp, rv⟩ := A1.at hk r1
  refine ⟨.inl ⟨rfl, vs, SqL.of hp⟩, ?_⟩
  obtain ⟨w, hw, rz⟩ := rv.get hz
  refine ⟨p, vs, w, rfl, rfl, hp, by rw [rv.length]; exact hw, g _ _ R1 _ _ l1 (A1.write (m := .lst ds.dropLast) hk hv hp (by trivial) ⟨vs.dropLast, upd_same, ?_⟩) rz q⟩
  rw [List.dropLast_eq_take, List.dropLast_eq_take, rv.length]
  exact rv.take _
theorem be_listRM (hb : Bn Γ.mg "list" (.type "list")) [hK : Kd Γ.sc.names "list" .globalImplicit] (hc : Γ.calm = true) (h : BR Γ e δ L fun i j L1 => RgOk i j ∧ Q (.rf L1.length) (L1 ++ [.lst ((rg i j).map .int)])) (na : ∀ env, starEach [e] env = (false, eval e env) :: starEach [] env) : BE Γ (.Call (.Name "list" p) [e] [] pos) δ L Q := fun X R0 F R σ H l A S QV g => by
  obtain ⟨te, pt, ht⟩ := h X R0 F R σ H l A S (fun i j H1 => RgOk i j ∧ ∀ q, H1 q = none → QV (.ref q) (upd H1 q (.lst (rgV i j)))) fun i j R1 H1 L1 l1 A1 q1 => ⟨q1.1, fun z hz => by
    obtain ⟨A2, l2⟩ := A1.cell (o := .lst (rgV i j)) (m := .lst ((rg i j).map .int)) hz ⟨_, upd_same, by rw [rgV_eq]; exact Rps.ofInts⟩
    exact g _ _ _ _ _ (l1.trans l2) A2 Rp.new q1.2⟩
  exact PE_w (pe_listRg (by rw [F.calm]; exact hc) (F.gl _ hK.mem) (by rw [F.mg]; exact hb.no) pt (na _)) ht
end
end Ac
namespace Ac
open PySem PySem.Spec PyProof.Rows L2
/-- sum of a tuple of ints -/
def rSumT (K : PySem.W.Frag) : List V → Hp → VK → Prop := fun us H Q => ∃ (t : Addr) (ns : List Int), us = [V.ref t] ∧ SqT K H t (ns.map V.int) ∧ Q (.int ns.sum) H
theorem cr_sumT {X : Cx} (hc : X.calm = true) : CallR X (.builtin "sum") (rSumT X.K) := by
  intro pins s σ H ws us Q I r h
  obtain ⟨t, ns, rfl, hs, q⟩ := h
  obtain ⟨its, rv, hl, _⟩ := I.tuple hs
  have hi := rv.ints
  obtain ⟨xs, e⟩ := hi.allInts.items
  have hn : numsOf (intItems xs).toList = ns := by rw [← e]; exact hi.numsOf
  rw [nums_intItems] at hn
  have pt : s.heap.IsTuple t (intItems xs) := by rw [← e]; exact hl
  rw [Vals.ref1 r]
  refine PySem.W.ktm_sumG (I.ok.hd hc) pt fun h1 tk tq hk => ?_
  refine ⟨.int ns.sum, H, I.kept hk, ⟨tq, ?_⟩, q⟩
  rw [preSum_eq, List.take_of_length_le (by simp), hn]
theorem bc_sumT {Γ : Ct} {L : Mu} {Q : D → Mu → Prop} {ns : List Int} (hc : Γ.calm = true) (hq : Q (.int ns.sum) L) : BC Γ (.builtin "sum") [.tup (ns.map .int)] L Q := fun X R0 F R H ws l A r0 QV g => by
  obtain ⟨v, rfl, r⟩ := r0.one
  obtain ⟨p, us, rfl, hp, rv⟩ := sqt_of A r
  have := rv.ints
  subst this
  exact CR_w (cr_sumT (by rw [F.calm]; exact hc)) ⟨p, ns, rfl, by rw [F.K]; exact hp, g _ _ R H L (Le.refl R) A .int hq⟩
end Ac
end
section
/-! Gy5: the least, the greatest of tuples of ints. -/
namespace Ac
open PySem PySem.Spec PyProof.Rows L2
/-- tuples in order: the first difference tells -/
def lexI : List Int → List Int → Bool
  | [], [] => false
  | [], _ :: _ => true
  | _ :: _, [] => false
  | x :: xs, y :: ys => if x = y then lexI xs ys else decide (x < y)
def lstT (x : List Int) (xs : List (List Int)) : List Int := xs.foldl (fun a y => if lexI y a = true then y else a) x
def grtT (x : List Int) (xs : List (List Int)) : List Int := xs.foldl (fun a y => if lexI a y = true then y else a) x
abbrev TI := PySem.W.Tup Int
theorem lexI_eq : ∀ xs ys : List Int, PySem.W.listLt xs ys = lexI xs ys
  | [], [] => rfl
  | [], _ :: _ => rfl
  | _ :: _, [] => rfl
  | x :: xs, y :: ys => by
    unfold PySem.W.listLt lexI
    rw [lexI_eq xs ys]; rfl
theorem lstT_eq (x : List Int) (xs : List (List Int)) : PySem.W.minOf (⟨x⟩ : TI) (xs.map fun y => ⟨y⟩) = ⟨lstT x xs⟩ := by
  unfold PySem.W.minOf lstT
  induction xs generalizing x with
  | nil => rfl
  | cons y ys ih =>
    rw [List.map_cons, List.foldl_cons, List.foldl_cons]
    have e : (PySem.W.DatumOrd.lt (⟨y⟩ : TI) ⟨x⟩ = true) ↔ (lexI y x = true) := by
      rw [← lexI_eq]; exact Iff.rfl
    by_cases h : lexI y x = true
    · rw [if_pos (e.mpr h), if_pos h]; exact ih y
    · rw [if_neg (fun z => h (e.mp z)), if_neg h]; exact ih x
theorem grtT_eq (x : List Int) (xs : List (List Int)) : PySem.W.maxOf (⟨x⟩ : TI) (xs.map fun y => ⟨y⟩) = ⟨grtT x xs⟩ := by
  unfold PySem.W.maxOf grtT
  induction xs generalizing x with
  | nil => rfl
  | cons y ys ih =>
    rw [List.map_cons, List.foldl_cons, List.foldl_cons]
    have e : (PySem.W.DatumOrd.lt (⟨x⟩ : TI) ⟨y⟩ = true) ↔ (lexI x y = true) := by
      rw [← lexI_eq]; exact Iff.rfl
    by_cases h : lexI x y = true
    · rw [if_pos (e.mpr h), if_pos h]; exact ih y
    · rw [if_neg (fun z => h (e.mp z)), if_neg h]; exact ih x
theorem ints_inj : ∀ {vs : List Value} {ns ms : List Int}, IntsAre vs ns → IntsAre vs ms → ns = ms
  | _, _, _, .nil, h => by cases h; rfl
  | _, _, _, .cons n t h, k => by
    cases k with
    | cons _ _ k => rw [ints_inj h k]
theorem holdT_inj {h : Heap} {v : Value} {x y : TI} (a : PySem.W.Holds h v x) (b : PySem.W.Holds h v y) : x = y := by
  obtain ⟨l, vs, e1, t1, h1⟩ := PySem.W.tup_of_holds a
  obtain ⟨l2, vs2, e2, t2, h2⟩ := PySem.W.tup_of_holds b
  subst e1
  cases e2
  obtain ⟨o, ho, hc, n, hd⟩ := t1
  obtain ⟨o2, ho2, hc2, n2, hd2⟩ := t2
  rw [ho] at ho2
  cases ho2
  rw [hd] at hd2
  cases hd2
  have := ints_inj h1.toInts h2.toInts
  cases x; cases y
  exact congrArg PySem.W.Tup.mk this
section
variable {X : Cx} {pins : List (Addr × Obj)} {σ : L2.St} {H : Hp} {s : Shared}
/-- values that are tuples of ints -/
def TupsI (K : PySem.W.Frag) (H : Hp) : List V → List (List Int) → Prop
  | [], [] => True
  | w :: ws, ns :: nss => (∃ t, w = .ref t ∧ SqT K H t (ns.map V.int)) ∧ TupsI K H ws nss
  | _, _ => False
theorem tups_hold (I : Inv X pins σ H s) : ∀ {ws : List V} {nss : List (List Int)} {us : List Value}, TupsI X.K H ws nss → Vals ws us → PySem.W.HoldAll s.heap us (nss.map fun y => (⟨y⟩ : TI))
  | [], [], _, _, r => by cases r; exact .nil
  | w :: ws, ns :: nss, _, h, r => by
    obtain ⟨⟨t, rfl, ht⟩, h2⟩ := h
    cases r with
    | cons r rs =>
      cases r
      obtain ⟨its, rv, p, _⟩ := I.tuple ht
      exact .cons (PySem.W.holds_tup (show s.heap.IsTuple t its.toArray from p) (PySem.W.HoldAll.of_ints rv.ints)) (tups_hold I h2 rs)
  | [], _ :: _, _, h, _ => h.elim
  | _ :: _, [], _, h, _ => h.elim
def rLeast (K : PySem.W.Frag) (b : Bool) : List V → Hp → VK → Prop := fun us H Q => ∃ (a : Addr) (ws : List V) (x : List Int) (xs : List (List Int)), us = [V.ref a] ∧ (SqL K H a ws ∨ SqT K H a ws) ∧ TupsI K H ws (x :: xs) ∧
  ∀ (i : Nat) (w : V), ws[i]? = some w → (x :: xs)[i]? = some (if b then lstT x xs else grtT x xs) → Q w H
theorem cr_least (hc : X.calm = true) (hu : X.A.units + 64 < cLine) : CallR X (.builtin "min") (rLeast X.K true) := by
  intro pins s σ H us vs Q I r h
  obtain ⟨a, ws, x, xs, rfl, hs, ht, q⟩ := h
  rw [Vals.ref1 r]
  have fin : ∀ {its : List Value}, Vals ws its → ∀ (i : Nat) v h' tk, its.toArray[i]? = some v → PySem.W.Holds h' v (PySem.W.minOf (⟨x⟩ : TI) (xs.map fun y => ⟨y⟩)) → (∀ b o, s.heap.get? b = some o → h'.get? b = some o) → EP X pins σ Q v { s with heap := h', toks := tk } := fun {its} rv i v h1 tk hv hh hk => by
    rw [lstT_eq] at hh
    have hv : its[i]? = some v := by simpa using hv
    have hw : ∃ w, ws[i]? = some w := by
      have := (List.getElem?_eq_some_iff.mp hv).1
      exact ⟨_, List.getElem?_eq_getElem (by rw [rv.length]; exact this)⟩
    obtain ⟨w, hw⟩ := hw
    obtain ⟨u, hu2, ru⟩ := rv.get hw
    rw [hv] at hu2
    cases hu2
    have HA := tups_hold I ht rv
    obtain ⟨z, hz, hz2⟩ := HA.at hv
    have e := holdT_inj (hz2.keeps hk) hh
    subst e
    have hz3 : (x :: xs)[i]? = some (lstT x xs) := by
      rw [List.getElem?_map] at hz
      obtain ⟨y, hy, e⟩ := Option.map_eq_some_iff.mp hz
      cases e
      exact hy
    exact ⟨w, H, I.kept hk, ru, q i w hw hz3⟩
  rcases hs with hs | hs
  · obtain ⟨its, rv, hl, _⟩ := I.list hs
    have HA := tups_hold I ht rv
    exact PySem.W.min_list_datum (I.ok.hd hc) hl.isList (by simpa using HA) (by show X.A.units + 1 + 1 < cLine; omega) (fin rv)
  · obtain ⟨its, rv, hl, _⟩ := I.tuple hs
    have HA := tups_hold I ht rv
    exact PySem.W.min_tuple_datum (I.ok.hd hc) (show s.heap.IsTuple a its.toArray from hl) (by simpa using HA) (by show X.A.units + 1 + 1 < cLine; omega) (fin rv)
theorem cr_greatest (hc : X.calm = true) (hu : X.A.units + 64 < cLine) : CallR X (.builtin "max") (rLeast X.K false) := by
  intro pins s σ H us vs Q I r h
  obtain ⟨a, ws, x, xs, rfl, hs, ht, q⟩ := h
  rw [Vals.ref1 r]
  have fin : ∀ {its : List Value}, Vals ws its → ∀ (i : Nat) v h' tk, its.toArray[i]? = some v → PySem.W.Holds h' v (PySem.W.maxOf (⟨x⟩ : TI) (xs.map fun y => ⟨y⟩)) → (∀ b o, s.heap.get? b = some o → h'.get? b = some o) → EP X pins σ Q v { s with heap := h', toks := tk } := fun {its} rv i v h1 tk hv hh hk => by
    rw [grtT_eq] at hh
    have hv : its[i]? = some v := by simpa using hv
    have hw : ∃ w, ws[i]? = some w := by
      have := (List.getElem?_eq_some_iff.mp hv).1
      exact ⟨_, List.getElem?_eq_getElem (by rw [rv.length]; exact this)⟩
    obtain ⟨w, hw⟩ := hw
    obtain ⟨u, hu2, ru⟩ := rv.get hw
    rw [hv] at hu2
    cases hu2
    have HA := tups_hold I ht rv
    obtain ⟨z, hz, hz2⟩ := HA.at hv
    have e := holdT_inj (hz2.keeps hk) hh
    subst e
    have hz3 : (x :: xs)[i]? = some (grtT x xs) := by
      rw [List.getElem?_map] at hz
      obtain ⟨y, hy, e⟩ := Option.map_eq_some_iff.mp hz
      cases e
      exact hy
    exact ⟨w, H, I.kept hk, ru, q i w hw hz3⟩
  rcases hs with hs | hs
  · obtain ⟨its, rv, hl, _⟩ := I.list hs
    have HA := tups_hold I ht rv
    exact PySem.W.max_list_datum (I.ok.hd hc) hl.isList (by simpa using HA) (by show X.A.units + 1 + 1 < cLine; omega) (fin rv)
  · obtain ⟨its, rv, hl, _⟩ := I.tuple hs
    have HA := tups_hold I ht rv
    exact PySem.W.max_tuple_datum (I.ok.hd hc) (show s.heap.IsTuple a its.toArray from hl) (by simpa using HA) (by show X.A.units + 1 + 1 < cLine; omega) (fin rv)
end
section
variable {Γ : Ct} {L : Mu} {Q : D → Mu → Prop}
def tupD (ns : List Int) : D := .tup (ns.map .int)
theorem rps_tups {K : PySem.W.Frag} {R : Rw} {H : Hp} {T : Tbl} (A : AR T K R L H) : ∀ {nss : List (List Int)} {ws : List V}, Rps K R ws (nss.map tupD) → TupsI K H ws nss
  | [], _, r => by cases r; trivial
  | ns :: nss, _, r => by
    cases r with
    | cons a b =>
      obtain ⟨p, vs, rfl, hp, rv⟩ := sqt_of A a
      have := rv.ints
      subst this
      exact ⟨⟨p, rfl, hp⟩, rps_tups A b⟩
theorem bc_least {d : D} {x : List Int} {xs : List (List Int)} (hd : SqOf L d ((x :: xs).map tupD)) (hc : Γ.calm = true) (hq : Q (tupD (lstT x xs)) L) : BC Γ (.builtin "min") [d] L Q := fun X R0 F R H vs l A r0 QV g => by
  obtain ⟨v, rfl, r⟩ := r0.one
  obtain ⟨p, ws, rfl, hp, rv⟩ := hd.sq A r
  refine CR_w (cr_least (by rw [F.calm]; exact hc) F.un) ⟨p, ws, x, xs, rfl, by rw [F.K]; exact hp, by rw [F.K]; exact rps_tups A rv, fun i w hw he => ?_⟩
  obtain ⟨d2, hd2, rd⟩ := rv.getV hw
  rw [List.getElem?_map, he] at hd2
  cases hd2
  exact g _ _ R H L (Le.refl R) A rd hq
theorem bc_greatest {d : D} {x : List Int} {xs : List (List Int)} (hd : SqOf L d ((x :: xs).map tupD)) (hc : Γ.calm = true) (hq : Q (tupD (grtT x xs)) L) : BC Γ (.builtin "max") [d] L Q := fun X R0 F R H vs l A r0 QV g => by
  obtain ⟨v, rfl, r⟩ := r0.one
  obtain ⟨p, ws, rfl, hp, rv⟩ := hd.sq A r
  refine CR_w (cr_greatest (by rw [F.calm]; exact hc) F.un) ⟨p, ws, x, xs, rfl, by rw [F.K]; exact hp, by rw [F.K]; exact rps_tups A rv, fun i w hw he => ?_⟩
  obtain ⟨d2, hd2, rd⟩ := rv.getV hw
  rw [List.getElem?_map, he] at hd2
  cases hd2
  exact g _ _ R H L (Le.refl R) A rd hq
end
/-! ### tuples of ints themselves -/
theorem minInt_eq (n : Int) (ns : List Int) : PySem.W.minOf n ns = ns.foldl min n := by
  unfold PySem.W.minOf
  induction ns generalizing n with
  | nil => rfl
  | cons k r ih =>
    rw [List.foldl_cons, List.foldl_cons]
    have e : (PySem.W.DatumOrd.lt k n = true) ↔ k < n := by show decide (k < n) = true ↔ _; exact decide_eq_true_iff
    by_cases h : k < n
    · rw [if_pos (e.mpr h), ih]; congr 1; omega
    · rw [if_neg (fun z => h (e.mp z)), ih]; congr 1; omega
theorem maxInt_eq (n : Int) (ns : List Int) : PySem.W.maxOf n ns = ns.foldl max n := by
  unfold PySem.W.maxOf
  induction ns generalizing n with
  | nil => rfl
  | cons k r ih =>
    rw [List.foldl_cons, List.foldl_cons]
    have e : (PySem.W.DatumOrd.lt n k = true) ↔ n < k := by show decide (n < k) = true ↔ _; exact decide_eq_true_iff
    by_cases h : n < k
    · rw [if_pos (e.mpr h), ih]; congr 1; omega
    · rw [if_neg (fun z => h (e.mp z)), ih]; congr 1; omega
def rLeastI (K : PySem.W.Frag) (b : Bool) : List V → Hp → VK → Prop := fun us H Q => ∃ (a : Addr) (n : Int) (ns : List Int), us = [V.ref a] ∧ SqT K H a ((n :: ns).map V.int) ∧ Q (.int (if b then minI (n :: ns) else maxI (n :: ns))) H
theorem cr_leastI {X : Cx} (hc : X.calm = true) (hu : X.A.units + 64 < cLine) : CallR X (.builtin "min") (rLeastI X.K true) := by
  intro pins s σ H us vs Q I r h
  obtain ⟨a, n, ns, rfl, hs, q⟩ := h
  rw [Vals.ref1 r]
  obtain ⟨its, rv, hl, _⟩ := I.tuple hs
  refine PySem.W.min_tuple_datum (α := Int) (x := n) (xs := ns) (I.ok.hd hc) (show s.heap.IsTuple a its.toArray from hl) (by simpa using PySem.W.HoldAll.of_ints rv.ints) (by show X.A.units + 1 + 0 < cLine; omega) fun i v h1 tk hv hh hk => ?_
  rw [minInt_eq] at hh
  obtain ⟨t, rfl⟩ := PySem.W.int_of_holds hh
  exact ⟨.int _, H, I.kept hk, ⟨t, rfl⟩, q⟩
theorem cr_greatestI {X : Cx} (hc : X.calm = true) (hu : X.A.units + 64 < cLine) : CallR X (.builtin "max") (rLeastI X.K false) := by
  intro pins s σ H us vs Q I r h
  obtain ⟨a, n, ns, rfl, hs, q⟩ := h
  rw [Vals.ref1 r]
  obtain ⟨its, rv, hl, _⟩ := I.tuple hs
  refine PySem.W.max_tuple_datum (α := Int) (x := n) (xs := ns) (I.ok.hd hc) (show s.heap.IsTuple a its.toArray from hl) (by simpa using PySem.W.HoldAll.of_ints rv.ints) (by show X.A.units + 1 + 0 < cLine; omega) fun i v h1 tk hv hh hk => ?_
  rw [maxInt_eq] at hh
  obtain ⟨t, rfl⟩ := PySem.W.int_of_holds hh
  exact ⟨.int _, H, I.kept hk, ⟨t, rfl⟩, q⟩
section
variable {Γ : Ct} {L : Mu} {Q : D → Mu → Prop}
theorem bc_minTu {ns : List Int} (hn : ns ≠ []) (hc : Γ.calm = true) (hq : Q (.int (minI ns)) L) : BC Γ (.builtin "min") [.tup (ns.map .int)] L Q := fun X R0 F R H ws l A r0 QV g => by
  obtain ⟨v, rfl, r⟩ := r0.one
  obtain ⟨p, us, rfl, hp, rv⟩ := sqt_of A r
  have := rv.ints
  subst this
  cases ns with
  | nil => exact (hn rfl).elim
  | cons n ns => exact CR_w (cr_leastI (by rw [F.calm]; exact hc) F.un) ⟨p, n, ns, rfl, by rw [F.K]; exact hp, g _ _ R H L (Le.refl R) A .int hq⟩
theorem bc_maxTu {ns : List Int} (hn : ns ≠ []) (hc : Γ.calm = true) (hq : Q (.int (maxI ns)) L) : BC Γ (.builtin "max") [.tup (ns.map .int)] L Q := fun X R0 F R H ws l A r0 QV g => by
  obtain ⟨v, rfl, r⟩ := r0.one
  obtain ⟨p, us, rfl, hp, rv⟩ := sqt_of A r
  have := rv.ints
  subst this
  cases ns with
  | nil => exact (hn rfl).elim
  | cons n ns => exact CR_w (cr_greatestI (by rw [F.calm]; exact hc) F.un) ⟨p, n, ns, rfl, by rw [F.K]; exact hp, g _ _ R H L (Le.refl R) A .int hq⟩
end
end Ac
end
section
/-! Gy6: sorted of lists and tuples of ints, reverse. -/
namespace PySem
section
variable {prog : Program} {w : World} {A : Around} {E : Value → Shared → Prop} {s : Shared}
/-- where the collected list stands -/
def colH (g : Heap) (xs : Array Value) : Heap := (g.push { cls := .type "list", data := .seq ([] : List Value).toArray }).update g.objs.size (Obj.mapSeq (· ++ xs))
theorem collect_at {R2 : List Value → Shared → Prop} (t : Addr) {T : String} {ob : Obj} {xs : Array Value} {n : Nat} (kT : T = "list" ∨ T = "tuple") (ht : s.heap.get? t = some ob) (kc : ob.cls = .type T) (kd : ob.data = .seq xs n)
    (fin : R2 xs.toList { s with heap := colH s.heap xs }) (kz : xs.size ≤ sizeLine) : wpAny (model prog w) A (collect (.ref t)) R2 E s := by
  unfold collect
  refine wpAny_bind (wpAny_runValue (codeAny_builtin (F.entry_proto_collect) ?_))
  rw [(Around.under_plainId (F.plain_proto_collect) _)]
  show wpAny _ A.in1 (newList [] >>= fun l => again (.builtin "list.__iadd__" ⟨[l, .ref t], []⟩)) _ _ s
  refine (wpAny_bind (wpAny_newObj_type ?_))
  refine wpAny_pure ⟨plainId_quiet (F.plain_list_iadd) _, codeAny_builtin (F.entry_list_iadd) ?_⟩
  rw [(Around.under_plainId (F.plain_list_iadd) _)]
  show wpAny _ A.in1 (Builtin.List.listExtendWith (.ref s.heap.objs.size) (.ref t) (.ref s.heap.objs.size)) _ _ _
  have k1 : (s.heap.push { cls := .type "list", data := .seq ([] : List Value).toArray }).get? s.heap.objs.size = some { cls := .type "list", data := .seq #[] 0 } := Heap.get?_push_size _ (rfl)
  have k2 := Heap.get?_update_self (Obj.mapSeq (· ++ xs)) k1 rfl
  have last : wpAny (model prog w) A (match Value.ref s.heap.objs.size with
      | Value.ref b => do
        match (← load b).data with
          | Data.seq ys _ => pure ys.toList
          | _ => unsupported ("internal:collect")
      | _ => unsupported ("internal:collect")) R2 E { s with heap := colH s.heap xs } := by
    show wpAny _ A (load (s.heap.objs.size) >>= _) _ _ _
    refine wpAny_bind (wpAny_load (show (colH s.heap xs).get? s.heap.objs.size = _ from k2) ?_)
    refine wpAny_pure ?_
    have e : ((#[] : Array Value) ++ xs).toList = xs.toList := by simp
    show R2 ((#[] : Array Value) ++ xs).toList _
    rw [e]
    exact fin
  refine wpAny_mono (wpAny_extend_seq (hsz := kz) (A := A) (R := fun r s2 => r = .ok (.ret (.ref s.heap.objs.size)) ∧ s2 = { s with heap := colH s.heap xs })
    (s := { s with heap := s.heap.push { cls := .type "list", data := .seq ([] : List Value).toArray } }) _ t _ 0 kT k1 (Heap.get?_push_of_some _ ht) kc kd ⟨rfl, rfl⟩) (fun f s2 h => ?_) (fun e s2 h => ?_)
  · cases f with
    | done f =>
      obtain ⟨e, rfl⟩ := h
      cases e
      exact last
    | again c2 => exact ⟨h.1, codeAny_mono h.2 fun r s3 hr => by obtain ⟨rfl, rfl⟩ := hr; exact last⟩
  · exact (absurd h.1 (by simp))
theorem colH_size (g : Heap) (xs : Array Value) : (colH g xs).objs.size = g.objs.size + 1 := by
  unfold colH
  rw [Heap.size_update, Heap.size_push]
theorem colH_old {g : Heap} {xs : Array Value} {b : Addr} {o : Obj} (h : g.get? b = some o) : (colH g xs).get? b = some o := by
  unfold colH
  rw [Heap.get?_update_ne _ _ _ _ (Nat.ne_of_lt (Heap.lt_size h))]
  exact Heap.get?_push_of_some _ h
end
end PySem
namespace SrtR
open PySem PyProof.Rows Srt SrtO
section
variable {prog : Program} {w : World} {A : Around} {E : Value → Shared → Prop} {s : Shared}
/-- sorted(x, ..) of a list or a tuple, by keywords that say reverse=b -/
theorem sorted_seqK {t : Addr} {T : String} {ob : Obj} {vs : List Value} {n : Nat} {b : Bool} {kw : List (Str × Value)} {ltv : Value → Value → Bool} {R2 : Value → Shared → Prop} (kT : T = "list" ∨ T = "tuple") (ht : s.heap.get? t = some ob) (kc : ob.cls = .type T) (kd : ob.data = .seq vs.toArray n) (kz : vs.length ≤ sizeLine)
    (hk : ∀ (a : Addr) (s : Shared) (R3 : PySem.Fin → Shared → Prop) (A : Around) (E : Value → Shared → Prop), wpAny (model prog w) A (Builtin.«list.sort» ⟨[.ref a], [(Str.ofString "reverse", .bool b)]⟩) R3 E s → wpAny (model prog w) A (Builtin.«list.sort» ⟨[.ref a], kw⟩) R3 E s)
    (ha1 : argsOk "sorted" ⟨[.ref t], kw⟩) (ha2 : ∀ a, argsOk "list.sort" ⟨[a], kw⟩) (O : Swo ltv)
    (hS : 2 ≤ vs.length → ∀ (g : Heap) (a : Addr), SortableO prog w A.in1.in1 { s with heap := g } a vs ltv)
    (fin : ∀ (out : List Value) (g : Heap) (e : Nat), Srtd ltv out → Stb ltv out (if b = true then vs.reverse else vs) → g.get? (s.heap.objs.size + 1) = some (seqObj "list" (if b = true then out.toArray.reverse else out.toArray) e) → (∀ c o, s.heap.get? c = some o → g.get? c = some o) → R2 (.ref (s.heap.objs.size + 1)) { s with heap := g }) :
    wpAny (model prog w) A (call (.builtin "sorted") [.ref t] kw) R2 E s := by
  refine call_function_entry_kw (kind_sorted) plain_sorted entry_sorted ha1 ?_
  unfold Builtin.«sorted»
  refine wpAny_bind (m := checkCount ("sorted") 1 1 _) (wpAny_pure ?_)
  refine wpAny_bind (collect_at t kT ht kc kd ?_ (by simpa using kz))
  refine wpAny_bind (wpAny_newList (items := vs.toArray.toList) ?_ (by simpa using kz))
  have e0 : vs.toArray.toList = vs := by simp
  rw [e0]
  have k1 : ((colH s.heap vs.toArray).push (seqObj "list" vs.toArray 0)).get? (s.heap.objs.size + 1) = some (seqObj "list" vs.toArray 0) := by
    rw [← colH_size s.heap vs.toArray]; exact Heap.get?_push_size _ (rfl)
  show wpAny _ _ _ _ _ { s with heap := (colH s.heap vs.toArray).push (seqObj "list" vs.toArray 0) }
  have k2 : ({ s with heap := colH s.heap vs.toArray } : Shared).heap.objs.size = s.heap.objs.size + 1 := colH_size _ _
  rw [k2]
  refine wpAny_bind (wpAny_holding (wpAny_call_entry_kw (slot_list_sort) ⟨_, k1, rfl⟩ entry_list_sort ?_ (ha2 _)))
  refine hk _ _ _ _ _ ?_
  refine list_sort_ordR O k1 kz (fun h2 => hS h2 _ _) fun out hs hb => ⟨_, rfl, ?_⟩
  obtain ⟨e, k3⟩ := sortedHeap_at (out := if b = true then out.toArray.reverse else out.toArray) k1
  refine wpAny_pure ⟨_, rfl, fin out _ e hs hb k3 fun c o hc => ?_⟩
  have hlt : c < s.heap.objs.size := Heap.lt_size hc
  rw [sortedHeap_old (Nat.ne_of_lt (Nat.lt_succ_of_lt hlt)) (by rw [Heap.size_push, colH_size]; exact Nat.lt_succ_of_lt (Nat.lt_succ_of_lt hlt))]
  exact Heap.get?_push_of_some _ (colH_old hc)
/-- sorted(x) of a list or a tuple -/
theorem sorted_seq0 {t : Addr} {T : String} {ob : Obj} {vs : List Value} {n : Nat} {ltv : Value → Value → Bool} {R2 : Value → Shared → Prop} (kT : T = "list" ∨ T = "tuple") (ht : s.heap.get? t = some ob) (kc : ob.cls = .type T) (kd : ob.data = .seq vs.toArray n) (kz : vs.length ≤ sizeLine)
    (O : Swo ltv) (hS : 2 ≤ vs.length → ∀ (g : Heap) (a : Addr), SortableO prog w A.in1.in1 { s with heap := g } a vs ltv)
    (fin : ∀ (out : List Value) (g : Heap) (e : Nat), Srtd ltv out → Stb ltv out vs → g.get? (s.heap.objs.size + 1) = some (seqObj "list" out.toArray e) → (∀ c o, s.heap.get? c = some o → g.get? c = some o) → R2 (.ref (s.heap.objs.size + 1)) { s with heap := g }) :
    wpAny (model prog w) A (call (.builtin "sorted") [.ref t]) R2 E s := by
  refine Calls.call_function_entry (kind_sorted) plain_sorted entry_sorted (args_sorted1 _) ?_
  unfold Builtin.«sorted»
  refine wpAny_bind (m := checkCount ("sorted") 1 1 _) (wpAny_pure ?_)
  refine wpAny_bind (collect_at t kT ht kc kd ?_ (by simpa using kz))
  refine wpAny_bind (wpAny_newList (items := vs.toArray.toList) ?_ (by simpa using kz))
  have e0 : vs.toArray.toList = vs := by simp
  rw [e0]
  have k1 : ((colH s.heap vs.toArray).push (seqObj "list" vs.toArray 0)).get? (s.heap.objs.size + 1) = some (seqObj "list" vs.toArray 0) := by
    rw [← colH_size s.heap vs.toArray]; exact Heap.get?_push_size _ (rfl)
  show wpAny _ _ _ _ _ { s with heap := (colH s.heap vs.toArray).push (seqObj "list" vs.toArray 0) }
  have k2 : ({ s with heap := colH s.heap vs.toArray } : Shared).heap.objs.size = s.heap.objs.size + 1 := colH_size _ _
  rw [k2]
  refine wpAny_bind (wpAny_holding (wpAny_call_entry (slot_list_sort) ⟨_, k1, rfl⟩ entry_list_sort (list_sort_ord O k1 kz (fun h2 => hS h2 _ _) fun out hs hb => ⟨_, rfl, ?_⟩) (args_list_sort _)))
  obtain ⟨e, k3⟩ := sortedHeap_at (out := out.toArray) k1
  refine wpAny_pure ⟨_, rfl, fin out _ e hs hb k3 fun c o hc => ?_⟩
  have hlt : c < s.heap.objs.size := Heap.lt_size hc
  rw [sortedHeap_old (Nat.ne_of_lt (Nat.lt_succ_of_lt hlt)) (by rw [Heap.size_push, colH_size]; exact Nat.lt_succ_of_lt (Nat.lt_succ_of_lt hlt))]
  exact Heap.get?_push_of_some _ (colH_old hc)
end
end SrtR
namespace L2
open PySem PySem.Spec PyProof.Rows
/-- sorted(t), a tuple of ints -/
def rSortedT (K : PySem.W.Frag) : List V → Hp → VK → Prop := fun vs H Q => ∃ (a : Addr) (ns : List Int), vs = [V.ref a] ∧ SqT K H a (ns.map V.int) ∧
  ∀ (ns' : List Int) (p : Addr), ns'.Perm ns → ns'.Pairwise (· ≤ ·) → H p = none → Q (.ref p) (upd H p (.lst (ns'.map V.int)))
/-- sorted(t, reverse=b), a tuple of ints -/
def rSortedTR (K : PySem.W.Frag) (b : Bool) : List V → List V → Hp → VK → Prop := fun vs zs H Q => ∃ (a : Addr) (ns : List Int), vs = [V.ref a] ∧ zs = [V.bl b] ∧ SqT K H a (ns.map V.int) ∧
  ∀ (ns' : List Int) (p : Addr), ns'.Perm ns → OrdB b ns' → H p = none → Q (.ref p) (upd H p (.lst (ns'.map V.int)))
section
variable {X : Cx}
theorem cr_sortedT : CallR X (.builtin "sorted") (rSortedT X.K) := by
  intro pins s σ H vs us Q I r h
  obtain ⟨a, ns, rfl, hs, q⟩ := h
  obtain ⟨its, rv, ⟨ob, ho, hc, n, hd⟩, hz⟩ := I.tuple hs
  rw [Vals.ref1 r]
  have hi := rv.ints
  refine SrtR.sorted_seq0 (.inr rfl) ho hc hd (by rw [← rv.length]; exact hz) SrtO.swo_int (fun h2 g a' => SrtO.ints_sortable hi h2) fun out g e h1 h2 hg hk => ?_
  obtain ⟨k1, k2, k3⟩ := SrtO.ints_out hi h1 h2
  have hlen : ((out.map SrtO.iv).map V.int).length ≤ sizeLine := by
    rw [List.length_map, k2.length_eq]
    rw [List.length_map] at hz
    exact hz
  exact ⟨.ref _, upd H (s.heap.objs.size + 1) (.lst ((out.map SrtO.iv).map V.int)), I.laid (t' := s.toks) hk (Nat.le_succ _) ⟨hlen, out, e, vals_of_ints k1, hg⟩, rfl, q _ _ k2 k3 (I.hok.fresh (Nat.le_succ _))⟩
theorem cr_sortedTR {b : Bool} : CallRK X (.builtin "sorted") [Str.ofString "reverse"] (rSortedTR X.K b) := by
  intro pins s σ H vs zs us ws Q I r rz h
  obtain ⟨a, ns, rfl, rfl, hs, q⟩ := h
  obtain rfl := Vals.ref1 r
  obtain ⟨w1, rfl, e1⟩ := vals1 rz
  obtain rfl : w1 = Value.bool b := e1
  obtain ⟨its, rv, ⟨ob, ho, hc, n, hd⟩, hz⟩ := I.tuple hs
  have hi := rv.ints
  refine SrtR.sorted_seqK (b := b) (.inr rfl) ho hc hd (by rw [← rv.length]; exact hz) (fun _ _ _ _ _ h => h) (PyProof.Rows.args_sorted_rev _ _) (fun _ => PyProof.Rows.args_list_sort_rev _ _) SrtO.swo_int (fun h2 g a' => SrtO.ints_sortable hi h2) fun out g e h1 h2 hg hk => ?_
  obtain ⟨ns', k1, k2, k3⟩ := SrtR.ints_outR hi h1 h2
  have hlen : (ns'.map V.int).length ≤ sizeLine := by
    rw [List.length_map, k2.length_eq]
    rw [List.length_map] at hz
    exact hz
  have e0 : ((if b = true then out.toArray.reverse else out.toArray).toList).toArray = (if b = true then out.toArray.reverse else out.toArray) := by rw [Array.toArray_toList]
  exact ⟨.ref _, upd H (s.heap.objs.size + 1) (.lst (ns'.map V.int)), I.laid (t' := s.toks) hk (Nat.le_succ _) ⟨hlen, _, e, vals_of_ints k1, by rw [e0]; exact hg⟩, rfl, q _ _ k2 k3 (I.hok.fresh (Nat.le_succ _))⟩
end
end L2
namespace Ac
open PySem PySem.Spec PyProof.Rows L2
section
variable {Γ : Ct} {L : Mu} {Q : D → Mu → Prop}
theorem bc_sortedT {ns : List Int} (hq : Q (.lst ((sortI ns).map .int)) L) : BC Γ (.builtin "sorted") [.tup (ns.map .int)] L Q := fun X R0 F R H vs l A r0 QV g => by
  obtain ⟨v, rfl, r⟩ := r0.one
  obtain ⟨p, ws, rfl, hp, rw'⟩ := sqt_of A r
  rw [rps_intV rw'] at hp
  refine CR_w cr_sortedT ⟨p, ns, rfl, by rw [F.K]; exact hp, fun ns' z pm pw hz => ?_⟩
  rw [sortI_one pm pw]
  exact g _ _ _ _ L (Le.upd (A.sub.non hz)) (A.new hz) (.lst upd_same (rps_ints _)) hq
theorem bc_sortedTM {ns : List Int} (hq : Q (.rf L.length) (L ++ [.lst ((sortI ns).map .int)])) : BC Γ (.builtin "sorted") [.tup (ns.map .int)] L Q := fun X R0 F R H vs l A r0 QV g => by
  obtain ⟨v, rfl, r⟩ := r0.one
  obtain ⟨p, ws, rfl, hp, rw'⟩ := sqt_of A r
  rw [rps_intV rw'] at hp
  refine CR_w cr_sortedT ⟨p, ns, rfl, by rw [F.K]; exact hp, fun ns' z pm pw hz => ?_⟩
  rw [sortI_one pm pw]
  obtain ⟨A2, l2⟩ := A.cell (o := .lst ((sortI ns).map V.int)) (m := .lst ((sortI ns).map .int)) hz ⟨_, upd_same, rps_ints _⟩
  exact g _ _ _ _ _ l2 A2 Rp.new hq
end
end Ac
end
section
/-! Gy7: dicts whose keys are ints and texts. -/
namespace Ac
open PySem PySem.Spec PyProof.Rows L2
/-! ### tables -/
def ktO : D → Option Kt
  | .int i => some (.inl i)
  | .str x => some (.inr x)
  | _ => none
def ktD : Kt → D
  | .inl i => .int i
  | .inr x => .str x
def valD (ks : List (Kt × D)) (k : Kt) : Option D := (ks.find? fun e => decide (e.1 = k)).map (·.2)
def putD (ks : List (Kt × D)) (k : Kt) (v : D) : List (Kt × D) :=
  if (ks.any fun e => decide (e.1 = k)) = true then ks.map (fun e => if e.1 = k then (e.1, v) else e) else ks ++ [(k, v)]
def dropD (ks : List (Kt × D)) (k : Kt) : List (Kt × D) := ks.filter fun e => decide (e.1 ≠ k)
def mergeD (ks more : List (Kt × D)) : List (Kt × D) := more.foldl (fun acc e => putD acc e.1 e.2) ks
/-- pairs of a key and a value -/
def prsO : List D → Option (List (Kt × D))
  | [] => some []
  | .tup [k, v] :: ds => match ktO k with
    | some kk => (prsO ds).map ((kk, v) :: ·)
    | none => none
  | _ => none
theorem Kt.key_inj {a b : Kt} (h : a.key = b.key) : a = b := by
  cases a with
  | inl i => cases b with
    | inl j => cases h; rfl
    | inr y => cases h
  | inr x => cases b with
    | inl j => cases h
    | inr y => exact congrArg Sum.inr (Tx.inj (Sum.inr.inj h))
theorem Kt.key_iff {a b : Kt} : a.key = b.key ↔ a = b := ⟨Kt.key_inj, fun h => by rw [h]⟩
section
variable {K : PySem.W.Frag} {R : Rw} {kvs : List (Key × V)} {ks : List (Kt × D)}
theorem ktO_v {d : D} {k : Kt} {v : V} (h : ktO d = some k) (r : Rp K R v d) : v = kV k.key := by
  cases d <;> simp only [ktO, Option.some.injEq, reduceCtorEq] at h
  · subst h; cases r; rfl
  · subst h; cases r; rfl
theorem ktD_v {k : Kt} : Rp K R (kV k.key) (ktD k) := by
  cases k with
  | inl i => exact .int
  | inr x => exact .str
theorem Rpk.anyk (r : Rpk K R kvs ks) (k : Kt) : (kvs.any fun e => decide (e.1 = k.key)) = ks.any fun e => decide (e.1 = k) := by
  induction ks generalizing kvs with
  | nil => cases r; rfl
  | cons e ks ih =>
    cases r with
    | @cons k' v' kvs' d' _ a b =>
      rw [List.any_cons, List.any_cons, ih b]
      have : decide ((Kt.key k') = k.key) = decide (k' = k) := decide_eq_decide.mpr Kt.key_iff
      exact congrArg (· || _) this
theorem Rpk.app {kvs' : List (Key × V)} {ks' : List (Kt × D)} (r : Rpk K R kvs ks) (r' : Rpk K R kvs' ks') : Rpk K R (kvs ++ kvs') (ks ++ ks') := by
  induction ks generalizing kvs with
  | nil => cases r; exact r'
  | cons e ks ih => cases r with | cons a b => exact .cons a (ih b)
theorem Rpk.repl (r : Rpk K R kvs ks) (k : Kt) {v : V} {d : D} (h : Rp K R v d) : Rpk K R (kvs.map fun e => if e.1 = k.key then (e.1, v) else e) (ks.map fun e => if e.1 = k then (e.1, d) else e) := by
  induction ks generalizing kvs with
  | nil => cases r; exact .nil
  | cons e ks ih =>
    cases r with
    | @cons k' v' kvs' d' _ a b =>
      rw [List.map_cons, List.map_cons]
      by_cases z : k' = k
      · rw [if_pos (show ((Kt.key k', v').1 = k.key) from congrArg Kt.key z), if_pos (show ((k', d').1 = k) from z)]
        exact .cons h (ih b)
      · rw [if_neg (show ¬ ((Kt.key k', v').1 = k.key) from fun y => z (Kt.key_inj y)), if_neg (show ¬ ((k', d').1 = k) from z)]
        exact .cons a (ih b)
theorem Rpk.put (r : Rpk K R kvs ks) (k : Kt) {v : V} {d : D} (h : Rp K R v d) : Rpk K R (putK kvs k.key v) (putD ks k d) := by
  unfold putK putD
  rw [r.anyk k]
  split
  · exact r.repl k h
  · exact r.app (.cons h .nil)
theorem Rpk.drop (r : Rpk K R kvs ks) (k : Kt) : Rpk K R (dropK kvs k.key) (dropD ks k) := by
  induction ks generalizing kvs with
  | nil => cases r; exact .nil
  | cons e ks ih =>
    cases r with
    | @cons k' v' kvs' d' _ a b =>
      by_cases z : k' = k
      · rw [show dropK ((Kt.key k', v') :: kvs') k.key = dropK kvs' k.key from List.filter_cons_of_neg (by simpa using congrArg Kt.key z), show dropD ((k', d') :: ks) k = dropD ks k from List.filter_cons_of_neg (by simpa using z)]
        exact ih b
      · rw [show dropK ((Kt.key k', v') :: kvs') k.key = (Kt.key k', v') :: dropK kvs' k.key from List.filter_cons_of_pos (by simpa using fun y => z (Kt.key_inj y)), show dropD ((k', d') :: ks) k = (k', d') :: dropD ks k from List.filter_cons_of_pos (by simpa using z)]
        exact .cons a (ih b)
theorem Rpk.val (r : Rpk K R kvs ks) (k : Kt) : match valD ks k with
    | some d => ∃ v, valV kvs k.key = some v ∧ Rp K R v d
    | none => valV kvs k.key = none := by
  induction ks generalizing kvs with
  | nil => cases r; exact valV_nil
  | cons e ks ih =>
    cases r with
    | @cons k' v' kvs' d' _ a b =>
      by_cases z : k' = k
      · have e1 : valD ((k', d') :: ks) k = some d' := by simp [valD, List.find?_cons, z]
        rw [e1]
        exact ⟨v', valV_pos (congrArg Kt.key z), a⟩
      · have e1 : valD ((k', d') :: ks) k = valD ks k := by simp [valD, List.find?_cons, z]
        rw [e1, valV_neg (show ¬ ((Kt.key k', v').1 = k.key) from fun y => z (Kt.key_inj y))]
        exact ih b
theorem Rpk.get (r : Rpk K R kvs ks) {k : Kt} {d : D} (h : valD ks k = some d) : ∃ v, valV kvs k.key = some v ∧ Rp K R v d := by
  have := r.val k
  rw [h] at this
  exact this
theorem Rpk.no (r : Rpk K R kvs ks) {k : Kt} (h : valD ks k = none) : valV kvs k.key = none := by
  have := r.val k
  rw [h] at this
  exact this
theorem Rpk.merge : ∀ {more : List (Key × V)} {ms : List (Kt × D)} {kvs : List (Key × V)} {ks : List (Kt × D)}, Rpk K R more ms → Rpk K R kvs ks → Rpk K R (mergeK kvs more) (mergeD ks ms)
  | _, [], _, _, r, r' => by cases r; exact r'
  | _, e :: ms, _, _, r, r' => by
    cases r with
    | cons a b => exact Rpk.merge (kvs := putK _ _ _) (ks := putD _ _ _) b (r'.put _ a)
end
section
variable {T : Tbl} {K : PySem.W.Frag} {R : Rw} {H : Hp} {L : Mu} {v : V} {d : D} {ks : List (Kt × D)}
/-- what reads as a dict -/
def DcOf (L : Mu) (d : D) (ks : List (Kt × D)) : Prop := d = .dct ks ∨ ∃ (i : Nat), d = .rf i ∧ L[i]? = some (MO.dct ks)
theorem DcOf.rd (h : DcOf L d ks) (A : AR T K R L H) (r : Rp K R v d) : ∃ p kvs, v = .ref p ∧ Rd H p (.dK kvs) ∧ Rpk K R kvs ks := by
  rcases h with rfl | ⟨i, rfl, hi⟩
  · cases r with | dct s r => exact ⟨_, _, rfl, A.sub.rd (.inl s), r⟩
  · obtain ⟨a, rfl, _, kvs, e, r⟩ := A.at hi r
    exact ⟨_, kvs, rfl, .inl e, r⟩
theorem prs_at (A : AR T K R L H) : ∀ {xs : List D} {ks : List (Kt × D)} {vs : List V}, prsO xs = some ks → Rps K R vs xs → ∃ (ps : List Addr) (kvs : List (Key × V)), vs = ps.map V.ref ∧ Paired (fun p e => SqT K H p [kV e.1, e.2]) ps kvs ∧ Rpk K R kvs ks
  | [], _, _, h, r => by
    cases h
    cases r
    exact ⟨[], [], rfl, .nil, .nil⟩
  | .tup [k, d] :: xs, ks, _, h, r => by
    unfold prsO at h
    cases hk : ktO k with
    | none => rw [hk] at h; cases h
    | some kk =>
      rw [hk] at h
      obtain ⟨ks', h', e⟩ := Option.map_eq_some_iff.mp h
      subst e
      cases r with
      | cons r1 r2 =>
        obtain ⟨p, us, rfl, hp, ru⟩ := sqt_of A r1
        cases ru with
        | cons rk rr =>
          cases rr with
          | cons rd rn =>
            cases rn
            have := ktO_v hk rk
            subst this
            obtain ⟨ps, kvs, e, hP, rP⟩ := prs_at A h' r2
            subst e
            exact ⟨p :: ps, (kk.key, _) :: kvs, rfl, .cons hp hP, .cons rd rP⟩
  | .tup [] :: _, _, _, h, _ | .tup [_] :: _, _, _, h, _ | .tup (_ :: _ :: _ :: _) :: _, _, _, h, _ => by simp [prsO] at h
  | .non :: _, _, _, h, _ | .bl _ :: _, _, _, h, _ | .int _ :: _, _, _, h, _ | .str _ :: _, _, _, h, _ | .lst _ :: _, _, _, h, _ | .dct _ :: _, _, _, h, _ | .rf _ :: _, _, _, h, _ | .ty _ :: _, _, _, h, _ | .dtt _ :: _, _, _, h, _ | .obj _ _ :: _, _, _, h, _ | .lsk _ :: _, _, _, h, _ | .lam _ :: _, _, _, h, _ => by simp [prsO] at h
end
/-! ### rules over values -/
def rIxD : R2 := fun x y H Q => ∃ a v, x = .ref a ∧ DGet H a y (some v) ∧ Q v H
def rSetD : V → V → V → Hp → (Hp → Prop) → Prop := fun o i v H Q => ∃ a H', o = .ref a ∧ DPut H a i v H' ∧ Q H'
section
variable {X : Cx}
theorem ix_dict (hu : X.A.units + 1 < cLine) : IxR X rIxD := by
  intro value slice pins s σ H x y v u Q I rx ry h hs
  obtain ⟨a, z, rfl, g, q⟩ := h
  obtain rfl : v = Value.ref a := rx
  have hT := dict_typeIs I g
  unfold subscriptTail
  refine wpAny_bind ?_
  rw [getitemInPython_of_ne hT.not_modules]
  refine wpAny_bind (wpAny_specialOf hT PySem.F.slot_dict_getitem.lookup ?_)
  have fin : wpAny (model X.prog X.w) X.A (subscripted slice false (.ref a) u) (fun r s₃ => wpAny (model X.prog X.w) X.A (letTemporaryGo value (.ref a) r >>= fun _ => pure r) (EP X pins σ Q) X.xe s₃) X.xe s := by
    rw [hs]
    exact wpAny_operating (d_getItem hu I g ry fun w' s3 I3 rw' => wpAny_bind (wpAny_letTemporaryGo (wpAny_pure ⟨z, H, I3, rw', q⟩)))
  first
    | exact wpAny_pure (wpAny_bind fin)
    | exact wpAny_bind (wpAny_pure (wpAny_bind fin))
    | exact wpAny_bind fin
theorem set_any (hu : X.A.units + 1 < cLine) : PSet X (fun o i v H Q => rSetL o i v H Q ∨ rSetD o i v H Q) := by
  intro pins s σ H o i v ov iv u Q I ro ri rv h
  rcases h with h | ⟨a, H', rfl, g, q⟩
  · exact set_list pins s σ H o i v ov iv u Q I ro ri rv h
  · obtain rfl : ov = Value.ref a := ro
    exact d_setItem hu I g ri rv fun s4 I4 => ⟨H', I4, q⟩
end
/-! ### rules over terms -/
section
variable {Γ : Ct} {L : Mu} {Q : D → Mu → Prop}
theorem bc_dict {d : D} {xs : List D} {ks : List (Kt × D)} (hc : Γ.calm = true) (hd : LsOf L d xs) (hp : prsO xs = some ks) (hq : Q (.dct (mergeD [] ks)) L) : BC Γ (.type "dict") [d] L Q := fun X R0 F R H vs l A r0 QV g => by
  obtain ⟨v, rfl, r⟩ := r0.one
  obtain ⟨p, ws, rfl, hs, rw'⟩ := hd.sql A r
  obtain ⟨ps, kvs, rfl, hP, rP⟩ := prs_at A hp rw'
  refine CR_w (call_dictP (by rw [F.calm]; exact hc)) ⟨p, ps, kvs, rfl, by rw [F.K]; exact hs, by rw [F.K]; exact hP, fun z hz => ?_⟩
  have le : Le R (R.upd z (.dK (mergeK [] kvs))) := Le.upd (A.sub.non hz)
  exact g _ _ _ _ L le (A.new hz) (.dct upd_same ((Rpk.merge rP .nil).le le)) hq
theorem bc_dictM {d : D} {xs : List D} {ks : List (Kt × D)} (hc : Γ.calm = true) (hd : LsOf L d xs) (hp : prsO xs = some ks) (hq : Q (.rf L.length) (L ++ [.dct (mergeD [] ks)])) : BC Γ (.type "dict") [d] L Q := fun X R0 F R H vs l A r0 QV g => by
  obtain ⟨v, rfl, r⟩ := r0.one
  obtain ⟨p, ws, rfl, hs, rw'⟩ := hd.sql A r
  obtain ⟨ps, kvs, rfl, hP, rP⟩ := prs_at A hp rw'
  refine CR_w (call_dictP (by rw [F.calm]; exact hc)) ⟨p, ps, kvs, rfl, by rw [F.K]; exact hs, by rw [F.K]; exact hP, fun z hz => ?_⟩
  obtain ⟨A2, l2⟩ := A.cell (o := .dK (mergeK [] kvs)) (m := .dct (mergeD [] ks)) hz ⟨_, upd_same, Rpk.merge rP .nil⟩
  exact g _ _ _ _ _ l2 A2 Rp.new hq
end
end Ac
end
section
/-! Gy8: dicts in comparisons, their length. -/
namespace Ac
open PySem PySem.Spec PyProof.Rows L2
/-- two dicts of flat values that hold the same -/
def rDq (k : Bool) : R2 := fun x y H Q => ∃ a1 a2 k1 k2, x = .ref a1 ∧ y = .ref a2 ∧ Rd H a1 (.dK k1) ∧ Rd H a2 (.dK k2) ∧ k1.length = k2.length ∧ (∀ e ∈ k1, valV k2 e.1 = some e.2 ∧ flatB e.2 = true) ∧ Q (.bl k) H
section
variable {X : Cx}
theorem op_eq_dR (room : X.A.units < cLine) : OpR X (compareOp .Eq) (rDq true) := by
  intro pins s σ H x y v1 v2 Q I r1 r2 h
  obtain ⟨a1, a2, k1, k2, rfl, rfl, e1, e2, hn, hp, q⟩ := h
  obtain rfl : v1 = Value.ref a1 := r1
  obtain rfl : v2 = Value.ref a2 := r2
  obtain ⟨_, y1, vs1, q1, d1⟩ := dk_rd I.hok e1
  obtain ⟨_, y2, vs2, q2, d2⟩ := dk_rd I.hok e2
  have el : vs1.length = vs2.length := by rw [← q1.length, ← q2.length]; exact hn
  exact PySem.W.keq_eq (r := true) (knd := mixKind X.prog X.w) y1 y2 d1 d2 room (fun _ => hits_all q2 q1 hp) (fin_bl I q (by simp [el]))
theorem op_ne_dR (room : X.A.units < cLine) : OpR X (compareOp .NotEq) (rDq false) := by
  intro pins s σ H x y v1 v2 Q I r1 r2 h
  obtain ⟨a1, a2, k1, k2, rfl, rfl, e1, e2, hn, hp, q⟩ := h
  obtain rfl : v1 = Value.ref a1 := r1
  obtain rfl : v2 = Value.ref a2 := r2
  obtain ⟨_, y1, vs1, q1, d1⟩ := dk_rd I.hok e1
  obtain ⟨_, y2, vs2, q2, d2⟩ := dk_rd I.hok e2
  have el : vs1.length = vs2.length := by rw [← q1.length, ← q2.length]; exact hn
  exact PySem.W.keq_ne (r := true) (knd := mixKind X.prog X.w) y1 y2 d1 d2 room (fun _ => hits_all q2 q1 hp) (fin_bl I q (by simp [el]))
def rDin : R2 := fun x y H Q => ∃ a o, y = .ref a ∧ DGet H a x o ∧ Q (.bl o.isSome) H
def rDnin : R2 := fun x y H Q => ∃ a o, y = .ref a ∧ DGet H a x o ∧ Q (.bl (!o.isSome)) H
theorem op_in_d (room : X.A.units + 1 < cLine) : OpR X (compareOp .In) rDin := by
  intro pins s σ H x y v1 v2 Q I r1 r2 h
  obtain ⟨a, o, rfl, g, q⟩ := h
  obtain rfl : v2 = Value.ref a := r2
  exact d_in room I g r1 fun s3 I3 => ⟨.bl o.isSome, H, I3, rfl, q⟩
theorem op_nin_d (room : X.A.units + 1 < cLine) : OpR X (compareOp .NotIn) rDnin := by
  intro pins s σ H x y v1 v2 Q I r1 r2 h
  obtain ⟨a, o, rfl, g, q⟩ := h
  obtain rfl : v2 = Value.ref a := r2
  exact d_notIn room I g r1 fun s3 I3 => ⟨.bl (!o.isSome), H, I3, rfl, q⟩
def rDlen : List V → Hp → VK → Prop := fun vs H Q => ∃ a kvs, vs = [.ref a] ∧ Rd H a (.dK kvs) ∧ Q (.int kvs.length) H
theorem cr_dlen : CallR X (.builtin "len") rDlen := by
  intro pins s σ H vs us Q I r h
  obtain ⟨a, kvs, rfl, e, q⟩ := h
  rw [Vals.ref1 r]
  exact d_len I e fun t s3 I3 => ⟨.int kvs.length, H, I3, ⟨t, rfl⟩, q⟩
end
/-- the same dict, of flat values -/
def dcEq (ks ls : List (Kt × D)) : Bool := decide (ks.length = ls.length) && ks.all fun e => e.2.fl && (match valD ls e.1 with
  | some d => D.v d == D.v e.2 && d.fl
  | none => false)
section
variable {Γ : Ct} {L : Mu} {Q : D → Mu → Prop} {x y : D} {ks ls : List (Kt × D)}
theorem flat_b {v : V} (h : flatV v = true) : flatB v = true := by cases v <;> first | rfl | cases h
theorem dcEq_at {K : PySem.W.Frag} {R : Rw} {k1 k2 : List (Key × V)} (h : dcEq ks ls = true) (r1 : Rpk K R k1 ks) (r2 : Rpk K R k2 ls) : k1.length = k2.length ∧ ∀ e ∈ k1, valV k2 e.1 = some e.2 ∧ flatB e.2 = true := by
  unfold dcEq at h
  rw [Bool.and_eq_true, decide_eq_true_eq] at h
  refine ⟨by rw [r1.length, r2.length]; exact h.1, ?_⟩
  have h2 := h.2
  clear h
  induction ks generalizing k1 with
  | nil => cases r1; intro e he; cases he
  | cons e ks ih =>
    rw [List.all_cons, Bool.and_eq_true, Bool.and_eq_true] at h2
    cases r1 with
    | @cons k v kvs d _ a b =>
      intro e he
      rcases List.mem_cons.mp he with rfl | he
      · obtain ⟨⟨f1, f2⟩, _⟩ := h2
        dsimp only at f1 f2
        cases hv : valD ls k with
        | none => rw [hv] at f2; cases f2
        | some d2 =>
          rw [hv, Bool.and_eq_true] at f2
          obtain ⟨v2, g2, p2⟩ := r2.get hv
          obtain ⟨g3, g4⟩ := D.fl_v f1 a
          obtain ⟨g5, _⟩ := D.fl_v f2.2 p2
          have g6 : D.v d2 = D.v d := eq_of_beq f2.1
          refine ⟨?_, flat_b g4⟩
          show valV k2 k.key = some v
          rw [g2, g5, g3, g6]
      · exact ih b h2.2 e he
theorem b2_eqDc (hx : DcOf L x ks) (hy : DcOf L y ls) (h : dcEq ks ls = true) (hq : Q (.bl true) L) : B2 Γ (compareOp .Eq) x y L Q := fun X R0 F R H v u l A r1 r2 QV g => by
  obtain ⟨p1, k1, rfl, e1, q1⟩ := hx.rd A r1
  obtain ⟨p2, k2, rfl, e2, q2⟩ := hy.rd A r2
  obtain ⟨h1, h2⟩ := dcEq_at h q1 q2
  have := F.un
  exact OR_w (op_eq_dR (by omega)) ⟨p1, p2, k1, k2, rfl, rfl, e1, e2, h1, h2, g _ _ R H L (Le.refl R) A .bl hq⟩
theorem b2_neDc (hx : DcOf L x ks) (hy : DcOf L y ls) (h : dcEq ks ls = true) (hq : Q (.bl false) L) : B2 Γ (compareOp .NotEq) x y L Q := fun X R0 F R H v u l A r1 r2 QV g => by
  obtain ⟨p1, k1, rfl, e1, q1⟩ := hx.rd A r1
  obtain ⟨p2, k2, rfl, e2, q2⟩ := hy.rd A r2
  obtain ⟨h1, h2⟩ := dcEq_at h q1 q2
  have := F.un
  exact OR_w (op_ne_dR (by omega)) ⟨p1, p2, k1, k2, rfl, rfl, e1, e2, h1, h2, g _ _ R H L (Le.refl R) A .bl hq⟩
theorem dget_at {K : PySem.W.Frag} {R : Rw} {H : Hp} {p : Addr} {kvs : List (Key × V)} {k : Kt} {v : V} (e : Rd H p (.dK kvs)) (hk : ktO x = some k) (r : Rp K R v x) : DGet H p v (valV kvs k.key) := .inl ⟨kvs, k.key, e, ktO_v hk r, rfl⟩
theorem Rpk.isSome {K : PySem.W.Frag} {R : Rw} {kvs : List (Key × V)} (r : Rpk K R kvs ks) (k : Kt) : (valV kvs k.key).isSome = (valD ks k).isSome := by
  have := r.val k
  cases h : valD ks k with
  | none => rw [h] at this; rw [this]; rfl
  | some d => rw [h] at this; obtain ⟨v, e, _⟩ := this; rw [e]; rfl
theorem b2_inDc {k : Kt} (hk : ktO x = some k) (hy : DcOf L y ks) (hq : Q (.bl (valD ks k).isSome) L) : B2 Γ (compareOp .In) x y L Q := fun X R0 F R H v u l A r1 r2 QV g => by
  obtain ⟨p, kvs, rfl, e, q⟩ := hy.rd A r2
  have := F.un
  exact OR_w (op_in_d (by omega)) ⟨p, _, rfl, dget_at e hk r1, g _ _ R H L (Le.refl R) A (by rw [q.isSome]; exact .bl) hq⟩
theorem b2_ninDc {k : Kt} (hk : ktO x = some k) (hy : DcOf L y ks) (hq : Q (.bl (!(valD ks k).isSome)) L) : B2 Γ (compareOp .NotIn) x y L Q := fun X R0 F R H v u l A r1 r2 QV g => by
  obtain ⟨p, kvs, rfl, e, q⟩ := hy.rd A r2
  have := F.un
  exact OR_w (op_nin_d (by omega)) ⟨p, _, rfl, dget_at e hk r1, g _ _ R H L (Le.refl R) A (by rw [q.isSome]; exact .bl) hq⟩
theorem bc_lenDc (hx : DcOf L x ks) (hq : Q (.int ks.length) L) : BC Γ (.builtin "len") [x] L Q := fun X R0 F R H vs l A r0 QV g => by
  obtain ⟨v, rfl, r⟩ := r0.one
  obtain ⟨p, kvs, rfl, e, q⟩ := hx.rd A r
  exact CR_w cr_dlen ⟨p, kvs, rfl, e, g _ _ R H L (Le.refl R) A (by rw [q.length]; exact .int) hq⟩
end
end Ac
end
section
/-! Gy9: items of lists and dicts in cells: stored, stored over. -/
namespace Ac
open PySem PySem.Spec PyProof.Rows L2
/-- d[y] = v -/
def stO (v d y : D) (L : Mu) : Option Mu := match d with
  | .rf k => match L[k]? with
    | some (.lst ds) => match y with
      | .int z => (ixN ds.length z).map fun j => L.set k (.lst (ds.set j v))
      | _ => none
    | some (.dct ks) => match ktO y with
      | some kk => if ks.length < 16777216 then some (L.set k (.dct (putD ks kk v))) else none
      | none => none
    | _ => none
  | _ => none
/-- d[y], of a cell -/
def gtO (d y : D) (L : Mu) : Option D := match d with
  | .rf k => match L[k]? with
    | some (.lst ds) => match y with
      | .int z => atI ds z
      | _ => none
    | some (.dct ks) => match ktO y with
      | some kk => valD ks kk
      | none => none
    | _ => none
  | _ => none
def rGtL : V → V → Hp → VK → Prop := fun o i H Q => ∃ p xs k z, o = .ref p ∧ i = .int k ∧ H p = some (.lst xs) ∧ atI xs k = some z ∧ Q z H
def rGtD : V → V → Hp → VK → Prop := fun o i H Q => ∃ a z, o = .ref a ∧ DGet H a i (some z) ∧ Q z H
section
variable {X : Cx}
theorem get_any (room : X.A.units + 1 < cLine) : PGet X (fun o i H Q => rGtL o i H Q ∨ rGtD o i H Q) := by
  intro pins s σ H o i ov iv Q I ro ri h
  rcases h with ⟨p, xs, k, z, rfl, rfl, hp, hk, q⟩ | ⟨a, z, rfl, g, q⟩
  · cases ro
    obtain ⟨t, rfl⟩ := ri
    obtain ⟨its, rv, pl, hz⟩ := I.list (show SqL X.K H p xs from .inl (.inl hp))
    obtain ⟨j, g1, g2, g3, g4, g5⟩ := atI_get hk
    obtain ⟨w, ew, rw'⟩ := rv.get g2
    have hl := rv.length
    have hn := line63
    have last : EP X pins σ Q w s := ⟨z, H, I, rw', q⟩
    by_cases k0 : 0 ≤ k
    · have kj : k.toNat = j := by
        rw [seqIndex_of k0 g5] at g1
        exact Option.some.inj g1
      exact wpAny_getItem_list pl.isList k0 (by omega) (by rw [kj]; simpa using ew) last
    · have kj : (k + (its.toArray.size : Int)).toNat = j := by
        rw [seqIndex_neg (by omega) g4] at g1
        rw [List.size_toArray, ← hl]
        exact Option.some.inj g1
      exact wpAny_getItem_list_neg pl.isList (by omega) (by rw [List.size_toArray] <;> omega) (by omega) (by rw [kj]; simpa using ew) last
  · obtain rfl : ov = Value.ref a := ro
    exact d_getItem room I g ri fun w' s3 I3 rw' => ⟨z, H, I3, rw', q⟩
end
section
variable {T : Tbl} {K : PySem.W.Frag} {R : Rw} {H : Hp} {L L' : Mu} {v u w : V} {d y dv : D}
theorem sto_at (A : AR T K R L H) (r1 : Rp K R v d) (r2 : Rp K R u y) (r3 : Rp K R w dv) (h : stO dv d y L = some L') {Q : Hp → Prop} (q : ∀ H', AR T K R L' H' → Q H') : rSetL v u w H Q ∨ rSetD v u w H Q := by
  unfold stO at h
  split at h
  · rename_i k
    split at h
    · rename_i ds hk
      split at h
      · rename_i z
        obtain ⟨j, hj, rfl⟩ := Option.map_eq_some_iff.mp h
        cases r2
        obtain ⟨p, rfl, hv, vs, hp, rv⟩ := A.at hk r1
        exact .inl ⟨p, vs, z, j, rfl, rfl, hp, by rw [rv.length]; exact hj, q _ (A.write (m := .lst (ds.set j dv)) hk hv hp (by trivial) ⟨vs.set j w, upd_same, rv.set r3 j⟩)⟩
      · cases h
    · rename_i ks hk
      split at h
      · rename_i kk hy
        split at h
        · rename_i hz
          cases h
          obtain ⟨p, rfl, hv, kvs, hp, rv⟩ := A.at hk r1
          have e := ktO_v hy r2
          subst e
          exact .inr ⟨p, _, rfl, DPut.k hp (by rw [rv.length, sizeLine_eq]; exact hz), q _ (A.write (m := .dct (putD ks kk dv)) hk hv hp (by trivial) ⟨_, upd_same, rv.put kk r3⟩)⟩
        · cases h
      · cases h
    · cases h
  · cases h
theorem gto_at (A : AR T K R L H) (r1 : Rp K R v d) (r2 : Rp K R u y) (h : gtO d y L = some dv) {Q : VK} (q : ∀ z, Rp K R z dv → Q z H) : rGtL v u H Q ∨ rGtD v u H Q := by
  unfold gtO at h
  split at h
  · rename_i k
    split at h
    · rename_i ds hk
      split at h
      · rename_i z
        cases r2
        obtain ⟨p, rfl, hv, vs, hp, rv⟩ := A.at hk r1
        obtain ⟨x, hx, rx⟩ := rv.atI h
        exact .inl ⟨p, vs, z, x, rfl, rfl, hp, hx, q _ rx⟩
      · cases h
    · rename_i ks hk
      split at h
      · rename_i kk hy
        obtain ⟨p, rfl, hv, kvs, hp, rv⟩ := A.at hk r1
        obtain ⟨x, hx, rx⟩ := rv.get h
        have e := ktO_v hy r2
        subst e
        exact .inr ⟨p, x, rfl, .inl ⟨kvs, kk.key, .inl hp, rfl, hx.symm⟩, q _ rx⟩
      · cases h
    · cases h
  · cases h
end
section
variable {Γ : Ct} {δ : Ds} {L : Mu} {Q : D → Mu → Prop} {pos p tpos : Pos} {o i value : Expr} {A : AEnds}
theorem bg_ixA {dv : D} {QG : Ds → Mu → Prop} (h : BE Γ o δ L fun d L1 => BE Γ i δ L1 fun y L2 => ∃ L3, stO dv d y L2 = some L3 ∧ QG δ L3)
    (ha : ∀ (env : Env) v, assign (.Subscript o i pos) env v = (do
      let x1 ← holding [v] (eval o env)
      let x2 ← holding [v, x1] (eval i env)
      standAt pos
      holding [v, x1, x2] (setItem x1 x2 v)
      release [v, x1, x2] [])) : BG Γ (.Subscript o i pos) dv δ L QG := fun X R0 F R σ H v l A S r QV g =>
  PG_w (pg_sub peW peW (set_any (by have := F.un; omega)) (ha X.env)) (h X R0 F R σ H l A S _ fun x d R1 H1 L1 l1 A1 r1 q1 => q1 X R0 F R1 σ H1 (l.trans l1) A1 (S.le l1) _ fun y d2 R2 H2 L2 l2 A2 r2 q2 => by
    obtain ⟨L3, e, q⟩ := q2
    exact sto_at A2 (r1.le l2) r2 (r.le (l1.trans l2)) e fun H' A3 => g _ _ R2 _ _ (l1.trans l2) A3 ((S.le l1).le l2) q)
theorem bs_ixAug {op : Operator} (h : BE Γ o δ L fun d L1 => BE Γ i δ L1 fun y L2 => ∃ x, gtO d y L2 = some x ∧ BE Γ value δ L2 fun w L3 => B2 Γ (inplaceOp op) x w L3 fun z L4 => ∃ L5, stO z d y L4 = some L5 ∧ A.nx δ L5)
    (ha : ∀ x1 x2 new, augStore i x1 x2 new = (do holding [new, x1, x2] (setItem x1 x2 new); release [new, x1, x2] []; pure .next)) :
    BS Γ (.AugAssign (.Subscript o i tpos) op value pos) δ L A := fun X R0 F R σ H l Ar S E g =>
  PS_w (ps_augS (tip := wR X (inplaceOp op)) peW peW (get_any (by have := F.un; omega)) peW (fun pins s σ H x y u v Q I r1 r2 h => h pins s σ u v I r1 r2) (set_any (by have := F.un; omega)) ha)
    (h X R0 F R σ H l Ar S _ fun v d R1 H1 L1 l1 A1 r1 q1 => q1 X R0 F R1 σ H1 (l.trans l1) A1 (S.le l1) _ fun u y R2 H2 L2 l2 A2 r2 q2 => by
      obtain ⟨x, hx, q2⟩ := q2
      refine gto_at A2 (r1.le l2) r2 hx fun z rz => ?_
      refine q2 X R0 F R2 σ H2 ((l.trans l1).trans l2) A2 ((S.le l1).le l2) _ fun w dw R3 H3 L3 l3 A3 r3 q3 => q3 X R0 F R3 H3 z w (((l.trans l1).trans l2).trans l3) A3 (rz.le l3) r3 _ fun z2 dz R4 H4 L4 l4 A4 r4 q4 => ?_
      obtain ⟨L5, e, q5⟩ := q4
      exact sto_at A4 (((r1.le l2).le l3).le l4) ((r2.le l3).le l4) r4 e fun H' A5 => g.nx σ δ R4 _ _ (((l1.trans l2).trans l3).trans l4) A5 ((((S.le l1).le l2).le l3).le l4) q5)
end
end Ac
end
section
/-! Gy10: count and index of ints, of texts in a list. -/
namespace Ac
open PySem PySem.Spec PyProof.Rows L2
def rCntS (K : PySem.W.Frag) : V → List V → Hp → VK → Prop := fun o as H Q => ∃ (p : Addr) (ys : List Str) (k : Str), o = .ref p ∧ as = [.str k] ∧ SqL K H p (ys.map V.str) ∧ Q (.int (ys.count k : Nat)) H
def rIdxI (K : PySem.W.Frag) : V → List V → Hp → VK → Prop := fun o as H Q => ∃ (p : Addr) (ns : List Int) (k : Int), o = .ref p ∧ as = [.int k] ∧ SqL K H p (ns.map V.int) ∧ k ∈ ns ∧ Q (.int (ns.idxOf k : Nat)) H
def rIdxS (K : PySem.W.Frag) : V → List V → Hp → VK → Prop := fun o as H Q => ∃ (p : Addr) (ys : List Str) (k : Str), o = .ref p ∧ as = [.str k] ∧ SqL K H p (ys.map V.str) ∧ k ∈ ys ∧ Q (.int (ys.idxOf k : Nat)) H
theorem countP_str (k : Str) : ∀ {vs : List Value} {ys : List Str}, StrsAre vs ys → vs.countP (isStrOf k) = ys.count k
  | _, _, .nil => rfl
  | _, _, .cons y t r => by
    rw [List.countP_cons, List.count_cons, countP_str k r]
    rfl
section
variable {X : Cx}
theorem mt_lcountA : MtR X "list.count" (fun o as H Q => rCntI X.K o as H Q ∨ rCntS X.K o as H Q) := by
  intro pins s σ H o as v us Q I r1 r2 h
  rcases h with h | ⟨p, ys, k, rfl, rfl, hs, q⟩
  · exact mt_lcount pins s σ H o as v us Q I r1 r2 h
  · cases r1
    obtain ⟨u, rfl, ru⟩ := r2.one
    obtain ⟨t, rfl⟩ := ru
    obtain ⟨its, rv, ⟨⟨c1, c2, c3, c4⟩, n, ho, hc, hdn, hd⟩, hlen⟩ := I.list hs
    simp only at hc hd
    subst hc hd
    have hi := Vals.strs rv
    refine call_meets PySem.F.slot_list_count ⟨_, ho, rfl⟩ PySem.F.entry_list_count (PySem.F.args_list_count_2 _ _)
      (SeqAt.list_countAt p its.toArray n c2 c4 (.str k t) (isStrOf k)) ⟨ho, fun y hy => (eq_isStrOf k t hi y (by simpa using hy)).at _ _, ?_⟩
    have ec : its.toArray.toList.countP (isStrOf k) = ys.count k := countP_str k hi
    refine ⟨.int (ys.count k : Nat), H, I.tok _, ⟨s.toks, ?_⟩, q⟩
    show Value.int ((its.toArray.toList.countP (isStrOf k) : Nat) : Int) s.toks = Value.int ((ys.count k : Nat) : Int) s.toks
    rw [ec]
theorem mt_lindexA : MtR X "list.index" (fun o as H Q => rIdxI X.K o as H Q ∨ rIdxS X.K o as H Q) := by
  intro pins s σ H o as v us Q I r1 r2 h
  rcases h with ⟨p, ns, k, rfl, rfl, hs, hk, q⟩ | ⟨p, ys, k, rfl, rfl, hs, hk, q⟩
  · cases r1
    obtain ⟨u, rfl, ru⟩ := r2.one
    obtain ⟨t, rfl⟩ := ru
    obtain ⟨its, rv, pl, hlen⟩ := I.list hs
    rw [List.length_map] at hlen
    exact PySem.SeqAt.list_index_ints pl.isList rv.ints hlen hk ⟨.int (ns.idxOf k : Nat), H, I.tok _, ⟨_, rfl⟩, q⟩
  · cases r1
    obtain ⟨u, rfl, ru⟩ := r2.one
    obtain ⟨t, rfl⟩ := ru
    obtain ⟨its, rv, pl, hlen⟩ := I.list hs
    rw [List.length_map] at hlen
    exact PySem.SeqAt.list_index_strs pl.isList (Vals.strs rv) hlen hk ⟨.int (ys.idxOf k : Nat), H, I.tok _, ⟨_, rfl⟩, q⟩
end
theorem rps_strV {K : PySem.W.Frag} {R : Rw} : ∀ {ns : List Tx} {vs : List V}, Rps K R vs (ns.map .str) → vs = (ns.map Tx.s).map V.str
  | [], _, r => by cases r; rfl
  | n :: ns, _, r => by
    cases r with
    | cons a b => cases a; rw [rps_strV b]; rfl
theorem beq_tx (a b : Tx) : (Tx.s a == Tx.s b) = (a == b) := by
  by_cases h : a = b
  · subst h; rw [beq_self_eq_true, beq_self_eq_true]
  · rw [beq_eq_false_iff_ne.mpr h, beq_eq_false_iff_ne.mpr fun e => h (Tx.inj e)]
theorem count_tx (k : Tx) : ∀ ns : List Tx, (ns.map Tx.s).count (Tx.s k) = ns.count k
  | [] => rfl
  | n :: ns => by rw [List.map_cons, List.count_cons, List.count_cons, count_tx k ns, beq_tx]
theorem idxOf_tx (k : Tx) : ∀ ns : List Tx, (ns.map Tx.s).idxOf (Tx.s k) = ns.idxOf k
  | [] => rfl
  | n :: ns => by rw [List.map_cons, List.idxOf_cons, List.idxOf_cons, idxOf_tx k ns, beq_tx]
section
variable {Γ : Ct} {δ : Ds} {L : Mu} {Q : D → Mu → Prop}
theorem be_cntA {o e : Expr} {apos pos : Pos} (h : BE Γ o δ L fun d L1 => ∃ ds1 : List D, LsOf L1 d ds1 ∧ BE Γ e δ L1 fun y L2 => (∃ (ns : List Int) (k : Int), y = .int k ∧ LsOf L2 d (ns.map .int) ∧ Q (.int (ns.count k : Nat)) L2) ∨ ∃ (ns : List Tx) (k : Tx), y = .str k ∧ LsOf L2 d (ns.map .str) ∧ Q (.int (ns.count k : Nat)) L2)
    (he : ∀ env, starEach [e] env = (false, eval e env) :: starEach [] env) (ho : ∀ env, attributeBase o "count" env (eval o env) = eval o env) (hl : (apos.endLine == pos.line) = true)
    (hfew : ∀ env, ((backTo pos (starEach [e] env)).all (fun x => !x.1) && (backToKw pos (keywordEach [] env)).all (fun x => x.1.isSome) && decide (([e] : List Expr).length + ([] : List Keyword).length + (if ([] : List Keyword).isEmpty then 0 else 1) < 30)) = true) : BE Γ (.Call (.Attribute o "count" apos) [e] [] pos) δ L Q := fun X R0 F R σ H l A S QV g => by
  refine PE_w (pe_bm PySem.F.plainAttrs_list PySem.F.slot_list_count PySem.F.type_list_count mt_lcountA peW paW (ho _) (hfew _) hl (he _) (by rfl)) ?_
  refine h X R0 F R σ H l A S _ fun v d R1 H1 L1 l1 A1 r1 q1 => ?_
  obtain ⟨ds1, hd, q1⟩ := q1
  obtain ⟨p, ws, rfl, hp, rw1⟩ := hd.sql A1 r1
  refine ⟨.inl ⟨rfl, ws, by rw [F.K]; exact hp⟩, ?_⟩
  refine PA_w (pa_cons peW pa_nil (he _)) ?_
  refine q1 X R0 F R1 σ H1 (l.trans l1) A1 (S.le l1) _ fun y d2 R2 H2 L2 l2 A2 r2 q2 => ?_
  rcases q2 with ⟨ns, k, rfl, hd2, q⟩ | ⟨ns, k, rfl, hd2, q⟩
  · cases r2
    obtain ⟨p2, ws2, e2, hp2, rw2⟩ := hd2.sql A2 (r1.le l2)
    cases e2
    have := rps_intV rw2
    subst this
    exact .inl ⟨p, ns, k, rfl, rfl, by rw [F.K]; exact hp2, g _ _ R2 H2 L2 (l1.trans l2) A2 .int q⟩
  · cases r2
    obtain ⟨p2, ws2, e2, hp2, rw2⟩ := hd2.sql A2 (r1.le l2)
    cases e2
    have := rps_strV rw2
    subst this
    exact .inr ⟨p, _, Tx.s k, rfl, rfl, by rw [F.K]; exact hp2, by rw [count_tx]; exact g _ _ R2 H2 L2 (l1.trans l2) A2 .int q⟩
theorem be_idxA {o e : Expr} {apos pos : Pos} (h : BE Γ o δ L fun d L1 => ∃ ds1 : List D, LsOf L1 d ds1 ∧ BE Γ e δ L1 fun y L2 => (∃ (ns : List Int) (k : Int), y = .int k ∧ LsOf L2 d (ns.map .int) ∧ k ∈ ns ∧ Q (.int (ns.idxOf k : Nat)) L2) ∨ ∃ (ns : List Tx) (k : Tx), y = .str k ∧ LsOf L2 d (ns.map .str) ∧ k ∈ ns ∧ Q (.int (ns.idxOf k : Nat)) L2)
    (he : ∀ env, starEach [e] env = (false, eval e env) :: starEach [] env) (ho : ∀ env, attributeBase o "index" env (eval o env) = eval o env) (hl : (apos.endLine == pos.line) = true)
    (hfew : ∀ env, ((backTo pos (starEach [e] env)).all (fun x => !x.1) && (backToKw pos (keywordEach [] env)).all (fun x => x.1.isSome) && decide (([e] : List Expr).length + ([] : List Keyword).length + (if ([] : List Keyword).isEmpty then 0 else 1) < 30)) = true) : BE Γ (.Call (.Attribute o "index" apos) [e] [] pos) δ L Q := fun X R0 F R σ H l A S QV g => by
  refine PE_w (pe_bm PySem.F.plainAttrs_list PySem.F.slot_list_index PySem.F.type_list_index mt_lindexA peW paW (ho _) (hfew _) hl (he _) (by rfl)) ?_
  refine h X R0 F R σ H l A S _ fun v d R1 H1 L1 l1 A1 r1 q1 => ?_
  obtain ⟨ds1, hd, q1⟩ := q1
  obtain ⟨p, ws, rfl, hp, rw1⟩ := hd.sql A1 r1
  refine ⟨.inl ⟨rfl, ws, by rw [F.K]; exact hp⟩, ?_⟩
  refine PA_w (pa_cons peW pa_nil (he _)) ?_
  refine q1 X R0 F R1 σ H1 (l.trans l1) A1 (S.le l1) _ fun y d2 R2 H2 L2 l2 A2 r2 q2 => ?_
  rcases q2 with ⟨ns, k, rfl, hd2, hk, q⟩ | ⟨ns, k, rfl, hd2, hk, q⟩
  · cases r2
    obtain ⟨p2, ws2, e2, hp2, rw2⟩ := hd2.sql A2 (r1.le l2)
    cases e2
    have := rps_intV rw2
    subst this
    exact .inl ⟨p, ns, k, rfl, rfl, by rw [F.K]; exact hp2, hk, g _ _ R2 H2 L2 (l1.trans l2) A2 .int q⟩
  · cases r2
    obtain ⟨p2, ws2, e2, hp2, rw2⟩ := hd2.sql A2 (r1.le l2)
    cases e2
    have := rps_strV rw2
    subst this
    exact .inr ⟨p, _, Tx.s k, rfl, rfl, by rw [F.K]; exact hp2, List.mem_map.mpr ⟨k, hk, rfl⟩, by rw [idxOf_tx]; exact g _ _ R2 H2 L2 (l1.trans l2) A2 .int q⟩
end
end Ac
end
section
/-! Gy11: lists added and repeated, as cells. -/
namespace Ac
open PySem PySem.Spec PyProof.Rows L2
section
variable {Γ : Ct} {L : Mu} {Q : D → Mu → Prop}
theorem b2_catM {x y : D} {xs ys : List D} (hx : LtOf L x xs) (hy : LtOf L y ys) (hz : xs.length + ys.length ≤ sizeLine) (hq : Q (.rf L.length) (L ++ [.lst (xs ++ ys)])) : B2 Γ (binaryOp .Add) x y L Q := fun X R0 F R H v u l A r1 r2 QV g => by
  obtain ⟨p1, vs, rfl, e1, q1⟩ := hx.at A r1
  obtain ⟨p2, ws, rfl, e2, q2⟩ := hy.at A r2
  refine OR_w op_cat ⟨p1, p2, vs, ws, rfl, rfl, e1, e2, by rw [q1.length, q2.length]; exact hz, fun z e3 => ?_⟩
  obtain ⟨A2, l2⟩ := A.cell (o := .lst (vs ++ ws)) (m := .lst (xs ++ ys)) e3 ⟨_, upd_same, q1.append q2⟩
  exact g _ _ _ _ _ l2 A2 Rp.new hq
theorem b2_repM {x : D} {xs : List D} {k : Int} (hx : LtOf L x xs) (h1 : -(2 ^ 63) ≤ k) (h2 : k < 2 ^ 63) (hz : xs.length * k.toNat ≤ sizeLine) (hq : Q (.rf L.length) (L ++ [.lst (List.replicate k.toNat xs).flatten])) : B2 Γ (binaryOp .Mult) x (.int k) L Q := fun X R0 F R H v u l A r1 r2 QV g => by
  obtain ⟨p1, vs, rfl, e1, q1⟩ := hx.at A r1
  cases r2
  refine OR_w op_rep ⟨p1, k, vs, rfl, rfl, e1, h1, h2, by rw [q1.length]; exact hz, fun z e3 => ?_⟩
  obtain ⟨A2, l2⟩ := A.cell (m := .lst (List.replicate k.toNat xs).flatten) e3 ⟨_, upd_same, flatten_rep q1 _⟩
  exact g _ _ _ _ _ l2 A2 Rp.new hq
end
end Ac
end
section
/-! Gy12: count of a text in a text. -/
namespace Ac
open PySem PySem.Spec PyProof.Rows L2
section
variable {Γ : Ct} {δ : Ds} {L : Mu} {Q : D → Mu → Prop} {o e : Expr} {apos pos : Pos}
theorem be_scnt (h : BE Γ o δ L fun d L1 => ∃ a : Tx, d = .str a ∧ BE Γ e δ L1 fun d2 L2 => ∃ b : Tx, d2 = .str b ∧ Q (.int (Txt.count (Tx.s a) (Tx.s b))) L2) (he : ∀ env, starEach [e] env = [(false, eval e env)]) (ho : ∀ env, attributeBase o "count" env (eval o env) = eval o env) (hl : (apos.endLine == pos.line) = true) :
    BE Γ (.Call (.Attribute o "count" apos) [e] [] pos) δ L Q := fun X R0 F R σ H l A S QV g =>
  PE_w (pe_m1 PySem.F.slot_str_count PySem.F.type_str_count mt_count peW peW (he _) (ho _) hl) (h X R0 F R σ H l A S _ fun v d R1 H1 L1 l1 A1 r1 q1 => by
    obtain ⟨a, rfl, q1⟩ := q1
    cases r1
    exact ⟨⟨Tx.s a, rfl⟩, q1 X R0 F R1 σ H1 (l.trans l1) A1 (S.le l1) _ fun u d2 R2 H2 L2 l2 A2 r2 q2 => by
      obtain ⟨b, rfl, q2⟩ := q2
      cases r2
      exact ⟨Tx.s a, Tx.s b, rfl, rfl, g _ _ R2 H2 L2 (l1.trans l2) A2 .int q2⟩⟩)
end
end Ac
end
section
/-! Gy13: sorted of texts. -/
namespace SrtT
open PySem PyProof.Rows Srt SrtO
/-- a text's signs -/
def sg (v : Value) : List Nat := (strOf v).cps.toList
def ltSg (v u : Value) : Bool := decide (sg v < sg u)
theorem swo_sg : Swo ltSg := by
  refine ⟨fun x y h => ?_, fun x y z h1 h2 => ?_⟩
  · have a := of_decide_eq_true (p := sg x < sg y) h
    exact decide_eq_false (p := sg y < sg x) (List.lt_asymm a)
  · have a := of_decide_eq_false (p := sg y < sg x) h1
    have b := of_decide_eq_false (p := sg z < sg y) h2
    exact decide_eq_false (p := sg z < sg x) (List.not_lt.mpr (List.le_trans (List.not_lt.mp a) (List.not_lt.mp b)))
section
variable {prog : Program} {w : World} {A : Around} {E : Value → Shared → Prop} {s : Shared}
theorem txs_sortable {a : Addr} {vs : List Value} {ys : List Str} (hI : StrsAre vs ys) (h2 : 2 ≤ vs.length) : SortableO prog w A s a vs ltSg := by
  intro h' _
  refine ⟨oneType', fun Q E hq => ?_, fun p q hm hm' => ?_⟩
  · match vs, hI, h2 with
    | v1 :: v2 :: rest, hI, _ =>
      rw [keyKind_strs hI]
      exact wpAny_pure hq
    | [], _, h => exact absurd h (by decide)
    | [v], _, h => exact absurd h (by simp)
  · obtain ⟨x, t, e⟩ := hI.all _ hm
    obtain ⟨y, u, e'⟩ := hI.all _ hm'
    show wpAny (model prog w) A (keyLt' oneType' p.1 q.1) (fun r s' => s' = _ ∧ r = ltSg p.1 q.1) (fun _ _ => False) _
    rw [e, e']
    exact PySem.W.kas_lt_str ⟨rfl, rfl⟩
theorem txs_out {vs out : List Value} {ys : List Str} (hI : StrsAre vs ys) (hs : Srtd ltSg out) (hb : Stb ltSg out vs) : StrsAre out (out.map strOf) ∧ (out.map strOf).Perm ys ∧ (out.map strOf).Pairwise (fun a b => ¬ b.cps.toList < a.cps.toList) := by
  refine ⟨strsAre_map _ fun v hv => hI.all v (hb.perm.mem_iff.mp hv), ?_, ?_⟩
  · have q := hb.perm.map strOf
    rw [hI.strs] at q
    exact q
  · exact List.pairwise_map.mpr (hs.imp fun {x y} h => of_decide_eq_false (p := sg y < sg x) h)
end
end SrtT
namespace Ac
open PySem PySem.Spec PyProof.Rows L2
def insT (x : Tx) : List Tx → List Tx
  | [] => [x]
  | y :: ys => if y < x then y :: insT x ys else x :: y :: ys
def sortT : List Tx → List Tx
  | [] => []
  | x :: xs => insT x (sortT xs)
theorem insT_perm (x : Tx) : ∀ ys : List Tx, (insT x ys).Perm (x :: ys)
  | [] => List.Perm.refl _
  | y :: ys => by
    unfold insT
    split
    · exact ((insT_perm x ys).cons y).trans (List.Perm.swap x y ys)
    · exact List.Perm.refl _
theorem sortT_perm : ∀ xs : List Tx, (sortT xs).Perm xs
  | [] => List.Perm.refl _
  | x :: xs => (insT_perm x _).trans ((sortT_perm xs).cons x)
theorem insT_srt (x : Tx) : ∀ {ys : List Tx}, ys.Pairwise (fun a b => ¬ b < a) → (insT x ys).Pairwise (fun a b => ¬ b < a)
  | [], _ => List.pairwise_singleton _ _
  | y :: ys, h => by
    obtain ⟨h1, h2⟩ := List.pairwise_cons.mp h
    unfold insT
    split
    · rename_i hxy
      refine List.pairwise_cons.mpr ⟨fun z hz => ?_, insT_srt x h2⟩
      rcases List.mem_cons.mp ((insT_perm x ys).mem_iff.mp hz) with e | hz
      · rw [e]; exact List.lt_asymm hxy
      · exact h1 z hz
    · rename_i hxy
      refine List.pairwise_cons.mpr ⟨fun z hz => ?_, h⟩
      rcases List.mem_cons.mp hz with e | hz
      · rw [e]; exact hxy
      · exact List.not_lt.mpr (List.le_trans (List.not_lt.mp hxy) (List.not_lt.mp (h1 z hz)))
theorem sortT_srt : ∀ xs : List Tx, (sortT xs).Pairwise (fun a b => ¬ b < a)
  | [] => List.Pairwise.nil
  | x :: xs => insT_srt x (sortT_srt xs)
theorem sortT_one {xs ys : List Tx} (p : ys.Perm xs) (s : ys.Pairwise (fun a b => ¬ b < a)) : ys = sortT xs :=
  (p.trans (sortT_perm xs).symm).eq_of_pairwise (fun a b _ _ h1 h2 => List.le_antisymm (List.not_lt.mp h1) (List.not_lt.mp h2)) s (sortT_srt xs)
end Ac
end
section
/-! Gy14: sorted of texts, the call. -/
namespace L2
open PySem PySem.Spec PyProof.Rows
/-- sorted(xs), a list or a tuple of texts -/
def rSortedX (K : PySem.W.Frag) : List V → Hp → VK → Prop := fun as H Q => ∃ (a : Addr) (ys : List Str), as = [V.ref a] ∧ (SqL K H a (ys.map V.str) ∨ SqT K H a (ys.map V.str)) ∧
  ∀ (zs : List Str) (p : Addr), zs.Perm ys → zs.Pairwise (fun x y => ¬ y.cps.toList < x.cps.toList) → H p = none → Q (.ref p) (upd H p (.lst (zs.map V.str)))
theorem valsX_strs : ∀ {us : List Value} {ys : List Str}, StrsAre us ys → Vals (ys.map V.str) us
  | _, _, .nil => .nil
  | _, _, .cons y t r => .cons ⟨t, rfl⟩ (valsX_strs r)
section
variable {X : Cx}
theorem sorted_txs {pins : List (Addr × Obj)} {σ : St} {H : Hp} {s : Shared} {Q : VK} {a : Addr} {T : String} {ob : Obj} {its : List Value} {n : Nat} {ys : List Str} (I : Inv X pins σ H s) (kT : T = "list" ∨ T = "tuple") (ho : s.heap.get? a = some ob) (hc : ob.cls = .type T) (hd : ob.data = .seq its.toArray n) (rv : Vals (ys.map V.str) its) (hz : (ys.map V.str).length ≤ sizeLine)
    (q : ∀ (zs : List Str) (p : Addr), zs.Perm ys → zs.Pairwise (fun x y => ¬ y.cps.toList < x.cps.toList) → H p = none → Q (.ref p) (upd H p (.lst (zs.map V.str)))) : wpAny (model X.prog X.w) X.A (call (.builtin "sorted") [.ref a]) (EP X pins σ Q) X.xe s := by
  have hi := Vals.strs rv
  refine SrtR.sorted_seq0 kT ho hc hd (by rw [← rv.length]; exact hz) SrtT.swo_sg (fun h2 g a' => SrtT.txs_sortable hi h2) fun out g e h1 h2 hg hk => ?_
  obtain ⟨k1, k2, k3⟩ := SrtT.txs_out hi h1 h2
  have hlen : ((out.map strOf).map V.str).length ≤ sizeLine := by
    rw [List.length_map, k2.length_eq]
    rw [List.length_map] at hz
    exact hz
  exact ⟨.ref _, upd H (s.heap.objs.size + 1) (.lst ((out.map strOf).map V.str)), I.laid (t' := s.toks) hk (Nat.le_succ _) ⟨hlen, out, e, valsX_strs k1, hg⟩, rfl, q _ _ k2 k3 (I.hok.fresh (Nat.le_succ _))⟩
theorem cr_sortedX : CallR X (.builtin "sorted") (rSortedX X.K) := by
  intro pins s σ H vs us Q I r h
  obtain ⟨a, ys, rfl, hs, q⟩ := h
  rw [Vals.ref1 r]
  rcases hs with hs | hs
  · obtain ⟨its, rv, ⟨ob, n, ho, hc, _, hd⟩, hz⟩ := I.list hs
    exact sorted_txs I (.inl rfl) ho hc hd rv hz q
  · obtain ⟨its, rv, ⟨ob, ho, hc, n, hd⟩, hz⟩ := I.tuple hs
    exact sorted_txs I (.inr rfl) ho hc hd rv hz q
end
end L2
namespace Ac
open PySem PySem.Spec PyProof.Rows L2
section
variable {Γ : Ct} {L : Mu} {Q : D → Mu → Prop}
theorem rps_strs {K : PySem.W.Frag} {R : Rw} : ∀ ns : List Tx, Rps K R ((ns.map Tx.s).map V.str) (ns.map .str)
  | [] => .nil
  | n :: ns => .cons .str (rps_strs ns)
theorem tx_back {zs : List Str} {ns : List Tx} (p : zs.Perm (ns.map Tx.s)) (s : zs.Pairwise (fun x y => ¬ y.cps.toList < x.cps.toList)) : zs = (sortT ns).map Tx.s := by
  have e0 : ∀ z : Str, Tx.s z.cps.toList = z := fun z => by
    show (⟨z.cps.toList.toArray⟩ : Str) = z
    rw [Array.toArray_toList]
  have e1 : (zs.map fun z => z.cps.toList).map Tx.s = zs := by
    rw [List.map_map]
    exact (List.map_congr_left fun z _ => e0 z).trans (List.map_id _)
  have e2 : (ns.map Tx.s).map (fun z => z.cps.toList) = ns := by
    rw [List.map_map]
    exact (List.map_congr_left fun z _ => show (Tx.s z).cps.toList = z by simp [Tx.s]).trans (List.map_id _)
  have p2 := p.map fun z => z.cps.toList
  rw [e2] at p2
  have := sortT_one p2 (List.pairwise_map.mpr s)
  rw [← this, e1]
theorem bc_sortedS {d : D} {ns : List Tx} (hd : SqOf L d (ns.map .str)) (hq : Q (.lst ((sortT ns).map .str)) L) : BC Γ (.builtin "sorted") [d] L Q := fun X R0 F R H vs l A r0 QV g => by
  obtain ⟨v, rfl, r⟩ := r0.one
  obtain ⟨p, ws, rfl, hp, rw'⟩ := hd.sq A r
  rw [rps_strV rw'] at hp
  refine CR_w cr_sortedX ⟨p, _, rfl, by rw [F.K]; exact hp, fun zs z pm pw hz => ?_⟩
  rw [tx_back pm pw]
  exact g _ _ _ _ L (Le.upd (A.sub.non hz)) (A.new hz) (.lst upd_same (rps_strs _)) hq
theorem bc_sortedSM {d : D} {ns : List Tx} (hd : SqOf L d (ns.map .str)) (hq : Q (.rf L.length) (L ++ [.lst ((sortT ns).map .str)])) : BC Γ (.builtin "sorted") [d] L Q := fun X R0 F R H vs l A r0 QV g => by
  obtain ⟨v, rfl, r⟩ := r0.one
  obtain ⟨p, ws, rfl, hp, rw'⟩ := hd.sq A r
  rw [rps_strV rw'] at hp
  refine CR_w cr_sortedX ⟨p, _, rfl, by rw [F.K]; exact hp, fun zs z pm pw hz => ?_⟩
  rw [tx_back pm pw]
  obtain ⟨A2, l2⟩ := A.cell (o := .lst (((sortT ns).map Tx.s).map V.str)) (m := .lst ((sortT ns).map .str)) hz ⟨_, upd_same, rps_strs _⟩
  exact g _ _ _ _ _ l2 A2 Rp.new hq
end
end Ac
end
section
/-! Gy15: sorted of a dict: its keys. -/
namespace SrtD
open PySem PySem.Spec PyProof.Rows Srt SrtO SrtR
section
variable {prog : Program} {w : World} {A : Around} {E : Value → Shared → Prop} {s : Shared}
theorem col_src {T : String} {r d : Addr} {n : Nat} {P : Nat → Value → Prop} {OK : Heap → Prop} {R : List Value → Shared → Prop} (K : PySem.W.KdlSrc prog w T r d n P OK) (hh : A.handled = none) (hok : OK s.heap) (hn : n ≤ sizeLine)
    (h : ∀ (g : Heap) (tk : Nat) (acc : Array Value), (∀ b o, s.heap.get? b = some o → g.get? b = some o) → s.heap.objs.size ≤ g.objs.size → ItemsOf P acc n → R acc.toList { s with heap := g, toks := tk }) :
    wpAny (model prog w) A (collect (.ref r)) R E s := by
  have hlt := K.there _ hok
  unfold collect
  refine wpAny_bind (wpAny_runValue (codeAny_builtin PySem.F.entry_proto_collect ?_))
  rw [Around.under_plainId PySem.F.plain_proto_collect _]
  show wpAny _ A.in1 (newList [] >>= fun l => again (.builtin "list.__iadd__" ⟨[l, .ref r], []⟩)) _ _ s
  refine wpAny_bind (wpAny_newObj_type ?_)
  refine wpAny_pure ⟨plainId_quiet PySem.F.plain_list_iadd _, codeAny_builtin PySem.F.entry_list_iadd ?_⟩
  rw [Around.under_plainId PySem.F.plain_list_iadd _]
  have hS0 : (s.heap.push { cls := .type "list", data := .seq ([] : List Value).toArray }).get? s.heap.objs.size = some { cls := .type "list", data := .seq #[] } := Heap.get?_push_size _ rfl
  show wpAny _ A.in1 (Builtin.List.listExtendWith (.ref s.heap.objs.size) (.ref r) (.ref s.heap.objs.size)) _ _ _
  have key := PySem.W.kdl_extend (A := A) (s := { s with heap := s.heap.push { cls := .type "list", data := .seq ([] : List Value).toArray } })
    (R := fun (q : Result) (s1 : Shared) => ∃ (g : Heap) (tk : Nat) (acc : Array Value) (e : Nat), q = .ok (.ret (.ref s.heap.objs.size)) ∧ s1 = { s with heap := g, toks := tk } ∧
      (∀ b o, s.heap.get? b = some o → g.get? b = some o) ∧ g.get? s.heap.objs.size = some { cls := .type "list", dict := none, data := .seq acc e, slots := #[] } ∧ ItemsOf P acc n)
    K hh (K.keep _ _ hok fun b _ o e => Heap.get?_push_of_some _ e) s.heap.objs.size (Nat.ne_of_gt hlt.1) (Nat.ne_of_gt hlt.2) (.ref s.heap.objs.size) 0 hS0
    (fun g tk acc e hk hS hacc => ⟨g, tk, acc, e, rfl, rfl, fun b o e => hk b o (Nat.ne_of_lt (Heap.lt_size e)) (Heap.get?_push_of_some _ e), hS, hacc⟩) hn
  refine wpAny_mono key (fun fin s1 x => ?_) fun e s1 x => ?_
  · cases fin with
    | done f =>
      obtain ⟨g, tk, acc, c, e, rfl, hk, hS, hacc⟩ := x
      cases e
      show wpAny _ A (load s.heap.objs.size >>= _) _ _ _
      exact wpAny_bind (wpAny_load hS (wpAny_pure (h g tk acc hk (Nat.le_of_lt (Heap.lt_size hS)) hacc)))
    | again c1 =>
      refine ⟨x.1, codeAny_mono x.2 fun q s2 y => ?_⟩
      obtain ⟨g, tk, acc, c, rfl, rfl, hk, hS, hacc⟩ := y
      show wpAny _ A (load s.heap.objs.size >>= _) _ _ _
      exact wpAny_bind (wpAny_load hS (wpAny_pure (h g tk acc hk (Nat.le_of_lt (Heap.lt_size hS)) hacc)))
  · obtain ⟨_, _, _, _, e1, _⟩ := x
    cases e1
/-- sorted(x) of what is walked -/
theorem sorted_src {T : String} {r d : Addr} {n : Nat} {P : Nat → Value → Prop} {OK : Heap → Prop} {ltv : Value → Value → Bool} {R2 : Value → Shared → Prop} (K : PySem.W.KdlSrc prog w T r d n P OK) (hh : A.handled = none) (ok : OK s.heap) (kz : n ≤ sizeLine) (O : Swo ltv)
    (hS : ∀ vs : List Value, vs.length = n → (∀ (j : Nat) (v : Value), vs[j]? = some v → P j v) → 2 ≤ vs.length → ∀ (g : Shared) (a : Addr), SortableO prog w A.in1.in1 g a vs ltv)
    (fin : ∀ (vs out : List Value) (g : Heap) (tk : Nat) (p : Addr) (e : Nat), vs.length = n → (∀ (j : Nat) (v : Value), vs[j]? = some v → P j v) → Srtd ltv out → Stb ltv out vs → s.heap.objs.size ≤ p → g.get? p = some (seqObj "list" out.toArray e) → (∀ c o, s.heap.get? c = some o → g.get? c = some o) → R2 (.ref p) { s with heap := g, toks := tk }) :
    wpAny (model prog w) A (call (.builtin "sorted") [.ref r]) R2 E s := by
  refine Calls.call_function_entry (kind_sorted) plain_sorted entry_sorted (args_sorted1 _) ?_
  unfold Builtin.«sorted»
  refine wpAny_bind (m := checkCount ("sorted") 1 1 _) (wpAny_pure ?_)
  refine wpAny_bind (col_src (A := A.in1) K hh ok kz fun h1 tk acc hk hsz hacc => ?_)
  have hl : acc.toList.length = n := by rw [Array.length_toList]; exact hacc.1
  have hP : ∀ (j : Nat) (v : Value), acc.toList[j]? = some v → P j v := fun j v e => hacc.2 j v (by rw [← Array.getElem?_toList]; exact e)
  refine wpAny_bind (wpAny_newList ?_ (by rw [hl]; exact kz))
  have k1 : (h1.push (seqObj "list" acc.toList.toArray 0)).get? h1.objs.size = some (seqObj "list" acc.toList.toArray 0) := Heap.get?_push_size _ (rfl)
  show wpAny _ _ _ _ _ { s with heap := h1.push (seqObj "list" acc.toList.toArray 0), toks := tk }
  refine wpAny_bind (wpAny_holding (wpAny_call_entry (slot_list_sort) ⟨_, k1, rfl⟩ entry_list_sort (list_sort_ord O k1 (by rw [hl]; exact kz) (fun h2 => hS _ hl hP h2 _ _) fun out hs hb => ⟨_, rfl, ?_⟩) (args_list_sort _)))
  obtain ⟨e, k3⟩ := sortedHeap_at (out := out.toArray) k1
  refine wpAny_pure ⟨_, rfl, fin _ out _ tk _ e hl hP hs hb hsz k3 fun c o hc => ?_⟩
  have hlt : c < h1.objs.size := Heap.lt_size (hk _ _ hc)
  rw [sortedHeap_old (Nat.ne_of_lt hlt) (by rw [Heap.size_push]; exact Nat.lt_succ_of_lt hlt)]
  exact Heap.get?_push_of_some _ (hk _ _ hc)
end
end SrtD
namespace L2
open PySem PySem.Spec PyProof.Rows
/-- sorted(d), a dict of ints or of texts -/
def rSortedD (K : PySem.W.Frag) : List V → Hp → VK → Prop := fun as H Q => ∃ (a : Addr) (kvs : List (Key × V)), as = [V.ref a] ∧ Rd H a (.dK kvs) ∧
  ((∃ ys : List Int, kvs.map (·.1) = ys.map Sum.inl ∧ ∀ (zs : List Int) (p : Addr), zs.Perm ys → zs.Pairwise (· ≤ ·) → H p = none → Q (.ref p) (upd H p (.lst (zs.map V.int)))) ∨
   (∃ ys : List Str, kvs.map (·.1) = ys.map Sum.inr ∧ ∀ (zs : List Str) (p : Addr), zs.Perm ys → zs.Pairwise (fun x y => ¬ y.cps.toList < x.cps.toList) → H p = none → Q (.ref p) (upd H p (.lst (zs.map V.str)))))
theorem map_getD {α β : Type} (f : α → β) (d : α) (l : List α) : (List.range l.length).map (fun j => f (l.getD j d)) = l.map f := by
  apply List.ext_getElem (by simp)
  intro i h1 h2
  rw [List.length_map] at h2
  simp [List.getD_eq_getElem?_getD, List.getElem?_eq_getElem h2]
section
variable {X : Cx}
theorem cr_sortedD (hc : X.calm = true) : CallR X (.builtin "sorted") (rSortedD X.K) := by
  intro pins s σ H vs us Q I r h
  obtain ⟨a, kvs, rfl, ha, h⟩ := h
  rw [Vals.ref1 r]
  obtain ⟨hz, hsys, ps, rel, dof⟩ := dk_rd I.hok ha
  obtain ⟨ep, dat⟩ := dof.dictAt
  have hlp : ps.length ≤ sizeLine := by rw [← KV.length rel]; exact hz
  have KS := PySem.W.kdl_dict (prog := X.prog) (w := X.w) (knd := mixKind X.prog X.w) (d := a) (kvs := ps) (ep := ep) hsys
  have hkk := KV.keys rel
  rcases h with ⟨ys, hk, q⟩ | ⟨ys, hk, q⟩
  · rw [hkk] at hk
    have hvl : ∀ vs : List Value, vs.length = ps.length → (∀ (j : Nat) (v : Value), vs[j]? = some v → ∃ k x, ps[j]? = some (k, x) ∧ (mixKind X.prog X.w).is k v = true) → Vals (ys.map V.int) vs := fun vs hl hP => by
      have hly : vs.length = ys.length := by have := congrArg List.length hk; simp only [List.length_map] at this; omega
      have := vals_of_get vs (fun j => V.int (ys.getD j 0)) fun j u hj => by
        obtain ⟨k, x, e1, e2⟩ := hP j u hj
        have e3 : (ps.map (·.1))[j]? = some k := by rw [List.getElem?_map, e1]; rfl
        rw [hk, List.getElem?_map] at e3
        obtain ⟨i, hi, rfl⟩ := Option.map_eq_some_iff.mp e3
        obtain ⟨t, e4⟩ := Value.isInt_shape (k := i) (v := u) e2
        exact ⟨t, by rw [e4, List.getD_eq_getElem?_getD, hi]; rfl⟩
      rw [hly, map_getD] at this
      exact this
    refine SrtD.sorted_src KS (I.ok.hd hc) dat hlp SrtO.swo_int (fun vs hl hP h2 g a' => SrtO.ints_sortable (hvl vs hl hP).ints h2) fun vs out g tk p e hl hP h1 h2 hge hg hk2 => ?_
    have rv := hvl vs hl hP
    obtain ⟨k1, k2, k3⟩ := SrtO.ints_out rv.ints h1 h2
    have hlen : ((out.map SrtO.iv).map V.int).length ≤ sizeLine := by
      have := rv.length
      simp only [List.length_map] at this
      rw [List.length_map, k2.length_eq]; omega
    exact ⟨.ref p, upd H p (.lst ((out.map SrtO.iv).map V.int)), I.laid (t' := tk) hk2 hge ⟨hlen, out, e, vals_of_ints k1, hg⟩, rfl, q _ _ k2 k3 (I.hok.fresh hge)⟩
  · rw [hkk] at hk
    have hvl : ∀ vs : List Value, vs.length = ps.length → (∀ (j : Nat) (v : Value), vs[j]? = some v → ∃ k x, ps[j]? = some (k, x) ∧ (mixKind X.prog X.w).is k v = true) → Vals (ys.map V.str) vs := fun vs hl hP => by
      have hly : vs.length = ys.length := by have := congrArg List.length hk; simp only [List.length_map] at this; omega
      have := vals_of_get vs (fun j => V.str (ys.getD j ⟨#[]⟩)) fun j u hj => by
        obtain ⟨k, x, e1, e2⟩ := hP j u hj
        have e3 : (ps.map (·.1))[j]? = some k := by rw [List.getElem?_map, e1]; rfl
        rw [hk, List.getElem?_map] at e3
        obtain ⟨i, hi, rfl⟩ := Option.map_eq_some_iff.mp e3
        obtain ⟨t, e4⟩ := Value.isStrOf_shape (x := i) (v := u) e2
        exact ⟨t, by rw [e4, List.getD_eq_getElem?_getD, hi]; rfl⟩
      rw [hly, map_getD] at this
      exact this
    refine SrtD.sorted_src KS (I.ok.hd hc) dat hlp SrtT.swo_sg (fun vs hl hP h2 g a' => SrtT.txs_sortable (Vals.strs (hvl vs hl hP)) h2) fun vs out g tk p e hl hP h1 h2 hge hg hk2 => ?_
    have rv := hvl vs hl hP
    obtain ⟨k1, k2, k3⟩ := SrtT.txs_out (Vals.strs rv) h1 h2
    have hlen : ((out.map strOf).map V.str).length ≤ sizeLine := by
      have := rv.length
      simp only [List.length_map] at this
      rw [List.length_map, k2.length_eq]; omega
    exact ⟨.ref p, upd H p (.lst ((out.map strOf).map V.str)), I.laid (t' := tk) hk2 hge ⟨hlen, out, e, valsX_strs k1, hg⟩, rfl, q _ _ k2 k3 (I.hok.fresh hge)⟩
end
end L2
namespace Ac
open PySem PySem.Spec PyProof.Rows L2
/-- the keys, if all are ints, all texts -/
def keysI : List (Kt × D) → Option (List Int)
  | [] => some []
  | (.inl i, _) :: r => (keysI r).map (i :: ·)
  | _ => none
def keysS : List (Kt × D) → Option (List Tx)
  | [] => some []
  | (.inr x, _) :: r => (keysS r).map (x :: ·)
  | _ => none
section
variable {Γ : Ct} {L : Mu} {Q : D → Mu → Prop}
theorem rpk_keysI {K : PySem.W.Frag} {R : Rw} : ∀ {ks : List (Kt × D)} {kvs : List (Key × V)} {ns : List Int}, keysI ks = some ns → Rpk K R kvs ks → kvs.map (·.1) = ns.map Sum.inl
  | [], _, _, h, r => by cases r; cases h; rfl
  | (.inl i, d) :: ks, _, _, h, r => by
    cases r with
    | cons a b =>
      obtain ⟨ns, e, rfl⟩ := Option.map_eq_some_iff.mp (show (keysI ks).map (i :: ·) = _ from h)
      simp only [List.map_cons, rpk_keysI e b]; rfl
  | (.inr _, _) :: _, _, _, h, _ => by cases h
theorem rpk_keysS {K : PySem.W.Frag} {R : Rw} : ∀ {ks : List (Kt × D)} {kvs : List (Key × V)} {ns : List Tx}, keysS ks = some ns → Rpk K R kvs ks → kvs.map (·.1) = (ns.map Tx.s).map Sum.inr
  | [], _, _, h, r => by cases r; cases h; rfl
  | (.inr i, d) :: ks, _, _, h, r => by
    cases r with
    | cons a b =>
      obtain ⟨ns, e, rfl⟩ := Option.map_eq_some_iff.mp (show (keysS ks).map (i :: ·) = _ from h)
      simp only [List.map_cons, rpk_keysS e b]; rfl
  | (.inl _, _) :: _, _, _, h, _ => by cases h
theorem bc_sortedDI {d : D} {ks : List (Kt × D)} {ns : List Int} (hc : Γ.calm = true) (hd : DcOf L d ks) (hk : keysI ks = some ns) (hq : Q (.lst ((sortI ns).map .int)) L) : BC Γ (.builtin "sorted") [d] L Q := fun X R0 F R H vs l A r0 QV g => by
  obtain ⟨v, rfl, r⟩ := r0.one
  obtain ⟨p, kvs, rfl, e, q⟩ := hd.rd A r
  refine CR_w (cr_sortedD (by rw [F.calm]; exact hc)) ⟨p, kvs, rfl, e, .inl ⟨ns, rpk_keysI hk q, fun zs z pm pw hz => ?_⟩⟩
  rw [sortI_one pm pw]
  exact g _ _ _ _ L (Le.upd (A.sub.non hz)) (A.new hz) (.lst upd_same (rps_ints _)) hq
theorem bc_sortedDIM {d : D} {ks : List (Kt × D)} {ns : List Int} (hc : Γ.calm = true) (hd : DcOf L d ks) (hk : keysI ks = some ns) (hq : Q (.rf L.length) (L ++ [.lst ((sortI ns).map .int)])) : BC Γ (.builtin "sorted") [d] L Q := fun X R0 F R H vs l A r0 QV g => by
  obtain ⟨v, rfl, r⟩ := r0.one
  obtain ⟨p, kvs, rfl, e, q⟩ := hd.rd A r
  refine CR_w (cr_sortedD (by rw [F.calm]; exact hc)) ⟨p, kvs, rfl, e, .inl ⟨ns, rpk_keysI hk q, fun zs z pm pw hz => ?_⟩⟩
  rw [sortI_one pm pw]
  obtain ⟨A2, l2⟩ := A.cell (o := .lst ((sortI ns).map V.int)) (m := .lst ((sortI ns).map .int)) hz ⟨_, upd_same, rps_ints _⟩
  exact g _ _ _ _ _ l2 A2 Rp.new hq
theorem bc_sortedDS {d : D} {ks : List (Kt × D)} {ns : List Tx} (hc : Γ.calm = true) (hd : DcOf L d ks) (hk : keysS ks = some ns) (hq : Q (.lst ((sortT ns).map .str)) L) : BC Γ (.builtin "sorted") [d] L Q := fun X R0 F R H vs l A r0 QV g => by
  obtain ⟨v, rfl, r⟩ := r0.one
  obtain ⟨p, kvs, rfl, e, q⟩ := hd.rd A r
  refine CR_w (cr_sortedD (by rw [F.calm]; exact hc)) ⟨p, kvs, rfl, e, .inr ⟨_, rpk_keysS hk q, fun zs z pm pw hz => ?_⟩⟩
  rw [tx_back pm pw]
  exact g _ _ _ _ L (Le.upd (A.sub.non hz)) (A.new hz) (.lst upd_same (rps_strs _)) hq
theorem bc_sortedDSM {d : D} {ks : List (Kt × D)} {ns : List Tx} (hc : Γ.calm = true) (hd : DcOf L d ks) (hk : keysS ks = some ns) (hq : Q (.rf L.length) (L ++ [.lst ((sortT ns).map .str)])) : BC Γ (.builtin "sorted") [d] L Q := fun X R0 F R H vs l A r0 QV g => by
  obtain ⟨v, rfl, r⟩ := r0.one
  obtain ⟨p, kvs, rfl, e, q⟩ := hd.rd A r
  refine CR_w (cr_sortedD (by rw [F.calm]; exact hc)) ⟨p, kvs, rfl, e, .inr ⟨_, rpk_keysS hk q, fun zs z pm pw hz => ?_⟩⟩
  rw [tx_back pm pw]
  obtain ⟨A2, l2⟩ := A.cell (o := .lst (((sortT ns).map Tx.s).map V.str)) (m := .lst ((sortT ns).map .str)) hz ⟨_, upd_same, rps_strs _⟩
  exact g _ _ _ _ _ l2 A2 Rp.new hq
end
end Ac
end
section
/-! Gy16: order of plain data: <, >, <=, >=, min, max. -/
namespace L2
open PySem PySem.Spec PyProof.Rows PySem.W
/-- min(xs), max(xs) of data that are alike -/
def rEdge (K : PySem.W.Frag) (b : Bool) : List V → Hp → VK → Prop := fun us H Q => ∃ (a : Addr) (ws : List V) (x : PyData) (xs : List PyData), us = [V.ref a] ∧ (SqL K H a ws ∨ SqT K H a ws) ∧ DpAll K H ws (x :: xs) ∧ AlikeAll (x :: xs) ∧ PyData.depthAll (x :: xs) ≤ 60 ∧
  ∀ (i : Nat) (w : V), ws[i]? = some w → (x :: xs)[i]? = some (if b then minD x xs else maxD x xs) → Q w H
theorem fold_mem {α : Type} (f : α → α → Bool) : ∀ (xs : List α) (x : α), xs.foldl (fun a y => if f a y = true then y else a) x ∈ x :: xs
  | [], x => List.mem_singleton.mpr rfl
  | y :: ys, x => by
    rw [List.foldl_cons]
    by_cases h : f x y = true
    · rw [if_pos h]
      exact List.mem_cons_of_mem _ (fold_mem f ys y)
    · rw [if_neg h]
      rcases List.mem_cons.mp (fold_mem f ys x) with e | e
      · rw [e]; exact List.mem_cons_self
      · exact List.mem_cons_of_mem _ (List.mem_cons_of_mem _ e)
theorem minD_mem (x : PyData) (xs : List PyData) : minD x xs ∈ x :: xs := fold_mem (fun a y => dataLt y a) xs x
theorem maxD_mem (x : PyData) (xs : List PyData) : maxD x xs ∈ x :: xs := fold_mem (fun a y => dataLt a y) xs x
section
variable {X : Cx} {pins : List (Addr × Obj)} {σ : St} {H : Hp} {s : Shared} {Q : VK}
theorem edge_fin {ws : List V} {its : List Value} {x m : PyData} {xs : List PyData} {as : List Addr} (I : Inv X pins σ H s) (rv : Vals ws its) (hr : ReadsAll s.heap its (x :: xs) as) (ha : AlikeAll (x :: xs)) (hm : m ∈ x :: xs)
    (q : ∀ (i : Nat) (w : V), ws[i]? = some w → (x :: xs)[i]? = some m → Q w H) {i : Nat} {v : Value} {g : Heap} {tk : Nat} {bs : List Addr} (hv : its.toArray[i]? = some v) (hd : Reads g v m bs) (hk : ∀ b o, s.heap.get? b = some o → g.get? b = some o) : EP X pins σ Q v { s with heap := g, toks := tk } := by
  have hv : its[i]? = some v := by simpa using hv
  obtain ⟨bs2, r2, hl, hmem, _⟩ := readsAll_at hr i v hv
  have e := alike_unique _ _ v _ _ (ha.1 _ hmem _ hm) (reads_keeps hk r2) hd
  have hw : ∃ w, ws[i]? = some w := by
    have := (List.getElem?_eq_some_iff.mp hv).1
    exact ⟨_, List.getElem?_eq_getElem (by rw [rv.length]; exact this)⟩
  obtain ⟨w, hw⟩ := hw
  obtain ⟨u, hu2, ru⟩ := rv.get hw
  rw [hv] at hu2
  cases hu2
  refine ⟨w, H, I.kept hk, ru, q i w hw ?_⟩
  rw [← e, List.getD_eq_getElem?_getD, List.getElem?_eq_getElem hl]; rfl
theorem cr_edge_min (hc : X.calm = true) (hu : X.A.units + 64 < cLine) : CallR X (.builtin "min") (rEdge X.K true) := by
  intro pins s σ H us vs Q I r h
  obtain ⟨a, ws, x, xs, rfl, hs, ht, ha, hd, q⟩ := h
  rw [Vals.ref1 r]
  rcases hs with hs | hs
  · obtain ⟨its, rv, hl, _⟩ := I.list hs
    obtain ⟨as, hr⟩ := Dp.readsAll I _ _ _ ht rv
    exact min_list_data (I.ok.hd hc) hl.isList (by simpa using hr) ha (by show X.A.units + 1 + _ < cLine; omega) fun i v g tk bs hv hh hk => edge_fin I rv hr ha (minD_mem x xs) q hv hh hk
  · obtain ⟨its, rv, hl, _⟩ := I.tuple hs
    obtain ⟨as, hr⟩ := Dp.readsAll I _ _ _ ht rv
    exact min_tuple_data (I.ok.hd hc) (show s.heap.IsTuple a its.toArray from hl) (by simpa using hr) ha (by show X.A.units + 1 + _ < cLine; omega) fun i v g tk bs hv hh hk => edge_fin I rv hr ha (minD_mem x xs) q hv hh hk
theorem cr_edge_max (hc : X.calm = true) (hu : X.A.units + 64 < cLine) : CallR X (.builtin "max") (rEdge X.K false) := by
  intro pins s σ H us vs Q I r h
  obtain ⟨a, ws, x, xs, rfl, hs, ht, ha, hd, q⟩ := h
  rw [Vals.ref1 r]
  rcases hs with hs | hs
  · obtain ⟨its, rv, hl, _⟩ := I.list hs
    obtain ⟨as, hr⟩ := Dp.readsAll I _ _ _ ht rv
    exact max_list_data (I.ok.hd hc) hl.isList (by simpa using hr) ha (by show X.A.units + 1 + _ < cLine; omega) fun i v g tk bs hv hh hk => edge_fin I rv hr ha (maxD_mem x xs) q hv hh hk
  · obtain ⟨its, rv, hl, _⟩ := I.tuple hs
    obtain ⟨as, hr⟩ := Dp.readsAll I _ _ _ ht rv
    exact max_tuple_data (I.ok.hd hc) (show s.heap.IsTuple a its.toArray from hl) (by simpa using hr) ha (by show X.A.units + 1 + _ < cLine; omega) fun i v g tk bs hv hh hk => edge_fin I rv hr ha (maxD_mem x xs) q hv hh hk
/-- x < y and the like, of data that are alike -/
def rOrd (K : PySem.W.Frag) (f : PyData → PyData → Bool) : R2 := fun x y H Q => ∃ d e, Dp K H x d ∧ Dp K H y e ∧ alike d e = true ∧ d ≠ .none ∧ d.depth ≤ 60 ∧ Q (.bl (f d e)) H
theorem op_ltD (hu : X.A.units + 64 < cLine) : OpR X (compareOp .Lt) (rOrd X.K dataLt) := by
  intro pins s σ H x y v u Q I rx ry h
  obtain ⟨d, e, hd, he, ha, hn, hz, q⟩ := h
  obtain ⟨as, r1⟩ := Dp.reads I d x v hd rx
  obtain ⟨bs, r2⟩ := Dp.reads I e y u he ry
  exact PySem.W.lt_data r1 r2 ha hn (by have := Nat.min_le_left d.depth e.depth; omega) ⟨.bl _, H, I, rfl, q⟩
theorem op_gtD (hu : X.A.units + 64 < cLine) : OpR X (compareOp .Gt) (rOrd X.K fun d e => dataLt e d) := by
  intro pins s σ H x y v u Q I rx ry h
  obtain ⟨d, e, hd, he, ha, hn, hz, q⟩ := h
  obtain ⟨as, r1⟩ := Dp.reads I d x v hd rx
  obtain ⟨bs, r2⟩ := Dp.reads I e y u he ry
  exact PySem.W.gt_data r1 r2 ha hn (by have := Nat.min_le_left d.depth e.depth; omega) ⟨.bl _, H, I, rfl, q⟩
theorem op_leD (hu : X.A.units + 64 < cLine) : OpR X (compareOp .LtE) (rOrd X.K fun d e => !dataLt e d) := by
  intro pins s σ H x y v u Q I rx ry h
  obtain ⟨d, e, hd, he, ha, hn, hz, q⟩ := h
  obtain ⟨as, r1⟩ := Dp.reads I d x v hd rx
  obtain ⟨bs, r2⟩ := Dp.reads I e y u he ry
  exact PySem.W.le_data r1 r2 ha hn (by have := Nat.min_le_left d.depth e.depth; omega) ⟨.bl _, H, I, rfl, q⟩
theorem op_geD (hu : X.A.units + 64 < cLine) : OpR X (compareOp .GtE) (rOrd X.K fun d e => !dataLt d e) := by
  intro pins s σ H x y v u Q I rx ry h
  obtain ⟨d, e, hd, he, ha, hn, hz, q⟩ := h
  obtain ⟨as, r1⟩ := Dp.reads I d x v hd rx
  obtain ⟨bs, r2⟩ := Dp.reads I e y u he ry
  exact PySem.W.ge_data r1 r2 ha hn (by have := Nat.min_le_left d.depth e.depth; omega) ⟨.bl _, H, I, rfl, q⟩
end
end L2
namespace Ac
open PySem PySem.Spec PyProof.Rows L2
/-- a < b, of data -/
def ltD (a b : D) : Bool := PySem.W.dataLt a.pd b.pd
def alD (a b : D) : Bool := PySem.W.alike a.pd b.pd
def leastD (x : D) (xs : List D) : D := xs.foldl (fun a y => if ltD y a = true then y else a) x
def mostD (x : D) (xs : List D) : D := xs.foldl (fun a y => if ltD a y = true then y else a) x
def isNone : D → Bool
  | .non => true
  | _ => false
/-- data that can be compared with each other -/
def okAl (ds : List D) : Bool := flats 58 ds && ds.all fun a => !isNone a && ds.all fun b => alD a b
theorem pd_none {n : Nat} {d : D} (h : d.flat n = true) (e : d.pd = .none) : d = .non := by
  cases d with
  | non => rfl
  | bl _ => cases e
  | int _ => cases e
  | str _ => cases e
  | tup _ => cases e
  | lst _ => cases e
  | _ => cases n <;> simp [D.flat] at h
mutual
theorem pd_inj : ∀ {n m : Nat} {a b : D}, a.flat n = true → b.flat m = true → a.pd = b.pd → a = b
  | n, m, .non, b, _, hb, e => (pd_none hb e.symm).symm
  | n, m, .bl x, b, _, hb, e => by
    cases b with
    | bl y => injection e with e; rw [e]
    | _ => first | cases e | (cases m <;> simp [D.flat] at hb)
  | n, m, .int x, b, _, hb, e => by
    cases b with
    | int y => injection e with e; rw [e]
    | _ => first | cases e | (cases m <;> simp [D.flat] at hb)
  | n, m, .str x, b, _, hb, e => by
    cases b with
    | str y =>
      injection e with e
      have := congrArg (fun z : Str => z.cps.toList) e
      have : x = y := by simpa [Tx.s] using this
      rw [this]
    | _ => first | cases e | (cases m <;> simp [D.flat] at hb)
  | n + 1, m, .tup xs, b, ha, hb, e => by
    cases b with
    | tup ys =>
      cases m with
      | zero => simp [D.flat] at hb
      | succ m =>
        rw [D.flat] at ha hb
        rw [D.pd, D.pd] at e
        injection e with e
        rw [pds_inj ha hb e]
    | _ => first | cases e | (cases m <;> simp [D.flat] at hb)
  | n + 1, m, .lst xs, b, ha, hb, e => by
    cases b with
    | lst ys =>
      cases m with
      | zero => simp [D.flat] at hb
      | succ m =>
        rw [D.flat] at ha hb
        rw [D.pd, D.pd] at e
        injection e with e
        rw [pds_inj ha hb e]
    | _ => first | cases e | (cases m <;> simp [D.flat] at hb)
  | 0, _, .tup _, _, h, _, _ => by simp [D.flat] at h
  | 0, _, .lst _, _, h, _, _ => by simp [D.flat] at h
  | _, _, .dct _, _, h, _, _ => by simp [D.flat] at h
  | _, _, .rf _, _, h, _, _ => by simp [D.flat] at h
  | _, _, .ty _, _, h, _, _ => by simp [D.flat] at h
  | _, _, .dtt _, _, h, _, _ => by simp [D.flat] at h
  | _, _, .obj _ _, _, h, _, _ => by simp [D.flat] at h
  | _, _, .lsk _, _, h, _, _ => by simp [D.flat] at h
  | _, _, .lam _, _, h, _, _ => by simp [D.flat] at h
theorem pds_inj : ∀ {n m : Nat} {as bs : List D}, flats n as = true → flats m bs = true → pds as = pds bs → as = bs
  | _, _, [], [], _, _, _ => rfl
  | _, _, [], _ :: _, _, _, e => by simp [pds] at e
  | _, _, _ :: _, [], _, _, e => by simp [pds] at e
  | n, m, a :: as, b :: bs, ha, hb, e => by
    rw [flats, Bool.and_eq_true] at ha hb
    rw [pds, pds] at e
    injection e with e1 e2
    rw [pd_inj ha.1 hb.1 e1, pds_inj ha.2 hb.2 e2]
end
theorem leastD_pd (x : D) (xs : List D) : (leastD x xs).pd = PySem.W.minD x.pd (pds xs) := by
  unfold leastD PySem.W.minD
  rw [pds_map]
  induction xs generalizing x with
  | nil => rfl
  | cons y ys ih =>
    rw [List.map_cons, List.foldl_cons, List.foldl_cons]
    by_cases h : ltD y x = true
    · rw [if_pos h, if_pos (show PySem.W.dataLt y.pd x.pd = true from h)]; exact ih y
    · rw [if_neg h, if_neg (show ¬ PySem.W.dataLt y.pd x.pd = true from h)]; exact ih x
theorem mostD_pd (x : D) (xs : List D) : (mostD x xs).pd = PySem.W.maxD x.pd (pds xs) := by
  unfold mostD PySem.W.maxD
  rw [pds_map]
  induction xs generalizing x with
  | nil => rfl
  | cons y ys ih =>
    rw [List.map_cons, List.foldl_cons, List.foldl_cons]
    by_cases h : ltD x y = true
    · rw [if_pos h, if_pos (show PySem.W.dataLt x.pd y.pd = true from h)]; exact ih y
    · rw [if_neg h, if_neg (show ¬ PySem.W.dataLt x.pd y.pd = true from h)]; exact ih x
theorem leastD_mem (x : D) (xs : List D) : leastD x xs ∈ x :: xs := fold_mem (fun a y => ltD y a) xs x
theorem mostD_mem (x : D) (xs : List D) : mostD x xs ∈ x :: xs := fold_mem (fun a y => ltD a y) xs x
theorem okAl_al {ds : List D} (h : okAl ds = true) : PySem.W.AlikeAll (pds ds) := by
  unfold okAl at h
  obtain ⟨h1, h2⟩ := Bool.and_eq_true_iff.mp h
  rw [List.all_eq_true] at h2
  rw [pds_map]
  rw [flats_all, List.all_eq_true] at h1
  refine ⟨fun x hx y hy => ?_, fun x hx e => ?_⟩
  · obtain ⟨a, ha, rfl⟩ := List.mem_map.mp hx
    obtain ⟨b, hb, rfl⟩ := List.mem_map.mp hy
    have := (Bool.and_eq_true_iff.mp (h2 a ha)).2
    rw [List.all_eq_true] at this
    exact this b hb
  · obtain ⟨a, ha, rfl⟩ := List.mem_map.mp hx
    have e2 := pd_none (h1 a ha) e
    subst e2
    have := (Bool.and_eq_true_iff.mp (h2 _ ha)).1
    cases this
section
variable {Γ : Ct} {L : Mu} {Q : D → Mu → Prop}
theorem rps_at {K : PySem.W.Frag} {R : Rw} : ∀ {ds : List D} {vs : List V} {i : Nat} {v : V}, Rps K R vs ds → vs[i]? = some v → ∃ d, ds[i]? = some d ∧ Rp K R v d
  | _, _, i, _, .nil, h => by simp at h
  | _, _, 0, _, .cons r _, h => by simp at h; subst h; exact ⟨_, rfl, r⟩
  | _, _, i + 1, _, .cons _ rs, h => rps_at (i := i) rs (by simpa using h)
theorem bc_leastD {d x : D} {xs : List D} (hc : Γ.calm = true) (hd : SqOf L d (x :: xs)) (ho : okAl (x :: xs) = true) (hq : Q (leastD x xs) L) : BC Γ (.builtin "min") [d] L Q := fun X R0 F R H vs l A r0 QV g => by
  obtain ⟨v, rfl, r⟩ := r0.one
  obtain ⟨p, ws, rfl, hp, rw'⟩ := hd.sq A r
  have hfl := (Bool.and_eq_true_iff.mp ho).1
  obtain ⟨a, _, c⟩ := flats_dp A.sub hfl rw'
  refine CR_w (cr_edge_min (by rw [F.calm]; exact hc) F.un) ⟨p, ws, x.pd, pds xs, rfl, by rw [F.K]; exact hp, by rw [F.K]; exact a, okAl_al ho, Nat.le_trans c (by decide), fun i w hw hx => ?_⟩
  obtain ⟨e, he, re⟩ := rps_at rw' hw
  have e1 : (pds (x :: xs))[i]? = some e.pd := by rw [pds_map, List.getElem?_map, he]; rfl
  have e2 : e.pd = (leastD x xs).pd := by
    rw [leastD_pd]
    have : (x.pd :: pds xs)[i]? = some e.pd := e1
    rw [this] at hx
    exact Option.some.inj hx
  rw [flats_all, List.all_eq_true] at hfl
  have e3 := pd_inj (hfl e (List.mem_of_getElem? he)) (hfl _ (leastD_mem x xs)) e2
  subst e3
  exact g _ _ R H L (Le.refl R) A re hq
theorem bc_mostD {d x : D} {xs : List D} (hc : Γ.calm = true) (hd : SqOf L d (x :: xs)) (ho : okAl (x :: xs) = true) (hq : Q (mostD x xs) L) : BC Γ (.builtin "max") [d] L Q := fun X R0 F R H vs l A r0 QV g => by
  obtain ⟨v, rfl, r⟩ := r0.one
  obtain ⟨p, ws, rfl, hp, rw'⟩ := hd.sq A r
  have hfl := (Bool.and_eq_true_iff.mp ho).1
  obtain ⟨a, _, c⟩ := flats_dp A.sub hfl rw'
  refine CR_w (cr_edge_max (by rw [F.calm]; exact hc) F.un) ⟨p, ws, x.pd, pds xs, rfl, by rw [F.K]; exact hp, by rw [F.K]; exact a, okAl_al ho, Nat.le_trans c (by decide), fun i w hw hx => ?_⟩
  obtain ⟨e, he, re⟩ := rps_at rw' hw
  have e1 : (pds (x :: xs))[i]? = some e.pd := by rw [pds_map, List.getElem?_map, he]; rfl
  have e2 : e.pd = (mostD x xs).pd := by
    rw [mostD_pd]
    have : (x.pd :: pds xs)[i]? = some e.pd := e1
    rw [this] at hx
    exact Option.some.inj hx
  rw [flats_all, List.all_eq_true] at hfl
  have e3 := pd_inj (hfl e (List.mem_of_getElem? he)) (hfl _ (mostD_mem x xs)) e2
  subst e3
  exact g _ _ R H L (Le.refl R) A re hq
theorem okAl2 {x y : D} (h : okAl [x, y] = true) : x.flat 58 = true ∧ y.flat 58 = true ∧ PySem.W.alike x.pd y.pd = true ∧ x.pd ≠ .none := by
  have a := okAl_al h
  obtain ⟨h1, _⟩ := Bool.and_eq_true_iff.mp h
  rw [flats, flats, flats, Bool.and_true, Bool.and_eq_true] at h1
  refine ⟨h1.1, h1.2, ?_, ?_⟩
  · exact a.1 x.pd (by simp [pds]) y.pd (by simp [pds])
  · exact a.2 x.pd (by simp [pds])
theorem b2_ltD {x y : D} (h : okAl [x, y] = true) (hq : Q (.bl (ltD x y)) L) : B2 Γ (compareOp .Lt) x y L Q := fun X R0 F R H v u l A r1 r2 QV g => by
  obtain ⟨hx, hy, ha, hn⟩ := okAl2 h
  obtain ⟨a, b, c⟩ := D.flat_dp A.sub hx r1
  obtain ⟨a2, b2, c2⟩ := D.flat_dp A.sub hy r2
  exact OR_w (op_ltD F.un) ⟨_, _, by rw [F.K]; exact a, by rw [F.K]; exact a2, ha, hn, by omega, g _ _ R H L (Le.refl R) A .bl hq⟩
theorem b2_gtD {x y : D} (h : okAl [x, y] = true) (hq : Q (.bl (ltD y x)) L) : B2 Γ (compareOp .Gt) x y L Q := fun X R0 F R H v u l A r1 r2 QV g => by
  obtain ⟨hx, hy, ha, hn⟩ := okAl2 h
  obtain ⟨a, b, c⟩ := D.flat_dp A.sub hx r1
  obtain ⟨a2, b2, c2⟩ := D.flat_dp A.sub hy r2
  exact OR_w (op_gtD F.un) ⟨_, _, by rw [F.K]; exact a, by rw [F.K]; exact a2, ha, hn, by omega, g _ _ R H L (Le.refl R) A .bl hq⟩
theorem b2_leD {x y : D} (h : okAl [x, y] = true) (hq : Q (.bl (!ltD y x)) L) : B2 Γ (compareOp .LtE) x y L Q := fun X R0 F R H v u l A r1 r2 QV g => by
  obtain ⟨hx, hy, ha, hn⟩ := okAl2 h
  obtain ⟨a, b, c⟩ := D.flat_dp A.sub hx r1
  obtain ⟨a2, b2, c2⟩ := D.flat_dp A.sub hy r2
  exact OR_w (op_leD F.un) ⟨_, _, by rw [F.K]; exact a, by rw [F.K]; exact a2, ha, hn, by omega, g _ _ R H L (Le.refl R) A .bl hq⟩
theorem b2_geD {x y : D} (h : okAl [x, y] = true) (hq : Q (.bl (!ltD x y)) L) : B2 Γ (compareOp .GtE) x y L Q := fun X R0 F R H v u l A r1 r2 QV g => by
  obtain ⟨hx, hy, ha, hn⟩ := okAl2 h
  obtain ⟨a, b, c⟩ := D.flat_dp A.sub hx r1
  obtain ⟨a2, b2, c2⟩ := D.flat_dp A.sub hy r2
  exact OR_w (op_geD F.un) ⟨_, _, by rw [F.K]; exact a, by rw [F.K]; exact a2, ha, hn, by omega, g _ _ R H L (Le.refl R) A .bl hq⟩
end
end Ac
end
section
/-! Gy17: sorted of lists of data, with or without reverse=. -/
namespace L2
open PySem PySem.Spec PyProof.Rows PySem.W
/-- a sorted list of data -/
def SortG (K : PySem.W.Frag) (b : Bool) (a : Addr) (H : Hp) (Q : VK) : Prop := ∃ (β : Type) (fv : β → V) (enc : β → PyData) (bs : List β), SqL K H a (bs.map fv) ∧ (∀ z ∈ bs, Dp K H (fv z) (enc z)) ∧ AllAlike (bs.map enc) ∧ Sortable (bs.map enc) ∧ (∀ z ∈ bs, (enc z).depth ≤ 60) ∧
  ∀ p : Addr, H p = none → Q (.ref p) (upd H p (.lst ((bs.mergeSort (dataLe b enc)).map fv)))
def rSortG (K : PySem.W.Frag) : List V → Hp → VK → Prop := fun as H Q => ∃ a : Addr, as = [V.ref a] ∧ SortG K false a H Q
def rSortGR (K : PySem.W.Frag) (b : Bool) : List V → List V → Hp → VK → Prop := fun as zs H Q => ∃ a : Addr, as = [V.ref a] ∧ zs = [V.bl b] ∧ SortG K b a H Q
theorem vals_each {β : Type} {fv : β → V} : ∀ {bs : List β} {us : List Value}, Vals (bs.map fv) us → EachIs (fun v z => RelV (fv z) v) us bs
  | [], _, r => by cases r; exact .nil
  | z :: bs, _, r => by
    cases r with
    | cons r rs => exact .cons r (vals_each rs)
theorem each_vals {β : Type} {fv : β → V} : ∀ {bs : List β} {us : List Value}, EachIs (fun v z => RelV (fv z) v) us bs → Vals (bs.map fv) us
  | _, _, .nil => .nil
  | _, _, .cons r rs => .cons r (each_vals rs)
section
variable {X : Cx} {pins : List (Addr × Obj)} {σ : St} {H : Hp} {s : Shared} {Q : VK}
theorem each_reads (I : Inv X pins σ H s) {β : Type} {fv : β → V} {enc : β → PyData} : ∀ {bs : List β} {us : List Value}, (∀ z ∈ bs, Dp X.K H (fv z) (enc z)) → Vals (bs.map fv) us → EachIs (fun v z => ∃ as, Reads s.heap v (enc z) as) us bs
  | [], _, _, r => by cases r; exact .nil
  | z :: bs, _, h, r => by
    cases r with
    | cons r rs => exact .cons (Dp.reads I _ _ _ (h z List.mem_cons_self) r) (each_reads I (fun z hz => h z (List.mem_cons_of_mem _ hz)) rs)
theorem sortG_fin {β : Type} {fv : β → V} {enc : β → PyData} {bs : List β} {b : Bool} {its out : List Value} (I : Inv X pins σ H s) (hz : (bs.map fv).length ≤ sizeLine) (hl : out.length = bs.length) (he : EachIs (fun v z => RelV (fv z) v) out (bs.mergeSort (dataLe b enc)))
    (q : ∀ p : Addr, H p = none → Q (.ref p) (upd H p (.lst ((bs.mergeSort (dataLe b enc)).map fv)))) : EP X pins σ Q (.ref (s.heap.objs.size + 1)) { s with heap := sortedAll s.heap its (List.toArray out) } := by
  obtain ⟨ep, he2⟩ := PyProof.Rows.sortedAll_at s.heap its out.toArray
  have hlen : ((bs.mergeSort (dataLe b enc)).map fv).length ≤ sizeLine := by
    rw [List.length_map, List.length_mergeSort]
    rw [List.length_map] at hz
    exact hz
  exact ⟨.ref _, upd H (s.heap.objs.size + 1) (.lst ((bs.mergeSort (dataLe b enc)).map fv)), I.laid (t' := s.toks) (fun _ _ => PyProof.Rows.sortedAll_old) (Nat.le_succ _) ⟨hlen, out, ep, each_vals he, he2⟩, rfl, q _ (I.hok.fresh (Nat.le_succ _))⟩
theorem cr_sortG (hu : X.A.units + 64 < cLine) : CallR X (.builtin "sorted") (rSortG X.K) := by
  intro pins s σ H vs us Q I r h
  obtain ⟨a, rfl, β, fv, enc, bs, hs, hd, h1, h2, h3, q⟩ := h
  rw [Vals.ref1 r]
  obtain ⟨its, rv, hl, hz⟩ := I.list hs
  exact sorted_data hl.isList (vals_each rv) (each_reads I hd rv) h1 h2 (by rw [List.length_map] at hz; exact hz) (fun z hzm => by have := h3 z hzm; omega) fun out hlo he => sortG_fin I hz hlo he q
theorem cr_sortGR {b : Bool} (hu : X.A.units + 64 < cLine) : CallRK X (.builtin "sorted") [Str.ofString "reverse"] (rSortGR X.K b) := by
  intro pins s σ H vs zs us ws Q I r rz h
  obtain ⟨a, rfl, rfl, β, fv, enc, bs, hs, hd, h1, h2, h3, q⟩ := h
  obtain rfl := Vals.ref1 r
  obtain ⟨w1, rfl, e1⟩ := vals1 rz
  obtain rfl : w1 = Value.bool b := e1
  obtain ⟨its, rv, hl, hz⟩ := I.list hs
  exact sorted_rev_data hl.isList (vals_each rv) (each_reads I hd rv) h1 h2 (by rw [List.length_map] at hz; exact hz) (fun z hzm => by have := h3 z hzm; omega) fun out hlo he => sortG_fin I hz hlo he q
end
end L2
namespace Ac
open PySem PySem.Spec PyProof.Rows L2
def leD (rev : Bool) (a b : D) : Bool := cond rev (!ltD a b) (!ltD b a)
def sortD (rev : Bool) (ds : List D) : List D := ds.mergeSort (leD rev)
def tupl1 : D → Bool
  | .tup (_ :: _) => true
  | _ => false
def tuplD : D → Bool
  | .tup _ => true
  | _ => false
/-- data that can be sorted -/
def okSr (ds : List D) : Bool := okAl ds && (ds.all tupl1 || ds.all fun d => !tuplD d)
theorem okSr_s {ds : List D} (h : okSr ds = true) : PySem.W.AllAlike (ds.map D.pd) ∧ PySem.W.Sortable (ds.map D.pd) := by
  obtain ⟨h1, h2⟩ := Bool.and_eq_true_iff.mp h
  have a := okAl_al h1
  rw [pds_map] at a
  refine ⟨fun x hx y hy => a.1 x hx y hy, ?_⟩
  rcases Bool.or_eq_true_iff.mp h2 with h2 | h2
  · left
    intro d hd
    obtain ⟨e, he, rfl⟩ := List.mem_map.mp hd
    have := List.all_eq_true.mp h2 e he
    cases e with
    | tup xs => cases xs with
      | nil => cases this
      | cons x r => exact ⟨_, _, by rw [D.pd, pds]⟩
    | _ => cases this
  · right
    intro d hd
    refine ⟨a.2 d hd, ?_⟩
    obtain ⟨e, he, rfl⟩ := List.mem_map.mp hd
    have := List.all_eq_true.mp h2 e he
    cases e with
    | tup xs => cases this
    | _ => intro ys h; (first | cases h | (simp [D.pd] at h))
theorem zip_rp {K : PySem.W.Frag} {R : Rw} : ∀ {ws : List V} {ds : List D}, Rps K R ws ds → (ws.zip ds).map Prod.fst = ws ∧ (ws.zip ds).map Prod.snd = ds ∧ ∀ z ∈ ws.zip ds, Rp K R z.1 z.2
  | _, _, .nil => ⟨rfl, rfl, fun _ h => (List.not_mem_nil h).elim⟩
  | _, _, .cons r rs => by
    obtain ⟨a, b, c⟩ := zip_rp rs
    refine ⟨?_, ?_, ?_⟩
    · rw [List.zip_cons_cons, List.map_cons, a]
    · rw [List.zip_cons_cons, List.map_cons, b]
    · intro z hz
      rw [List.zip_cons_cons] at hz
      rcases List.mem_cons.mp hz with rfl | hz
      · exact r
      · exact c z hz
theorem rps_mapZ {K : PySem.W.Frag} {R : Rw} : ∀ {zs : List (V × D)}, (∀ z ∈ zs, Rp K R z.1 z.2) → Rps K R (zs.map Prod.fst) (zs.map Prod.snd)
  | [], _ => .nil
  | z :: zs, h => .cons (h z List.mem_cons_self) (rps_mapZ fun z hz => h z (List.mem_cons_of_mem _ hz))
theorem sort_zip {b : Bool} {zs : List (V × D)} : (zs.mergeSort (PySem.W.dataLe b fun z => z.2.pd)).map Prod.snd = sortD b (zs.map Prod.snd) := by
  unfold sortD
  refine List.map_mergeSort fun x _ y _ => ?_
  rw [PySem.W.dataLe_eq]; rfl
section
variable {Γ : Ct} {L : Mu} {Q : D → Mu → Prop}
theorem sortG_at {b : Bool} {X : Cx} {R0 R : Rw} {H : Hp} {d : D} {ds : List D} {v : V} (F : Fits Γ X R0) (A : AR Γ.T Γ.K R L H) (r : Rp Γ.K R v d) (hd : LsOf L d ds) (ho : okSr ds = true) :
    ∃ p, v = .ref p ∧ ∀ QV : VK, (∀ (vs : List V) (q : Addr), H q = none → Rps Γ.K R vs (sortD b ds) → QV (.ref q) (upd H q (.lst vs))) → SortG X.K b p H QV := by
  obtain ⟨p, ws, rfl, hp, rw'⟩ := hd.sql A r
  have hfl := (Bool.and_eq_true_iff.mp (Bool.and_eq_true_iff.mp ho).1).1
  obtain ⟨z1, z2, z3⟩ := zip_rp rw'
  obtain ⟨a1, a2⟩ := okSr_s ho
  have e2 : (ws.zip ds).map (fun z => z.2.pd) = ds.map D.pd := by
    conv => rhs; rw [← z2]
    rw [List.map_map]; rfl
  refine ⟨p, rfl, fun QV q => ⟨V × D, Prod.fst, fun z => z.2.pd, ws.zip ds, by rw [F.K, z1]; exact hp, fun z hz => ?_, by rw [e2]; exact a1, by rw [e2]; exact a2, fun z hz => ?_, fun y hy => ?_⟩⟩
  · have hm : z.2 ∈ ds := by rw [← z2]; exact List.mem_map.mpr ⟨z, hz, rfl⟩
    have := flats_all 58 ds ▸ hfl
    rw [F.K]
    exact (D.flat_dp A.sub (List.all_eq_true.mp this z.2 hm) (z3 z hz)).1
  · have hm : z.2 ∈ ds := by rw [← z2]; exact List.mem_map.mpr ⟨z, hz, rfl⟩
    have := flats_all 58 ds ▸ hfl
    exact Nat.le_trans (D.flat_dp A.sub (List.all_eq_true.mp this z.2 hm) (z3 z hz)).2.2 (by decide)
  · refine q _ y hy ?_
    have e3 := sort_zip (b := b) (zs := ws.zip ds)
    rw [z2] at e3
    rw [← e3]
    exact rps_mapZ fun z hz => z3 z ((List.mergeSort_perm _ _).mem_iff.mp hz)
theorem bc_sortG {d : D} {ds : List D} (hd : LsOf L d ds) (ho : okSr ds = true) (hq : Q (.lst (sortD false ds)) L) : BC Γ (.builtin "sorted") [d] L Q := fun X R0 F R H vs l A r0 QV g => by
  obtain ⟨v, rfl, r⟩ := r0.one
  obtain ⟨p, rfl, h⟩ := sortG_at (b := false) F A r hd ho
  refine CR_w (cr_sortG F.un) ⟨p, rfl, h QV fun vs q hq2 rs => ?_⟩
  have le := Le.upd (o := HO.lst vs) (A.sub.non hq2)
  exact g _ _ _ _ L le (A.new hq2) (.lst upd_same (rs.le le)) hq
theorem bc_sortGM {d : D} {ds : List D} (hd : LsOf L d ds) (ho : okSr ds = true) (hq : Q (.rf L.length) (L ++ [.lst (sortD false ds)])) : BC Γ (.builtin "sorted") [d] L Q := fun X R0 F R H vs l A r0 QV g => by
  obtain ⟨v, rfl, r⟩ := r0.one
  obtain ⟨p, rfl, h⟩ := sortG_at (b := false) F A r hd ho
  refine CR_w (cr_sortG F.un) ⟨p, rfl, h QV fun vs q hq2 rs => ?_⟩
  obtain ⟨A2, l2⟩ := A.cell (o := .lst vs) (m := .lst (sortD false ds)) hq2 ⟨_, upd_same, rs⟩
  exact g _ _ _ _ _ l2 A2 Rp.new hq
end
end Ac
end
section
/-! Gy18: str(x). -/
namespace Ac
open PySem PySem.Spec PyProof.Rows L2
def txI (i : Int) : Tx := ((toString i : String) : Str).cps.toList
section
variable {Γ : Ct} {L : Mu} {Q : D → Mu → Prop}
theorem bc_strI {i : Int} (hz : i.natAbs < 18446744073709551616) (hq : Q (.str (txI i)) L) : BC Γ (.type "str") [.int i] L Q := fun X R0 F R H vs l A r0 QV g => by
  obtain ⟨v, rfl, r⟩ := r0.one
  cases r
  have hl : i.natAbs.log2 < 1920 := by
    rcases Nat.eq_zero_or_pos i.natAbs with h | h
    · rw [h]; decide
    · exact Nat.lt_trans ((Nat.log2_lt (by omega)).mpr (show i.natAbs < 2 ^ 64 by omega)) (by decide)
  refine CR_w call_str_int ⟨i, rfl, hl, ?_⟩
  have e : Tx.s (txI i) = ((toString i : String) : Str) := Tx.s_tl _
  rw [← e]
  exact g _ _ R H L (Le.refl R) A .str hq
theorem bc_strS {x : Tx} (hq : Q (.str x) L) : BC Γ (.type "str") [.str x] L Q := fun X R0 F R H vs l A r0 QV g => by
  obtain ⟨v, rfl, r⟩ := r0.one
  cases r
  exact CR_w SkE.call_str_str ⟨_, rfl, g _ _ R H L (Le.refl R) A .str hq⟩
theorem b2_imulI {i j : Int} (hc : CMul i j) (hq : Q (.int (i * j)) L) : B2 Γ (inplaceOp .Mult) (.int i) (.int j) L Q := b2_ii (fun X => iop_mul) (fun H QV k => ⟨i, j, rfl, rfl, hc, k⟩) (fun _ _ => .int) hq
theorem b2_iaddS {x y : Tx} (hz : x.length + y.length ≤ sizeLine) (hq : Q (.str (x ++ y)) L) : B2 Γ (inplaceOp .Add) (.str x) (.str y) L Q :=
  b2_of (fun X _ _ => iop_add_str) (fun X R H v u QV _ _ r1 r2 q => by cases r1; cases r2; exact ⟨Tx.s x, Tx.s y, rfl, rfl, by rw [Tx.len, Tx.len]; exact hz, by rw [Tx.app]; exact q _ .str⟩) hq
end
end Ac
end
section
/-! Ev1: the terms of a def, and what they come to. -/
namespace Ac
open PySem PySem.Spec PyProof.Rows L2

/-- built-ins that are called -/
inductive Bi | len | abs | min | max | sum | int | list | tuple | str | srt | dct
  deriving DecidableEq
/-- methods of built-in types -/
inductive Bm | startswith | join | append | count | pop | index | scount
  deriving DecidableEq
/-- what a def's table bears -/
inductive Fl | no | lam | gen
  deriving DecidableEq
/-- what takes a generator expression -/
inductive Gk | any | all | sum
  deriving DecidableEq
/-- iterables that are made for a loop -/
inductive Ik | enm
  deriving DecidableEq
inductive T where
  | loc (i : Nat) | non | bl (b : Bool) | int (i : Int) | str (x : Tx) | glb (g : Nat)
  | bin (op : Operator) (a b : T) | neg (a : T) | cmp (op : CmpOp) (a b : T) | chn (op op' : CmpOp) (a b c : T)
  | and (a b : T) | or (a b : T) | not (a : T) | ite (c a b : T)
  | nil | cons (a b : T) | tup (es : T) | lst (m : Bool) (es : T)
  | ix (a b : T) | sl (a lo hi : T) | nop
  | call (f : Nat) (es : T) | mk (c : Nat) (es : T) | meth (m : Nat) (o es : T) | fld (f : Nat) (o : T)
  | bi (b : Bi) (m : Bool) (es : T) | bm (b : Bm) (o e : T) | rng (a b c : T) | lrg (tp : Bool) (a b c : T)
  | lc (m : Bool) (own : List Nat) (tg it cd e : T)
  | itr (k : Ik) (e : T) | lrm (a : T) | pop0 (o : T) | binM (op : Operator) (a b : T)
  | told (f : Nat) (e : T) | gen (kd : Gk) (own : List Nat) (tg it cd e : T)
inductive S where
  | skip | ex (e : T) | asg (tg e : T) | aug (op : Operator) (tg e : T) | ret (e : T) | retN
  | ifs (c : T) (a b : S) | for_ (tg it : T) (b : S) | whl (c : T) (b : S) | brk | cnt
  | rse (c : Nat) (e : T) | nil | seq (a b : S)

/-! ### what an expression comes to -/
inductive RE where
  | ok (d : D) (L : Mu) | ex (c : Nat) (p : Option D) (L : Mu) | no
def eb (r : RE) (f : D → Mu → RE) : RE := match r with
  | .ok d L => f d L
  | .ex c p L => .ex c p L
  | .no => .no
def eB (r : RE) (f : Bool → Mu → RE) : RE := match r with
  | .ok (.bl b) L => f b L
  | .ok _ _ => .no
  | .ex c p L => .ex c p L
  | .no => .no
def gd (b : Bool) (r : RE) : RE := if b then r else .no
def SL : Nat := 16777216

/-- what reads as a list -/
def lsO (L : Mu) : D → Option (List D)
  | .lst xs => some xs
  | .lsk xs => some xs
  | .rf i => match L[i]? with
    | some (.lst xs) => some xs
    | _ => none
  | _ => none
def ltO (L : Mu) : D → Option (List D)
  | .lst xs => some xs
  | .rf i => match L[i]? with
    | some (.lst xs) => some xs
    | _ => none
  | _ => none
def sqO (L : Mu) : D → Option (List D)
  | .tup xs => some xs
  | d => lsO L d
def insO (L : Mu) : D → Option (Nat × List D)
  | .obj C xs => some (C, xs)
  | .rf i => match L[i]? with
    | some (.ins C xs) => some (C, xs)
    | _ => none
  | _ => none
def intsO : List D → Option (List Int)
  | [] => some []
  | .int i :: ds => (intsO ds).map (i :: ·)
  | _ => none
def txs : List D → Option (List Tx)
  | [] => some []
  | .str i :: ds => (txs ds).map (i :: ·)
  | _ => none
mutual
/-- the same data -/
def D.same : D → D → Bool
  | .non, .non => true
  | .bl a, .bl b => a == b
  | .int a, .int b => a == b
  | .str a, .str b => a == b
  | .tup a, .tup b => D.sames a b
  | .lst a, .lst b => D.sames a b
  | .lsk a, .lsk b => D.sames a b
  | .rf a, .rf b => a == b
  | .obj C a, .obj C' b => C == C' && D.sames a b
  | _, _ => false
def D.sames : List D → List D → Bool
  | [], [] => true
  | a :: as, b :: bs => D.same a b && D.sames as bs
  | _, _ => false
end
mutual
theorem D.same_eq : ∀ {a b : D}, D.same a b = true → a = b
  | .non, .non, _ => rfl
  | .bl a, .bl b, h => by simp [D.same] at h; rw [h]
  | .int a, .int b, h => by simp [D.same] at h; rw [h]
  | .str a, .str b, h => by simp [D.same] at h; rw [h]
  | .tup a, .tup b, h => by simp [D.same] at h; rw [D.sames_eq h]
  | .lst a, .lst b, h => by simp [D.same] at h; rw [D.sames_eq h]
  | .lsk a, .lsk b, h => by simp [D.same] at h; rw [D.sames_eq h]
  | .rf a, .rf b, h => by simp [D.same] at h; rw [h]
  | .obj C a, .obj C' b, h => by simp [D.same] at h; rw [h.1, D.sames_eq h.2]
  | .non, .bl _, h | .non, .int _, h | .non, .str _, h | .non, .tup _, h | .non, .lst _, h | .non, .lsk _, h | .non, .rf _, h | .non, .obj _ _, h | .non, .dct _, h | .non, .dtt _, h | .non, .ty _, h | .non, .lam _, h => by simp [D.same] at h
  | .bl _, .non, h | .bl _, .int _, h | .bl _, .str _, h | .bl _, .tup _, h | .bl _, .lst _, h | .bl _, .lsk _, h | .bl _, .rf _, h | .bl _, .obj _ _, h | .bl _, .dct _, h | .bl _, .dtt _, h | .bl _, .ty _, h | .bl _, .lam _, h => by simp [D.same] at h
  | .int _, .non, h | .int _, .bl _, h | .int _, .str _, h | .int _, .tup _, h | .int _, .lst _, h | .int _, .lsk _, h | .int _, .rf _, h | .int _, .obj _ _, h | .int _, .dct _, h | .int _, .dtt _, h | .int _, .ty _, h | .int _, .lam _, h => by simp [D.same] at h
  | .str _, .non, h | .str _, .bl _, h | .str _, .int _, h | .str _, .tup _, h | .str _, .lst _, h | .str _, .lsk _, h | .str _, .rf _, h | .str _, .obj _ _, h | .str _, .dct _, h | .str _, .dtt _, h | .str _, .ty _, h | .str _, .lam _, h => by simp [D.same] at h
  | .tup _, .non, h | .tup _, .bl _, h | .tup _, .int _, h | .tup _, .str _, h | .tup _, .lst _, h | .tup _, .lsk _, h | .tup _, .rf _, h | .tup _, .obj _ _, h | .tup _, .dct _, h | .tup _, .dtt _, h | .tup _, .ty _, h | .tup _, .lam _, h => by simp [D.same] at h
  | .lst _, .non, h | .lst _, .bl _, h | .lst _, .int _, h | .lst _, .str _, h | .lst _, .tup _, h | .lst _, .lsk _, h | .lst _, .rf _, h | .lst _, .obj _ _, h | .lst _, .dct _, h | .lst _, .dtt _, h | .lst _, .ty _, h | .lst _, .lam _, h => by simp [D.same] at h
  | .lsk _, .non, h | .lsk _, .bl _, h | .lsk _, .int _, h | .lsk _, .str _, h | .lsk _, .tup _, h | .lsk _, .lst _, h | .lsk _, .rf _, h | .lsk _, .obj _ _, h | .lsk _, .dct _, h | .lsk _, .dtt _, h | .lsk _, .ty _, h | .lsk _, .lam _, h => by simp [D.same] at h
  | .rf _, .non, h | .rf _, .bl _, h | .rf _, .int _, h | .rf _, .str _, h | .rf _, .tup _, h | .rf _, .lst _, h | .rf _, .lsk _, h | .rf _, .obj _ _, h | .rf _, .dct _, h | .rf _, .dtt _, h | .rf _, .ty _, h | .rf _, .lam _, h => by simp [D.same] at h
  | .obj _ _, .non, h | .obj _ _, .bl _, h | .obj _ _, .int _, h | .obj _ _, .str _, h | .obj _ _, .tup _, h | .obj _ _, .lst _, h | .obj _ _, .lsk _, h | .obj _ _, .rf _, h | .obj _ _, .dct _, h | .obj _ _, .dtt _, h | .obj _ _, .ty _, h | .obj _ _, .lam _, h => by simp [D.same] at h
  | .dct _, _, h | .dtt _, _, h | .ty _, _, h | .lam _, _, h => by simp [D.same] at h
theorem D.sames_eq : ∀ {a b : List D}, D.sames a b = true → a = b
  | [], [], _ => rfl
  | a :: as, b :: bs, h => by simp [D.sames] at h; rw [D.same_eq h.1, D.sames_eq h.2]
  | [], _ :: _, h => by simp [D.sames] at h
  | _ :: _, [], h => by simp [D.sames] at h
end
mutual
theorem D.same_refl : ∀ {n : Nat} {a : D}, D.flat n a = true → D.same a a = true
  | n, .non, _ => by simp [D.same]
  | n, .bl a, _ => by simp [D.same]
  | n, .int a, _ => by simp [D.same]
  | n, .str a, _ => by simp [D.same]
  | n + 1, .tup a, h => by simp only [D.flat] at h; simp only [D.same]; exact D.sames_refl h
  | n + 1, .lst a, h => by simp only [D.flat] at h; simp only [D.same]; exact D.sames_refl h
  | 0, .tup _, h | 0, .lst _, h => by simp [D.flat] at h
  | _, .lsk _, h | _, .rf _, h | _, .obj _ _, h | _, .dct _, h | _, .dtt _, h | _, .ty _, h | _, .lam _, h => by simp [D.flat] at h
theorem D.sames_refl : ∀ {n : Nat} {a : List D}, flats n a = true → D.sames a a = true
  | n, [], _ => by simp [D.sames]
  | n, a :: as, h => by
    simp only [flats, Bool.and_eq_true] at h
    simp only [D.sames, Bool.and_eq_true]
    exact ⟨D.same_refl h.1, D.sames_refl h.2⟩
end
/-- the cell that must stand still does so -/
def stands (xs : List D) : Option Nat → Mu → Bool
  | none, _ => true
  | some i, L => match L[i]? with
    | some (.lst ys) => D.sames xs ys
    | _ => false
def tOk (x : Tx) : Bool := PyData.strOk (Tx.s x)
mutual
/-- data read through its cells -/
def rsv (L : Mu) : Nat → D → Option D
  | _, .non => some .non
  | _, .bl b => some (.bl b)
  | _, .int i => some (.int i)
  | _, .str x => if tOk x then some (.str x) else none
  | n + 1, .tup xs => (rsvs L n xs).map .tup
  | n + 1, .lst xs => (rsvs L n xs).map .lst
  | n + 1, .rf i => match L[i]? with
    | some (.lst xs) => (rsvs L n xs).map .lst
    | _ => none
  | _, _ => none
def rsvs (L : Mu) : Nat → List D → Option (List D)
  | _, [] => some []
  | n, d :: ds => match rsv L n d with
    | some e => (rsvs L n ds).map (e :: ·)
    | none => none
end
/-- what reads as a dict -/
def dcO (L : Mu) : D → Option (List (Kt × D))
  | .dct ks => some ks
  | .rf i => match L[i]? with
    | some (.dct ks) => some ks
    | _ => none
  | _ => none
def eqO (x y : D) (L : Mu) (neg : Bool) : RE := match x, y with
  | .int a, .int b => .ok (.bl (decide (a = b) != neg)) L
  | x, y => match rsv L 60 x, rsv L 60 y with
    | some a, some b => .ok (.bl (a.eq b != neg)) L
    | _, _ => match dcO L x, dcO L y with
      | some ks, some ls => gd (dcEq ks ls) (.ok (.bl (!neg)) L)
      | _, _ => .no
def inO (x y : D) (L : Mu) (neg : Bool) : RE := match x, y with
  | .str [c], .str z => .ok (.bl (decide (c ∈ z) != neg)) L
  | x, y => match sqO L y with
  | some ds => gd (x.fl && ds.all D.fl) (.ok (.bl (inV x.v (ds.map D.v) != neg)) L)
  | none => match dcO L y, ktO x with
    | some ks, some k => .ok (.bl ((valD ks k).isSome != neg)) L
    | _, _ => .no
/-- operators -/
def o2 (op : Operator) (x y : D) (L : Mu) : RE := match op, x, y with
  | .Add, .int a, .int b => .ok (.int (a + b)) L
  | .Sub, .int a, .int b => .ok (.int (a - b)) L
  | .Mult, .int a, .int b => gd (decide (a.natAbs < 18446744073709551616) || decide (b.natAbs < 18446744073709551616)) (.ok (.int (a * b)) L)
  | .FloorDiv, .int a, .int b => gd (decide (0 < b) && decide (b < 1073741824)) (.ok (.int (a / b)) L)
  | .Mod, .int a, .int b => gd (decide (0 < b)) (.ok (.int (a % b)) L)
  | .Pow, .int a, .int b => gd (decide (0 ≤ b) && decide (b ≤ 1000000) && decide (a.natAbs < 18446744073709551616)) (.ok (.int (a ^ b.toNat)) L)
  | .Add, .str a, .str b => gd (decide (a.length + b.length ≤ SL)) (.ok (.str (a ++ b)) L)
  | .Add, .tup a, .tup b => gd (decide (a.length + b.length ≤ SL)) (.ok (.tup (a ++ b)) L)
  | .Add, x, y => match ltO L x, ltO L y with
    | some a, some b => gd (decide (a.length + b.length ≤ SL)) (.ok (.lst (a ++ b)) L)
    | _, _ => .no
  | .Mult, x, .int k => match ltO L x with
    | some a => gd (decide (-9223372036854775808 ≤ k) && decide (k < 9223372036854775808) && decide (a.length * k.toNat ≤ SL)) (.ok (.lst (List.replicate k.toNat a).flatten) L)
    | none => .no
  | _, _, _ => .no
/-- lists added, repeated: a cell -/
def o2M (op : Operator) (x y : D) (L : Mu) : RE := match op, x, y with
  | .Add, x, y => match ltO L x, ltO L y with
    | some a, some b => gd (decide (a.length + b.length ≤ SL)) (.ok (.rf L.length) (L ++ [.lst (a ++ b)]))
    | _, _ => .no
  | .Mult, x, .int k => match ltO L x with
    | some a => gd (decide (-9223372036854775808 ≤ k) && decide (k < 9223372036854775808) && decide (a.length * k.toNat ≤ SL)) (.ok (.rf L.length) (L ++ [.lst (List.replicate k.toNat a).flatten]))
    | none => .no
  | _, _, _ => .no
def isN : D → Bool
  | .non => true
  | _ => false
def oc (op : CmpOp) (x y : D) (L : Mu) : RE := match op, x, y with
  | .Lt, .int a, .int b => .ok (.bl (decide (a < b))) L
  | .LtE, .int a, .int b => .ok (.bl (decide (a ≤ b))) L
  | .Gt, .int a, .int b => .ok (.bl (decide (b < a))) L
  | .GtE, .int a, .int b => .ok (.bl (decide (b ≤ a))) L
  | .Lt, x, y => gd (okAl [x, y]) (.ok (.bl (ltD x y)) L)
  | .LtE, x, y => gd (okAl [x, y]) (.ok (.bl (!ltD y x)) L)
  | .Gt, x, y => gd (okAl [x, y]) (.ok (.bl (ltD y x)) L)
  | .GtE, x, y => gd (okAl [x, y]) (.ok (.bl (!ltD x y)) L)
  | .Eq, x, y => eqO x y L false
  | .NotEq, x, y => eqO x y L true
  | .In, x, y => inO x y L false
  | .NotIn, x, y => inO x y L true
  | .Is, x, .non => .ok (.bl (isN x)) L
  | .IsNot, x, .non => .ok (.bl (!isN x)) L
  | _, _, _ => .no
/-- op= -/
def o2i (op : Operator) (x y : D) (L : Mu) : RE := match op, x, y with
  | .Add, .int a, .int b => .ok (.int (a + b)) L
  | .Sub, .int a, .int b => .ok (.int (a - b)) L
  | .Mult, .int a, .int b => gd (decide (a.natAbs < 18446744073709551616) || decide (b.natAbs < 18446744073709551616)) (.ok (.int (a * b)) L)
  | .Add, .str a, .str b => gd (decide (a.length + b.length ≤ SL)) (.ok (.str (a ++ b)) L)
  | .Add, .rf k, y => match L[k]?, ltO L y with
    | some (.lst a), some b => gd (decide (a.length + b.length ≤ SL)) (.ok (.rf k) (L.set k (.lst (a ++ b))))
    | _, _ => .no
  | _, _, _ => .no
def ixO (d y : D) (L : Mu) : RE := match d, y with
  | .tup xs, .int i => match atI xs i with
    | some z => .ok z L
    | none => .no
  | .str x, .int i => match atI x i with
    | some c => gd (decide (x.length ≤ SL)) (.ok (.str [c]) L)
    | none => .no
  | d, y => match lsO L d with
    | some xs => match y with
      | .int i => match atI xs i with
        | some z => .ok z L
        | none => .no
      | _ => .no
    | none => match dcO L d, ktO y with
      | some ks, some k => match valD ks k with
        | some z => .ok z L
        | none => .no
      | _, _ => .no
def slO (d : D) (i j : Option Int) (L : Mu) : RE := match d with
  | .tup xs => .ok (.tup (cut xs i j)) L
  | .str x => gd (decide (x.length ≤ SL)) (.ok (.str (cut x i j)) L)
  | d => match lsO L d with
    | some xs => .ok (.lst (cut xs i j)) L
    | none => .no
def mkDc (m : Bool) (ks : List (Kt × D)) (L : Mu) : RE := if m then .ok (.rf L.length) (L ++ [.dct ks]) else .ok (.dct ks) L
def mkL (m : Bool) (xs : List D) (L : Mu) : RE := if m then .ok (.rf L.length) (L ++ [.lst xs]) else .ok (.lst xs) L
def tpsO : List D → Option (List (List Int))
  | [] => some []
  | .tup xs :: ds => match intsO xs with
    | some ns => (tpsO ds).map (ns :: ·)
    | none => none
  | _ => none
/-- the least, the greatest -/
def lstR (b : Bool) (xs : List D) (L : Mu) : RE := match intsO xs with
  | some ns => gd (!ns.isEmpty) (.ok (.int (if b then minI ns else maxI ns)) L)
  | none => match tpsO xs with
    | some (x :: r) => .ok (tupD (if b then lstT x r else grtT x r)) L
    | _ => match xs with
      | x :: r => gd (okAl (x :: r)) (.ok (if b then leastD x r else mostD x r) L)
      | [] => .no
/-- built-ins -/
def biO (b : Bi) (m : Bool) (ds : List D) (L : Mu) : RE := match b, ds with
  | .len, [.str x] => gd (decide (x.length ≤ SL)) (.ok (.int x.length) L)
  | .len, [d] => match sqO L d with
    | some xs => .ok (.int xs.length) L
    | none => match dcO L d with
      | some ks => .ok (.int ks.length) L
      | none => .no
  | .abs, [.int i] => .ok (.int (if i < 0 then -i else i)) L
  | .min, [.int a, .int b] => .ok (.int (min a b)) L
  | .max, [.int a, .int b] => .ok (.int (max a b)) L
  | .min, [.int a, .int b, .int c] => .ok (.int (min (min a b) c)) L
  | .max, [.int a, .int b, .int c] => .ok (.int (max (max a b) c)) L
  | .min, [.int a, .int b, .int c, .int d] => .ok (.int (min (min (min a b) c) d)) L
  | .min, [d] => match sqO L d with
    | some xs => lstR true xs L
    | none => .no
  | .max, [d] => match sqO L d with
    | some xs => lstR false xs L
    | none => .no
  | .sum, [d] => match sqO L d with
    | some xs => match intsO xs with
      | some ns => .ok (.int ns.sum) L
      | none => .no
    | none => .no
  | .int, [.int i] => .ok (.int i) L
  | .int, [.bl b] => .ok (.int (if b then 1 else 0)) L
  | .list, [d] => match sqO L d with
    | some xs => mkL m xs L
    | none => .no
  | .tuple, [d] => match sqO L d with
    | some xs => .ok (.tup xs) L
    | none => .no
  | .srt, [d] => match sqO L d with
    | some xs => match intsO xs with
      | some ns => mkL m ((sortI ns).map .int) L
      | none => match txs xs with
        | some ns => mkL m ((sortT ns).map .str) L
        | none => match lsO L d with
          | some xs => gd (okSr xs) (mkL m (sortD false xs) L)
          | none => .no
    | none => match dcO L d with
      | some ks => match keysI ks with
        | some ns => mkL m ((sortI ns).map .int) L
        | none => match keysS ks with
          | some ns => mkL m ((sortT ns).map .str) L
          | none => .no
      | none => .no
  | .str, [.int i] => gd (decide (i.natAbs < 18446744073709551616)) (.ok (.str (txI i)) L)
  | .str, [.str x] => .ok (.str x) L
  | .dct, [d] => match lsO L d with
    | some xs => match prsO xs with
      | some ks => mkDc m (mergeD [] ks) L
      | none => .no
    | none => .no
  | _, _ => .no
/-- range(..): its ints -/
def rgO (ds : List D) : Option (List Int) := match ds with
  | [.int j] => if decide (-4611686018427387904 ≤ j) && decide (j < 4611686018427387904) then some (rg 0 j) else none
  | [.int i, .int j] => if decide (-4611686018427387904 ≤ i) && decide (i < 4611686018427387904) && decide (-4611686018427387904 ≤ j) && decide (j < 4611686018427387904) then some (rg i j) else none
  | [.int i, .int j, .int c] => if decide (c ≠ 0) && decide (c.natAbs < 1073741824) && Builtin.Range.small i j c && decide (Builtin.Range.rangeSize i j c ≤ 16777216) then some (rgc i c (Builtin.Range.rangeSize i j c).toNat) else none
  | _ => none
/-- is it of the method's type? -/
def bmP (b : Bm) (d : D) (L : Mu) : Bool := match b, d with
  | .startswith, .str _ => true
  | .join, .str _ => true
  | .scount, .str _ => true
  | .append, .rf k => match L[k]? with
    | some (.lst _) => true
    | _ => false
  | .count, d => (lsO L d).isSome
  | .index, d => (lsO L d).isSome
  | .pop, .rf k => match L[k]? with
    | some (.lst _) => true
    | _ => false
  | _, _ => false
/-- a method of a built-in type, one argument -/
def bmO (b : Bm) (d : D) (ds : List D) (L : Mu) : RE := match b, d, ds with
  | .startswith, .str a, [.str b] => .ok (.bl (Txt.startswith (Tx.s a) (Tx.s b))) L
  | .scount, .str a, [.str b] => .ok (.int (Txt.count (Tx.s a) (Tx.s b))) L
  | .join, .str a, [d] => match sqO L d with
    | some xs => match txs xs with
      | some ys => gd (decide ((ys.map (·.length)).sum + ys.length * a.length ≤ 16777216)) (.ok (.str (TL.joinL a ys)) L)
      | none => .no
    | none => .no
  | .append, .rf k, [y] => match L[k]? with
    | some (.lst xs) => gd (decide (xs.length < SL)) (.ok .non (L.set k (.lst (xs ++ [y]))))
    | _ => .no
  | .count, d, [.int i] => match lsO L d with
    | some xs => match intsO xs with
      | some ns => .ok (.int (ns.count i : Nat)) L
      | none => .no
    | none => .no
  | .count, d, [.str x] => match lsO L d with
    | some xs => match txs xs with
      | some ns => .ok (.int (ns.count x : Nat)) L
      | none => .no
    | none => .no
  | .index, d, [.int i] => match lsO L d with
    | some xs => match intsO xs with
      | some ns => gd (decide (i ∈ ns)) (.ok (.int (ns.idxOf i : Nat)) L)
      | none => .no
    | none => .no
  | .index, d, [.str x] => match lsO L d with
    | some xs => match txs xs with
      | some ns => gd (decide (x ∈ ns)) (.ok (.int (ns.idxOf x : Nat)) L)
      | none => .no
    | none => .no
  | .pop, .rf k, [.int i] => match L[k]? with
    | some (.lst xs) => match seqIndex? i xs.length with
      | some j => match xs[j]? with
        | some z => gd (decide (-(2 ^ 63) ≤ i) && decide (i < 2 ^ 63)) (.ok z (L.set k (.lst (xs.eraseIdx j))))
        | none => .no
      | none => .no
    | _ => .no
  | _, _, _ => .no
/-- pop() -/
def popO (d : D) (L : Mu) : RE := match d with
  | .rf k => match L[k]? with
    | some (.lst xs) => match xs[xs.length - 1]? with
      | some z => .ok z (L.set k (.lst xs.dropLast))
      | none => .no
    | _ => .no
  | _ => .no
def itrO (k : Ik) (d : D) (L : Mu) : RE := match k with
  | .enm => match sqI d with
    | some xs => .ok (.tup (enm 0 xs)) L
    | none => .no
/-- targets that are names, or tuples of names -/
def asgN : T → D → Ds → Option Ds
  | .loc i, d, δ => some (δ.set i (some d))
  | .tup es, .tup ds, δ => asgNs es ds δ
  | _, _, _ => none
where asgNs : T → List D → Ds → Option Ds
  | .nil, [], δ => some δ
  | .cons a b, d :: ds, δ => match asgN a d δ with
    | some δ' => asgNs b ds δ'
    | none => none
  | _, _, _ => none
/-- what is walked, and the cell that must stand still -/
def itO (L : Mu) : D → Option (List D × Option Nat)
  | .tup xs => some (xs, none)
  | .lst xs => some (xs, none)
  | .lsk xs => some (xs, none)
  | .str x => some (x.map fun c => .str [c], none)
  | .rf i => match L[i]? with
    | some (.lst xs) => some (xs, some i)
    | _ => none
  | _ => none
end Ac
end
section
/-! Ev2: what a def comes to. -/
namespace Ac
open PySem PySem.Spec PyProof.Rows L2

mutual
/-- no cell from n on is named -/
def D.blw (n : Nat) : D → Bool
  | .tup xs => D.blws n xs
  | .lst xs => D.blws n xs
  | .lsk xs => D.blws n xs
  | .obj _ xs => D.blws n xs
  | .dct ks => D.blwk n ks
  | .dtt ks => D.blwt n ks
  | .rf i => decide (i < n)
  | _ => true
def D.blws (n : Nat) : List D → Bool
  | [] => true
  | d :: ds => D.blw n d && D.blws n ds
def D.blwk (n : Nat) : List (Kt × D) → Bool
  | [] => true
  | (_, d) :: ds => D.blw n d && D.blwk n ds
def D.blwt (n : Nat) : List (List Kt × D) → Bool
  | [] => true
  | (_, d) :: ds => D.blw n d && D.blwt n ds
end
def MO.blw (n : Nat) : MO → Bool
  | .lst xs => D.blws n xs
  | .ins _ xs => D.blws n xs
  | .dct ks => D.blwk n ks
  | .dtt ks => D.blwt n ks
mutual
/-- cells from n on are read for good -/
def dfz (L : Mu) (n : Nat) : Nat → D → Option D
  | k + 1, .tup xs => (dfzs L n k xs).map .tup
  | k + 1, .lst xs => (dfzs L n k xs).map .lst
  | k + 1, .obj C xs => (dfzs L n k xs).map (.obj C)
  | k + 1, .rf i => if i < n then some (.rf i) else match L[i]? with
    | some (.lst xs) => (dfzs L n k xs).map .lst
    | some (.ins C xs) => (dfzs L n k xs).map (.obj C)
    | some (.dct ks) => (dfzk L n k ks).map .dct
    | _ => none
  | k + 1, .dct ks => (dfzk L n k ks).map .dct
  | _, .non => some .non
  | _, .bl b => some (.bl b)
  | _, .int i => some (.int i)
  | _, .str x => some (.str x)
  | _, .ty x => some (.ty x)
  | _, _ => none
def dfzs (L : Mu) (n : Nat) : Nat → List D → Option (List D)
  | _, [] => some []
  | k, d :: ds => match dfz L n k d with
    | some e => (dfzs L n k ds).map (e :: ·)
    | none => none
def dfzk (L : Mu) (n : Nat) : Nat → List (Kt × D) → Option (List (Kt × D))
  | _, [] => some []
  | k, (y, d) :: ds => match dfz L n k d with
    | some e => (dfzk L n k ds).map ((y, e) :: ·)
    | none => none
end
def payB (n : Nat) : Option D → Bool
  | none => true
  | some d => d.blw n
/-- the end of a call: 0 as it is, 1 new cells are dropped, 2 .. and what is handed back is read for good -/
def fin (md n0 : Nat) (r : RE) : RE := match md, r with
  | 0, r => r
  | 1, .ok d L => gd (d.blw n0 && (L.take n0).all (MO.blw n0)) (.ok d (L.take n0))
  | _, .ok d L => match dfz L n0 60 d with
    | some e => gd ((L.take n0).all (MO.blw n0)) (.ok e (L.take n0))
    | none => .no
  | _, .ex c p L => gd (payB n0 p && (L.take n0).all (MO.blw n0)) (.ex c p (L.take n0))
  | _, .no => .no

structure Fd where
  np : Nat
  n : Nat
  body : S
  md : Nat
structure Cd where
  init : Nat
  frz : Bool
  fl : List Nat
  ml : List (Nat × Nat)
structure Prg where
  fns : List Fd
  cls : List Cd
  glb : List D
  sub : Nat → Nat → Bool
  rs : Nat → Bool
  tl : Nat → List (Nat × Tx)

/-- what a comprehension makes -/
def lcL (g : Mu → Bool) (f : D → Mu → Option (Option D × Mu)) : List D → Mu → Option (List D × Mu)
  | [], L => if g L then some ([], L) else none
  | d :: ds, L => if g L then (match f d L with
    | some (o, L1) => match lcL g f ds L1 with
      | some (ys, L2) => some (o.toList ++ ys, L2)
      | none => none
    | none => none) else none
def gkF : Gk → Int → D
  | .any, _ => .bl false
  | .all, _ => .bl true
  | .sum, c => .int c
def inL (i : Int) : Bool := decide (-(2 ^ 63) ≤ i) && decide (i < 2 ^ 63)
def gkS : Gk → Int → D → Option (Int ⊕ D)
  | .any, c, .bl b => some (if b then .inr (.bl true) else .inl c)
  | .all, c, .bl b => some (if b then .inl c else .inr (.bl false))
  | .sum, c, .int k => if inL k && inL (c + k) then some (.inl (c + k)) else none
  | .sum, c, .bl b => if inL (c + if b = true then 1 else 0) then some (.inl (c + if b = true then 1 else 0)) else none
  | _, _, _ => none
/-- what the taker of a generator expression comes to -/
def gnL (g : Mu → Bool) (f : D → Mu → Option (Option D × Mu)) (kd : Gk) : Int → List D → Mu → RE
  | c, [], L => if g L then .ok (gkF kd c) L else .no
  | c, d :: ds, L => if g L then (match f d L with
    | some (some y, L1) => (match gkS kd c y with
      | some (.inl c') => gnL g f kd c' ds L1
      | some (.inr r) => .ok r L1
      | none => .no)
    | some (none, L1) => gnL g f kd c ds L1
    | none => .no) else .no
def isNop : T → Bool
  | .nop => true
  | _ => false
def tellO (sub : Nat → Nat → Bool) : List (Nat × Tx) → Nat → Mu → RE
  | [], _, _ => .no
  | (C, t) :: l, c, L => if sub c C then .ok (.str t) L else tellO sub l c L
def rgR (ds : List D) (L : Mu) : RE := match rgO ds with
  | some ns => .ok (.tup (ns.map .int)) L
  | none => .no
def rgL (tp : Bool) (ds : List D) (L : Mu) : RE := match rgO ds with
  | some ns => gd (decide (ns.length ≤ SL)) (.ok (if tp then .tup (ns.map .int) else .lst (ns.map .int)) L)
  | none => .no
def argO : D → Option (List D)
  | .tup ds => some ds
  | _ => none
section
variable (P : Prg) (call : Nat → List D → Mu → RE)
def mkO (c : Nat) (ds : List D) (L : Mu) : RE := match P.cls[c]? with
  | none => .no
  | some C => match call C.init (.rf L.length :: ds) (L ++ [.ins c []]) with
    | .ok .non L2 => if C.frz then fin 2 L.length (.ok (.rf L.length) L2) else .ok (.rf L.length) L2
    | .ok _ _ => .no
    | .ex c p L2 => fin 1 L.length (.ex c p L2)
    | .no => .no
def methF (m : Nat) (d : D) (L : Mu) : Option Nat := match insO L d with
  | none => none
  | some (C, _) => match P.cls[C]? with
    | none => none
    | some c => c.ml.lookup m
def fldO (f : Nat) (d : D) (L : Mu) : RE := match insO L d with
  | none => .no
  | some (C, xs) => match P.cls[C]? with
    | none => .no
    | some c => match c.fl.idxOf? f with
      | none => .no
      | some j => match xs[j]? with
        | none => .no
        | some x => .ok x L
def eA (r : RE) (f : List D → Mu → RE) : RE := match r with
  | .ok (.tup ds) L => f ds L
  | .ok _ _ => .no
  | .ex c p L => .ex c p L
  | .no => .no
def eO (r : RE) (f : Int → Mu → RE) : RE := match r with
  | .ok (.int i) L => f i L
  | .ok _ _ => .no
  | .ex c p L => .ex c p L
  | .no => .no
def ev : T → Ds → Mu → RE
  | .loc i, δ, L => match δ[i]? with
    | some (some d) => .ok d L
    | _ => .no
  | .non, _, L => .ok .non L
  | .bl b, _, L => .ok (.bl b) L
  | .int i, _, L => .ok (.int i) L
  | .str x, _, L => .ok (.str x) L
  | .glb g, _, L => match P.glb[g]? with
    | some d => .ok d L
    | none => .no
  | .bin op a b, δ, L => eb (ev a δ L) fun x L => eb (ev b δ L) fun y L => o2 op x y L
  | .binM op a b, δ, L => eb (ev a δ L) fun x L => eb (ev b δ L) fun y L => o2M op x y L
  | .neg a, δ, L => eO (ev a δ L) fun i L => .ok (.int (-i)) L
  | .cmp op a b, δ, L => eb (ev a δ L) fun x L => eb (ev b δ L) fun y L => oc op x y L
  | .chn op op' a b c, δ, L => eb (ev a δ L) fun x L => eb (ev b δ L) fun y L => eB (oc op x y L) fun k L => if k then (eb (ev c δ L) fun z L => oc op' y z L) else .ok (.bl false) L
  | .and a b, δ, L => eB (ev a δ L) fun k L => if k then ev b δ L else .ok (.bl false) L
  | .or a b, δ, L => eB (ev a δ L) fun k L => if k then .ok (.bl true) L else ev b δ L
  | .not a, δ, L => eB (ev a δ L) fun k L => .ok (.bl (!k)) L
  | .ite c a b, δ, L => eB (ev c δ L) fun k L => if k then ev a δ L else ev b δ L
  | .nil, _, L => .ok (.tup []) L
  | .cons a b, δ, L => eb (ev a δ L) fun d L => eA (ev b δ L) fun ds L => .ok (.tup (d :: ds)) L
  | .tup es, δ, L => eA (ev es δ L) fun ds L => gd (decide (ds.length ≤ SL)) (.ok (.tup ds) L)
  | .lst m es, δ, L => eA (ev es δ L) fun ds L => gd (decide (ds.length ≤ SL)) (mkL m ds L)
  | .ix a b, δ, L => eb (ev a δ L) fun d L => eb (ev b δ L) fun y L => ixO d y L
  | .sl a lo hi, δ, L => eb (ev a δ L) fun d L =>
      if isNop lo then (if isNop hi then slO d none none L else eO (ev hi δ L) fun j L => slO d none (some j) L)
      else eO (ev lo δ L) fun i L => if isNop hi then slO d (some i) none L else eO (ev hi δ L) fun j L => slO d (some i) (some j) L
  | .nop, _, _ => .no
  | .call f es, δ, L => eA (ev es δ L) fun ds L => call f ds L
  | .mk c es, δ, L => eA (ev es δ L) fun ds L => mkO P call c ds L
  | .meth m o es, δ, L => eb (ev o δ L) fun d L0 => match methF P m d L0 with
    | some f => eA (ev es δ L0) fun ds L => call f (d :: ds) L
    | none => .no
  | .fld f o, δ, L => eb (ev o δ L) fun d L => fldO P f d L
  | .bi b m es, δ, L => eA (ev es δ L) fun ds L => biO b m ds L
  | .bm b o es, δ, L => eb (ev o δ L) fun d L0 => gd (bmP b d L0) (eb (ev es δ L0) fun y L => bmO b d [y] L)
  | .rng a b c, δ, L => eO (ev a δ L) fun i L => if isNop b then rgR [.int i] L else eO (ev b δ L) fun j L => if isNop c then rgR [.int i, .int j] L else eO (ev c δ L) fun k L => rgR [.int i, .int j, .int k] L
  | .lrg tp a b c, δ, L => eO (ev a δ L) fun i L => if isNop b then rgL tp [.int i] L else eO (ev b δ L) fun j L => if isNop c then rgL tp [.int i, .int j] L else eO (ev c δ L) fun k L => rgL tp [.int i, .int j, .int k] L
  | .lc m own tg it cd e, δ, L => eb (ev it δ L) fun d L => match itO L d with
    | none => .no
    | some (ds, g) => if decide (ds.length ≤ SL) then (match lcL (stands ds g) (fun d L => match asgN tg d (wipeD δ own) with
        | none => none
        | some δ' => if isNop cd then (match ev e δ' L with
            | .ok y L => some (some y, L)
            | _ => none)
          else match ev cd δ' L with
            | .ok (.bl true) L => (match ev e δ' L with
              | .ok y L => some (some y, L)
              | _ => none)
            | .ok (.bl false) L => some (none, L)
            | _ => none) ds L with
      | some (ys, L) => mkL m ys L
      | none => .no) else .no
  | .gen kd own tg it cd e, δ, L => eb (ev it δ L) fun d L => match itO L d with
    | none => .no
    | some (ds, g) => gnL (stands ds g) (fun d L => match asgN tg d (wipeD δ own) with
        | none => none
        | some δ' => if isNop cd then (match ev e δ' L with
            | .ok y L => some (some y, L)
            | _ => none)
          else match ev cd δ' L with
            | .ok (.bl true) L => (match ev e δ' L with
              | .ok y L => some (some y, L)
              | _ => none)
            | .ok (.bl false) L => some (none, L)
            | _ => none) kd 0 ds L
  | .itr k e, δ, L => eb (ev e δ L) fun d L => itrO k d L
  | .lrm a, δ, L => eO (ev a δ L) fun i L => match rgO [.int i] with
    | some ns => gd (decide (ns.length ≤ SL)) (.ok (.rf L.length) (L ++ [.lst (ns.map .int)]))
    | none => .no
  | .pop0 o, δ, L => eb (ev o δ L) fun d L => popO d L
  | .told f e, δ, L => match ev e δ L with
    | .ok d L => .ok d L
    | .ex c _ L => gd (P.rs c) (tellO P.sub (P.tl f) c L)
    | .no => .no
end

/-! ### statements -/
inductive RT where
  | nx (δ : Ds) (L : Mu) | rt (d : D) (L : Mu) | bk (δ : Ds) (L : Mu) | ct (δ : Ds) (L : Mu) | ex (c : Nat) (p : Option D) (δ : Ds) (L : Mu) | no
def sE (δ : Ds) (r : RE) (f : D → Mu → RT) : RT := match r with
  | .ok d L => f d L
  | .ex c p L => .ex c p δ L
  | .no => .no
def sB (δ : Ds) (r : RE) (f : Bool → Mu → RT) : RT := match r with
  | .ok (.bl b) L => f b L
  | .ok _ _ => .no
  | .ex c p L => .ex c p δ L
  | .no => .no
def sq (r : RT) (f : Ds → Mu → RT) : RT := match r with
  | .nx δ L => f δ L
  | r => r
def lenT : T → Nat
  | .cons _ b => lenT b + 1
  | _ => 0
/-- what a store comes to -/
inductive RG where
  | ok (δ : Ds) (L : Mu) | ex (c : Nat) (p : Option D) (δ : Ds) (L : Mu) | no
def gE (δ : Ds) (r : RE) (f : D → Mu → RG) : RG := match r with
  | .ok d L => f d L
  | .ex c p L => .ex c p δ L
  | .no => .no
def gq (r : RG) (f : Ds → Mu → RG) : RG := match r with
  | .ok δ L => f δ L
  | .ex c p δ L => .ex c p δ L
  | .no => .no
def sG (r : RG) (f : Ds → Mu → RT) : RT := match r with
  | .ok δ L => f δ L
  | .ex c p δ L => .ex c p δ L
  | .no => .no
def isFld : T → Bool
  | .fld _ _ => true
  | _ => false
def gdS (b : Bool) (r : RT) : RT := if b then r else .no
def forL (g : Mu → Bool) (f : D → Ds → Mu → RT) : List D → Ds → Mu → RT
  | [], δ, L => gdS (g L) (.nx δ L)
  | d :: ds, δ, L => gdS (g L) (match f d δ L with
    | .nx δ L => forL g f ds δ L
    | .ct δ L => forL g f ds δ L
    | .bk δ L => .nx δ L
    | r => r)
def whlL (c : Ds → Mu → RE) (f : Ds → Mu → RT) : Nat → Ds → Mu → RT
  | 0, _, _ => .no
  | n + 1, δ, L => sB δ (c δ L) fun k L => if k then (match f δ L with
    | .nx δ L => whlL c f n δ L
    | .ct δ L => whlL c f n δ L
    | .bk δ L => .nx δ L
    | r => r) else .nx δ L
def FU : Nat := 4096
section
variable (P : Prg) (call : Nat → List D → Mu → RE)
def stG (δ : Ds) (o : Option Mu) : RG := match o with
  | some L => .ok δ L
  | none => .no
def stR (δ : Ds) (o : Option Mu) : RT := match o with
  | some L => .nx δ L
  | none => .no
/-- a store: names, items; a tuple's parts from the left -/
def asg : T → D → Ds → Mu → RG
  | .loc i, d, δ, L => .ok (δ.set i (some d)) L
  | .tup es, .tup ds, δ, L => if lenT es = ds.length then asgs es ds δ L else .no
  | .ix o i, v, δ, L => gE δ (ev P call o δ L) fun d L => gE δ (ev P call i δ L) fun y L => stG δ (stO v d y L)
  | _, _, _, _ => .no
where asgs : T → List D → Ds → Mu → RG
  | .nil, [], δ, L => .ok δ L
  | .cons a b, d :: ds, δ, L => gq (asg a d δ L) fun δ L => asgs b ds δ L
  | _, _, _, _ => .no
/-- o.f = y -/
def sfl (f : Nat) (y d : D) (δ : Ds) (L : Mu) : RT := match d with
  | .rf i => match L[i]? with
    | some (.ins C xs) => match P.cls[C]? with
      | some c => match c.fl.idxOf? f with
        | some j => gdS (decide (j ≤ xs.length)) (.nx δ (L.set i (.ins C (putX j y xs))))
        | none => .no
      | none => .no
    | _ => .no
  | _ => .no
/-- op= -/
def aug (op : Operator) (tg e : T) (δ : Ds) (L : Mu) : RT := match tg with
  | .loc i => match δ[i]? with
    | some (some x) => sE δ (ev P call e δ L) fun y L => sE δ (o2i op x y L) fun z L => .nx (δ.set i (some z)) L
    | _ => .no
  | .ix o i => sE δ (ev P call o δ L) fun d L => sE δ (ev P call i δ L) fun y L => match gtO d y L with
    | some x => sE δ (ev P call e δ L) fun w L => sE δ (o2i op x w L) fun z L => stR δ (stO z d y L)
    | none => .no
  | .fld f o => sE δ (ev P call o δ L) fun d L => match d with
    | .rf i => match L[i]? with
      | some (.ins C xs) => match P.cls[C]? with
        | some c => match c.fl.idxOf? f with
          | some j => match xs[j]? with
            | some x => sE δ (ev P call e δ L) fun y L => sE δ (o2i op x y L) fun z L => match L[i]? with
              | some (.ins C' xs') => gdS (C' == C && decide (j < xs'.length)) (.nx δ (L.set i (.ins C (xs'.set j z))))
              | _ => .no
            | none => .no
          | none => .no
        | none => .no
      | _ => .no
    | _ => .no
  | _ => .no
def sv : S → Ds → Mu → RT
  | .skip, δ, L => .nx δ L
  | .ex e, δ, L => sE δ (ev P call e δ L) fun _ L => .nx δ L
  | .asg tg e, δ, L => sE δ (ev P call e δ L) fun d L => match tg with
    | .fld f o => sE δ (ev P call o δ L) fun x L => sfl P f d x δ L
    | tg => sG (asg P call tg d δ L) fun δ L => .nx δ L
  | .aug op tg e, δ, L => aug P call op tg e δ L
  | .ret e, δ, L => sE δ (ev P call e δ L) fun d L => .rt d L
  | .retN, _, L => .rt .non L
  | .ifs c a b, δ, L => sB δ (ev P call c δ L) fun k L => if k then sv a δ L else sv b δ L
  | .for_ tg it b, δ, L => sE δ (ev P call it δ L) fun d L => match itO L d with
    | none => .no
    | some (ds, g) => forL (stands ds g) (fun d δ L => sG (asg P call tg d δ L) fun δ L => sv b δ L) ds δ L
  | .whl c b, δ, L => whlL (ev P call c) (sv b) FU δ L
  | .brk, δ, L => .bk δ L
  | .cnt, δ, L => .ct δ L
  | .rse c e, δ, L => sE δ (ev P call e δ L) fun _ L => .ex c none δ L
  | .nil, δ, L => .nx δ L
  | .seq a b, δ, L => sq (sv a δ L) fun δ L => sv b δ L
end
def svR (r : RT) : RE := match r with
  | .nx _ L => .ok .non L
  | .rt d L => .ok d L
  | .ex c p _ L => .ex c p L
  | _ => .no
def run (P : Prg) : Nat → Nat → List D → Mu → RE
  | 0, _, _, _ => .no
  | k + 1, f, args, L => match P.fns[f]? with
    | none => .no
    | some F => if args.length = F.np then fin F.md L.length (svR (sv P (run P k) F.body (args.map some ++ List.replicate (F.n - F.np) none) L)) else .no
end Ac
end
section
/-! Ev3: facts about pieces of syntax. -/
namespace Ac
open PySem PySem.Spec PyProof.Rows L2

def noSt : Expr → Bool
  | .Starred .. => false
  | _ => true
theorem se_cons {e : Expr} (h : noSt e = true) (es : List Expr) (env : Env) : starEach (e :: es) env = (false, eval e env) :: starEach es env := by
  cases e <;> first | rfl | cases h
theorem se_any : ∀ {es : List Expr}, es.all noSt = true → ∀ (env : Env), (starEach es env).any (·.1) = false
  | [], _, env => rfl
  | e :: es, h, env => by
    rw [List.all_cons, Bool.and_eq_true] at h
    rw [se_cons h.1, List.any_cons, se_any h.2]; rfl
theorem bt_any {pos : Pos} {es : List Expr} (h : es.all noSt = true) (env : Env) : (backTo pos (starEach es env)).any (·.1) = false := by
  have := se_any h env
  unfold backTo
  rw [List.any_map]
  exact this
def plainO : Expr → Bool
  | .Call (.Name _ _) [] [] _ => false
  | _ => true
theorem ab_ok {o : Expr} (h : plainO o = true) (f : Str) (env : Env) (w : Sem Value) : attributeBase o f env w = w := by
  unfold attributeBase
  split
  · cases h
  · rfl
def notLc : Expr → Bool
  | .ListComp .. => false
  | .SetComp .. => false
  | .DictComp .. => false
  | _ => true
theorem swW {e : Expr} (h : notLc e = true) (t : Option Expr) (l : Nat) (env : Env) : swapsWith e t l env = pure false := by
  cases e <;> first | rfl | cases h
theorem swS {e : Expr} (h : notLc e = true) (t : Expr) (l : Nat) (env : Env) : swapsWithSole [t] e l env = pure false := swW h _ _ _
def plainT : Expr → Bool
  | .UnaryOp .Not _ _ => false
  | .BoolOp .. => false
  | .IfExp .. => false
  | .Compare .. => false
  | _ => true
theorem it_ok {e : Expr} (h : plainT e = true) (env : Env) (w : Sem Value) : isTrue e env w = (do let v ← w; standAt e.pos; holding [v] (truthy v)) := by
  cases e with
  | UnaryOp op a p => cases op <;> first | rfl | cases h
  | BoolOp => cases h
  | IfExp => cases h
  | Compare => cases h
  | _ => rfl
def notSl : Expr → Bool
  | .Slice .. => false
  | _ => true
theorem ix_ok {b : Expr} (h : notSl b = true) : PlainIx b := fun o i => by
  cases b <;> first | rfl | cases h
theorem few_ok {args : List Expr} (h2 : args.all noSt = true) (h3 : args.length < 30) (pos : Pos) (env : Env) : methodCallForm args.length (backTo pos (starEach args env)) (backToKw pos (keywordEach [] env)) = true := by
  have e : (backTo pos (starEach args env)).all (fun x => !x.1) = true := by
    have := bt_any (pos := pos) h2 env
    rw [List.all_eq_not_any_not]
    simp only [Bool.not_not]
    rw [this]; rfl
  unfold methodCallForm
  rw [e]
  simp [backToKw, keywordEach]
  exact h3
theorem meth_eq {o : Expr} {m : Str} {apos pos : Pos} {args : List Expr} (h1 : plainO o = true) (h2 : args.all noSt = true) (h3 : args.length < 30) (h4 : (apos.endLine == pos.line) = true) : ∀ env, eval (.Call (.Attribute o m apos) args [] pos) env = (do
      let ov ← eval o env
      standAt apos.atName
      let (f, first) ← holding [ov] (getMethod ov m (do return (← importBound o env).getD true))
      callWith pos f first (backTo pos (starEach args env)) (backToKw pos (keywordEach [] env))) := fun env => by
  have few : methodCallForm (args.length + ([] : List Keyword).length) (backTo pos (starEach args env)) (backToKw pos (keywordEach [] env)) = true := few_ok h2 h3 pos env
  have e1 : ∀ ov, methodCall o m apos pos env ov (args.length + ([] : List Keyword).length) (backTo pos (starEach args env)) (backToKw pos (keywordEach [] env)) = (do
      let (f, first) ← holding [ov] (getMethod ov m (do return (← importBound o env).getD true))
      callWith pos f first (backTo pos (starEach args env)) (backToKw pos (keywordEach [] env))) := fun ov => by
    unfold methodCall
    rw [few]
    unfold methodCallPos
    rw [if_pos (by rw [h4]; rfl)]
    rfl
  conv => lhs; unfold eval
  simp only [ab_ok h1, e1]
def notSet : Expr → Bool
  | .Set .. => false
  | _ => true
theorem fsi_ok {e : Expr} (h : notSet e = true) (env : Env) (x : Value) : foldedSetIterable e env x = pure x := by
  unfold foldedSetIterable
  split
  · cases h
  · rfl
theorem bim_ok {op : CmpOp} {e : Expr} (h : notSet e = true) : behindInMarks op e = false := by
  unfold behindInMarks
  split
  · cases h
  · rfl
def notTs : Expr → Bool
  | .Tuple .. => false
  | .List .. => false
  | _ => true
theorem ss_val {e : Expr} (h : notTs e = true) (t : Expr) (env : Env) : swappedStores [t] e env = pure none := by
  unfold swappedStores
  cases e <;> first | (cases h; done) | (cases t <;> rfl)
theorem ss_tgt {t : Expr} (h : notTs t = true) (e : Expr) (env : Env) : swappedStores [t] e env = pure none := by
  unfold swappedStores
  cases t <;> first | (cases h; done) | rfl
theorem ae_one {t : Expr} (h : noSt t = true) (env : Env) : (assignEach [t] env).map (·.2) = [assign t env] := by
  cases t <;> first | rfl | cases h
theorem ae_cons {t : Expr} (h : noSt t = true) (ts : List Expr) (env : Env) : (assignEach (t :: ts) env).map (·.2) = assign t env :: (assignEach ts env).map (·.2) := by
  cases t <;> first | rfl | cases h
theorem ae_len : ∀ (ts : List Expr) (env : Env), (assignEach ts env).length = ts.length
  | [], _ => rfl
  | t :: ts, env => by
    have := ae_len ts env
    cases t <;> simp only [assignEach, List.length_cons, this]
theorem ae_st : ∀ {ts : List Expr}, ts.all noSt = true → ∀ env : Env, (assignEach ts env).findIdx? (·.1) = none
  | [], _, _ => rfl
  | t :: ts, h, env => by
    rw [List.all_cons, Bool.and_eq_true] at h
    have ih := ae_st h.2 env
    cases t <;> first | (cases h.1; done) | (simp only [assignEach, List.findIdx?_cons, ih]; rfl)
end Ac
end
section
/-! Ev4: does a term tell a piece of syntax? What it comes to. -/
namespace Ac
open PySem PySem.Spec PyProof.Rows L2

/-- the names of a text: defs, those that tell, classes, attributes, exceptions, constants, built-ins -/
structure Nm where
  fnm : List (Option Str)
  tnm : List (Option Str)
  cnm : List Str
  att : List Str
  exn : List (Option Str)
  gnm : List Str
  bnm : List Str
def biNm : Bi → Str
  | .len => "len" | .abs => "abs" | .min => "min" | .max => "max" | .sum => "sum" | .int => "int" | .list => "list" | .tuple => "tuple" | .str => "str" | .srt => "sorted" | .dct => "dict"
def gkNm : Gk → Str
  | .any => "any" | .all => "all" | .sum => "sum"
def notLs : Expr → Bool
  | .List .. => false
  | _ => true
def bmNm : Bm → Str
  | .startswith => "startswith" | .join => "join" | .append => "append" | .count => "count" | .pop => "pop" | .index => "index" | .scount => "count"
def isTup : Expr → Bool
  | .Tuple .. => true
  | _ => false
/-- does the target fit? -/
def itT : T → Expr → Bool
  | .itr .enm _, e => isTup e
  | _, _ => true
abbrev Ns := List (Str × NameKind)
def visB (ns : Ns) (x : Str) : Bool := match ns.lookup x with
  | some k => visK k
  | none => false
def locB (ns : Ns) (x : Str) : Bool := match ns.lookup x with
  | some k => locK k
  | none => false
def glB (ns : Ns) (x : Str) : Bool := ns.lookup x == some .globalImplicit
def ownB (k : NameKind) : Bool := match k with
  | .local => true
  | .cell => true
  | _ => false
/-- a block's names: its own are told by own, its free ones are captured -/
def blkB (N : List Str) (ns names : Ns) (own : List (Str × Nat)) : Bool :=
  (own.all fun q => N[q.2]? == some q.1) && (names.all fun y => match y.2 with
    | .free => (match ns.lookup y.1 with
      | some k => capK k
      | none => false)
    | .local => own.any fun q => q.1 == y.1
    | .cell => own.any fun q => q.1 == y.1
    | _ => true)
def ownOf (N : List Str) (own : List Nat) : List (Str × Nat) := own.map fun i => (N.getD i "", i)
def emptyArgs (a : Arguments) : Bool := match a with
  | ⟨[], [], none, [], [], none, []⟩ => true
  | _ => false
section
variable (C : Nm) (N : List Str)
/-- a target of a comprehension: names of its own, tuples of such -/
def okG : T → Ns → List Nat → Expr → Bool
  | .loc i, ns, own, e => match e with
    | .Name x _ => (N[i]? == some x) && locB ns x && own.contains i
    | _ => false
  | .tup es, ns, own, e => match e with
    | .Tuple xs _ _ => okGs es ns own xs
    | _ => false
  | _, _, _, _ => false
where okGs : T → Ns → List Nat → List Expr → Bool
  | .nil, _, _, [] => true
  | .cons a b, ns, own, x :: xs => okG a ns own x && okGs b ns own xs
  | _, _, _, _ => false
mutual
def okE (lam : Fl) : T → Ns → Expr → Bool
  | .loc i, ns, e => match e with
    | .Name x _ => (N[i]? == some x) && visB ns x
    | _ => false
  | .non, _, e => match e with
    | .Constant .none _ _ => true
    | _ => false
  | .bl b, _, e => match e with
    | .Constant (.bool b') _ _ => b == b'
    | _ => false
  | .int i, _, e => match e with
    | .Constant (.int j) _ _ => i == j
    | _ => false
  | .str x, _, e => match e with
    | .Constant (.str y) _ _ => y == Tx.s x
    | _ => false
  | .glb g, ns, e => match e with
    | .Name x _ => (C.gnm[g]? == some x) && glB ns x
    | _ => false
  | .bin op a b, ns, e => match e with
    | .BinOp x op' y _ => op == op' && okE lam a ns x && okE lam b ns y
    | _ => false
  | .binM op a b, ns, e => match e with
    | .BinOp x op' y _ => op == op' && okE lam a ns x && okE lam b ns y
    | _ => false
  | .neg a, ns, e => match e with
    | .UnaryOp .USub x _ => okE lam a ns x
    | _ => false
  | .cmp op a b, ns, e => match e with
    | .Compare x [op'] [y] _ => op == op' && notSet y && okE lam a ns x && okE lam b ns y
    | _ => false
  | .chn op op' a b c, ns, e => match e with
    | .Compare x [p, p'] [y, z] _ => op == p && op' == p' && notSet z && okE lam a ns x && okE lam b ns y && okE lam c ns z
    | _ => false
  | .and a b, ns, e => match e with
    | .BoolOp .And (x :: y :: r) p => okE lam a ns x && (match r with
      | [] => okE lam b ns y
      | _ => okE lam b ns (.BoolOp .And (y :: r) p))
    | _ => false
  | .or a b, ns, e => match e with
    | .BoolOp .Or (x :: y :: r) p => okE lam a ns x && (match r with
      | [] => okE lam b ns y
      | _ => okE lam b ns (.BoolOp .Or (y :: r) p))
    | _ => false
  | .not a, ns, e => match e with
    | .UnaryOp .Not x _ => okE lam a ns x
    | _ => false
  | .ite c a b, ns, e => match e with
    | .IfExp t x y _ => okE lam c ns t && okE lam a ns x && okE lam b ns y
    | _ => false
  | .tup es, ns, e => match e with
    | .Tuple xs _ _ => okA lam es ns xs
    | _ => false
  | .lst _ es, ns, e => match e with
    | .List xs _ => okA lam es ns xs
    | _ => false
  | .ix a b, ns, e => match e with
    | .Subscript x y _ => notSl y && okE lam a ns x && okE lam b ns y
    | _ => false
  | .sl a lo hi, ns, e => match e with
    | .Subscript x (.Slice l h none _) _ => okE lam a ns x && (match l with
        | none => isNop lo
        | some l => !isNop lo && okE lam lo ns l) && (match h with
        | none => isNop hi
        | some h => !isNop hi && okE lam hi ns h)
    | _ => false
  | .call f es, ns, e => match e with
    | .Call (.Name x _) xs [] _ => (C.fnm[f]? == some (some x)) && glB ns x && okA lam es ns xs
    | _ => false
  | .mk c es, ns, e => match e with
    | .Call (.Name x _) xs [] _ => (C.cnm[c]? == some x) && glB ns x && okA lam es ns xs
    | _ => false
  | .meth m o es, ns, e => match e with
    | .Call (.Attribute ob x apos) xs [] pos => (C.att[m]? == some x) && plainO ob && decide (xs.length < 30) && (apos.endLine == pos.line) && okE lam o ns ob && okA lam es ns xs
    | _ => false
  | .fld f o, ns, e => match e with
    | .Attribute ob x _ => (C.att[f]? == some x) && plainO ob && okE lam o ns ob
    | _ => false
  | .bi b _ es, ns, e => match e with
    | .Call (.Name x _) xs [] _ => (x == biNm b) && C.bnm.contains x && glB ns x && okA lam es ns xs
    | _ => false
  | .bm b o es, ns, e => match e with
    | .Call (.Attribute ob x apos) [y] [] pos => (x == bmNm b) && plainO ob && (apos.endLine == pos.line) && okE lam o ns ob && noSt y && okE lam es ns y
    | _ => false
  | .lrg tp a b c, ns, e => match e with
    | .Call (.Name x _) [.Call (.Name y _) xs [] _] [] _ => (x == (if tp then "tuple" else "list")) && C.bnm.contains x && glB ns x && (y == "range") && C.bnm.contains "range" && glB ns y && (match xs with
      | [u] => isNop b && noSt u && okE lam a ns u
      | [u, v] => !isNop b && isNop c && noSt u && noSt v && okE lam a ns u && okE lam b ns v
      | [u, v, w] => !isNop b && !isNop c && noSt u && noSt v && noSt w && okE lam a ns u && okE lam b ns v && okE lam c ns w
      | _ => false)
    | _ => false
  | .lc _ own tg it cd el, ns, e => match e with
    | .ListComp elt [⟨tg', iter, ifs, 0⟩] scope _ => blkB N ns scope.names (ownOf N own) && (scope.kind == .function) && ScB scope.names && notSet iter && ((okE lam it ns iter || okR lam it ns iter) && itT it tg') && okG N tg scope.names own tg' && (match ifs with
        | [] => isNop cd
        | [c] => !isNop cd && okE lam cd scope.names c
        | _ => false) && okE lam el scope.names elt
    | _ => false
  | .lrm a, ns, e => match e with
    | .Call (.Name x _) [.Call (.Name y _) [u] [] _] [] _ => (x == "list") && C.bnm.contains x && glB ns x && (y == "range") && C.bnm.contains "range" && glB ns y && noSt u && okE lam a ns u
    | _ => false
  | .pop0 o, ns, e => match e with
    | .Call (.Attribute ob x apos) [] [] pos => (x == "pop") && plainO ob && (apos.endLine == pos.line) && okE lam o ns ob
    | _ => false
  | .told f b, ns, e => (lam == .lam) && match e with
    | .Call (.Name x _) [.Lambda params body scope _] [] _ => (C.tnm[f]? == some (some x)) && glB ns x && blkB N ns scope.names [] && (scope.kind == .function) && !scope.isCoroutine && !scope.isGenerator && ScB scope.names && emptyArgs params && okE .no b scope.names body
    | _ => false
  | .gen kd own tg it cd el, ns, e => (lam == .gen) && match e with
    | .Call (.Name x _) [.GeneratorExp elt [⟨tg', iter, ifs, 0⟩] scope _] [] _ => (x == gkNm kd) && (C.bnm.contains x && (glB ns x && (blkB N ns scope.names (ownOf N own) && ((scope.kind == .function) && (!scope.isCoroutine && (ScB scope.names && ((scope.names.all fun y => !(y.2 == .cell)) && ((scope.names.lookup (".0" : Str) == some NameKind.local) && (notLs iter && (notSet iter && (((okE lam it ns iter || okR lam it ns iter) && itT it tg') && (okG N tg scope.names own tg' && ((match ifs with
        | [] => isNop cd
        | [c] => !isNop cd && okE .no cd scope.names c
        | _ => false) && okE .no el scope.names elt)))))))))))))
    | _ => false
  | _, _, _ => false
def okA (lam : Fl) : T → Ns → List Expr → Bool
  | .nil, _, es => es.isEmpty
  | .cons a b, ns, es => match es with
    | x :: xs => noSt x && okE lam a ns x && okA lam b ns xs
    | [] => false
  | _, _, _ => false
/-- a range -/
def okR (lam : Fl) : T → Ns → Expr → Bool
  | .rng a b c, ns, e => match e with
    | .Call (.Name x _) xs [] _ => (x == "range") && C.bnm.contains "range" && glB ns x && (match xs with
      | [u] => isNop b && noSt u && okE lam a ns u
      | [u, v] => !isNop b && isNop c && noSt u && noSt v && okE lam a ns u && okE lam b ns v
      | [u, v, w] => !isNop b && !isNop c && noSt u && noSt v && noSt w && okE lam a ns u && okE lam b ns v && okE lam c ns w
      | _ => false)
    | _ => false
  | .itr .enm a, ns, e => match e with
    | .Call (.Name x _) [u] [] _ => (x == "enumerate") && C.bnm.contains "enumerate" && glB ns x && noSt u && okE lam a ns u
    | _ => false
  | _, _, _ => false
end
end
end Ac
end
section
/-! Ev5: what an expression comes to holds of the model. -/
namespace Ac
open PySem PySem.Spec PyProof.Rows L2

structure Glo where
  W : Wd
  P : Prg
  C : Nm
  call : Nat → List D → Mu → RE
  k : Nat
  xa : Nat → Addr
/-- what a call comes to, as a contract -/
def RC (xa : Nat → Addr) (r : RE) (Q : D → Mu → Prop) (X : EXm) : Prop := match r with
  | .ok d L => Q d L
  | .ex c p L => X (.ref (xa c)) p L
  | .no => False
abbrev Cof (G : Glo) (f : Nat) : Con := fun xs L Q X => RC G.xa (G.call f xs L) Q X
def biV : Bi → Value
  | .len => .builtin "len" | .abs => .builtin "abs" | .min => .builtin "min" | .max => .builtin "max" | .sum => .builtin "sum" | .int => .type "int" | .list => .type "list" | .tuple => .type "tuple" | .str => .type "str" | .srt => .builtin "sorted" | .dct => .type "dict"
def bnV (x : Str) : Option Value := bootBuiltins x
structure Lk (G : Glo) : Prop where
  fn : ∀ (f : Nat) (x : Str), G.C.fnm[f]? = some (some x) → ∃ a, G.W.mg x = some (.ref a) ∧ Fn G.W G.k a (Cof G f)
  cl : ∀ (c : Nat) (cd : Cd), G.P.cls[c]? = some cd → Kl G.W c ∧ (∀ (f j : Nat), cd.fl.idxOf? f = some j → ∀ x : Str, G.C.att[f]? = some x → (G.W.cls c).2[j]? = some x)
  mt : ∀ (c : Nat) (cd : Cd) (m f : Nat) (x : Str), G.P.cls[c]? = some cd → cd.ml.lookup m = some f → G.C.att[m]? = some x → x ∉ (G.W.cls c).2 ∧ ∃ a, Meth G.W.K (G.W.cls c).1 x a ∧ Fn G.W G.k a (Cof G f)
  mkr : ∀ (c : Nat) (x : Str), G.C.cnm[c]? = some x → ∃ cd, G.P.cls[c]? = some cd ∧ G.W.mg x = some (.ref (G.W.cls c).1) ∧ ∃ a, Mk G.W.K (G.W.cls c).1 a ∧ Fn G.W G.k a (Cof G cd.init)
  gl : ∀ (g : Nat) (x : Str) (d : D), G.C.gnm[g]? = some x → G.P.glb[g]? = some d → ∃ u, G.W.mg x = some u ∧ RpK G.W.K u d
  bi : ∀ x : Str, x ∈ G.C.bnm → ∃ u, Bn G.W.mg x u
  xc : ∀ (c : Nat) (x : Str), G.C.exn[c]? = some (some x) → Xc G.W x (G.xa c)
  sb : ∀ c c' : Nat, G.P.rs c = true → (∃ f t, (c', t) ∈ G.P.tl f) → PySem.W.exmOne G.W.K (.ref (G.xa c)) (.ref (G.xa c')) = some (G.P.sub c c')
  tl : ∀ (f : Nat) (x : Str), G.C.tnm[f]? = some (some x) → Told G.W x ((G.P.tl f).map fun q => (G.xa q.1, q.2))
/-- where an expression is judged -/
structure Cxt (G : Glo) (lam : Fl) (Γ : Ct) : Prop where
  W : Γ.toWd = G.W
  calm : Γ.calm = true
  lv : G.k + 1 ≤ Γ.k
  lm : lam = .lam → G.k + 3 ≤ Γ.k ∧ ∃ c P, Γ.cp = some (c, P) ∧ (P, Γ.qual ++ "<lambda>") ∈ Γ.T
  gn : lam = .gen → G.k + 4 ≤ Γ.k ∧ ∃ c P, Γ.cp = some (c, P) ∧ (P, Γ.qual ++ "<genexpr>") ∈ Γ.T
def WE (G : Glo) (Γ : Ct) (δ : Ds) (r : RE) (Q : D → Mu → Prop) : Prop := RC G.xa r Q (Γ.ex δ)
section
variable {G : Glo} {Γ : Ct} {δ : Ds} {r : RE} {Q Q' : D → Mu → Prop}
theorem RC.mono {xa : Nat → Addr} {X : EXm} (h : RC xa r Q X) (m : ∀ d L, Q d L → Q' d L) : RC xa r Q' X := by
  cases r with
  | ok d L => exact m _ _ h
  | ex c p L => exact h
  | no => exact h
theorem WE.mono (h : WE G Γ δ r Q) (m : ∀ d L, Q d L → Q' d L) : WE G Γ δ r Q' := RC.mono h m
theorem WE.eb {f : D → Mu → RE} (h : WE G Γ δ (eb r f) Q) : WE G Γ δ r fun d L => WE G Γ δ (f d L) Q := by
  cases r <;> exact h
theorem WE.eB {f : Bool → Mu → RE} (h : WE G Γ δ (eB r f) Q) : WE G Γ δ r fun d L => ∃ k, d = .bl k ∧ WE G Γ δ (f k L) Q := by
  cases r with
  | ok d L => cases d <;> first | exact ⟨_, rfl, h⟩ | exact h.elim
  | ex c p L => exact h
  | no => exact h
theorem WE.eO {f : Int → Mu → RE} (h : WE G Γ δ (eO r f) Q) : WE G Γ δ r fun d L => ∃ k, d = .int k ∧ WE G Γ δ (f k L) Q := by
  cases r with
  | ok d L => cases d <;> first | exact ⟨_, rfl, h⟩ | exact h.elim
  | ex c p L => exact h
  | no => exact h
theorem WE.eA {f : List D → Mu → RE} (h : WE G Γ δ (eA r f) Q) : WE G Γ δ r fun d L => ∃ ds, d = .tup ds ∧ WE G Γ δ (f ds L) Q := by
  cases r with
  | ok d L => cases d <;> first | exact ⟨_, rfl, h⟩ | exact h.elim
  | ex c p L => exact h
  | no => exact h
theorem WE.gd {b : Bool} (h : WE G Γ δ (gd b r) Q) : b = true ∧ WE G Γ δ r Q := by
  unfold Ac.gd at h
  cases b with
  | true => exact ⟨rfl, h⟩
  | false => exact h.elim
end
theorem lsO_ok {L : Mu} {d : D} {ds : List D} (h : lsO L d = some ds) : LsOf L d ds := by
  unfold lsO at h
  split at h
  · cases h; exact .inl rfl
  · cases h; exact .inr (.inl rfl)
  · split at h
    · cases h; rename_i e; exact .inr (.inr ⟨_, rfl, e⟩)
    · cases h
  · cases h
theorem ltO_ok {L : Mu} {d : D} {ds : List D} (h : ltO L d = some ds) : LtOf L d ds := by
  unfold ltO at h
  split at h
  · cases h; exact .inl rfl
  · split at h
    · cases h; rename_i e; exact .inr ⟨_, rfl, e⟩
    · cases h
  · cases h
theorem sqO_ok {L : Mu} {d : D} {ds : List D} (h : sqO L d = some ds) : SqOf L d ds := by
  unfold sqO at h
  split at h
  · cases h; exact .inr rfl
  · exact .inl (lsO_ok h)
theorem dcO_ok {L : Mu} {d : D} {ks : List (Kt × D)} (h : dcO L d = some ks) : DcOf L d ks := by
  unfold dcO at h
  split at h
  · cases h; exact .inl rfl
  · split at h
    · cases h; rename_i e; exact .inr ⟨_, rfl, e⟩
    · cases h
  · cases h
theorem insO_ok {L : Mu} {d : D} {C : Nat} {xs : List D} (h : insO L d = some (C, xs)) : InsAt L d C xs := by
  unfold insO at h
  split at h
  · cases h; exact .inl rfl
  · split at h
    · cases h; rename_i e; exact .inr ⟨_, rfl, e⟩
    · cases h
  · cases h
theorem intsO_ok : ∀ {ds : List D} {ns : List Int}, intsO ds = some ns → ds = ns.map .int
  | [], _, h => by cases h; rfl
  | d :: ds, ns, h => by
    cases d <;> first | (cases h; done) | skip
    rename_i i
    simp only [intsO, Option.map_eq_some_iff] at h
    obtain ⟨ms, h1, rfl⟩ := h
    rw [intsO_ok h1]; rfl
theorem txs_ok : ∀ {ds : List D} {ns : List Tx}, txs ds = some ns → ds = ns.map .str
  | [], _, h => by cases h; rfl
  | d :: ds, ns, h => by
    cases d <;> first | (cases h; done) | skip
    rename_i i
    simp only [txs, Option.map_eq_some_iff] at h
    obtain ⟨ms, h1, rfl⟩ := h
    rw [txs_ok h1]; rfl
theorem SL_eq : SL = sizeLine := by rw [sizeLine_eq]; rfl

/-! ### data read through cells -/
mutual
theorem rsv_dp {T : Tbl} {K : PySem.W.Frag} {R : Rw} {H : Hp} {L : Mu} (A : AR T K R L H) : ∀ {n : Nat} {d e : D} {v : V}, rsv L n d = some e → Rp K R v d → Dp K H v e.pd ∧ e.pd.canLay0 = true ∧ e.pd.depth ≤ n
  | n, .non, _, _, h, r => by simp only [rsv, Option.some.injEq] at h; subst h; cases r; exact ⟨.non, rfl, Nat.zero_le _⟩
  | n, .bl _, _, _, h, r => by simp only [rsv, Option.some.injEq] at h; subst h; cases r; exact ⟨.bl _, rfl, Nat.zero_le _⟩
  | n, .int _, _, _, h, r => by simp only [rsv, Option.some.injEq] at h; subst h; cases r; exact ⟨.int _, rfl, Nat.zero_le _⟩
  | n, .str x, _, _, h, r => by
    unfold rsv at h
    split at h
    · rename_i ht
      cases h
      cases r
      exact ⟨.str _, ht, Nat.zero_le _⟩
    · cases h
  | n + 1, .tup xs, _, _, h, r => by
    simp only [rsv, Option.map_eq_some_iff] at h
    obtain ⟨es, h, rfl⟩ := h
    cases r with
    | tup s1 r1 =>
      obtain ⟨a, b, c⟩ := rsvs_dp A h r1
      unfold D.pd
      refine ⟨.tup (A.sub.sqT s1) a, b, ?_⟩
      show PyData.depthAll _ + 1 ≤ n + 1
      omega
  | n + 1, .lst xs, _, _, h, r => by
    simp only [rsv, Option.map_eq_some_iff] at h
    obtain ⟨es, h, rfl⟩ := h
    cases r with
    | lst s1 r1 =>
      obtain ⟨a, b, c⟩ := rsvs_dp A h r1
      unfold D.pd
      refine ⟨.lst (.inl (.inl (A.sub.at s1 (fun z => z)))) a, b, ?_⟩
      show PyData.depthAll _ + 1 ≤ n + 1
      omega
  | n + 1, .rf i, _, _, h, r => by
    unfold rsv at h
    split at h
    · rename_i xs hi
      simp only [Option.map_eq_some_iff] at h
      obtain ⟨es, h, rfl⟩ := h
      obtain ⟨p, rfl, _, vs, hp, r1⟩ := A.at hi r
      obtain ⟨a, b, c⟩ := rsvs_dp A h r1
      unfold D.pd
      refine ⟨.lst (.inl (.inl hp)) a, b, ?_⟩
      show PyData.depthAll _ + 1 ≤ n + 1
      omega
    · cases h
  | 0, .tup _, _, _, h, _ => by simp [rsv] at h
  | 0, .lst _, _, _, h, _ => by simp [rsv] at h
  | 0, .rf _, _, _, h, _ => by simp [rsv] at h
  | _, .dct _, _, _, h, _ => by simp [rsv] at h
  | _, .ty _, _, _, h, _ => by simp [rsv] at h
  | _, .dtt _, _, _, h, _ => by simp [rsv] at h
  | _, .obj _ _, _, _, h, _ => by simp [rsv] at h
  | _, .lsk _, _, _, h, _ => by simp [rsv] at h
  | _, .lam _, _, _, h, _ => by simp [rsv] at h
theorem rsvs_dp {T : Tbl} {K : PySem.W.Frag} {R : Rw} {H : Hp} {L : Mu} (A : AR T K R L H) : ∀ {n : Nat} {ds es : List D} {vs : List V}, rsvs L n ds = some es → Rps K R vs ds → DpAll K H vs (pds es) ∧ PyData.canLayAll0 (pds es) = true ∧ PyData.depthAll (pds es) ≤ n
  | n, [], _, _, h, r => by simp only [rsvs, Option.some.injEq] at h; subst h; cases r; unfold pds; exact ⟨.nil, rfl, Nat.zero_le _⟩
  | n, d :: ds, _, _, h, r => by
    unfold rsvs at h
    split at h
    · rename_i e he
      simp only [Option.map_eq_some_iff] at h
      obtain ⟨es, h, rfl⟩ := h
      cases r with
      | cons r1 r2 =>
        obtain ⟨a, b, c⟩ := rsv_dp A he r1
        obtain ⟨a2, b2, c2⟩ := rsvs_dp A h r2
        unfold pds
        refine ⟨.cons a a2, ?_, ?_⟩
        · unfold PyData.canLayAll0; rw [b, b2]; rfl
        · unfold PyData.depthAll; exact Nat.max_le.mpr ⟨c, c2⟩
    · cases h
end
section
variable {Γ : Ct} {L : Mu} {Q : D → Mu → Prop}
theorem b2_eqR {x y a b : D} (hx : rsv L 60 x = some a) (hy : rsv L 60 y = some b) (hq : Q (.bl (a.eq b)) L) : B2 Γ (compareOp .Eq) x y L Q := fun X R0 F R H v u l A r1 r2 QV g => by
  obtain ⟨a1, b1, c1⟩ := rsv_dp A hx r1
  obtain ⟨a2, b2, c2⟩ := rsv_dp A hy r2
  refine OR_w (op_eqD F.un) ⟨_, _, by rw [F.K]; exact a1, by rw [F.K]; exact a2, ?_, ?_, g _ _ R H L (Le.refl R) A .bl hq⟩
  · unfold SeqAt.shaped; rw [b1, decide_eq_true (by omega)]; rfl
  · unfold SeqAt.shaped; rw [b2, decide_eq_true (by omega)]; rfl
theorem b2_neR {x y a b : D} (hx : rsv L 60 x = some a) (hy : rsv L 60 y = some b) (hq : Q (.bl (!a.eq b)) L) : B2 Γ (compareOp .NotEq) x y L Q := fun X R0 F R H v u l A r1 r2 QV g => by
  obtain ⟨a1, b1, c1⟩ := rsv_dp A hx r1
  obtain ⟨a2, b2, c2⟩ := rsv_dp A hy r2
  refine OR_w (op_neD F.un) ⟨_, _, by rw [F.K]; exact a1, by rw [F.K]; exact a2, ?_, ?_, g _ _ R H L (Le.refl R) A .bl hq⟩
  · unfold SeqAt.shaped; rw [b1, decide_eq_true (by omega)]; rfl
  · unfold SeqAt.shaped; rw [b2, decide_eq_true (by omega)]; rfl
theorem D.eq_intI (a b : Int) : (D.int a).eq (.int b) = decide (a = b) := by
  unfold D.eq D.pd PyData.eqv
  by_cases h : a = b
  · subst h; simp
  · simp [h]
end
end Ac
end
section
/-! Ev6: operators, built-ins, methods. -/
namespace Ac
open PySem PySem.Spec PyProof.Rows L2
section
variable {G : Glo} {Γ : Ct} {δ : Ds} {L : Mu} {Q : D → Mu → Prop}
theorem WE.ok {d : D} (h : WE G Γ δ (.ok d L) Q) : Q d L := h
theorem WE.no (h : WE G Γ δ .no Q) : False := h
theorem bne_false (b : Bool) : (b != false) = b := by cases b <;> rfl
theorem bne_true (b : Bool) : (b != true) = !b := by cases b <;> rfl
theorem eqO_eq {x y : D} (h : WE G Γ δ (eqO x y L false) Q) : B2 Γ (compareOp .Eq) x y L Q := by
  unfold eqO at h
  split at h
  · rename_i a b
    refine b2_eqR (x := .int a) (y := .int b) (a := .int a) (b := .int b) (by simp [rsv]) (by simp [rsv]) ?_
    rw [D.eq_intI, ← bne_false (decide (a = b))]; exact h
  · split at h
    · rename_i a b ha hb
      refine b2_eqR ha hb ?_
      rw [← bne_false (a.eq b)]; exact h
    · split at h
      · rename_i ks ls hx hy
        obtain ⟨hb, h⟩ := WE.gd h
        exact b2_eqDc (dcO_ok hx) (dcO_ok hy) hb h
      · exact h.elim
theorem eqO_ne {x y : D} (h : WE G Γ δ (eqO x y L true) Q) : B2 Γ (compareOp .NotEq) x y L Q := by
  unfold eqO at h
  split at h
  · rename_i a b
    refine b2_neR (x := .int a) (y := .int b) (a := .int a) (b := .int b) (by simp [rsv]) (by simp [rsv]) ?_
    rw [D.eq_intI, ← bne_true (decide (a = b))]; exact h
  · split at h
    · rename_i a b ha hb
      refine b2_neR ha hb ?_
      rw [← bne_true (a.eq b)]; exact h
    · split at h
      · rename_i ks ls hx hy
        obtain ⟨hb, h⟩ := WE.gd h
        exact b2_neDc (dcO_ok hx) (dcO_ok hy) hb h
      · exact h.elim
theorem b2_inSg {c : Nat} {z : Tx} (h : Q (.bl (decide (c ∈ z))) L) : B2 Γ (compareOp .In) (.str [c]) (.str z) L Q := fun X R0 F R H v u l A r1 r2 QV g => by
  cases r1; cases r2
  have e : decide (c ∈ (Tx.s z).cps.toList) = decide (c ∈ z) := decide_eq_decide.mpr (by simp [Tx.s])
  exact OR_w op_in_sign ⟨c, Tx.s z, rfl, rfl, by rw [e]; exact g _ _ R H L (Le.refl R) A .bl h⟩
theorem b2_ninSg {c : Nat} {z : Tx} (h : Q (.bl (!decide (c ∈ z))) L) : B2 Γ (compareOp .NotIn) (.str [c]) (.str z) L Q := fun X R0 F R H v u l A r1 r2 QV g => by
  cases r1; cases r2
  have e : decide (c ∈ (Tx.s z).cps.toList) = decide (c ∈ z) := decide_eq_decide.mpr (by simp [Tx.s])
  exact OR_w op_notIn_sign ⟨c, Tx.s z, rfl, rfl, by rw [e]; exact g _ _ R H L (Le.refl R) A .bl h⟩
theorem inO_in {x y : D} (h : WE G Γ δ (inO x y L false) Q) : B2 Γ (compareOp .In) x y L Q := by
  unfold inO at h
  split at h
  · rw [bne_false] at h; exact b2_inSg h
  · split at h
    · rename_i ds hd
      obtain ⟨hb, h⟩ := WE.gd h
      rw [Bool.and_eq_true] at hb
      refine b2_in (sqO_ok hd) hb.1 hb.2 ?_
      rw [bne_false] at h; exact h
    · split at h
      · rename_i ks k hy hk
        rw [bne_false] at h
        exact b2_inDc hk (dcO_ok hy) h
      · exact h.elim
theorem inO_nin {x y : D} (h : WE G Γ δ (inO x y L true) Q) : B2 Γ (compareOp .NotIn) x y L Q := by
  unfold inO at h
  split at h
  · rw [bne_true] at h; exact b2_ninSg h
  · split at h
    · rename_i ds hd
      obtain ⟨hb, h⟩ := WE.gd h
      rw [Bool.and_eq_true] at hb
      refine b2_nin (sqO_ok hd) hb.1 hb.2 ?_
      rw [bne_true] at h; exact h
    · split at h
      · rename_i ks k hy hk
        rw [bne_true] at h
        exact b2_ninDc hk (dcO_ok hy) h
      · exact h.elim
theorem isN_b {x : D} (h : Q (.bl (isN x)) L) : B2 Γ (compareOp .Is) x .non L Q := b2_isN (k := isN x) (by cases x <;> rfl) h
theorem notN_b {x : D} (h : Q (.bl (!isN x)) L) : B2 Γ (compareOp .IsNot) x .non L Q := b2_notN (k := !isN x) (by cases x <;> rfl) h
theorem oc_ok {op : CmpOp} {x y : D} (h : WE G Γ δ (oc op x y L) Q) : B2 Γ (compareOp op) x y L Q := by
  unfold oc at h
  split at h
  · exact b2_lt h
  · exact b2_le h
  · exact b2_gt h
  · exact b2_ge h
  · obtain ⟨hb, h⟩ := WE.gd h; exact b2_ltD hb h
  · obtain ⟨hb, h⟩ := WE.gd h; exact b2_leD hb h
  · obtain ⟨hb, h⟩ := WE.gd h; exact b2_gtD hb h
  · obtain ⟨hb, h⟩ := WE.gd h; exact b2_geD hb h
  · exact eqO_eq h
  · exact eqO_ne h
  · exact inO_in h
  · exact inO_nin h
  · exact isN_b h
  · exact notN_b h
  · exact h.elim
theorem o2_ok {op : Operator} {x y : D} (h : WE G Γ δ (o2 op x y L) Q) : B2 Γ (binaryOp op) x y L Q := by
  unfold o2 at h
  split at h
  · exact b2_add h
  · exact b2_sub h
  · obtain ⟨hb, h⟩ := WE.gd h
    refine b2_mul ?_ h
    rw [Bool.or_eq_true, decide_eq_true_eq, decide_eq_true_eq] at hb
    unfold CMul
    omega
  · obtain ⟨hb, h⟩ := WE.gd h
    rw [Bool.and_eq_true, decide_eq_true_eq, decide_eq_true_eq] at hb
    exact b2_fdiv hb h
  · obtain ⟨hb, h⟩ := WE.gd h
    exact b2_mod (of_decide_eq_true hb) h
  · obtain ⟨hb, h⟩ := WE.gd h
    rw [Bool.and_eq_true, Bool.and_eq_true, decide_eq_true_eq, decide_eq_true_eq, decide_eq_true_eq] at hb
    exact b2_pow ⟨hb.1.1, hb.1.2, hb.2⟩ h
  · obtain ⟨hb, h⟩ := WE.gd h
    exact b2_adds (by rw [← SL_eq]; exact of_decide_eq_true hb) h
  · obtain ⟨hb, h⟩ := WE.gd h
    exact b2_catT (by rw [← SL_eq]; exact of_decide_eq_true hb) h
  · split at h
    · rename_i ha hb'
      obtain ⟨hb, h⟩ := WE.gd h
      exact b2_cat (ltO_ok ha) (ltO_ok hb') (by rw [← SL_eq]; exact of_decide_eq_true hb) h
    · exact h.elim
  · split at h
    · rename_i ha
      obtain ⟨hb, h⟩ := WE.gd h
      rw [Bool.and_eq_true, Bool.and_eq_true, decide_eq_true_eq, decide_eq_true_eq, decide_eq_true_eq] at hb
      exact b2_rep (ltO_ok ha) hb.1.1 hb.1.2 (by rw [← SL_eq]; exact hb.2) h
    · exact h.elim
  · exact h.elim
theorem o2M_ok {op : Operator} {x y : D} (h : WE G Γ δ (o2M op x y L) Q) : B2 Γ (binaryOp op) x y L Q := by
  unfold o2M at h
  split at h
  · split at h
    · rename_i ha hb'
      obtain ⟨hb, h⟩ := WE.gd h
      exact b2_catM (ltO_ok ha) (ltO_ok hb') (by rw [← SL_eq]; exact of_decide_eq_true hb) h
    · exact h.elim
  · split at h
    · rename_i ha
      obtain ⟨hb, h⟩ := WE.gd h
      rw [Bool.and_eq_true, Bool.and_eq_true, decide_eq_true_eq, decide_eq_true_eq, decide_eq_true_eq] at hb
      exact b2_repM (ltO_ok ha) hb.1.1 hb.1.2 (by rw [← SL_eq]; exact hb.2) h
    · exact h.elim
  · exact h.elim
theorem o2i_ok {op : Operator} {x y : D} (h : WE G Γ δ (o2i op x y L) Q) : B2 Γ (inplaceOp op) x y L Q := by
  unfold o2i at h
  split at h
  · exact b2_iadd h
  · exact b2_isub h
  · obtain ⟨hb, h⟩ := WE.gd h
    refine b2_imulI ?_ h
    rw [Bool.or_eq_true, decide_eq_true_eq, decide_eq_true_eq] at hb
    unfold CMul
    omega
  · obtain ⟨hb, h⟩ := WE.gd h
    exact b2_iaddS (by rw [← SL_eq]; exact of_decide_eq_true hb) h
  · split at h
    · rename_i ha hb'
      obtain ⟨hb, h⟩ := WE.gd h
      exact b2_iext ha (ltO_ok hb') (by rw [← SL_eq]; exact of_decide_eq_true hb) h
    · exact h.elim
  · exact h.elim

/-! ### subscripts, whatever is subscripted -/
theorem be_ix {a b : Expr} {pos : Pos} (h : BE Γ a δ L fun d L1 => BE Γ b δ L1 fun y L2 => WE G Γ δ (ixO d y L2) Q) (hs : PlainIx b) : BE Γ (.Subscript a b pos) δ L Q := fun X R0 F R σ H l A S QV g =>
  PE_w (pe_ix (ix_seq.or (ix_dict (by have := F.un; omega))) peW peW hs) (h X R0 F R σ H l A S _ fun v d R1 H1 L1 l1 A1 r1 q1 => q1 X R0 F R1 σ H1 (l.trans l1) A1 (S.le l1) _ fun u y R2 H2 L2 l2 A2 r2 q2 => by
    replace q2 : WE G Γ δ (ixO d y L2) Q := q2
    unfold ixO at q2
    split at q2
    · split at q2
      · rename_i xs i _ z hi
        cases r2
        obtain ⟨p, vs, rfl, hp, rv⟩ := sqt_of A2 (r1.le l2)
        obtain ⟨w, hw, rw'⟩ := rv.atI hi
        exact .inl (.inr (.inl ⟨p, vs, i, w, rfl, rfl, by rw [F.K]; exact hp, hw, g w z R2 H2 L2 (l1.trans l2) A2 rw' q2⟩))
      · exact q2.elim
    · split at q2
      · rename_i x i _ c hi
        obtain ⟨hb, q2⟩ := WE.gd q2
        cases r2
        cases r1
        exact .inl (.inr (.inr ⟨Tx.s x, i, c, rfl, rfl, by rw [Tx.len, ← SL_eq]; exact of_decide_eq_true hb, by simpa [Tx.s] using hi, g _ _ R2 H2 L2 (l1.trans l2) A2 (.str (x := [c])) q2⟩))
      · exact q2.elim
    · split at q2
      · rename_i xs hd
        split at q2
        · rename_i i _ _
          split at q2
          · rename_i z hi
            cases r2
            obtain ⟨p, vs, rfl, hp, rv⟩ := (lsO_ok hd).sql A2 (r1.le l2)
            obtain ⟨w, hw, rw'⟩ := rv.atI hi
            exact .inl (.inl ⟨p, vs, i, w, rfl, rfl, by rw [F.K]; exact hp, hw, g w z R2 H2 L2 (l1.trans l2) A2 rw' q2⟩)
          · exact q2.elim
        · exact q2.elim
      · split at q2
        · rename_i ks k hd hk
          split at q2
          · rename_i z hz
            obtain ⟨p, kvs, rfl, e, rk⟩ := (dcO_ok hd).rd A2 (r1.le l2)
            obtain ⟨w, hw, rw'⟩ := rk.get hz
            have e2 := ktO_v hk r2
            subst e2
            exact .inr ⟨p, w, rfl, .inl ⟨kvs, k.key, e, rfl, hw.symm⟩, g w z R2 H2 L2 (l1.trans l2) A2 rw' q2⟩
          · exact q2.elim
        · exact q2.elim)
theorem be_sl {e : Expr} {lo hi : Option Expr} {pos p2 : Pos} (h : BE Γ e δ L fun d L1 => BO Γ lo δ L1 fun i L2 => BO Γ hi δ L2 fun j L3 => WE G Γ δ (slO d i j L3) Q) : BE Γ (.Subscript e (.Slice lo hi none p2) pos) δ L Q := fun X R0 F R σ H l A S QV g =>
  PE_w (pe_slice (sl_list.or (sl_tupA.or sl_str)) peW poW poW) (h X R0 F R σ H l A S _ fun v d R1 H1 L1 l1 A1 r1 q1 => q1.run F (l.trans l1) A1 (S.le l1) fun i R2 H2 L2 l2 A2 q2 => q2.run F ((l.trans l1).trans l2) A2 ((S.le l1).le l2) fun j R3 H3 L3 l3 A3 q3 => by
    replace q3 : WE G Γ δ (slO d i j L3) Q := q3
    unfold slO at q3
    have r3 := (r1.le l2).le l3
    have l123 := (l1.trans l2).trans l3
    split at q3
    · rename_i ds
      obtain ⟨p, vs, rfl, hp, rv⟩ := sqt_of A3 r3
      refine .inr (.inl ⟨p, vs, rfl, by rw [F.K]; exact hp, fun hw => ?_, fun _ z hz => ?_⟩)
      · have e : cut ds i j = ds := by
          rw [rv.length] at hw
          unfold cut
          rw [hw.1, hw.2]
          simp
        rw [e] at q3
        exact g _ _ R3 H3 L3 l123 A3 r3 q3
      · have hR := A3.sub.non hz
        exact g _ _ _ _ L3 (l123.trans (Le.upd hR)) (A3.new hz) (.tup (.inl (.inl upd_same)) ((cut_rps rv i j).le (Le.upd hR))) q3
    · rename_i x
      obtain ⟨hb, q3⟩ := WE.gd q3
      cases r1
      refine .inr (.inr ⟨Tx.s x, rfl, by rw [Tx.len, ← SL_eq]; exact of_decide_eq_true hb, ?_⟩)
      rw [cutS_tx]
      exact g _ _ R3 H3 L3 l123 A3 .str q3
    · split at q3
      · rename_i xs hd
        obtain ⟨p, vs, rfl, hp, rv⟩ := (lsO_ok hd).sql A3 r3
        refine .inl ⟨p, vs, rfl, by rw [F.K]; exact hp, fun z hz => ?_⟩
        have hR := A3.sub.non hz
        exact g _ _ _ _ L3 (l123.trans (Le.upd hR)) (A3.new hz) (.lst upd_same ((cut_rps rv i j).le (Le.upd hR))) q3
      · exact q3.elim)

/-! ### built-ins -/
theorem ns_ne {ns : List Int} (h : (!ns.isEmpty) = true) : ns ≠ [] := by
  rintro rfl; cases h
theorem tpsO_ok : ∀ {ds : List D} {nss : List (List Int)}, tpsO ds = some nss → ds = nss.map tupD
  | [], _, h => by cases h; rfl
  | d :: ds, nss, h => by
    cases d <;> first | (cases h; done) | skip
    rename_i xs
    simp only [tpsO] at h
    split at h
    · rename_i ns hi
      simp only [Option.map_eq_some_iff] at h
      obtain ⟨ms, h1, rfl⟩ := h
      rw [tpsO_ok h1, List.map_cons, intsO_ok hi]; rfl
    · cases h
theorem lstR_min {d : D} {xs : List D} (hc : Γ.calm = true) (hd : SqOf L d xs) (h : WE G Γ δ (lstR true xs L) Q) : BC Γ (.builtin "min") [d] L Q := by
  unfold lstR at h
  cases hi : intsO xs with
  | some ns =>
    rw [hi] at h
    obtain ⟨hb, h⟩ := WE.gd h
    rw [intsO_ok hi] at hd
    rcases hd with hd | rfl
    · exact bc_min hd (ns_ne hb) hc h
    · exact bc_minTu (ns_ne hb) hc h
  | none =>
    rw [hi] at h
    cases ht : tpsO xs with
    | none =>
      rw [ht] at h
      cases xs with
      | nil => exact h.elim
      | cons x r =>
        obtain ⟨hb, h⟩ := WE.gd h
        exact bc_leastD hc hd hb h
    | some nss =>
      cases nss with
      | nil =>
        rw [ht] at h
        cases xs with
        | nil => exact h.elim
        | cons x r =>
          obtain ⟨hb, h⟩ := WE.gd h
          exact bc_leastD hc hd hb h
      | cons x r =>
        rw [ht] at h
        rw [tpsO_ok ht] at hd
        exact bc_least hd hc h
theorem lstR_max {d : D} {xs : List D} (hc : Γ.calm = true) (hd : SqOf L d xs) (h : WE G Γ δ (lstR false xs L) Q) : BC Γ (.builtin "max") [d] L Q := by
  unfold lstR at h
  cases hi : intsO xs with
  | some ns =>
    rw [hi] at h
    obtain ⟨hb, h⟩ := WE.gd h
    rw [intsO_ok hi] at hd
    rcases hd with hd | rfl
    · exact bc_max hd (ns_ne hb) hc h
    · exact bc_maxTu (ns_ne hb) hc h
  | none =>
    rw [hi] at h
    cases ht : tpsO xs with
    | none =>
      rw [ht] at h
      cases xs with
      | nil => exact h.elim
      | cons x r =>
        obtain ⟨hb, h⟩ := WE.gd h
        exact bc_mostD hc hd hb h
    | some nss =>
      cases nss with
      | nil =>
        rw [ht] at h
        cases xs with
        | nil => exact h.elim
        | cons x r =>
          obtain ⟨hb, h⟩ := WE.gd h
          exact bc_mostD hc hd hb h
      | cons x r =>
        rw [ht] at h
        rw [tpsO_ok ht] at hd
        exact bc_greatest hd hc h
theorem bi_ok {b : Bi} {m : Bool} {ds : List D} (hc : Γ.calm = true) (h : WE G Γ δ (biO b m ds L) Q) : BC Γ (biV b) ds L Q := by
  unfold biO at h
  split at h
  · obtain ⟨hb, h⟩ := WE.gd h
    exact bc_lenS (by rw [← SL_eq]; exact of_decide_eq_true hb) h
  · split at h
    · rename_i hd; exact bc_len (sqO_ok hd) h
    · split at h
      · rename_i hd; exact bc_lenDc (dcO_ok hd) h
      · exact h.elim
  · exact bc_abs h
  · exact bc_min2 hc h
  · exact bc_max2 hc h
  · exact bc_min3 hc h
  · exact bc_max3 hc h
  · exact bc_min4 hc h
  · split at h
    · rename_i hd; exact lstR_min hc (sqO_ok hd) h
    · exact h.elim
  · split at h
    · rename_i hd; exact lstR_max hc (sqO_ok hd) h
    · exact h.elim
  · split at h
    · rename_i hd
      split at h
      · rename_i hi
        rcases sqO_ok hd with hd | rfl
        · exact bc_sum (by rw [← intsO_ok hi]; exact hd) hc h
        · rw [intsO_ok hi]; exact bc_sumT hc h
      · exact h.elim
    · exact h.elim
  · exact bc_int h
  · exact bc_intB h
  · split at h
    · rename_i hd
      unfold mkL at h
      split at h
      · exact bc_listM (sqO_ok hd) h
      · exact bc_list (sqO_ok hd) h
    · exact h.elim
  · split at h
    · rename_i hd; exact bc_tup (sqO_ok hd) h
    · exact h.elim
  · split at h
    · rename_i hd
      split at h
      · rename_i hi
        unfold mkL at h
        split at h
        · rcases sqO_ok hd with hd | rfl
          · exact bc_sortedIM (by rw [← intsO_ok hi]; exact hd) h
          · rw [intsO_ok hi]; exact bc_sortedTM h
        · rcases sqO_ok hd with hd | rfl
          · exact bc_sortedI (by rw [← intsO_ok hi]; exact hd) h
          · rw [intsO_ok hi]; exact bc_sortedT h
      · split at h
        · rename_i ht
          unfold mkL at h
          split at h
          · exact bc_sortedSM (by rw [← txs_ok ht]; exact sqO_ok hd) h
          · exact bc_sortedS (by rw [← txs_ok ht]; exact sqO_ok hd) h
        · split at h
          · rename_i hl
            obtain ⟨hb, h⟩ := WE.gd h
            unfold mkL at h
            split at h
            · exact bc_sortGM (lsO_ok hl) hb h
            · exact bc_sortG (lsO_ok hl) hb h
          · exact h.elim
    · split at h
      · rename_i hd
        split at h
        · rename_i hk
          unfold mkL at h
          split at h
          · exact bc_sortedDIM hc (dcO_ok hd) hk h
          · exact bc_sortedDI hc (dcO_ok hd) hk h
        · split at h
          · rename_i hk
            unfold mkL at h
            split at h
            · exact bc_sortedDSM hc (dcO_ok hd) hk h
            · exact bc_sortedDS hc (dcO_ok hd) hk h
          · exact h.elim
      · exact h.elim
  · obtain ⟨hb, h⟩ := WE.gd h
    exact bc_strI (of_decide_eq_true hb) h
  · exact bc_strS h
  · split at h
    · rename_i hd
      split at h
      · rename_i hp
        unfold mkDc at h
        split at h
        · exact bc_dictM hc (lsO_ok hd) hp h
        · exact bc_dict hc (lsO_ok hd) hp h
      · exact h.elim
    · exact h.elim
  · exact h.elim

/-! ### methods of built-in types, one argument -/
theorem fewA {x : Expr} (hx : noSt x = true) (pos : Pos) (env : Env) : ((backTo pos (starEach [x] env)).all (fun y => !y.1) && (backToKw pos (keywordEach [] env)).all (fun y => y.1.isSome) && decide (([x] : List Expr).length + ([] : List Keyword).length + (if ([] : List Keyword).isEmpty then 0 else 1) < 30)) = true := by
  rw [se_cons hx]; rfl
theorem be_cnt {o e : Expr} {apos pos : Pos} (h : BE Γ o δ L fun d L1 => ∃ ds1 : List D, LsOf L1 d ds1 ∧ BE Γ e δ L1 fun y L2 => ∃ (ns : List Int) (k : Int), y = .int k ∧ LsOf L2 d (ns.map .int) ∧ Q (.int (ns.count k : Nat)) L2)
    (he : noSt e = true) (ho : plainO o = true) (hl : (apos.endLine == pos.line) = true) : BE Γ (.Call (.Attribute o "count" apos) [e] [] pos) δ L Q := fun X R0 F R σ H l A S QV g => by
  refine PE_w (pe_bm PySem.F.plainAttrs_list PySem.F.slot_list_count PySem.F.type_list_count mt_lcount peW paW (ab_ok ho _ _ _) (fewA he _ _) hl (se_cons he _ _) (by rfl)) ?_
  refine h X R0 F R σ H l A S _ fun v d R1 H1 L1 l1 A1 r1 q1 => ?_
  obtain ⟨ds1, hd, q1⟩ := q1
  obtain ⟨p, ws, rfl, hp, rw1⟩ := hd.sql A1 r1
  refine ⟨.inl ⟨rfl, ws, by rw [F.K]; exact hp⟩, ?_⟩
  refine PA_w (pa_cons peW pa_nil (se_cons he _ _)) ?_
  refine q1 X R0 F R1 σ H1 (l.trans l1) A1 (S.le l1) _ fun y d2 R2 H2 L2 l2 A2 r2 q2 => ?_
  obtain ⟨ns, k, rfl, hd2, q⟩ := q2
  cases r2
  obtain ⟨p2, ws2, e2, hp2, rw2⟩ := hd2.sql A2 (r1.le l2)
  cases e2
  have := rw2.ints
  subst this
  exact ⟨p, ns, k, rfl, rfl, by rw [F.K]; exact hp2, g _ _ R2 H2 L2 (l1.trans l2) A2 .int q⟩
theorem be_bm {b : Bm} {o e : Expr} {apos pos : Pos} (h : BE Γ o δ L fun d L1 => bmP b d L1 = true ∧ BE Γ e δ L1 fun y L2 => WE G Γ δ (bmO b d [y] L2) Q)
    (he : noSt e = true) (ho : plainO o = true) (hl : (apos.endLine == pos.line) = true) : BE Γ (.Call (.Attribute o (bmNm b) apos) [e] [] pos) δ L Q := by
  have hs : ∀ env, starEach [e] env = [(false, eval e env)] := fun env => se_cons he [] env
  cases b with
  | startswith =>
    refine be_sw (BE.mono h fun d L1 h0 => ?_) hs (fun env => ab_ok ho _ _ _) hl
    have hp := h0.1
    have h1 := h0.2
    clear h0
    cases d <;> first | (simp [bmP] at hp; done) | skip
    refine ⟨_, rfl, BE.mono h1 fun y L2 h2 => ?_⟩
    unfold bmO at h2
    cases y <;> first | exact ⟨_, rfl, h2⟩ | exact h2.elim
  | scount =>
    refine be_scnt (BE.mono h fun d L1 h0 => ?_) hs (fun env => ab_ok ho _ _ _) hl
    have hp := h0.1
    have h1 := h0.2
    clear h0
    cases d <;> first | (simp [bmP] at hp; done) | skip
    refine ⟨_, rfl, BE.mono h1 fun y L2 h2 => ?_⟩
    unfold bmO at h2
    cases y <;> first | exact ⟨_, rfl, h2⟩ | exact h2.elim
  | join =>
    refine be_join (BE.mono h fun d L1 h0 => ?_) hs (fun env => ab_ok ho _ _ _) hl
    have hp := h0.1
    have h1 := h0.2
    clear h0
    cases d <;> first | (simp [bmP] at hp; done) | skip
    refine ⟨_, rfl, BE.mono h1 fun y L2 h2 => ?_⟩
    unfold bmO at h2
    simp only at h2
    split at h2
    · rename_i xs hd
      split at h2
      · rename_i ys hy
        obtain ⟨hb, h2⟩ := WE.gd h2
        exact ⟨ys, by rw [← txs_ok hy]; exact sqO_ok hd, of_decide_eq_true hb, h2⟩
      · exact h2.elim
    · exact h2.elim
  | append =>
    refine be_app (BE.mono h fun d L1 h0 => ?_) hs (fun env => ab_ok ho _ _ _) hl (fewA he pos)
    have hp := h0.1
    have h1 := h0.2
    clear h0
    cases d <;> first | (simp [bmP] at hp; done) | skip
    unfold bmP at hp
    simp only at hp
    split at hp
    · rename_i ds1 hk
      refine ⟨_, ds1, rfl, hk, BE.mono h1 fun y L2 h2 => ?_⟩
      unfold bmO at h2
      simp only at h2
      split at h2
      · rename_i xs hx
        obtain ⟨hb, h2⟩ := WE.gd h2
        exact ⟨xs, hx, by rw [← SL_eq]; exact of_decide_eq_true hb, h2⟩
      · exact h2.elim
    · cases hp
  | pop =>
    refine be_popI (BE.mono h fun d L1 h0 => ?_) hs (fun env => ab_ok ho _ _ _) hl (fewA he pos)
    have hp := h0.1
    have h1 := h0.2
    clear h0
    cases d <;> first | (simp [bmP] at hp; done) | skip
    unfold bmP at hp
    simp only at hp
    split at hp
    · rename_i ds1 hk
      refine ⟨_, ds1, rfl, hk, BE.mono h1 fun y L2 h2 => ?_⟩
      unfold bmO at h2
      cases y <;> first | exact h2.elim | skip
      simp only at h2
      split at h2
      · rename_i xs hx
        split at h2
        · rename_i j hj
          split at h2
          · rename_i z hz
            obtain ⟨hb, h2⟩ := WE.gd h2
            rw [Bool.and_eq_true, decide_eq_true_eq, decide_eq_true_eq] at hb
            exact ⟨xs, _, j, z, rfl, hx, hb.1, hb.2, hj, hz, h2⟩
          · exact h2.elim
        · exact h2.elim
      · exact h2.elim
    · cases hp
  | count =>
    refine be_cntA (BE.mono h fun d L1 h0 => ?_) (fun env => hs env) (fun env => ab_ok ho _ _ _) hl (fewA he pos)
    have hp := h0.1
    have h1 := h0.2
    clear h0
    unfold bmP at hp
    obtain ⟨ds1, hd⟩ := Option.isSome_iff_exists.mp hp
    refine ⟨ds1, lsO_ok hd, BE.mono h1 fun y L2 h2 => ?_⟩
    replace h2 : WE G Γ δ (bmO .count d [y] L2) Q := h2
    cases y <;> first | (simp only [bmO] at h2; exact h2.elim) | skip
    · simp only [bmO] at h2
      split at h2
      · rename_i hl2
        split at h2
        · rename_i hi
          exact .inl ⟨_, _, rfl, by rw [← intsO_ok hi]; exact lsO_ok hl2, h2⟩
        · exact h2.elim
      · exact h2.elim
    · simp only [bmO] at h2
      split at h2
      · rename_i hl2
        split at h2
        · rename_i hi
          exact .inr ⟨_, _, rfl, by rw [← txs_ok hi]; exact lsO_ok hl2, h2⟩
        · exact h2.elim
      · exact h2.elim
  | index =>
    refine be_idxA (BE.mono h fun d L1 h0 => ?_) (fun env => hs env) (fun env => ab_ok ho _ _ _) hl (fewA he pos)
    have hp := h0.1
    have h1 := h0.2
    clear h0
    unfold bmP at hp
    obtain ⟨ds1, hd⟩ := Option.isSome_iff_exists.mp hp
    refine ⟨ds1, lsO_ok hd, BE.mono h1 fun y L2 h2 => ?_⟩
    replace h2 : WE G Γ δ (bmO .index d [y] L2) Q := h2
    cases y <;> first | (simp only [bmO] at h2; exact h2.elim) | skip
    · simp only [bmO] at h2
      split at h2
      · rename_i hl2
        split at h2
        · rename_i hi
          obtain ⟨hb, h2⟩ := WE.gd h2
          exact .inl ⟨_, _, rfl, by rw [← intsO_ok hi]; exact lsO_ok hl2, of_decide_eq_true hb, h2⟩
        · exact h2.elim
      · exact h2.elim
    · simp only [bmO] at h2
      split at h2
      · rename_i hl2
        split at h2
        · rename_i hi
          obtain ⟨hb, h2⟩ := WE.gd h2
          exact .inr ⟨_, _, rfl, by rw [← txs_ok hi]; exact lsO_ok hl2, of_decide_eq_true hb, h2⟩
        · exact h2.elim
      · exact h2.elim
end
end Ac
end
section
/-! Ev7: expressions. -/
namespace Ac
open PySem PySem.Spec PyProof.Rows L2

/-! ### instances by checks -/
theorem look_mem {ns : Ns} {x : Str} {k : NameKind} (h : ns.lookup x = some k) : (x, k) ∈ ns := by
  induction ns with
  | nil => cases h
  | cons p r ih =>
    obtain ⟨y, k'⟩ := p
    rw [List.lookup_cons] at h
    by_cases e : x = y
    · subst e
      simp at h
      subst h
      exact List.mem_cons_self
    · rw [beq_eq_false_iff_ne.mpr e] at h
      exact List.mem_cons_of_mem _ (ih h)
theorem kd_of {ns : Ns} {x : Str} {k : NameKind} (h : ns.lookup x = some k) : Kd ns x k := ⟨look_mem h⟩
theorem kd_gl {ns : Ns} {x : Str} (h : glB ns x = true) : Kd ns x .globalImplicit := kd_of (beq_iff_eq.mp h)
theorem ix_of {N : List Str} {x : Str} {i : Nat} (h : (N[i]? == some x) = true) : Ix N x i := ⟨beq_iff_eq.mp h⟩
theorem blk_of {N : List Str} {ns names : Ns} {own : List (Str × Nat)} (h : blkB N ns names own = true) : Blk N ns names own := by
  unfold blkB at h
  rw [Bool.and_eq_true, List.all_eq_true, List.all_eq_true] at h
  refine ⟨fun q hq => beq_iff_eq.mp (h.1 q hq), fun y k m e => ?_, fun y k m e => ?_⟩
  · have := h.2 _ m
    subst e
    simp only at this
    split at this
    · rename_i k hk
      exact ⟨k, look_mem hk, this⟩
    · cases this
  · have := h.2 _ m
    rcases e with e | e
    · subst e
      simp only [List.any_eq_true] at this
      obtain ⟨q, hq, e⟩ := this
      exact List.mem_map.mpr ⟨q, hq, beq_iff_eq.mp e⟩
    · subst e
      simp only [List.any_eq_true] at this
      obtain ⟨q, hq, e⟩ := this
      exact List.mem_map.mpr ⟨q, hq, beq_iff_eq.mp e⟩

/-! ### walks of any kind -/
theorem pi_dyn {X : Cx} {tg it : Expr} {te : TE} (he : PE X it te) : PI X tg it fun σ H R => te σ H fun v H1 =>
    (∃ a, v = .ref a ∧ (∃ xs, SqL X.K H1 a xs) ∧ R (Itl X.K a) H1) ∨ (∃ a, v = .ref a ∧ (∃ xs, SqT X.K H1 a xs) ∧ R (Itt X.K a) H1) ∨ ∃ x, v = .str x ∧ R (Its x) H1 := by
  refine ⟨fun pins s σ H R I h0 => thn (he.run pins s σ H _ I h0) fun v s1 z => ?_⟩
  obtain ⟨y, H1, I1, ry, hq⟩ := z
  rcases hq with ⟨a, rfl, ⟨xs, hs⟩, q⟩ | ⟨a, rfl, ⟨xs, hs⟩, q⟩ | ⟨x, rfl, q⟩
  · cases ry
    obtain ⟨its, rv, pl, _⟩ := I1.list hs
    exact wpAny_pyIter_list pl.isList (pi_one (tk := s1.toks) I1 _ (turn_list a _) ⟨_, Heap.get?_push_size _ rfl, rfl, rfl⟩ q)
  · cases ry
    obtain ⟨its, rv, pl, _⟩ := I1.tuple hs
    exact wpAny_pyIter_tuple (show s1.heap.IsTuple a its.toArray from pl) (pi_one (tk := s1.toks) I1 _ (turn_tuple a _) ⟨_, Heap.get?_push_size _ rfl, rfl, rfl⟩ q)
  · obtain ⟨tk, rfl⟩ := ry
    by_cases hx : x.cps.all (· < 128) = true
    · exact wpAny_pyIter_ascii hx (pi_one (tk := s1.toks) I1 _ (turn_str _ x tk _ (.inl rfl)) ⟨_, Heap.get?_push_size _ rfl, rfl, rfl⟩ q)
    · exact wpAny_pyIter_wide (Bool.eq_false_iff.mpr hx) (pi_one (tk := s1.toks) I1 _ (turn_str _ x tk _ (.inr rfl)) ⟨_, Heap.get?_push_size _ rfl, rfl, rfl⟩ q)
/-- the cell that must stand still -/
def Stl (ds : List D) : Option Nat → Mu → Prop
  | none, _ => True
  | some i, L => L[i]? = some (.lst ds)
theorem stl_of {ds : List D} {g : Option Nat} {L : Mu} (h : stands ds g L = true) : Stl ds g L := by
  cases g with
  | none => trivial
  | some i =>
    show L[i]? = _
    cases hL : L[i]? with
    | none => simp [stands, hL] at h
    | some m =>
      cases m <;> simp [stands, hL] at h
      rw [D.sames_eq h]
theorem bi_any {Γ : Ct} {δ : Ds} {L : Mu} {tg iter : Expr} {QI : List D → (Mu → Prop) → Mu → Prop} (h : BE Γ iter δ L fun d L1 => ∃ ds g, itO L1 d = some (ds, g) ∧ QI ds (Stl ds g) L1) : BI Γ tg iter δ L QI := fun X R0 F R σ H l A S QV g =>
  PI_w (pi_dyn peW) (h X R0 F R σ H l A S _ fun v d R1 H1 L1 l1 A1 r1 q1 => by
    obtain ⟨ds, gu, hi, q⟩ := q1
    unfold itO at hi
    split at hi
    · cases hi
      obtain ⟨p, vs, rfl, s, r⟩ := sqt_of A1 r1
      have s0 := s
      cases r1 with
      | tup s1 r1 =>
        rename_i ws
        refine .inr (.inl ⟨p, rfl, ⟨vs, by rw [F.K]; exact s⟩, ?_⟩)
        rw [F.K]
        refine g _ R1 H1 L1 _ _ l1 A1 ?_ (show Stl [] none L1 from trivial) q
        intro j R2 H2 L2 l2 A2 _
        have s2 : SqT Γ.K H2 p ws := A2.sub.sqT (l2.sqT s1)
        refine ⟨fun d hd => ?_, fun hi => ⟨ws, s2, by rw [r1.length, hi]; exact Nat.le_refl _⟩⟩
        obtain ⟨v, hv, rv⟩ := r1.get hd
        refine ⟨⟨ws, v, s2, hv⟩, fun x H3 ⟨e, hx⟩ => ⟨R2, Le.refl _, by rw [e]; exact A2, ?_⟩⟩
        have := hx ws s2
        rw [hv] at this
        cases this
        exact rv.lw l2
    · cases hi
      cases r1 with
      | lst s r =>
        refine .inl ⟨_, rfl, ⟨_, by rw [F.K]; exact A1.sub.sqL (.inl (.inl s))⟩, ?_⟩
        rw [F.K]
        exact g _ R1 H1 L1 _ _ l1 A1 (yl_list (fun R2 H2 L2 l2 A2 => A2.sub.sqL (l2.sqL (.inl (.inl s)))) r) (show Stl [] none L1 from trivial) q
    · cases hi
      cases r1 with
      | lsk s r =>
        refine .inl ⟨_, rfl, ⟨_, by rw [F.K]; exact A1.sub.sqL s⟩, ?_⟩
        rw [F.K]
        exact g _ R1 H1 L1 _ _ l1 A1 (yl_list (fun R2 H2 L2 l2 A2 => A2.sub.sqL (l2.sqL s)) r) (show Stl [] none L1 from trivial) q
    · rename_i x
      cases hi
      cases r1
      refine .inr (.inr ⟨Tx.s x, rfl, g _ R1 H1 L1 _ _ l1 A1 (fun i R2 H2 L2 l2 A2 _ => ⟨fun d hd => ?_, fun e => ?_⟩) (show Stl [] none L1 from trivial) q⟩)
      · rw [List.getElem?_map] at hd
        cases e : x[i]? with
        | none => rw [e] at hd; cases hd
        | some c =>
          rw [e] at hd
          cases hd
          have hlt : i < x.length := (List.getElem?_eq_some_iff.mp e).1
          refine ⟨(show i < (Tx.s x).cps.size by simpa [Tx.s] using hlt), fun y H3 ⟨e1, c', e2, e3⟩ => ⟨R2, Le.refl _, by rw [e1]; exact A2, ?_⟩⟩
          have e4 : x[i]? = some c' := by simpa [Tx.s] using e2
          rw [e] at e4
          cases e4
          rw [e3]
          exact .str (x := [c])
      · show (Tx.s x).cps.size ≤ i
        rw [e, List.length_map]
        simp [Tx.s]
    · rename_i i
      split at hi
      · rename_i xs hx
        cases hi
        obtain ⟨p, rfl, hv, vs, hp, r⟩ := A1.at hx r1
        refine .inl ⟨p, rfl, ⟨vs, .inl (.inl hp)⟩, ?_⟩
        rw [F.K]
        refine g _ R1 H1 L1 _ _ l1 A1 ?_ (show Stl _ (some i) L1 from hx) q
        intro j R2 H2 L2 l2 A2 hk
        obtain ⟨p2, e2, _, _, ws, hw, r2⟩ := A2.cel _ _ hk
        rw [l2.v _ _ hv] at e2
        cases e2
        have s2 : SqL Γ.K H2 p ws := .inl (.inl hw)
        refine ⟨fun d hd => ?_, fun hi => ⟨ws, s2, by rw [r2.length, hi]; exact Nat.le_refl _⟩⟩
        obtain ⟨v, hv, rv⟩ := r2.get hd
        refine ⟨⟨ws, v, s2, hv⟩, fun x H3 ⟨e, hx⟩ => ⟨R2, Le.refl _, by rw [e]; exact A2, ?_⟩⟩
        have := hx ws s2
        rw [hv] at this
        cases this
        exact rv
      · cases hi
    · cases hi)
end Ac
end
section
/-! Ev8: the terms of expressions are sound. -/
namespace Ac
open PySem PySem.Spec PyProof.Rows L2

theorem BGv.mono {Γ : Ct} {own : List Nat} {tg : Expr} {d : D} {δ : Ds} {L : Mu} {Q Q' : Ds → Mu → Prop} (h : BGv Γ own tg d δ L Q) (m : ∀ δ' L', Q δ' L' → Q' δ' L') : BGv Γ own tg d δ L Q' := fun X R0 F R σ H v l A S r QV g =>
  h X R0 F R σ H v l A S r QV fun σ2 δ2 R' H' L' l' A' S' e q => g σ2 δ2 R' H' L' l' A' S' e (m _ _ q)
theorem BGsv.mono {Γ : Ct} {own : List Nat} {ts : List Expr} {ds : List D} {δ : Ds} {L : Mu} {Q Q' : Ds → Mu → Prop} (h : BGsv Γ own ts ds δ L Q) (m : ∀ δ' L', Q δ' L' → Q' δ' L') : BGsv Γ own ts ds δ L Q' := fun X R0 F R σ H v l A S r QV g =>
  h X R0 F R σ H v l A S r QV fun σ2 δ2 R' H' L' l' A' S' e q => g σ2 δ2 R' H' L' l' A' S' e (m _ _ q)
theorem okG_st {N : List Str} {t : T} {ns : Ns} {own : List Nat} {e : Expr} (h : okG N t ns own e = true) : noSt e = true := by
  cases t <;> simp only [okG] at h <;> (cases e <;> first | rfl | cases h)
theorem okGs_st {N : List Str} {ns : Ns} {own : List Nat} : ∀ {t : T} {es : List Expr}, okG.okGs N t ns own es = true → es.all noSt = true
  | .nil, [], _ => rfl
  | .cons a b, x :: xs, h => by
    simp only [okG.okGs, Bool.and_eq_true] at h
    rw [List.all_cons, okG_st h.1, okGs_st h.2]; rfl
  | .nil, _ :: _, h => by simp [okG.okGs] at h
  | .cons _ _, [], h => by simp [okG.okGs] at h
  | .loc _, _, h | .non, _, h | .bl _, _, h | .int _, _, h | .str _, _, h | .glb _, _, h | .bin _ _ _, _, h | .neg _, _, h | .cmp _ _ _, _, h | .chn _ _ _ _ _, _, h | .and _ _, _, h | .or _ _, _, h | .not _, _, h | .ite _ _ _, _, h | .tup _, _, h | .lst _ _, _, h | .ix _ _, _, h | .sl _ _ _, _, h | .nop, _, h | .call _ _, _, h | .mk _ _, _, h | .meth _ _ _, _, h | .fld _ _, _, h | .bi _ _ _, _, h | .bm _ _ _, _, h | .rng _ _ _, _, h | .lrg _ _ _ _, _, h | .lc _ _ _ _ _ _, _, h | .told _ _, _, h => by simp [okG.okGs] at h
theorem asgN_ok {Γ : Ct} (hc : Γ.calm = true) (own : List Nat) (tg : T) : (∀ e, okG Γ.N tg Γ.sc.names own e = true → ∀ (d : D) (δ δ' : Ds) (L : Mu), asgN tg d δ = some δ' → BGv Γ own e d δ L fun δ2 L2 => δ2 = δ' ∧ L2 = L) ∧
    (∀ es, okG.okGs Γ.N tg Γ.sc.names own es = true → ∀ (ds : List D) (δ δ' : Ds) (L : Mu), asgN.asgNs tg ds δ = some δ' → es.length = ds.length ∧ BGsv Γ own es ds δ L fun δ2 L2 => δ2 = δ' ∧ L2 = L) := by
  induction tg with
  | loc i =>
    refine ⟨fun e h d δ δ' L ha => ?_, fun es h => by simp [okG.okGs] at h⟩
    simp only [okG] at h
    cases e <;> first | (cases h; done) | skip
    simp only [Bool.and_eq_true] at h
    simp only [asgN, Option.some.injEq] at ha
    subst ha
    obtain ⟨⟨h1, h2⟩, h3⟩ := h
    unfold locB at h2
    split at h2
    · rename_i k hk
      haveI := ix_of h1
      haveI := kd_of hk
      exact bgv_name ⟨rfl, rfl⟩ (List.contains_iff_mem.mp h3) h2
    · cases h2
  | tup es ih =>
    refine ⟨fun e h d δ δ' L ha => ?_, fun es h => by simp [okG.okGs] at h⟩
    simp only [okG] at h
    cases e <;> first | (cases h; done) | skip
    cases d <;> first | (simp [asgN] at ha; done) | skip
    simp only [asgN] at ha
    obtain ⟨hl, hb⟩ := ih.2 _ h _ _ _ L ha
    exact bgv_tup hb hc (fun env => by rw [ae_len, hl]) (fun env => ae_st (okGs_st h) env)
  | nil =>
    refine ⟨fun e h => by simp [okG] at h, fun es h ds δ δ' L ha => ?_⟩
    cases es <;> first | (simp [okG.okGs] at h; done) | skip
    cases ds <;> first | (simp [asgN.asgNs] at ha; done) | skip
    simp only [asgN.asgNs, Option.some.injEq] at ha
    subst ha
    exact ⟨rfl, bgsv_nil ⟨rfl, rfl⟩⟩
  | cons a b iha ihb =>
    refine ⟨fun e h => by simp [okG] at h, fun es h ds δ δ' L ha => ?_⟩
    cases es <;> first | (simp [okG.okGs] at h; done) | skip
    cases ds <;> first | (simp [asgN.asgNs] at ha; done) | skip
    simp only [okG.okGs, Bool.and_eq_true] at h
    simp only [asgN.asgNs] at ha
    split at ha
    · rename_i δ1 h1
      have q1 := iha.1 _ h.1 _ _ _ L h1
      obtain ⟨hl, q2⟩ := ihb.2 _ h.2 _ _ _ L ha
      refine ⟨by rw [List.length_cons, List.length_cons, hl], bgsv_cons (BGv.mono q1 fun δ2 L2 ⟨e1, e2⟩ => ?_) (fun env => ae_cons (okG_st h.1) _ env)⟩
      rw [e1, e2]; exact q2
    · cases ha
  | _ => exact ⟨fun e h => by simp [okG] at h, fun es h => by simp [okG.okGs] at h⟩

/-! ### the claims -/
structure Ok1 (G : Glo) (t : T) : Prop where
  e : ∀ lam Γ e, Cxt G lam Γ → okE G.C Γ.N lam t Γ.sc.names e = true → ∀ δ L Q, WE G Γ δ (ev G.P G.call t δ L) Q → BE Γ e δ L Q
  b : ∀ lam Γ e, Cxt G lam Γ → okE G.C Γ.N lam t Γ.sc.names e = true → ∀ δ L (Q : Bool → Mu → Prop), WE G Γ δ (ev G.P G.call t δ L) (fun d L => ∃ k, d = .bl k ∧ Q k L) → BT Γ e δ L Q
  w : ∀ lam Γ op xs p, Cxt G lam Γ → okE G.C Γ.N lam t Γ.sc.names (.BoolOp op xs p) = true → ∀ δ L (Q : Bool → Mu → Prop), WE G Γ δ (ev G.P G.call t δ L) (fun d L => ∃ k, d = .bl k ∧ Q k L) → BW Γ (.BoolOp op xs p) δ L Q
  al : ∀ lam Γ es, Cxt G lam Γ → okA G.C Γ.N lam t Γ.sc.names es = true → ∀ δ L (Q : List D → Mu → Prop), WE G Γ δ (ev G.P G.call t δ L) (fun d L => ∃ ds, d = .tup ds ∧ (ds.length = es.length → Q ds L)) → BA Γ es δ L Q
  r : ∀ lam Γ e, Cxt G lam Γ → okR G.C Γ.N lam t Γ.sc.names e = true → ∀ tg, itT t tg = true → ∀ δ L (Q : List D → Mu → Prop), WE G Γ δ (ev G.P G.call t δ L) (fun d L => ∃ ds, d = .tup ds ∧ Q ds L) → BI Γ tg e δ L fun ds cond L1 => cond = (fun _ => True) ∧ Q ds L1
theorem Ok1.a {G : Glo} {t : T} (o : Ok1 G t) (lam : Fl) (Γ : Ct) (es : List Expr) (hc : Cxt G lam Γ) (h : okA G.C Γ.N lam t Γ.sc.names es = true) (δ : Ds) (L : Mu) (Q : List D → Mu → Prop) (q : WE G Γ δ (ev G.P G.call t δ L) fun d L => ∃ ds, d = .tup ds ∧ Q ds L) : BA Γ es δ L Q :=
  o.al lam Γ es hc h δ L Q (WE.mono q fun d L ⟨ds, e, q⟩ => ⟨ds, e, fun _ => q⟩)
/-- for a term of a value, when tested: the value's truth -/
theorem Ok1.val {G : Glo} {t : T} (he : ∀ lam Γ e, Cxt G lam Γ → okE G.C Γ.N lam t Γ.sc.names e = true → ∀ δ L Q, WE G Γ δ (ev G.P G.call t δ L) Q → BE Γ e δ L Q)
    (hp : ∀ C N lam ns e, okE C N lam t ns e = true → plainT e = true) (ha : ∀ C N lam ns es, okA C N lam t ns es = false) (hr : ∀ C N lam ns e, okR C N lam t ns e = false) : Ok1 G t := by
  refine ⟨he, fun lam Γ e hc h δ L Q q => bt_val (he lam Γ e hc h δ L _ q) (it_ok (hp _ _ _ _ _ h)), fun lam Γ op xs p hc h => ?_, fun lam Γ es hc h => ?_, fun lam Γ e hc h => ?_⟩
  · have := hp _ _ _ _ _ h; cases this
  · rw [ha] at h; cases h
  · rw [hr] at h; cases h
end Ac
end
section
/-! Ev9: cells that are dropped, cells that are read for good. -/
namespace Ac
open PySem PySem.Spec PyProof.Rows L2
open scoped Classical in
/-- from n on no cells; those read for good are known from now on -/
noncomputable def Rw.fz (R : Rw) (n : Nat) (H : Hp) (b : Bool) : Rw :=
  { R with h := fun a => if b = true ∧ ∃ i, n ≤ i ∧ R.v i = some a then H a else R.h a, v := fun i => if i < n then R.v i else none }
section
open scoped Classical
variable {T : Tbl} {K : PySem.W.Frag} {R R0 : Rw} {H : Hp} {L : Mu} {n : Nat} {b : Bool}
theorem Rw.fz_h (A : AR T K R L H) {a : Addr} {o : HO} (h : R.h a = some o) : (R.fz n H b).h a = some o := by
  show (if _ then _ else _) = _
  rw [if_neg]
  · exact h
  · rintro ⟨_, i, hi, e⟩
    by_cases hl : i < L.length
    · obtain ⟨a', e1, e2, _⟩ := A.cel i L[i] (by simp [hl])
      rw [e] at e1; cases e1
      rw [h] at e2; cases e2
    · rw [A.dom i (Nat.le_of_not_lt hl)] at e; cases e
theorem Rw.fz_c (A : AR T K R L H) {i : Nat} {a : Addr} (hi : n ≤ i) (e : R.v i = some a) : (R.fz n H true).h a = H a := by
  show (if _ then _ else _) = _
  rw [if_pos ⟨rfl, i, hi, e⟩]
theorem Rw.fz_le (A : AR T K R L H) (l : Le R0 R) (hd : ∀ i, n ≤ i → R0.v i = none) : Le R0 (R.fz n H b) := by
  refine ⟨⟨fun a o h => Rw.fz_h A (l.h a o h), fun i a h => ?_, l.c⟩, l.p⟩
  show (if i < n then R.v i else none) = some a
  by_cases hi : i < n
  · rw [if_pos hi]; exact l.v i a h
  · rw [hd i (Nat.le_of_not_lt hi)] at h; cases h
theorem SqT.fz (A : AR T K R L H) {a : Addr} {vs : List V} (q : SqT K R.h a vs) : SqT K (R.fz n H b).h a vs := q.elim (fun z => .inl (z.elim (fun z => .inl (Rw.fz_h A z)) fun ⟨o, z⟩ => .inr ⟨o, Rw.fz_h A z⟩)) .inr
theorem SqL.fz (A : AR T K R L H) {a : Addr} {vs : List V} (q : SqL K R.h a vs) : SqL K (R.fz n H b).h a vs := q.elim (fun z => .inl (z.elim (fun z => .inl (Rw.fz_h A z)) fun ⟨o, z⟩ => .inr ⟨o, Rw.fz_h A z⟩)) .inr
mutual
theorem Rp.fz (A : AR T K R L H) : ∀ {d : D} {v : V}, D.blw n d = true → Rp K R v d → Rp K (R.fz n H b) v d
  | .non, _, _, q => by cases q; exact .non
  | .bl _, _, _, q => by cases q; exact .bl
  | .int _, _, _, q => by cases q; exact .int
  | .str _, _, _, q => by cases q; exact .str
  | .ty _, _, _, q => by cases q; exact .ty
  | .rf i, _, h, q => by
    cases q with
    | rf e =>
      unfold D.blw at h
      exact .rf (by show (if i < n then R.v i else none) = _; rw [if_pos (of_decide_eq_true h)]; exact e)
  | .tup ds, _, h, q => by unfold D.blw at h; cases q with | tup s r => exact .tup (SqT.fz A s) (Rps.fz A h r)
  | .lst ds, _, h, q => by unfold D.blw at h; cases q with | lst s r => exact .lst (Rw.fz_h A s) (Rps.fz A h r)
  | .lsk ds, _, h, q => by unfold D.blw at h; cases q with | lsk s r => exact .lsk (SqL.fz A s) (Rps.fz A h r)
  | .dct ks, _, h, q => by unfold D.blw at h; cases q with | dct s r => exact .dct (Rw.fz_h A s) (Rpk.fz A h r)
  | .dtt ks, _, h, q => by unfold D.blw at h; cases q with | dtt s r => exact .dtt (Rw.fz_h A s) (Rpt.fz A h r)
  | .obj C fs, _, h, q => by unfold D.blw at h; cases q with | obj s z r => exact .obj (R := R.fz n H b) (Rw.fz_h A s) z (Rps.fz A h r)
  | .lam _, _, _, q => by cases q
theorem Rps.fz (A : AR T K R L H) : ∀ {ds : List D} {vs : List V}, D.blws n ds = true → Rps K R vs ds → Rps K (R.fz n H b) vs ds
  | [], _, _, q => by cases q; exact .nil
  | d :: ds, _, h, q => by
    unfold D.blws at h
    rw [Bool.and_eq_true] at h
    cases q with | cons r s => exact .cons (Rp.fz A h.1 r) (Rps.fz A h.2 s)
theorem Rpk.fz (A : AR T K R L H) : ∀ {ks : List (Kt × D)} {kvs : List (Key × V)}, D.blwk n ks = true → Rpk K R kvs ks → Rpk K (R.fz n H b) kvs ks
  | [], _, _, q => by cases q; exact .nil
  | (k, d) :: ks, _, h, q => by
    unfold D.blwk at h
    rw [Bool.and_eq_true] at h
    cases q with | cons r s => exact .cons (Rp.fz A h.1 r) (Rpk.fz A h.2 s)
theorem Rpt.fz (A : AR T K R L H) : ∀ {ks : List (List Kt × D)} {kvs : List (List Key × V)}, D.blwt n ks = true → Rpt K R kvs ks → Rpt K (R.fz n H b) kvs ks
  | [], _, _, q => by cases q; exact .nil
  | (k, d) :: ks, _, h, q => by
    unfold D.blwt at h
    rw [Bool.and_eq_true] at h
    cases q with | cons r s => exact .cons (Rp.fz A h.1 r) (Rpt.fz A h.2 s)
end
theorem MOk.fz (A : AR T K R L H) {a : Addr} {m : MO} (h : m.blw n = true) (q : MOk K R H a m) : MOk K (R.fz n H b) H a m := by
  match m, h, q with
  | .lst xs, h, ⟨vs, e, r⟩ => exact ⟨vs, e, r.fz A h⟩
  | .dct ks, h, ⟨kvs, e, r⟩ => exact ⟨kvs, e, r.fz A h⟩
  | .ins C fs, h, ⟨dx, gs, e, z, r⟩ => exact ⟨dx, gs, e, z, r.fz A h⟩
  | .dtt ks, h, ⟨kvs, e, r⟩ => exact ⟨kvs, e, r.fz A h⟩
theorem AR.fz (A : AR T K R L H) (b : Bool) (hb : (L.take n).all (MO.blw n) = true) : AR T K (R.fz n H b) (L.take n) H := by
  have hv : ∀ i a, (R.fz n H b).v i = some a → i < n ∧ R.v i = some a := fun i a e => by
    change (if i < n then R.v i else none) = some a at e
    by_cases hi : i < n
    · rw [if_pos hi] at e; exact ⟨hi, e⟩
    · rw [if_neg hi] at e; cases e
  have cell : ∀ i a, R.v i = some a → ∃ m, L[i]? = some m ∧ R.h a = none ∧ R.p a = none ∧ MOk K R H a m := fun i a e => by
    by_cases hl : i < L.length
    · obtain ⟨a', e1, e2, e3, q⟩ := A.cel i L[i] (by simp [hl])
      rw [e] at e1; cases e1
      exact ⟨_, by simp [hl], e2, e3, q⟩
    · rw [A.dom i (Nat.le_of_not_lt hl)] at e; cases e
  refine ⟨fun a o e => ?_, fun i m hi => ?_, fun i j a h1 h2 => A.inj i j a (hv i a h1).2 (hv j a h2).2, fun i hi => ?_, fun a o e => ?_, A.tnd, fun t ht => ?_, fun a ps e => ?_⟩
  · change (if _ then _ else _) = some o at e
    split at e
    · exact .inl e
    · exact A.sub a o e
  · have hin : i < n := by
      have := (List.getElem?_eq_some_iff.mp hi).1
      rw [List.length_take] at this; omega
    have hi' : L[i]? = some m := by rw [List.getElem?_take, if_pos hin] at hi; exact hi
    obtain ⟨a, e1, e2, e3, q⟩ := A.cel i m hi'
    refine ⟨a, by show (if i < n then R.v i else none) = _; rw [if_pos hin]; exact e1, ?_, e3, MOk.fz A (List.all_eq_true.mp hb m (List.mem_of_getElem? hi)) q⟩
    show (if _ then _ else _) = none
    rw [if_neg]
    · exact e2
    · rintro ⟨_, j, hj, e⟩
      have := A.inj i j a e1 e
      omega
  · show (if i < n then R.v i else none) = none
    by_cases hin : i < n
    · rw [if_pos hin]
      refine A.dom i ?_
      rw [List.length_take] at hi; omega
    · rw [if_neg hin]
  · obtain ⟨e1, e2, w⟩ := A.hid a o e
    refine ⟨e1, ?_, w⟩
    show (if _ then _ else _) = none
    rw [if_neg]
    · exact e2
    · rintro ⟨_, j, hj, ej⟩
      obtain ⟨m, _, _, e3, _⟩ := cell j a ej
      change R.p a = some o at e
      rw [e3] at e; cases e
  · obtain ⟨h1, h3, h2⟩ := A.tab t ht
    refine ⟨?_, h3, h2⟩
    show (if _ then _ else _) = none
    rw [if_neg]
    · exact h1
    · rintro ⟨_, j, hj, ej⟩
      obtain ⟨m, _, _, _, q⟩ := cell j t.1 ej
      obtain ⟨u, hu, w⟩ := q.there
      obtain ⟨ps, e, _⟩ := _root_.id h2
      rw [hu] at e
      exact w.tbl ps (Option.some.inj e)
  · change (if _ then _ else _) = _ at e
    split at e
    · rename_i hc
      obtain ⟨_, j, hj, ej⟩ := hc
      obtain ⟨m, _, _, _, q⟩ := cell j a ej
      obtain ⟨u, hu, w⟩ := q.there
      rw [hu] at e
      exact w.tbl ps (Option.some.inj e)
    · exact A.ntb a ps e
mutual
theorem Rp.dfz (A : AR T K R L H) : ∀ {k : Nat} {d e : D} {v : V}, dfz L n k d = some e → Rp K R v d → Rp K (R.fz n H true) v e
  | k, .non, _, _, h, q => by simp only [Ac.dfz, Option.some.injEq] at h; subst h; cases q; exact .non
  | k, .bl _, _, _, h, q => by simp only [Ac.dfz, Option.some.injEq] at h; subst h; cases q; exact .bl
  | k, .int _, _, _, h, q => by simp only [Ac.dfz, Option.some.injEq] at h; subst h; cases q; exact .int
  | k, .str _, _, _, h, q => by simp only [Ac.dfz, Option.some.injEq] at h; subst h; cases q; exact .str
  | k, .ty _, _, _, h, q => by simp only [Ac.dfz, Option.some.injEq] at h; subst h; cases q; exact .ty
  | k + 1, .tup xs, _, _, h, q => by
    simp only [Ac.dfz, Option.map_eq_some_iff] at h
    obtain ⟨es, h, rfl⟩ := h
    cases q with | tup s r => exact .tup (SqT.fz A s) (Rps.dfz A h r)
  | k + 1, .lst xs, _, _, h, q => by
    simp only [Ac.dfz, Option.map_eq_some_iff] at h
    obtain ⟨es, h, rfl⟩ := h
    cases q with | lst s r => exact .lst (Rw.fz_h A s) (Rps.dfz A h r)
  | k + 1, .obj C xs, _, _, h, q => by
    simp only [Ac.dfz, Option.map_eq_some_iff] at h
    obtain ⟨es, h, rfl⟩ := h
    cases q with | obj s z r => exact .obj (R := R.fz n H true) (Rw.fz_h A s) z (Rps.dfz A h r)
  | k + 1, .rf i, e, _, h, q => by
    unfold Ac.dfz at h
    split at h
    · rename_i hi
      cases h
      exact Rp.fz A (by unfold D.blw; exact decide_eq_true hi) q
    · rename_i hi
      split at h
      · rename_i xs hx
        simp only [Option.map_eq_some_iff] at h
        obtain ⟨es, h, rfl⟩ := h
        obtain ⟨a, rfl, hv, vs, hp, r⟩ := A.at hx q
        exact .lst (by rw [Rw.fz_c A (Nat.le_of_not_lt hi) hv]; exact hp) (Rps.dfz A h r)
      · rename_i C xs hx
        simp only [Option.map_eq_some_iff] at h
        obtain ⟨es, h, rfl⟩ := h
        obtain ⟨a, rfl, hv, dx, vs, hp, z, r⟩ := A.at hx q
        exact .obj (R := R.fz n H true) (by rw [Rw.fz_c A (Nat.le_of_not_lt hi) hv]; exact hp) z (Rps.dfz A h r)
      · rename_i ks hx
        simp only [Option.map_eq_some_iff] at h
        obtain ⟨es, h, rfl⟩ := h
        obtain ⟨a, rfl, hv, kvs, hp, r⟩ := A.at hx q
        exact .dct (by rw [Rw.fz_c A (Nat.le_of_not_lt hi) hv]; exact hp) (Rpk.dfz A h r)
      · cases h
  | k + 1, .dct ks, _, _, h, q => by
    simp only [Ac.dfz, Option.map_eq_some_iff] at h
    obtain ⟨es, h, rfl⟩ := h
    cases q with | dct s r => exact .dct (Rw.fz_h A s) (Rpk.dfz A h r)
  | 0, .tup _, _, _, h, _ => by simp [Ac.dfz] at h
  | 0, .lst _, _, _, h, _ => by simp [Ac.dfz] at h
  | 0, .obj _ _, _, _, h, _ => by simp [Ac.dfz] at h
  | 0, .rf _, _, _, h, _ => by simp [Ac.dfz] at h
  | 0, .dct _, _, _, h, _ => by simp [Ac.dfz] at h
  | _, .dtt _, _, _, h, _ => by simp [Ac.dfz] at h
  | _, .lsk _, _, _, h, _ => by simp [Ac.dfz] at h
  | _, .lam _, _, _, h, _ => by simp [Ac.dfz] at h
theorem Rps.dfz (A : AR T K R L H) : ∀ {k : Nat} {ds es : List D} {vs : List V}, dfzs L n k ds = some es → Rps K R vs ds → Rps K (R.fz n H true) vs es
  | k, [], _, _, h, q => by simp only [Ac.dfzs, Option.some.injEq] at h; subst h; cases q; exact .nil
  | k, d :: ds, _, _, h, q => by
    unfold Ac.dfzs at h
    split at h
    · rename_i e he
      simp only [Option.map_eq_some_iff] at h
      obtain ⟨es, h, rfl⟩ := h
      cases q with | cons r s => exact .cons (Rp.dfz A he r) (Rps.dfz A h s)
    · cases h
theorem Rpk.dfz (A : AR T K R L H) : ∀ {k : Nat} {ds es : List (Kt × D)} {vs : List (Key × V)}, dfzk L n k ds = some es → Rpk K R vs ds → Rpk K (R.fz n H true) vs es
  | k, [], _, _, h, q => by simp only [Ac.dfzk, Option.some.injEq] at h; subst h; cases q; exact .nil
  | k, (y, d) :: ds, _, _, h, q => by
    unfold Ac.dfzk at h
    split at h
    · rename_i e he
      simp only [Option.map_eq_some_iff] at h
      obtain ⟨es, h, rfl⟩ := h
      cases q with | cons r s => exact .cons (Rp.dfz A he r) (Rpk.dfz A h s)
    · cases h
end
theorem PayOk.fz (A : AR T K R L H) {oa : Option Addr} {p : Option D} (h : payB n p = true) (q : PayOk K R H oa p) : PayOk K (R.fz n H b) H oa p := by
  match oa, p, q with
  | none, none, _ => trivial
  | some a, some d, ⟨v, e, r⟩ => exact ⟨v, e, r.fz A h⟩
end
/-- the end of a call, told of what was wanted -/
theorem fin_ok {G : Glo} {W : Wd} {R R' : Rw} {H : Hp} {L' : Mu} {v : V} {d : D} {md n : Nat} {Q : D → Mu → Prop} {X : EXm} {QV : VK} (hd : ∀ i, n ≤ i → R.v i = none) (g : ∀ v d R' H' L', Le R R' → AR W.T W.K R' L' H' → Rp W.K R' v d → Q d L' → QV v H')
    (l : Le R R') (A : AR W.T W.K R' L' H) (r : Rp W.K R' v d) (h : RC G.xa (fin md n (.ok d L')) Q X) : QV v H := by
  unfold fin at h
  split at h
  · exact g v d R' H L' l A r h
  · rename_i e1 e2
    cases e2
    unfold gd at h
    split at h
    · rename_i hb
      rw [Bool.and_eq_true] at hb
      exact g v d _ H _ (Rw.fz_le (b := false) A l hd) (A.fz false hb.2) (r.fz A hb.1) h
    · exact h.elim
  · rename_i e1 e2
    cases e2
    split at h
    · rename_i e he
      unfold gd at h
      split at h
      · rename_i hb
        exact g v e _ H _ (Rw.fz_le (b := true) A l hd) (A.fz true hb) (Rp.dfz A he r) h
      · exact h.elim
    · exact h.elim
  · rename_i e; cases e
  · rename_i e; cases e
theorem fin_ex {G : Glo} {W : Wd} {R R' : Rw} {H : Hp} {L' : Mu} {c : Nat} {p : Option D} {oa : Option Addr} {md n : Nat} {Q : D → Mu → Prop} {X : EXm} {E : Value → Option Addr → Hp → Prop} (hd : ∀ i, n ≤ i → R.v i = none)
    (g : ∀ cls oa pay R' H' L', Le R R' → AR W.T W.K R' L' H' → PayOk W.K R' H' oa pay → X cls pay L' → E cls oa H')
    (l : Le R R') (A : AR W.T W.K R' L' H) (r : PayOk W.K R' H oa p) (h : RC G.xa (fin md n (.ex c p L')) Q X) : E (.ref (G.xa c)) oa H := by
  unfold fin at h
  split at h
  · exact g _ _ _ R' H L' l A r h
  · rename_i e; cases e
  · rename_i e; cases e
  · rename_i e2
    cases e2
    unfold gd at h
    split at h
    · rename_i hb
      rw [Bool.and_eq_true] at hb
      exact g _ _ _ _ H _ (Rw.fz_le (b := false) A l hd) (A.fz false hb.2) (r.fz A hb.1) h
    · exact h.elim
  · rename_i e; cases e
end Ac
end
section
/-! Ev10: making instances; the terms of expressions are sound. -/
namespace Ac
open PySem PySem.Spec PyProof.Rows L2

section
variable {G : Glo} {Γ : Ct} {δ : Ds} {L : Mu} {Q : D → Mu → Prop} {x : Str} {c : Nat} {cd : Cd} {f : Addr} {k : Nat} {p pos : Pos}
/-- what is wanted of the making -/
theorem sp_mk {X : Cx} {R0 R : Rw} {σ : L2.St} {H : Hp} {W : WX} {QV : VK} {vs : List V} {ds : List D} (hW : Γ.toWd = G.W) (hcd : G.P.cls[c]? = some cd) (hEX : ∀ cls oa pay σ δ R H L, Le R0 R → AR Γ.T Γ.K R L H → RS Γ.K R σ δ → PayOk Γ.K R H oa pay → Γ.EX cls pay δ L → W cls oa σ H)
    (ec : R.c = Γ.cls) (l : Le R0 R) (A : AR Γ.T Γ.K R L H) (S : RS Γ.K R σ δ) (r : Rps Γ.K R vs ds) (q : WE G Γ δ (mkO G.P G.call c ds L) Q) (g : Got Γ R Q QV) {x' dx : Addr} (hx : H x' = none) (hdx : H dx = none) (ne : dx ≠ x') :
    spOf Γ.toWd (Cof G cd.init) (.ref x' :: vs) (upd (upd H dx (.own x')) x' (.ins (Γ.cls c).1 dx [])) (fun v H2 => v = .non ∧ QV (.ref x') H2) (L2.WE W σ) := by
  obtain ⟨A2, l2⟩ := A.made (C := c) hx hdx ne
  rw [ec] at A2
  have hdom : ∀ i, L.length ≤ i → R.v i = none := A.dom
  unfold mkO at q
  rw [hcd] at q
  refine ⟨R.bind L.length x', .rf L.length :: ds, L ++ [.ins c []], fun d L2 => d = .non ∧ WE G Γ δ (if cd.frz then fin 2 L.length (.ok (.rf L.length) L2) else .ok (.rf L.length) L2) Q,
    fun cls pay L2 => ∃ c1, cls = .ref (G.xa c1) ∧ WE G Γ δ (fin 1 L.length (.ex c1 pay L2)) Q, ec, A2, .cons Rp.new (r.le l2), ?_, ?_, ?_⟩
  · show RC G.xa (G.call cd.init (.rf L.length :: ds) (L ++ [.ins c []])) _ _
    simp only at q
    cases hr : G.call cd.init (.rf L.length :: ds) (L ++ [.ins c []]) with
    | no => rw [hr] at q; exact q.elim
    | ex c1 p1 L1 => rw [hr] at q; exact ⟨c1, rfl, q⟩
    | ok d L1 =>
      rw [hr] at q
      cases d <;> first | exact ⟨rfl, q⟩ | exact q.elim
  · rintro v d R' H' L' l' A' r' ⟨e', q'⟩
    subst e'
    cases r'
    refine ⟨rfl, ?_⟩
    have rx : Rp Γ.K R' (.ref x') (.rf L.length) := .rf (l'.v _ _ (if_pos rfl))
    split at q'
    · exact fin_ok (G := G) (W := Γ.toWd) hdom g (l2.trans l') A' rx q'
    · exact g _ _ R' H' L' (l2.trans l') A' rx q'
  · rintro cls oa pay R' H' L' l' A' po ⟨c1, rfl, q'⟩
    exact fin_ex (G := G) (W := Γ.toWd) (X := Γ.ex δ) (E := fun cls oa H => W cls oa σ H) hdom (fun cls oa pay R2 H2 L2 l3 A3 po3 q3 => hEX cls oa pay σ δ R2 H2 L2 (l.trans l3) A3 (S.le l3) po3 q3) (l2.trans l') A' po q'
theorem be_mk {e : Expr} {es : List Expr} (hW : Γ.toWd = G.W) (hcd : G.P.cls[c]? = some cd) (M : Mk Γ.K (Γ.cls c).1 f) (Fc : Fn Γ.toWd k f (Cof G cd.init)) (hm : Γ.mg x = some (.ref (Γ.cls c).1)) [hK : Kd Γ.sc.names x .globalImplicit] (h : BA Γ (e :: es) δ L fun ds L1 => WE G Γ δ (mkO G.P G.call c ds L1) Q) (hk : k + 1 ≤ Γ.k) (hc : Γ.calm = true)
    (he : ∀ env, starEach (e :: es) env = (false, eval e env) :: starEach es env) (hpl : ∀ env, (backTo pos (starEach es env)).any (·.1) = false) : BE Γ (.Call (.Name x p) (e :: es) [] pos) δ L Q := fun X R0 F R σ H l A S QV g pins s I => by
  obtain ⟨W, tk, hEX⟩ := F.tk
  obtain ⟨fd, ps, F1, b1⟩ := Fc.at F
  have M' : Mk X.K (Γ.cls c).1 f := by rw [F.K]; exact M
  refine wpAny_Call_Name_kw (ld_glob I (F.gl _ hK.mem) (by rw [F.mg]; exact hm) ?_ (ScB.dbg F.scok hK.mem).1)
  refine PySem.W.callWith_K (h₀ := X.base) I.ok.mod.kin M'.kp (thn ((paW (X := X) (es := e :: es)).run pos pins s σ H _ I (h X R0 F R σ H l A S (fun vs H1 => ∀ x dx, H1 x = none → H1 dx = none → dx ≠ x → spOf Γ.toWd (Cof G cd.init) (.ref x :: vs) (upd (upd H1 dx (.own x)) x (.ins (Γ.cls c).1 dx [])) (fun v H2 => v = .non ∧ QV (.ref x) H2) (L2.WE W σ)) ?_)) fun us s1 ⟨vs, H1, I1, r, q⟩ => ⟨I1.kIn, ?_⟩) (he _) (hpl _)
  · intro vs xs R1 H1 L1 l1 A1 r1 q1 x' dx hx hdx ne
    exact sp_mk (X := X) hW hcd hEX ((l.trans l1).c.trans F.cls) (l.trans l1) A1 (S.le l1) r1 q1 (g.le l1) hx hdx ne
  · exact run_makeS M' F1 ((F.room hc).mono hk) b1 (passAt tk σ) I1 r q
theorem be_mk0 (hW : Γ.toWd = G.W) (hcd : G.P.cls[c]? = some cd) (M : Mk Γ.K (Γ.cls c).1 f) (Fc : Fn Γ.toWd k f (Cof G cd.init)) (hm : Γ.mg x = some (.ref (Γ.cls c).1)) [hK : Kd Γ.sc.names x .globalImplicit] (h : WE G Γ δ (mkO G.P G.call c [] L) Q) (hk : k + 1 ≤ Γ.k) (hc : Γ.calm = true) : BE Γ (.Call (.Name x p) [] [] pos) δ L Q := fun X R0 F R σ H l A S QV g pins s I => by
  obtain ⟨W, tk, hEX⟩ := F.tk
  obtain ⟨fd, ps, F1, b1⟩ := Fc.at F
  have M' : Mk X.K (Γ.cls c).1 f := by rw [F.K]; exact M
  refine wpAny_Call_Name_kw (ld_glob I (F.gl _ hK.mem) (by rw [F.mg]; exact hm) ?_ (ScB.dbg F.scok hK.mem).1)
  exact PySem.W.callWith_K0 I.kIn M'.kp (run_makeS (us := []) (vs := []) M' F1 ((F.room hc).mono hk) b1 (passAt tk σ) I .nil fun x' dx hx hdx ne => sp_mk (X := X) hW hcd hEX (l.c.trans F.cls) l A S .nil h g hx hdx ne)
/-- a test by cases -/
theorem bt_if {t a b : Expr} {Q : Bool → Mu → Prop} (h : BT Γ t δ L fun k L1 => (k = true → BT Γ a δ L1 Q) ∧ (k = false → BT Γ b δ L1 Q)) : BT Γ (.IfExp t a b pos) δ L Q := fun X R0 F R σ H l A S QV g pins s I => by
  show wpAny _ _ (do if ← isTrue t X.env (eval t X.env) then isTrue a X.env (eval a X.env) else isTrue b X.env (eval b X.env)) _ _ s
  have q := h X R0 F R σ H l A S (fun k H1 => if k = true then wT X a σ H1 QV else wT X b σ H1 QV) (fun k R1 H1 L1 l1 A1 q1 => by
    cases k with
    | true => rw [if_pos rfl]; exact q1.1 rfl X R0 F R1 σ H1 (l.trans l1) A1 (S.le l1) QV (g.le l1)
    | false => rw [if_neg (by decide)]; exact q1.2 rfl X R0 F R1 σ H1 (l.trans l1) A1 (S.le l1) QV (g.le l1)) pins s I
  refine wpAny_bind (wpAny_mono q (fun k s1 z => ?_) fun _ _ e => e)
  obtain ⟨H1, I1, z⟩ := z
  cases k with
  | true => rw [if_pos rfl] at z ⊢; exact z pins s1 I1
  | false => rw [if_neg (by decide)] at z ⊢; exact z pins s1 I1
end
end Ac
end
section
/-! Ev11: the terms of expressions are sound. -/
namespace Ac
open PySem PySem.Spec PyProof.Rows L2

theorem okA_st {C : Nm} {N : List Str} {lam : Fl} {ns : Ns} : ∀ {t : T} {es : List Expr}, okA C N lam t ns es = true → es.all noSt = true := by
  intro t
  induction t with
  | nil => intro es h; simp only [okA, List.isEmpty_iff] at h; subst h; rfl
  | cons a b iha ihb =>
    intro es h
    cases es <;> first | (simp [okA] at h; done) | skip
    simp only [okA, Bool.and_eq_true] at h
    rw [List.all_cons, h.1.1, ihb h.2]; rfl
  | _ => intro es h; simp [okA] at h
theorem all_head {e : Expr} {es : List Expr} (h : (e :: es).all noSt = true) : noSt e = true ∧ es.all noSt = true := by
  rw [List.all_cons, Bool.and_eq_true] at h; exact h
section
variable {G : Glo} {Γ : Ct} {δ : Ds} {L : Mu}
theorem slp_ok {r : RE} {Q : D → Mu → Prop} {f : List D → Mu → RE} (h : WE G Γ δ (eA r f) Q) : WE G Γ δ r fun d L => ∃ ds, d = .tup ds ∧ WE G Γ δ (f ds L) Q := h.eA
end
variable {G : Glo}
theorem ok_loc (i : Nat) : Ok1 G (.loc i) := by
  refine Ok1.val (fun lam Γ e hc h δ L Q q => ?_) (by intro C N lam ns e h; simp only [okE] at h; cases e <;> first | rfl | cases h) (fun _ _ _ _ _ => by simp [okA]) (fun _ _ _ _ _ => by simp [okR])
  simp only [okE] at h
  cases e <;> first | (cases h; done) | skip
  rw [Bool.and_eq_true] at h
  obtain ⟨h1, h2⟩ := h
  unfold visB at h2
  simp only [ev] at q
  split at q
  · rename_i d hd
    split at h2
    · rename_i k hk
      haveI := ix_of h1
      haveI := kd_of hk
      exact be_name hd q h2
    · cases h2
  · exact q.elim
theorem ok_non : Ok1 G .non := by
  refine Ok1.val (fun lam Γ e hc h δ L Q q => ?_) (by intro C N lam ns e h; simp only [okE] at h; cases e <;> first | rfl | cases h) (fun _ _ _ _ _ => by simp [okA]) (fun _ _ _ _ _ => by simp [okR])
  simp only [okE] at h
  split at h
  · exact be_non q
  · cases h
theorem ok_bl (b : Bool) : Ok1 G (.bl b) := by
  refine Ok1.val (fun lam Γ e hc h δ L Q q => ?_) (by intro C N lam ns e h; simp only [okE] at h; cases e <;> first | rfl | cases h) (fun _ _ _ _ _ => by simp [okA]) (fun _ _ _ _ _ => by simp [okR])
  simp only [okE] at h
  split at h
  · rw [← beq_iff_eq.mp h]; exact be_bl q
  · cases h
theorem ok_int (b : Int) : Ok1 G (.int b) := by
  refine Ok1.val (fun lam Γ e hc h δ L Q q => ?_) (by intro C N lam ns e h; simp only [okE] at h; cases e <;> first | rfl | cases h) (fun _ _ _ _ _ => by simp [okA]) (fun _ _ _ _ _ => by simp [okR])
  simp only [okE] at h
  split at h
  · rw [← beq_iff_eq.mp h]; exact be_int q
  · cases h
theorem ok_str (b : Tx) : Ok1 G (.str b) := by
  refine Ok1.val (fun lam Γ e hc h δ L Q q => ?_) (by intro C N lam ns e h; simp only [okE] at h; cases e <;> first | rfl | cases h) (fun _ _ _ _ _ => by simp [okA]) (fun _ _ _ _ _ => by simp [okR])
  simp only [okE] at h
  split at h
  · rw [beq_iff_eq.mp h]; exact be_str q
  · cases h
theorem ok_glb (Hf : Lk G) (g : Nat) : Ok1 G (.glb g) := by
  refine Ok1.val (fun lam Γ e hc h δ L Q q => ?_) (by intro C N lam ns e h; simp only [okE] at h; cases e <;> first | rfl | cases h) (fun _ _ _ _ _ => by simp [okA]) (fun _ _ _ _ _ => by simp [okR])
  simp only [okE] at h
  cases e <;> first | (cases h; done) | skip
  rw [Bool.and_eq_true] at h
  simp only [ev] at q
  split at q
  · rename_i d hd
    obtain ⟨u, h1, h2⟩ := Hf.gl g _ d (beq_iff_eq.mp h.1) hd
    rw [← hc.W] at h1 h2
    haveI := kd_gl h.2
    exact be_glob h1 h2 q
  · exact q.elim
theorem ok_bin (op : Operator) (a b : T) (iha : Ok1 G a) (ihb : Ok1 G b) : Ok1 G (.bin op a b) := by
  refine Ok1.val (fun lam Γ e hc h δ L Q q => ?_) (by intro C N lam ns e h; simp only [okE] at h; cases e <;> first | rfl | cases h) (fun _ _ _ _ _ => by simp [okA]) (fun _ _ _ _ _ => by simp [okR])
  simp only [okE] at h
  cases e <;> first | (cases h; done) | skip
  simp only [Bool.and_eq_true, beq_iff_eq] at h
  obtain ⟨⟨rfl, h1⟩, h2⟩ := h
  simp only [ev] at q
  exact be_bin (BE.mono (iha.e lam Γ _ hc h1 δ L _ q.eb) fun x L1 q1 => BE.mono (ihb.e lam Γ _ hc h2 δ L1 _ (WE.eb q1)) fun y L2 q2 => o2_ok q2)
theorem ok_binM (op : Operator) (a b : T) (iha : Ok1 G a) (ihb : Ok1 G b) : Ok1 G (.binM op a b) := by
  refine Ok1.val (fun lam Γ e hc h δ L Q q => ?_) (by intro C N lam ns e h; simp only [okE] at h; cases e <;> first | rfl | cases h) (fun _ _ _ _ _ => by simp [okA]) (fun _ _ _ _ _ => by simp [okR])
  simp only [okE] at h
  cases e <;> first | (cases h; done) | skip
  simp only [Bool.and_eq_true, beq_iff_eq] at h
  obtain ⟨⟨rfl, h1⟩, h2⟩ := h
  simp only [ev] at q
  exact be_bin (BE.mono (iha.e lam Γ _ hc h1 δ L _ q.eb) fun x L1 q1 => BE.mono (ihb.e lam Γ _ hc h2 δ L1 _ (WE.eb q1)) fun y L2 q2 => o2M_ok q2)
theorem ok_neg (a : T) (iha : Ok1 G a) : Ok1 G (.neg a) := by
  refine Ok1.val (fun lam Γ e hc h δ L Q q => ?_) (by intro C N lam ns e h; simp only [okE] at h; split at h <;> first | rfl | cases h) (fun _ _ _ _ _ => by simp [okA]) (fun _ _ _ _ _ => by simp [okR])
  simp only [okE] at h
  split at h
  · simp only [ev] at q
    refine be_un (BE.mono (iha.e lam Γ _ hc h δ L _ q.eO) fun x L1 q1 => ?_)
    obtain ⟨i, rfl, q1⟩ := q1
    exact b1_neg q1
  · cases h
theorem ok_cmp (op : CmpOp) (a b : T) (iha : Ok1 G a) (ihb : Ok1 G b) : Ok1 G (.cmp op a b) := by
  refine ⟨fun lam Γ e hc h δ L Q q => ?_, fun lam Γ e hc h δ L Q q => ?_, fun lam Γ op xs p hc h => by simp [okE] at h, fun lam Γ es hc h => by simp [okA] at h, fun lam Γ e hc h => by simp [okR] at h⟩
  · simp only [okE] at h
    split at h
    · simp only [Bool.and_eq_true, beq_iff_eq] at h
      obtain ⟨⟨⟨rfl, h0⟩, h1⟩, h2⟩ := h
      simp only [ev] at q
      exact be_cmp (BE.mono (iha.e lam Γ _ hc h1 δ L _ q.eb) fun x L1 q1 => BE.mono (ihb.e lam Γ _ hc h2 δ L1 _ (WE.eb q1)) fun y L2 q2 => oc_ok q2) (bim_ok h0)
    · cases h
  · simp only [okE] at h
    split at h
    · simp only [Bool.and_eq_true, beq_iff_eq] at h
      obtain ⟨⟨⟨rfl, h0⟩, h1⟩, h2⟩ := h
      simp only [ev] at q
      exact bt_cmp (BE.mono (iha.e lam Γ _ hc h1 δ L _ q.eb) fun x L1 q1 => BE.mono (ihb.e lam Γ _ hc h2 δ L1 _ (WE.eb q1)) fun y L2 q2 => oc_ok q2) (bim_ok h0)
    · cases h
theorem chn_ok {op op' : CmpOp} {a b c : T} {Γ : Ct} {δ : Ds} {L : Mu} {Q : D → Mu → Prop} {x y z : Expr} {lam : Fl} (iha : Ok1 G a) (ihb : Ok1 G b) (ihc : Ok1 G c) (hc : Cxt G lam Γ) (h1 : okE G.C Γ.N lam a Γ.sc.names x = true) (h2 : okE G.C Γ.N lam b Γ.sc.names y = true) (h3 : okE G.C Γ.N lam c Γ.sc.names z = true)
    (q : WE G Γ δ (ev G.P G.call (.chn op op' a b c) δ L) Q) : BE Γ x δ L fun x L1 => BE Γ y δ L1 fun y L2 => B2 Γ (compareOp op) x y L2 fun d L3 => ∃ k, d = .bl k ∧ (k = false → Q (.bl false) L3) ∧ (k = true → BE Γ z δ L3 fun z L4 => B2 Γ (compareOp op') y z L4 Q) := by
  simp only [ev] at q
  refine BE.mono (iha.e lam Γ _ hc h1 δ L _ q.eb) fun x L1 q1 => BE.mono (ihb.e lam Γ _ hc h2 δ L1 _ (WE.eb q1)) fun y L2 q2 => oc_ok (G := G) (δ := δ) (WE.mono (WE.eB q2) fun d L3 q3 => ?_)
  obtain ⟨k, rfl, q3⟩ := q3
  refine ⟨k, rfl, fun e => ?_, fun e => ?_⟩
  · subst e; exact q3
  · subst e
    exact BE.mono (ihc.e lam Γ _ hc h3 δ L3 _ (WE.eb q3)) fun z L4 q4 => oc_ok q4
theorem ok_chn (op op' : CmpOp) (a b c : T) (iha : Ok1 G a) (ihb : Ok1 G b) (ihc : Ok1 G c) : Ok1 G (.chn op op' a b c) := by
  refine ⟨fun lam Γ e hc h δ L Q q => ?_, fun lam Γ e hc h δ L Q q => ?_, fun lam Γ op xs p hc h => by simp [okE] at h, fun lam Γ es hc h => by simp [okA] at h, fun lam Γ e hc h => by simp [okR] at h⟩
  · simp only [okE] at h
    split at h
    · simp only [Bool.and_eq_true, beq_iff_eq] at h
      obtain ⟨⟨⟨⟨⟨rfl, rfl⟩, h0⟩, h1⟩, h2⟩, h3⟩ := h
      exact be_chain (chn_ok iha ihb ihc hc h1 h2 h3 q) (by simp only [lastMarks]; exact bim_ok h0)
    · cases h
  · simp only [okE] at h
    split at h
    · simp only [Bool.and_eq_true, beq_iff_eq] at h
      obtain ⟨⟨⟨⟨⟨rfl, rfl⟩, h0⟩, h1⟩, h2⟩, h3⟩ := h
      refine bt_chain (BE.mono (chn_ok iha ihb ihc hc h1 h2 h3 q) fun x L1 q1 => BE.mono q1 fun y L2 q2 X R0 F R H v u l A r1 r2 QV g => q2 X R0 F R H v u l A r1 r2 QV fun v d R' H' L' l' A' r q => g v d R' H' L' l' A' r ?_) (by simp only [lastMarks]; exact bim_ok h0)
      obtain ⟨k, rfl, q1, q2⟩ := q
      refine ⟨k, rfl, fun e => ?_, fun e => q2 e⟩
      obtain ⟨k', e', q'⟩ := q1 e
      cases e'
      exact q'
    · cases h
theorem ok_not (a : T) (iha : Ok1 G a) : Ok1 G (.not a) := by
  refine ⟨fun lam Γ e hc h δ L Q q => ?_, fun lam Γ e hc h δ L Q q => ?_, fun lam Γ op xs p hc h => by simp [okE] at h, fun lam Γ es hc h => by simp [okA] at h, fun lam Γ e hc h => by simp [okR] at h⟩
  · simp only [okE] at h
    split at h
    · simp only [ev] at q
      exact be_not (iha.e lam Γ _ hc h δ L _ q.eB)
    · cases h
  · simp only [okE] at h
    split at h
    · simp only [ev] at q
      refine bt_not (iha.b lam Γ _ hc h δ L _ (WE.mono q.eB fun d L1 q1 => ?_))
      obtain ⟨k, rfl, k', e, q1⟩ := q1
      cases e
      exact ⟨k, rfl, q1⟩
    · cases h
theorem ok_ite (c a b : T) (ihc : Ok1 G c) (iha : Ok1 G a) (ihb : Ok1 G b) : Ok1 G (.ite c a b) := by
  refine ⟨fun lam Γ e hc h δ L Q q => ?_, fun lam Γ e hc h δ L Q q => ?_, fun lam Γ op xs p hc h => by simp [okE] at h, fun lam Γ es hc h => by simp [okA] at h, fun lam Γ e hc h => by simp [okR] at h⟩
  · simp only [okE] at h
    split at h
    · simp only [Bool.and_eq_true] at h
      simp only [ev] at q
      refine be_if (ihc.b lam Γ _ hc h.1.1 δ L _ (WE.mono q.eB fun d L1 q1 => ?_))
      obtain ⟨k, rfl, q1⟩ := q1
      refine ⟨k, rfl, fun e => ?_, fun e => ?_⟩
      · subst e; exact iha.e lam Γ _ hc h.1.2 δ L1 _ q1
      · subst e; exact ihb.e lam Γ _ hc h.2 δ L1 _ q1
    · cases h
  · simp only [okE] at h
    split at h
    · simp only [Bool.and_eq_true] at h
      simp only [ev] at q
      refine bt_if (ihc.b lam Γ _ hc h.1.1 δ L _ (WE.mono q.eB fun d L1 q1 => ?_))
      obtain ⟨k, rfl, q1⟩ := q1
      refine ⟨k, rfl, fun e => ?_, fun e => ?_⟩
      · subst e; exact iha.b lam Γ _ hc h.1.2 δ L1 _ q1
      · subst e; exact ihb.b lam Γ _ hc h.2 δ L1 _ q1
    · cases h
theorem ok_and (a b : T) (iha : Ok1 G a) (ihb : Ok1 G b) : Ok1 G (.and a b) := by
  have w : ∀ lam Γ op xs p, Cxt G lam Γ → okE G.C Γ.N lam (.and a b) Γ.sc.names (.BoolOp op xs p) = true → ∀ δ L (Q : Bool → Mu → Prop), WE G Γ δ (ev G.P G.call (.and a b) δ L) (fun d L => ∃ k, d = .bl k ∧ Q k L) → BW Γ (.BoolOp op xs p) δ L Q := fun lam Γ op xs p hc h δ L Q q => by
    simp only [okE] at h
    split at h
    · rename_i x y r p' e
      cases e
      simp only [Bool.and_eq_true] at h
      simp only [ev] at q
      refine bw_and (iha.b lam Γ _ hc h.1 δ L _ (WE.mono q.eB fun d L1 q1 => ?_))
      obtain ⟨k, rfl, q1⟩ := q1
      refine ⟨k, rfl, fun e => ?_, fun e => ?_⟩
      · subst e
        obtain ⟨k', e', q1⟩ := WE.ok (d := .bl false) q1
        cases e'
        exact q1
      · subst e
        have h2 := h.2
        split at h2
        · exact bw_and1 (ihb.b lam Γ _ hc h2 δ L1 _ q1)
        · exact ihb.w lam Γ _ _ _ hc h2 δ L1 _ q1
    · cases h
  refine ⟨fun lam Γ e hc h δ L Q q => ?_, fun lam Γ e hc h δ L Q q => ?_, w, fun lam Γ es hc h => by simp [okA] at h, fun lam Γ e hc h => by simp [okR] at h⟩
  · simp only [okE] at h
    split at h
    · rename_i x y r p'
      simp only [Bool.and_eq_true] at h
      simp only [ev] at q
      refine be_and (BE.mono (iha.e lam Γ _ hc h.1 δ L _ q.eB) fun d L1 q1 => ?_)
      obtain ⟨k, rfl, q1⟩ := q1
      refine ⟨k, rfl, fun e => ?_, fun e => ?_⟩
      · subst e; exact q1
      · subst e
        have h2 := h.2
        split at h2
        · exact be_one (ihb.e lam Γ _ hc h2 δ L1 _ q1)
        · exact ihb.e lam Γ _ hc h2 δ L1 _ q1
    · cases h
  · cases e <;> first | (simp [okE] at h; done) | skip
    exact bw_bt (w lam Γ _ _ _ hc h δ L Q q)
theorem ok_or (a b : T) (iha : Ok1 G a) (ihb : Ok1 G b) : Ok1 G (.or a b) := by
  have w : ∀ lam Γ op xs p, Cxt G lam Γ → okE G.C Γ.N lam (.or a b) Γ.sc.names (.BoolOp op xs p) = true → ∀ δ L (Q : Bool → Mu → Prop), WE G Γ δ (ev G.P G.call (.or a b) δ L) (fun d L => ∃ k, d = .bl k ∧ Q k L) → BW Γ (.BoolOp op xs p) δ L Q := fun lam Γ op xs p hc h δ L Q q => by
    simp only [okE] at h
    split at h
    · rename_i x y r p' e
      cases e
      simp only [Bool.and_eq_true] at h
      simp only [ev] at q
      refine bw_or (iha.b lam Γ _ hc h.1 δ L _ (WE.mono q.eB fun d L1 q1 => ?_))
      obtain ⟨k, rfl, q1⟩ := q1
      refine ⟨k, rfl, fun e => ?_, fun e => ?_⟩
      · subst e
        obtain ⟨k', e', q1⟩ := WE.ok (d := .bl true) q1
        cases e'
        exact q1
      · subst e
        have h2 := h.2
        split at h2
        · exact bw_or1 (ihb.b lam Γ _ hc h2 δ L1 _ q1)
        · exact ihb.w lam Γ _ _ _ hc h2 δ L1 _ q1
    · cases h
  refine ⟨fun lam Γ e hc h δ L Q q => ?_, fun lam Γ e hc h δ L Q q => ?_, w, fun lam Γ es hc h => by simp [okA] at h, fun lam Γ e hc h => by simp [okR] at h⟩
  · simp only [okE] at h
    split at h
    · rename_i x y r p'
      simp only [Bool.and_eq_true] at h
      simp only [ev] at q
      refine be_or (BE.mono (iha.e lam Γ _ hc h.1 δ L _ q.eB) fun d L1 q1 => ?_)
      obtain ⟨k, rfl, q1⟩ := q1
      refine ⟨k, rfl, fun e => ?_, fun e => ?_⟩
      · subst e; exact q1
      · subst e
        have h2 := h.2
        split at h2
        · exact be_one (ihb.e lam Γ _ hc h2 δ L1 _ q1)
        · exact ihb.e lam Γ _ hc h2 δ L1 _ q1
    · cases h
  · cases e <;> first | (simp [okE] at h; done) | skip
    exact bw_bt (w lam Γ _ _ _ hc h δ L Q q)
end Ac
end
section
/-! Ev12: the terms of expressions are sound: lists, calls, comprehensions. -/
namespace Ac
open PySem PySem.Spec PyProof.Rows L2
variable {G : Glo}
theorem Ok1.arg {t : T} (ha : ∀ lam Γ es, Cxt G lam Γ → okA G.C Γ.N lam t Γ.sc.names es = true → ∀ δ L (Q : List D → Mu → Prop), WE G Γ δ (ev G.P G.call t δ L) (fun d L => ∃ ds, d = .tup ds ∧ (ds.length = es.length → Q ds L)) → BA Γ es δ L Q)
    (he : ∀ C N lam ns e, okE C N lam t ns e = false) (hr : ∀ C N lam ns e, okR C N lam t ns e = false) : Ok1 G t :=
  ⟨fun lam Γ e hc h => absurd h (by rw [he]; decide), fun lam Γ e hc h => absurd h (by rw [he]; decide), fun lam Γ op xs p hc h => absurd h (by rw [he]; decide), ha, fun lam Γ e hc h => absurd h (by rw [hr]; decide)⟩
theorem ok_nil : Ok1 G .nil := by
  refine Ok1.arg (fun lam Γ es hc h δ L Q q => ?_) (fun _ _ _ _ _ => by simp [okE]) (fun _ _ _ _ _ => by simp [okR])
  simp only [okA, List.isEmpty_iff] at h
  subst h
  simp only [ev] at q
  obtain ⟨ds, e, q⟩ := WE.ok (d := .tup []) q
  cases e
  exact ba_nil (q rfl)
theorem ok_cons (a b : T) (iha : Ok1 G a) (ihb : Ok1 G b) : Ok1 G (.cons a b) := by
  refine Ok1.arg (fun lam Γ es hc h δ L Q q => ?_) (fun _ _ _ _ _ => by simp [okE]) (fun _ _ _ _ _ => by simp [okR])
  simp only [okA] at h
  split at h
  · simp only [Bool.and_eq_true] at h
    simp only [ev] at q
    refine ba_cons (BE.mono (iha.e lam Γ _ hc h.1.2 δ L _ q.eb) fun d L1 q1 => ihb.al lam Γ _ hc h.2 δ L1 _ (WE.mono (WE.eA q1) fun d2 L2 q2 => ?_)) (fun env => se_cons h.1.1 _ env)
    obtain ⟨ds, rfl, q2⟩ := q2
    obtain ⟨ds', e, q2⟩ := WE.ok (d := .tup (d :: ds)) q2
    cases e
    exact ⟨ds, rfl, fun e => q2 (by rw [List.length_cons, List.length_cons, e])⟩
  · cases h
theorem ok_tup (es : T) (ih : Ok1 G es) : Ok1 G (.tup es) := by
  refine Ok1.val (fun lam Γ e hc h δ L Q q => ?_) (by intro C N lam ns e h; simp only [okE] at h; cases e <;> first | rfl | cases h) (fun _ _ _ _ _ => by simp [okA]) (fun _ _ _ _ _ => by simp [okR])
  simp only [okE] at h
  split at h
  · simp only [ev] at q
    refine be_tup (ih.a lam Γ _ hc h δ L _ (WE.mono q.eA fun d L1 q1 => ?_))
    obtain ⟨ds, rfl, q1⟩ := q1
    obtain ⟨hb, q1⟩ := WE.gd q1
    exact ⟨ds, rfl, by rw [← SL_eq]; exact of_decide_eq_true hb, q1⟩
  · cases h
theorem ok_lst (m : Bool) (es : T) (ih : Ok1 G es) : Ok1 G (.lst m es) := by
  refine Ok1.val (fun lam Γ e hc h δ L Q q => ?_) (by intro C N lam ns e h; simp only [okE] at h; cases e <;> first | rfl | cases h) (fun _ _ _ _ _ => by simp [okA]) (fun _ _ _ _ _ => by simp [okR])
  simp only [okE] at h
  split at h
  · simp only [ev, mkL] at q
    cases m with
    | false =>
      refine be_lst (ih.a lam Γ _ hc h δ L _ (WE.mono q.eA fun d L1 q1 => ?_))
      obtain ⟨ds, rfl, q1⟩ := q1
      obtain ⟨hb, q1⟩ := WE.gd q1
      exact ⟨ds, rfl, by rw [← SL_eq]; exact of_decide_eq_true hb, q1⟩
    | true =>
      refine be_lstM (ih.a lam Γ _ hc h δ L _ (WE.mono q.eA fun d L1 q1 => ?_))
      obtain ⟨ds, rfl, q1⟩ := q1
      obtain ⟨hb, q1⟩ := WE.gd q1
      exact ⟨ds, rfl, by rw [← SL_eq]; exact of_decide_eq_true hb, q1⟩
  · cases h
theorem ok_ix (a b : T) (iha : Ok1 G a) (ihb : Ok1 G b) : Ok1 G (.ix a b) := by
  refine Ok1.val (fun lam Γ e hc h δ L Q q => ?_) (by intro C N lam ns e h; simp only [okE] at h; cases e <;> first | rfl | cases h) (fun _ _ _ _ _ => by simp [okA]) (fun _ _ _ _ _ => by simp [okR])
  simp only [okE] at h
  split at h
  · simp only [Bool.and_eq_true] at h
    simp only [ev] at q
    exact be_ix (G := G) (BE.mono (iha.e lam Γ _ hc h.1.2 δ L _ q.eb) fun x L1 q1 => ihb.e lam Γ _ hc h.2 δ L1 _ (WE.eb q1)) (ix_ok h.1.1)
  · cases h
theorem bo_ok {t : T} {o : Option Expr} {lam : Fl} {Γ : Ct} {δ : Ds} {L : Mu} {Q : Option Int → Mu → Prop} (ih : Ok1 G t) (hc : Cxt G lam Γ) (h : (match o with
        | none => isNop t
        | some l => !isNop t && okE G.C Γ.N lam t Γ.sc.names l) = true) (q0 : isNop t = true → Q none L) (q1 : isNop t = false → WE G Γ δ (ev G.P G.call t δ L) fun d L => ∃ i, d = .int i ∧ Q (some i) L) : BO Γ o δ L Q := by
  cases o with
  | none => exact q0 h
  | some l =>
    simp only [Bool.and_eq_true, Bool.not_eq_true'] at h
    exact ih.e lam Γ _ hc h.2 δ L _ (q1 h.1)
theorem ok_sl (a lo hi : T) (iha : Ok1 G a) (ihl : Ok1 G lo) (ihh : Ok1 G hi) : Ok1 G (.sl a lo hi) := by
  refine Ok1.val (fun lam Γ e hc h δ L Q q => ?_) (by intro C N lam ns e h; simp only [okE] at h; cases e <;> first | rfl | cases h) (fun _ _ _ _ _ => by simp [okA]) (fun _ _ _ _ _ => by simp [okR])
  simp only [okE] at h
  split at h
  · rename_i x l hh p2 p1
    rw [Bool.and_eq_true, Bool.and_eq_true] at h
    simp only [ev] at q
    refine be_sl (G := G) (BE.mono (iha.e lam Γ _ hc h.1.1 δ L _ q.eb) fun x L1 q1 => bo_ok ihl hc h.1.2 (fun n1 => ?_) fun n1 => ?_)
    · refine bo_ok ihh hc h.2 (fun n2 => ?_) fun n2 => ?_
      · rw [if_pos n1, if_pos n2] at q1; exact q1
      · rw [if_pos n1, if_neg (by rw [n2]; decide)] at q1; exact WE.eO q1
    · rw [if_neg (by rw [n1]; decide)] at q1
      refine WE.mono (WE.eO q1) fun d L2 q2 => ?_
      obtain ⟨i, rfl, q2⟩ := q2
      refine ⟨i, rfl, bo_ok ihh hc h.2 (fun n2 => ?_) fun n2 => ?_⟩
      · rw [if_pos n2] at q2; exact q2
      · rw [if_neg (by rw [n2]; decide)] at q2; exact WE.eO q2
  · cases h
theorem ok_nop : Ok1 G .nop := Ok1.arg (fun lam Γ es hc h => by simp [okA] at h) (fun _ _ _ _ _ => by simp [okE]) (fun _ _ _ _ _ => by simp [okR])
theorem okA_nil {C : Nm} {N : List Str} {lam : Fl} {ns : Ns} {t : T} (h : okA C N lam t ns [] = true) : t = .nil := by
  cases t <;> first | rfl | (simp [okA] at h; done)
theorem ok_call (Hf : Lk G) (f : Nat) (es : T) (ih : Ok1 G es) : Ok1 G (.call f es) := by
  refine Ok1.val (fun lam Γ e hc h δ L Q q => ?_) (by intro C N lam ns e h; simp only [okE] at h; cases e <;> first | rfl | cases h) (fun _ _ _ _ _ => by simp [okA]) (fun _ _ _ _ _ => by simp [okR])
  simp only [okE] at h
  split at h
  · rename_i x p xs pos
    simp only [Bool.and_eq_true, beq_iff_eq] at h
    obtain ⟨⟨h1, h2⟩, h3⟩ := h
    obtain ⟨a, hm, Fc⟩ := Hf.fn f x h1
    rw [← hc.W] at hm Fc
    haveI := kd_gl h2
    simp only [ev] at q
    have hlv := hc.lv
    cases xs with
    | nil =>
      have := okA_nil h3
      subst this
      exact be_call0 Fc hm q (by omega) hc.calm
    | cons e0 es0 =>
      have st := all_head (okA_st h3)
      refine be_call Fc hm (ih.a lam Γ _ hc h3 δ L _ q.eA) (by omega) hc.calm (fun env => se_cons st.1 _ env) (fun env => bt_any st.2 env)
  · cases h
theorem ok_mk (Hf : Lk G) (c : Nat) (es : T) (ih : Ok1 G es) : Ok1 G (.mk c es) := by
  refine Ok1.val (fun lam Γ e hc h δ L Q q => ?_) (by intro C N lam ns e h; simp only [okE] at h; cases e <;> first | rfl | cases h) (fun _ _ _ _ _ => by simp [okA]) (fun _ _ _ _ _ => by simp [okR])
  simp only [okE] at h
  split at h
  · rename_i x p xs pos
    simp only [Bool.and_eq_true, beq_iff_eq] at h
    obtain ⟨⟨h1, h2⟩, h3⟩ := h
    haveI := kd_gl h2
    simp only [ev] at q
    obtain ⟨cd, hcd, hm, a, M, Fc⟩ := Hf.mkr c x h1
    rw [← hc.W] at hm M Fc
    have hlv := hc.lv
    cases xs with
    | nil =>
      have := okA_nil h3
      subst this
      exact be_mk0 hc.W hcd M Fc hm q hlv hc.calm
    | cons e0 es0 =>
      have st := all_head (okA_st h3)
      exact be_mk hc.W hcd M Fc hm (ih.a lam Γ _ hc h3 δ L _ q.eA) hlv hc.calm (fun env => se_cons st.1 _ env) (fun env => bt_any st.2 env)
  · cases h
theorem ok_meth (Hf : Lk G) (m : Nat) (o es : T) (iho : Ok1 G o) (ih : Ok1 G es) : Ok1 G (.meth m o es) := by
  refine Ok1.val (fun lam Γ e hc h δ L Q q => ?_) (by intro C N lam ns e h; simp only [okE] at h; cases e <;> first | rfl | cases h) (fun _ _ _ _ _ => by simp [okA]) (fun _ _ _ _ _ => by simp [okR])
  simp only [okE] at h
  split at h
  · rename_i ob x apos xs pos
    simp only [Bool.and_eq_true] at h
    obtain ⟨⟨⟨⟨⟨h1, h2⟩, h3⟩, h4⟩, h5⟩, h6⟩ := h
    simp only [ev] at q
    have hlv := hc.lv
    have key : ∀ d L1 (z : Option Nat), methF G.P m d L1 = z → ∀ f, z = some f → ∃ (C : Nat) (ys : List D) (a : Addr), InsAt L1 d C ys ∧ Cls Γ.K (Γ.cls C).1 ∧ Meth Γ.K (Γ.cls C).1 x a ∧ Fn Γ.toWd G.k a (Cof G f) ∧ x ∉ (Γ.cls C).2 := fun d L1 z hz f e => by
      subst e
      unfold methF at hz
      split at hz
      · cases hz
      · rename_i C ys hi
        split at hz
        · cases hz
        · rename_i cd hcd
          obtain ⟨k1, _⟩ := Hf.cl C cd hcd
          obtain ⟨k2, a, k3, k4⟩ := Hf.mt C cd m f x hcd hz (beq_iff_eq.mp h1)
          have k1c := k1.cls
          rw [← hc.W] at k1c k2 k3 k4
          exact ⟨C, ys, a, insO_ok hi, k1c, k3, k4, k2⟩
    cases xs with
    | nil =>
      have := okA_nil h6
      subst this
      refine be_meth0 (k := G.k) (BE.mono (iho.e lam Γ _ hc h5 δ L _ q.eb) fun d L1 q1 => ?_) (by omega) hc.calm (meth_eq h2 (by rfl) (by decide) h4)
      split at q1
      · rename_i f hf
        obtain ⟨C, ys, a, k1, k2, k3, k4, k5⟩ := key d L1 _ hf f rfl
        exact ⟨C, ys, a, _, k1, k2, k3, k4, k5, q1⟩
      · exact q1.elim
    | cons e0 es0 =>
      have st0 := okA_st h6
      have st := all_head st0
      refine be_meth (k := G.k) (BE.mono (iho.e lam Γ _ hc h5 δ L _ q.eb) fun d L1 q1 => ?_) (by omega) hc.calm (fun env => se_cons st.1 _ env) (fun env => bt_any st.2 env) (meth_eq h2 st0 (of_decide_eq_true h3) h4)
      split at q1
      · rename_i f hf
        obtain ⟨C, ys, a, k1, k2, k3, k4, k5⟩ := key d L1 _ hf f rfl
        exact ⟨C, ys, a, _, k1, k2, k3, k4, k5, ih.a lam Γ _ hc h6 δ L1 _ (WE.eA q1)⟩
      · exact q1.elim
  · cases h
theorem ok_fld (Hf : Lk G) (f : Nat) (o : T) (iho : Ok1 G o) : Ok1 G (.fld f o) := by
  refine Ok1.val (fun lam Γ e hc h δ L Q q => ?_) (by intro C N lam ns e h; simp only [okE] at h; cases e <;> first | rfl | cases h) (fun _ _ _ _ _ => by simp [okA]) (fun _ _ _ _ _ => by simp [okR])
  simp only [okE] at h
  split at h
  · rename_i ob x pos
    simp only [Bool.and_eq_true] at h
    obtain ⟨⟨h1, h2⟩, h5⟩ := h
    simp only [ev] at q
    refine be_at (BE.mono (iho.e lam Γ _ hc h5 δ L _ q.eb) fun d L1 q1 => ?_) (fun env => ab_ok h2 _ _ _)
    unfold fldO at q1
    split at q1
    · exact q1.elim
    · rename_i C ys hi
      split at q1
      · exact q1.elim
      · rename_i cd hcd
        split at q1
        · exact q1.elim
        · rename_i j hj
          split at q1
          · exact q1.elim
          · rename_i z hz
            obtain ⟨k1, k2⟩ := Hf.cl C cd hcd
            have k3 := k2 f j hj x (beq_iff_eq.mp h1)
            rw [← hc.W] at k1 k3
            exact ⟨C, ys, j, z, insO_ok hi, k1, k3, hz, q1⟩
  · cases h
theorem ok_bm (b : Bm) (o es : T) (iho : Ok1 G o) (ih : Ok1 G es) : Ok1 G (.bm b o es) := by
  refine Ok1.val (fun lam Γ e hc h δ L Q q => ?_) (by intro C N lam ns e h; simp only [okE] at h; cases e <;> first | rfl | cases h) (fun _ _ _ _ _ => by simp [okA]) (fun _ _ _ _ _ => by simp [okR])
  simp only [okE] at h
  split at h
  · rename_i ob x apos y pos
    simp only [Bool.and_eq_true, beq_iff_eq] at h
    obtain ⟨⟨⟨⟨⟨rfl, h2⟩, h4⟩, h5⟩, hs⟩, h6⟩ := h
    simp only [ev] at q
    refine be_bm (G := G) (BE.mono (iho.e lam Γ _ hc h5 δ L _ q.eb) fun d L1 q1 => ?_) hs h2 (beq_iff_eq.mpr h4)
    obtain ⟨hb, q1⟩ := WE.gd q1
    exact ⟨hb, ih.e lam Γ _ hc h6 δ L1 _ (WE.eb q1)⟩
  · cases h
end Ac
end
section
/-! Ev13: the terms of expressions are sound: ranges, comprehensions, what is told. -/
namespace Ac
open PySem PySem.Spec PyProof.Rows L2
variable {G : Glo}
theorem bi_ok0 (Hf : Lk G) (b : Bi) (m : Bool) (es : T) (ih : Ok1 G es) (hbn : ∀ x u, Bn G.W.mg x u → x = biNm b → u = biV b) : Ok1 G (.bi b m es) := by
  refine Ok1.val (fun lam Γ e hc h δ L Q q => ?_) (by intro C N lam ns e h; simp only [okE] at h; cases e <;> first | rfl | cases h) (fun _ _ _ _ _ => by simp [okA]) (fun _ _ _ _ _ => by simp [okR])
  simp only [okE] at h
  split at h
  · rename_i x p xs pos
    simp only [Bool.and_eq_true, beq_iff_eq] at h
    obtain ⟨⟨⟨rfl, h1⟩, h2⟩, h3⟩ := h
    obtain ⟨u, hb⟩ := Hf.bi _ (List.contains_iff_mem.mp h1)
    have hu := hbn _ _ hb rfl
    subst hu
    rw [← hc.W] at hb
    haveI := kd_gl h2
    simp only [ev] at q
    cases xs with
    | nil =>
      have := okA_nil h3
      subst this
      simp only [ev, eA] at q
      cases b <;> simp only [biO] at q <;> exact q.elim
    | cons e0 es0 =>
      have st := all_head (okA_st h3)
      have hA : BA Γ (e0 :: es0) δ L fun ds L1 => BC Γ (biV b) ds L1 Q := ih.a lam Γ _ hc h3 δ L _ (WE.mono q.eA fun d L1 ⟨ds, e, q1⟩ => ⟨ds, e, bi_ok (G := G) (δ := δ) hc.calm q1⟩)
      cases b <;> first | exact be_cb hb hA (fun env => se_cons st.1 _ env) (fun env => bt_any st.2 env) | exact be_ct hb hA (fun env => se_cons st.1 _ env) (fun env => bt_any st.2 env)
  · cases h
theorem bn_len (b : Bi) : bootBuiltins (biNm b) = some (biV b) := by cases b <;> first | rfl | decide +kernel | kernel_rfl
theorem ok_bi (Hf : Lk G) (b : Bi) (m : Bool) (es : T) (ih : Ok1 G es) : Ok1 G (.bi b m es) := bi_ok0 Hf b m es ih fun x u h e => by
  subst e
  have := h.at_
  rw [bn_len] at this
  exact (Option.some.inj this).symm
end Ac
end
section
/-! Ev14: ranges. -/
namespace Ac
open PySem PySem.Spec PyProof.Rows L2
variable {G : Glo}
theorem rgc_length (i c : Int) (n : Nat) : (rgc i c n).length = n := by simp [rgc]
theorem yl_rangeC {Γ : Ct} {R : Rw} {lo c : Int} {n : Nat} : Yl Γ (Itc lo c n) R (fun _ => True) ((rgc lo c n).map .int) := fun i R1 H1 L1 l1 A1 _ => by
  refine ⟨fun d hd => ?_, fun e => ?_⟩
  · rw [List.getElem?_map] at hd
    cases e : (rgc lo c n)[i]? with
    | none => rw [e] at hd; cases hd
    | some k =>
      rw [e] at hd
      cases hd
      have hlt : i < n := by rw [← rgc_length lo c n]; exact (List.getElem?_eq_some_iff.mp e).1
      have hk : k = lo + i * c := by
        unfold rgc at e
        rw [List.getElem?_map, List.getElem?_range hlt] at e
        exact (Option.some.inj e).symm
      exact ⟨hlt, fun x H2 ⟨e1, e2⟩ => ⟨R1, Le.refl _, by rw [e1]; exact A1, by rw [e2, hk]; exact .int⟩⟩
  · show n ≤ i
    rw [e, List.length_map, rgc_length]
    exact Nat.le_refl _
theorem bi_range3 {Γ : Ct} {δ : Ds} {L : Mu} {tg a b c : Expr} {p pos : Pos} {QI : List D → (Mu → Prop) → Mu → Prop} (hb : Bn Γ.mg "range" (.type "range")) [hK : Kd Γ.sc.names "range" .globalImplicit]
    (h : BE Γ a δ L fun d L1 => BE Γ b δ L1 fun d2 L2 => BE Γ c δ L2 fun d3 L3 => ∃ (i j k : Int) (n : Nat), d = .int i ∧ d2 = .int j ∧ d3 = .int k ∧ RgC i j k n ∧ QI ((rgc i k n).map .int) (fun _ => True) L3) (ha : noSt a = true) (hb1 : noSt b = true) (hc : noSt c = true) :
    BI Γ tg (.Call (.Name "range" p) [a, b, c] [] pos) δ L QI := fun X R0 F R σ H l A S QV g =>
  PI_w (pi_range3 (ta := tCons (wE X a) (tCons (wE X b) (tCons (wE X c) tNil))) (F.gl _ hK.mem) (by rw [F.mg]; exact hb.no) (pa_cons peW (pa_cons peW (pa_cons peW pa_nil (se_cons hc _ _)) (se_cons hb1 _ _)) (se_cons ha _ _)) (se_cons ha _ _) (bt_any (by simp [hb1, hc]) _))
    (h X R0 F R σ H l A S _ fun v d R1 H1 L1 l1 A1 r1 q1 => q1 X R0 F R1 σ H1 (l.trans l1) A1 (S.le l1) _ fun u d2 R2 H2 L2 l2 A2 r2 q2 => q2 X R0 F R2 σ H2 ((l.trans l1).trans l2) A2 ((S.le l1).le l2) _ fun w d3 R3 H3 L3 l3 A3 r3 q3 => by
      obtain ⟨i, j, k, n, rfl, rfl, rfl, ok, q⟩ := q3
      cases r1; cases r2; cases r3
      exact ⟨i, j, k, n, rfl, ok, g _ R3 H3 L3 _ _ ((l1.trans l2).trans l3) A3 yl_rangeC trivial q⟩)
theorem rg_bn (Hf : Lk G) {Γ : Ct} {lam : Fl} {x : Str} {u : Value} (hc : Cxt G lam Γ) (h : G.C.bnm.contains x = true) (hu : bootBuiltins x = some u) : Bn Γ.mg x u := by
  obtain ⟨u', hb⟩ := Hf.bi _ (List.contains_iff_mem.mp h)
  have := hb.at_
  rw [hu] at this
  cases this
  rw [hc.W]; exact hb
theorem rg1_ok {i : Int} {ns : List Int} (h : rgO [.int i] = some ns) : -(2 ^ 62) ≤ i ∧ i < 2 ^ 62 ∧ ns = rg 0 i := by
  simp only [rgO] at h
  split at h
  · rename_i hb
    rw [Bool.and_eq_true, decide_eq_true_eq, decide_eq_true_eq] at hb
    cases h
    exact ⟨by omega, by omega, rfl⟩
  · cases h
theorem rg2_ok {i j : Int} {ns : List Int} (h : rgO [.int i, .int j] = some ns) : (-(2 ^ 62) ≤ i ∧ i < 2 ^ 62 ∧ -(2 ^ 62) ≤ j ∧ j < 2 ^ 62) ∧ ns = rg i j := by
  simp only [rgO] at h
  split at h
  · rename_i hb
    simp only [Bool.and_eq_true, decide_eq_true_eq] at hb
    cases h
    exact ⟨by omega, rfl⟩
  · cases h
theorem rg3_ok {i j k : Int} {ns : List Int} (h : rgO [.int i, .int j, .int k] = some ns) : RgC i j k (Builtin.Range.rangeSize i j k).toNat ∧ (Builtin.Range.rangeSize i j k).toNat ≤ 16777216 ∧ ns = rgc i k (Builtin.Range.rangeSize i j k).toNat := by
  simp only [rgO] at h
  split at h
  · rename_i hb
    simp only [Bool.and_eq_true, decide_eq_true_eq] at hb
    cases h
    have h0 : 0 ≤ Builtin.Range.rangeSize i j k := by
      unfold Builtin.Range.rangeSize
      split
      · split
        · have := Int.ediv_nonneg (show 0 ≤ j - i - 1 by omega) (show 0 ≤ k by omega); omega
        · omega
      · split
        · have := Int.ediv_nonneg (show 0 ≤ i - j - 1 by omega) (show 0 ≤ -k by omega); omega
        · omega
    refine ⟨⟨hb.1.1.1, hb.1.1.2, hb.1.2, by omega⟩, by omega, rfl⟩
  · cases h
theorem rgR_ok {Γ : Ct} {δ : Ds} {L : Mu} {ds : List D} {Q : D → Mu → Prop} (h : WE G Γ δ (rgR ds L) Q) : ∃ ns, rgO ds = some ns ∧ Q (.tup (ns.map .int)) L := by
  unfold rgR at h
  split at h
  · exact ⟨_, by assumption, h⟩
  · exact h.elim
theorem rgL_ok {Γ : Ct} {δ : Ds} {L : Mu} {ds : List D} {tp : Bool} {Q : D → Mu → Prop} (h : WE G Γ δ (rgL tp ds L) Q) : ∃ ns, rgO ds = some ns ∧ ns.length ≤ 16777216 ∧ Q (if tp then .tup (ns.map .int) else .lst (ns.map .int)) L := by
  unfold rgL at h
  split at h
  · obtain ⟨hb, h⟩ := WE.gd h
    exact ⟨_, by assumption, of_decide_eq_true hb, h⟩
  · exact h.elim
theorem nopF {t : T} (h : (!isNop t) = true) : ¬ isNop t = true := by
  rw [Bool.not_eq_true'] at h; rw [h]; decide
theorem boot_rg : bootBuiltins "range" = some (.type "range") := boot_range
theorem ok_rng (Hf : Lk G) (a b c : T) (iha : Ok1 G a) (ihb : Ok1 G b) (ihc : Ok1 G c) : Ok1 G (.rng a b c) := by
  refine ⟨fun lam Γ e hc h => by simp [okE] at h, fun lam Γ e hc h => by simp [okE] at h, fun lam Γ op xs p hc h => by simp [okE] at h, fun lam Γ es hc h => by simp [okA] at h, fun lam Γ e hx h tg _ δ L Q q => ?_⟩
  simp only [okR] at h
  split at h
  · rename_i x p xs pos
    simp only [Bool.and_eq_true, beq_iff_eq] at h
    obtain ⟨⟨⟨rfl, h1⟩, h2⟩, h3⟩ := h
    have hb := rg_bn Hf hx h1 boot_rg
    haveI := kd_gl h2
    simp only [ev] at q
    split at h3
    · simp only [Bool.and_eq_true] at h3
      refine bi_range1 hb (BE.mono (iha.e lam Γ _ hx h3.2 δ L _ q.eO) fun d L1 q1 => ?_) (fun env => se_cons h3.1.2 _ env)
      obtain ⟨i, rfl, q1⟩ := q1
      rw [if_pos h3.1.1] at q1
      obtain ⟨ns, hr, ds, e, q1⟩ := rgR_ok q1
      cases e
      obtain ⟨b1, b2, rfl⟩ := rg1_ok hr
      exact ⟨i, rfl, b1, b2, rfl, q1⟩
    · simp only [Bool.and_eq_true] at h3
      obtain ⟨⟨⟨⟨⟨n1, n2⟩, s1⟩, s2⟩, o1⟩, o2⟩ := h3
      refine bi_range2 hb (BE.mono (iha.e lam Γ _ hx o1 δ L _ q.eO) fun d L1 q1 => ?_) (fun env => se_cons s1 _ env) (fun env => se_cons s2 _ env) (fun env => bt_any (by simp [s2]) env)
      obtain ⟨i, rfl, q1⟩ := q1
      rw [if_neg (nopF n1)] at q1
      refine BE.mono (ihb.e lam Γ _ hx o2 δ L1 _ (WE.eO q1)) fun d L2 q2 => ?_
      obtain ⟨j, rfl, q2⟩ := q2
      rw [if_pos n2] at q2
      obtain ⟨ns, hr, ds, e, q2⟩ := rgR_ok q2
      cases e
      obtain ⟨b1, rfl⟩ := rg2_ok hr
      exact ⟨i, j, rfl, rfl, b1, rfl, q2⟩
    · simp only [Bool.and_eq_true] at h3
      obtain ⟨⟨⟨⟨⟨⟨⟨n1, n2⟩, s1⟩, s2⟩, s3⟩, o1⟩, o2⟩, o3⟩ := h3
      refine bi_range3 hb (BE.mono (iha.e lam Γ _ hx o1 δ L _ q.eO) fun d L1 q1 => ?_) s1 s2 s3
      obtain ⟨i, rfl, q1⟩ := q1
      rw [if_neg (nopF n1)] at q1
      refine BE.mono (ihb.e lam Γ _ hx o2 δ L1 _ (WE.eO q1)) fun d L2 q2 => ?_
      obtain ⟨j, rfl, q2⟩ := q2
      rw [if_neg (nopF n2)] at q2
      refine BE.mono (ihc.e lam Γ _ hx o3 δ L2 _ (WE.eO q2)) fun d L3 q3 => ?_
      obtain ⟨k, rfl, q3⟩ := q3
      obtain ⟨ns, hr, ds, e, q3⟩ := rgR_ok q3
      cases e
      obtain ⟨b1, _, rfl⟩ := rg3_ok hr
      exact ⟨i, j, k, _, rfl, rfl, rfl, b1, rfl, q3⟩
    · cases h3
  · cases h
section
variable {Γ : Ct} {δ : Ds} {L : Mu} {Q : D → Mu → Prop} {pos p apos : Pos} {e o i a b c : Expr}
theorem be_tupR3 {pr : Pos} (hb : Bn Γ.mg "tuple" (.type "tuple")) [hK : Kd Γ.sc.names "tuple" .globalImplicit] (hb2 : Bn Γ.mg "range" (.type "range")) [hK2 : Kd Γ.sc.names "range" .globalImplicit] (hc : Γ.calm = true)
    (h : BA Γ [a, b, c] δ L fun ds L1 => ∃ (i j s : Int) (n : Nat), ds = [.int i, .int j, .int s] ∧ RgC i j s n ∧ n ≤ 16777216 ∧ Q (.tup ((rgc i s n).map .int)) L1)
    (na : ∀ env, starEach [.Call (.Name "range" pr) [a, b, c] [] p] env = (false, eval (.Call (.Name "range" pr) [a, b, c] [] p) env) :: starEach [] env := by intro _; rfl)
    (hs : ∀ env, starEach [a, b, c] env = (false, eval a env) :: starEach [b, c] env := by intro _; rfl) (hpl : ∀ env, (backTo p (starEach [b, c] env)).any (·.1) = false := by intro _; rfl) :
    BE Γ (.Call (.Name "tuple" apos) [.Call (.Name "range" pr) [a, b, c] [] p] [] pos) δ L Q := fun X R0 F R σ H l A S QV g pins s I => by
  refine Call_ (ld_blt I (F.gl _ hK.mem) (by rw [F.mg]; exact hb.no) (by first | rfl | decide +kernel | kernel_rfl) (PyProof.Rows.callWith_type1 (args_cons (thn (run_rg3 (pins := pins) (σ := σ) (Q := fun i j k n H1 => ∀ q, H1 q = none → QV (.ref q) (upd H1 q (.tup ((rgc i k n).map .int)))) (F.gl _ hK2.mem) (by rw [F.mg]; exact hb2.no) (paW (X := X) (es := [a, b, c])) I
    (h X R0 F R σ H l A S (fun vs H1 => ∃ (i j k : Int) (n : Nat), vs = [.int i, .int j, .int k] ∧ RgC i j k n ∧ n ≤ 16777216 ∧ ∀ q, H1 q = none → QV (.ref q) (upd H1 q (.tup ((rgc i k n).map .int)))) ?_) (hs _) (hpl _)) fun x s1 ⟨r, i, j, k, n, t, u, v, H1, ex, hr, I1, ok, hn, q⟩ => args_nil ?_) (na _)) (na _)))
  · intro vs ds R1 H1 L1 l1 A1 r1 ⟨i, j, k, n, e, ok, hn, q⟩
    subst e
    obtain ⟨x1, x2, x3, rfl, a1, a2, a3⟩ := r1.three
    cases a1; cases a2; cases a3
    exact ⟨i, j, k, n, rfl, ok, hn, fun z hz => by
      have hR := A1.sub.non hz
      exact g _ _ _ _ L1 (l1.trans (Le.upd hR)) (A1.new hz) (.tup (.inl (.inl upd_same)) Rps.ofInts) q⟩
  · subst ex
    obtain ⟨c0, c1, c2, c3⟩ := ok
    refine call_tuple_range (n := n) (I1.ok.hd (by rw [F.calm]; exact hc)) hr c2 c3 (by omega) fun h' tk acc hk hi => ?_
    have I2 : Inv X pins σ H1 { s1 with heap := h', toks := tk } := I1.kept hk
    refine ⟨.ref h'.objs.size, upd H1 h'.objs.size (.tup ((rgc i k n).map .int)), I2.laid (t' := tk) (fun c o e => Heap.get?_push_of_some _ e) (Nat.le_refl _) (show ObjOk X.prog X.w _ _ _ (.tup ((rgc i k n).map .int)) from ⟨?_, acc.toList, vals_rgc hi, ?_⟩), rfl, q _ (I2.hok.fresh (Nat.le_refl _))⟩
    · rw [sizeLine_eq]; simp [rgc]; omega
    · rw [Array.toArray_toList]; exact IsTup.new _ _
end
theorem ok_lrg (Hf : Lk G) (tp : Bool) (a b c : T) (iha : Ok1 G a) (ihb : Ok1 G b) (ihc : Ok1 G c) : Ok1 G (.lrg tp a b c) := by
  refine Ok1.val (fun lam Γ e hx h δ L Q q => ?_) (by intro C N lam ns e h; simp only [okE] at h; cases e <;> first | rfl | cases h) (fun _ _ _ _ _ => by simp [okA]) (fun _ _ _ _ _ => by simp [okR])
  simp only [okE] at h
  split at h
  · rename_i x p y p2 xs pos2 pos
    simp only [Bool.and_eq_true, beq_iff_eq] at h
    obtain ⟨⟨⟨⟨⟨⟨h0, h1⟩, h2⟩, rfl⟩, h4⟩, h5⟩, h3⟩ := h
    have hb := rg_bn Hf hx h4 boot_rg
    have hK2 := kd_gl h2
    have hK5 := kd_gl h5
    simp only [ev] at q
    have sz : ∀ {i j : Int}, (rg i j).length ≤ 16777216 → (j - i).toNat ≤ 2 ^ 24 := fun hz => by rw [rg_length] at hz; omega
    split at h3
    · rename_i u
      simp only [Bool.and_eq_true] at h3
      have hr : BR Γ (.Call (.Name "range" p2) [u] [] pos2) δ L fun i j L1 => RgOk i j ∧ Q (if tp then .tup ((rg i j).map .int) else .lst ((rg i j).map .int)) L1 := by
        haveI := hK5
        refine br_1 hb (BE.mono (iha.e lam Γ _ hx h3.2 δ L _ q.eO) fun d L1 q1 => ?_) (fun env => se_cons h3.1.2 _ env)
        obtain ⟨i, rfl, q1⟩ := q1
        rw [if_pos h3.1.1] at q1
        obtain ⟨ns, hr, hz, q1⟩ := rgL_ok q1
        obtain ⟨b1, b2, rfl⟩ := rg1_ok hr
        exact ⟨i, rfl, ⟨by omega, by omega, b1, b2, sz hz⟩, q1⟩
      cases tp with
      | true =>
        subst h0
        haveI : Kd Γ.sc.names ("tuple" : Str) .globalImplicit := hK2
        exact be_tupR (rg_bn Hf hx h1 (by first | rfl | decide +kernel | kernel_rfl)) hx.calm hr (fun env => rfl)
      | false =>
        subst h0
        haveI : Kd Γ.sc.names ("list" : Str) .globalImplicit := hK2
        exact be_listR (rg_bn Hf hx h1 boot_list) hx.calm hr (fun env => rfl)
    · rename_i u v
      simp only [Bool.and_eq_true] at h3
      obtain ⟨⟨⟨⟨⟨n1, n2⟩, s1⟩, s2⟩, o1⟩, o2⟩ := h3
      have hr : BR Γ (.Call (.Name "range" p2) [u, v] [] pos2) δ L fun i j L1 => RgOk i j ∧ Q (if tp then .tup ((rg i j).map .int) else .lst ((rg i j).map .int)) L1 := by
        haveI := hK5
        refine br_2 hb (BE.mono (iha.e lam Γ _ hx o1 δ L _ q.eO) fun d L1 q1 => ?_) (fun env => se_cons s1 _ env) (fun env => se_cons s2 _ env) (fun env => bt_any (by simp [s2]) env)
        obtain ⟨i, rfl, q1⟩ := q1
        rw [if_neg (nopF n1)] at q1
        refine BE.mono (ihb.e lam Γ _ hx o2 δ L1 _ (WE.eO q1)) fun d L2 q2 => ?_
        obtain ⟨j, rfl, q2⟩ := q2
        rw [if_pos n2] at q2
        obtain ⟨ns, hr, hz, q2⟩ := rgL_ok q2
        obtain ⟨b1, rfl⟩ := rg2_ok hr
        exact ⟨i, j, rfl, rfl, ⟨b1.1, b1.2.1, b1.2.2.1, b1.2.2.2, sz hz⟩, q2⟩
      cases tp with
      | true =>
        subst h0
        haveI : Kd Γ.sc.names ("tuple" : Str) .globalImplicit := hK2
        exact be_tupR (rg_bn Hf hx h1 (by first | rfl | decide +kernel | kernel_rfl)) hx.calm hr (fun env => rfl)
      | false =>
        subst h0
        haveI : Kd Γ.sc.names ("list" : Str) .globalImplicit := hK2
        exact be_listR (rg_bn Hf hx h1 boot_list) hx.calm hr (fun env => rfl)
    · rename_i u v w
      simp only [Bool.and_eq_true, Bool.not_eq_true'] at h3
      obtain ⟨⟨⟨⟨⟨⟨⟨n1, n2⟩, s1⟩, s2⟩, s3⟩, o1⟩, o2⟩, o3⟩ := h3
      haveI k5 := hK5
      have hba : BA Γ [u, v, w] δ L fun ds L1 => ∃ (i j s : Int) (n : Nat), ds = [.int i, .int j, .int s] ∧ RgC i j s n ∧ n ≤ 16777216 ∧ Q (if tp then .tup ((rgc i s n).map .int) else .lst ((rgc i s n).map .int)) L1 := by
        refine ba_cons (BE.mono (iha.e lam Γ _ hx o1 δ L _ q.eO) fun d L1 q1 => ?_) (fun env => se_cons s1 _ env)
        obtain ⟨i, rfl, q1⟩ := q1
        rw [if_neg (by rw [n1]; decide)] at q1
        refine ba_cons (BE.mono (ihb.e lam Γ _ hx o2 δ L1 _ (WE.eO q1)) fun d L2 q2 => ?_) (fun env => se_cons s2 _ env)
        obtain ⟨j, rfl, q2⟩ := q2
        rw [if_neg (by rw [n2]; decide)] at q2
        refine ba_cons (BE.mono (ihc.e lam Γ _ hx o3 δ L2 _ (WE.eO q2)) fun d L3 q3 => ba_nil ?_) (fun env => se_cons s3 _ env)
        obtain ⟨k, rfl, q3⟩ := q3
        obtain ⟨ns, hr, hz, q3⟩ := rgL_ok q3
        obtain ⟨b1, b2, rfl⟩ := rg3_ok hr
        exact ⟨i, j, k, _, rfl, b1, b2, q3⟩
      cases tp with
      | true =>
        subst h0
        haveI k2 : Kd Γ.sc.names ("tuple" : Str) .globalImplicit := hK2
        exact be_tupR3 (rg_bn Hf hx h1 (by first | rfl | decide +kernel | kernel_rfl)) hb hx.calm hba (fun env => rfl) (fun env => se_cons s1 _ env) (fun env => bt_any (by simp [s2, s3]) env)
      | false =>
        subst h0
        haveI k2 : Kd Γ.sc.names ("list" : Str) .globalImplicit := hK2
        exact be_listR3 (rg_bn Hf hx h1 boot_list) hb hx.calm hba (fun env => rfl) (fun env => se_cons s1 _ env) (fun env => bt_any (by simp [s2, s3]) env)
    · cases h3
  · cases h
theorem ok_lrm (Hf : Lk G) (a : T) (iha : Ok1 G a) : Ok1 G (.lrm a) := by
  refine Ok1.val (fun lam Γ e hx h δ L Q q => ?_) (by intro C N lam ns e h; simp only [okE] at h; cases e <;> first | rfl | cases h) (fun _ _ _ _ _ => by simp [okA]) (fun _ _ _ _ _ => by simp [okR])
  simp only [okE] at h
  split at h
  · rename_i x p y p2 u pos2 pos
    simp only [Bool.and_eq_true, beq_iff_eq] at h
    obtain ⟨⟨⟨⟨⟨⟨⟨rfl, h1⟩, h2⟩, rfl⟩, h4⟩, h5⟩, h6⟩, h7⟩ := h
    have hb := rg_bn Hf hx h4 boot_rg
    haveI hK2 := kd_gl h2
    have hK5 := kd_gl h5
    simp only [ev] at q
    refine be_listRM (rg_bn Hf hx h1 boot_list) hx.calm ?_ (fun env => rfl)
    haveI := hK5
    refine br_1 hb (BE.mono (iha.e lam Γ _ hx h7 δ L _ q.eO) fun d L1 q1 => ?_) (fun env => se_cons h6 _ env)
    obtain ⟨i, rfl, q1⟩ := q1
    split at q1
    · rename_i ns hr
      obtain ⟨hz, q1⟩ := WE.gd q1
      obtain ⟨b1, b2, rfl⟩ := rg1_ok hr
      have hz := of_decide_eq_true hz
      rw [rg_length] at hz
      exact ⟨i, rfl, ⟨by omega, by omega, b1, b2, by unfold SL at hz; omega⟩, q1⟩
    · exact q1.elim
  · cases h
theorem ok_pop0 (o : T) (iho : Ok1 G o) : Ok1 G (.pop0 o) := by
  refine Ok1.val (fun lam Γ e hc h δ L Q q => ?_) (by intro C N lam ns e h; simp only [okE] at h; cases e <;> first | rfl | cases h) (fun _ _ _ _ _ => by simp [okA]) (fun _ _ _ _ _ => by simp [okR])
  simp only [okE] at h
  split at h
  · rename_i ob x apos pos
    simp only [Bool.and_eq_true, beq_iff_eq] at h
    obtain ⟨⟨⟨rfl, h2⟩, h4⟩, h5⟩ := h
    simp only [ev] at q
    refine be_pop0 (BE.mono (iho.e lam Γ _ hc h5 δ L _ q.eb) fun d L1 q1 => ?_) (fun env => ab_ok h2 _ _ _) (beq_iff_eq.mpr h4)
    replace q1 : WE G Γ δ (popO d L1) Q := q1
    unfold popO at q1
    split at q1
    · split at q1
      · rename_i xs hk
        split at q1
        · rename_i z hz
          exact ⟨_, xs, z, rfl, hk, hz, q1⟩
        · exact q1.elim
      · exact q1.elim
    · exact q1.elim
  · cases h
theorem boot_en : bootBuiltins "enumerate" = some (.type "enumerate") := boot_enumerate
theorem ok_itr (Hf : Lk G) (k : Ik) (a : T) (ih : Ok1 G a) : Ok1 G (.itr k a) := by
  refine ⟨fun lam Γ e hc h => by simp [okE] at h, fun lam Γ e hc h => by simp [okE] at h, fun lam Γ op xs p hc h => by simp [okE] at h, fun lam Γ es hc h => by simp [okA] at h, fun lam Γ e hx h tg ht δ L Q q => ?_⟩
  cases k with
  | enm =>
    simp only [okR] at h
    split at h
    · rename_i x p u pos
      simp only [Bool.and_eq_true, beq_iff_eq] at h
      obtain ⟨⟨⟨⟨rfl, h1⟩, h2⟩, h3⟩, h4⟩ := h
      haveI := kd_gl h2
      cases tg <;> first | (simp [itT, isTup] at ht; done) | skip
      simp only [ev] at q
      refine bi_enumA (rg_bn Hf hx h1 boot_en) (BE.mono (ih.e lam Γ _ hx h4 δ L _ q.eb) fun d L1 q1 => ?_) (fun env => se_cons h3 _ env)
      replace q1 : WE G Γ δ (match sqI d with
        | some xs => .ok (.tup (enm 0 xs)) L1
        | none => .no) (fun d L => ∃ ds, d = .tup ds ∧ Q ds L) := q1
      cases hs : sqI d with
      | none => rw [hs] at q1; exact q1.elim
      | some xs =>
        rw [hs] at q1
        obtain ⟨zs, e2, q1⟩ := q1
        cases e2
        exact ⟨xs, rfl, rfl, q1⟩
    · cases h
end Ac
end
section
/-! Ev15: comprehensions, what is told; all terms. -/
namespace Ac
open PySem PySem.Spec PyProof.Rows L2
variable {G : Glo}
theorem BI.mono {Γ : Ct} {δ : Ds} {L : Mu} {tg it : Expr} {Q Q' : List D → (Mu → Prop) → Mu → Prop} (h : BI Γ tg it δ L Q) (m : ∀ ds cond L', Q ds cond L' → Q' ds cond L') : BI Γ tg it δ L Q' := fun X R0 F R σ H l A S QV g =>
  h X R0 F R σ H l A S QV fun J R' H' L' ds cond l' A' y c q => g J R' H' L' ds cond l' A' y c (m _ _ _ q)
theorem eO_tup {r : RE} {f : Int → Mu → RE} {d : D} {L' : Mu} (h : eO r f = .ok d L') : ∃ i L, r = .ok (.int i) L ∧ f i L = .ok d L' := by
  unfold eO at h
  split at h
  · exact ⟨_, _, rfl, h⟩
  · cases h
  · cases h
  · cases h
theorem rgR_tup {ds : List D} {L L' : Mu} {d : D} (h : rgR ds L = .ok d L') : ∃ es, d = .tup es := by
  unfold rgR at h
  split at h
  · cases h; exact ⟨_, rfl⟩
  · cases h
theorem rng_tup {P : Prg} {call : Nat → List D → Mu → RE} {a b c : T} {δ : Ds} {L L' : Mu} {d : D} (h : ev P call (.rng a b c) δ L = .ok d L') : ∃ ds, d = .tup ds := by
  simp only [ev] at h
  obtain ⟨i, L1, _, h⟩ := eO_tup h
  split at h
  · exact rgR_tup h
  · obtain ⟨j, L2, _, h⟩ := eO_tup h
    split at h
    · exact rgR_tup h
    · obtain ⟨k, L3, _, h⟩ := eO_tup h
      exact rgR_tup h
theorem itr_tup {P : Prg} {call : Nat → List D → Mu → RE} {k : Ik} {es : T} {δ : Ds} {L L' : Mu} {d : D} (h : ev P call (.itr k es) δ L = .ok d L') : ∃ ds, d = .tup ds := by
  simp only [ev] at h
  cases hr : ev P call es δ L with
  | ok e L1 =>
    rw [hr] at h
    replace h : itrO k e L1 = .ok d L' := h
    cases k with
    | enm =>
      unfold itrO at h
      cases hs : sqI e with
      | none => rw [hs] at h; cases h
      | some xs => rw [hs] at h; cases h; exact ⟨_, rfl⟩
  | ex c p L1 => rw [hr] at h; cases h
  | no => rw [hr] at h; cases h
theorem iter_ok {t : T} (o : Ok1 G t) {lam : Fl} {Γ : Ct} {e tg : Expr} (hc : Cxt G lam Γ) (h : (okE G.C Γ.N lam t Γ.sc.names e || okR G.C Γ.N lam t Γ.sc.names e) = true ∧ itT t tg = true) {δ : Ds} {L : Mu} {Q : List D → (Mu → Prop) → Mu → Prop}
    (q : WE G Γ δ (ev G.P G.call t δ L) fun d L1 => ∃ ds g, itO L1 d = some (ds, g) ∧ Q ds (Stl ds g) L1) : BI Γ tg e δ L Q := by
  obtain ⟨h, ht⟩ := h
  rw [Bool.or_eq_true] at h
  rcases h with h | h
  · exact bi_any (o.e lam Γ e hc h δ L _ q)
  · have key : ∀ {d : D} {L' : Mu}, ev G.P G.call t δ L = .ok d L' → ∃ ds, d = .tup ds := fun {d L'} hr => by
      cases t <;> first | (simp [okR] at h; done) | exact rng_tup hr | exact itr_tup hr
    refine BI.mono (o.r lam Γ e hc h tg ht δ L (fun ds L1 => Q ds (fun _ => True) L1) ?_) fun ds cond L' ⟨e, q⟩ => by rw [e]; exact q
    unfold WE RC at q ⊢
    split at q
    · rename_i d L1 hr
      obtain ⟨ds, rfl⟩ := key hr
      obtain ⟨ds', g, hi, q⟩ := q
      simp only [itO, Option.some.injEq, Prod.mk.injEq] at hi
      obtain ⟨rfl, rfl⟩ := hi
      exact ⟨ds, rfl, q⟩
    · rename_i c p L1 hr
      exact q
    · exact q.elim
theorem lcL_st {g : Mu → Bool} {f : D → Mu → Option (Option D × Mu)} {ds : List D} {L : Mu} {r : List D × Mu} (h : lcL g f ds L = some r) : g L = true := by
  cases ds with
  | nil =>
    simp only [lcL] at h
    split at h
    · assumption
    · cases h
  | cons d ds =>
    simp only [lcL] at h
    split at h
    · assumption
    · cases h
theorem cxt_blk {lam : Fl} {Γ : Ct} {scope : Scope} (hc : Cxt G lam Γ) : Cxt G lam (ctB Γ scope) := ⟨hc.W, hc.calm, hc.lv, hc.lm, hc.gn⟩
/-- what a comprehension's turn makes -/
def lcf (P : Prg) (call : Nat → List D → Mu → RE) (own : List Nat) (tg cd e : T) (δ : Ds) (d : D) (L : Mu) : Option (Option D × Mu) := match asgN tg d (wipeD δ own) with
  | none => none
  | some δ' => if isNop cd then (match ev P call e δ' L with
      | .ok y L => some (some y, L)
      | _ => none)
    else match ev P call cd δ' L with
      | .ok (.bl true) L => (match ev P call e δ' L with
        | .ok y L => some (some y, L)
        | _ => none)
      | .ok (.bl false) L => some (none, L)
      | _ => none
theorem ev_lc (P : Prg) (call : Nat → List D → Mu → RE) (m : Bool) (own : List Nat) (tg it cd e : T) (δ : Ds) (L : Mu) : ev P call (.lc m own tg it cd e) δ L = eb (ev P call it δ L) fun d L => match itO L d with
    | none => .no
    | some (ds, g) => if decide (ds.length ≤ SL) then (match lcL (stands ds g) (lcf P call own tg cd e δ) ds L with
      | some (ys, L) => mkL m ys L
      | none => .no) else .no := by
  conv => lhs; unfold ev
  rfl
theorem lci_ok {own : List Nat} {tg cd el : T} {lam : Fl} {Γ : Ct} {scope : Scope} {tg' elt : Expr} {ifs : List Expr} {δ : Ds} {L : Mu} {ds : List D} {g : Option Nat} {R : List D → Mu → Prop} (ihc : Ok1 G cd) (ihe : Ok1 G el) (hc : Cxt G lam Γ)
    (hg : okG Γ.N tg scope.names own tg' = true) (hi : (match ifs with
        | [] => isNop cd
        | [c] => !isNop cd && okE G.C Γ.N lam cd scope.names c
        | _ => false) = true) (he : okE G.C Γ.N lam el scope.names elt = true) (hz : ds.length ≤ SL) (q : ∃ ys L', lcL (stands ds g) (lcf G.P G.call own tg cd el δ) ds L = some (ys, L') ∧ R ys L') :
    LcI Γ scope (ownOf Γ.N own) tg' elt ifs δ ds (Stl ds g) L R := by
  have eo : (ownOf Γ.N own).map (·.2) = own := by
    unfold ownOf
    rw [List.map_map]
    exact (List.map_congr_left fun _ _ => rfl).trans (List.map_id own)
  have hcB : Cxt G lam (ctB Γ scope) := cxt_blk hc
  refine ⟨fun i acc L' => acc.length ≤ i ∧ ∃ ys L2, lcL (stands ds g) (lcf G.P G.call own tg cd el δ) (ds.drop i) L' = some (ys, L2) ∧ R (acc ++ ys) L2, ⟨Nat.le_refl _, ?_⟩, ?_, ?_, ?_⟩
  · obtain ⟨ys, L2, h, r⟩ := q
    exact ⟨ys, L2, h, r⟩
  · rintro i acc L' _ ⟨_, ys, L2, h, _⟩
    exact stl_of (lcL_st h)
  · rintro i d acc L' hd ⟨hl, ys, L2, h, r⟩
    have hlt : i < ds.length := (List.getElem?_eq_some_iff.mp hd).1
    have ed : ds.drop i = d :: ds.drop (i + 1) := by
      rw [List.drop_eq_getElem_cons hlt]
      congr 1
      exact (List.getElem?_eq_some_iff.mp hd).2
    rw [ed] at h
    simp only [lcL] at h
    split at h
    · split at h
      · rename_i o L1 hf
        split at h
        · rename_i ys' L3 hr
          simp only [Option.some.injEq, Prod.mk.injEq] at h
          obtain ⟨rfl, rfl⟩ := h
          rw [eo]
          unfold lcf at hf
          split at hf
          · cases hf
          · rename_i δ' ha
            refine BGv.mono ((asgN_ok (Γ := ctB Γ scope) hc.calm own tg).1 tg' hg d _ δ' L' ha) ?_
            rintro δ2 L2' ⟨rfl, rfl⟩
            have el_ok : ∀ (L4 : Mu) (y : D), ev G.P G.call el δ2 L4 = .ok y L1 → o = some y → BE (ctB Γ scope) elt δ2 L4 fun y L5 => acc.length < sizeLine ∧ ((acc ++ [y]).length ≤ i + 1 ∧ ∃ ys L2, lcL (stands ds g) (lcf G.P G.call own tg cd el δ) (ds.drop (i + 1)) L5 = some (ys, L2) ∧ R (acc ++ [y] ++ ys) L2) := fun L4 y hy eo => by
              refine ihe.e lam (ctB Γ scope) elt hcB he δ2 L4 _ ?_
              rw [hy]
              subst eo
              refine ⟨by rw [← SL_eq]; omega, by rw [List.length_append, List.length_singleton]; omega, ys', L3, hr, ?_⟩
              rw [List.append_assoc]; exact r
            split at hi
            · rw [if_pos hi] at hf
              refine ⟨fun h => (by cases h), fun _ => ?_⟩
              split at hf
              · rename_i y L4 hy
                simp only [Option.some.injEq, Prod.mk.injEq] at hf
                obtain ⟨rfl, rfl⟩ := hf
                exact el_ok _ y hy rfl
              · cases hf
            · rename_i cx
              rw [Bool.and_eq_true] at hi
              rw [if_neg (nopF hi.1)] at hf
              refine ihc.b lam (ctB Γ scope) cx hcB hi.2 δ2 L2' _ ?_
              split at hf
              · rename_i L4 hcv
                rw [hcv]
                split at hf
                · rename_i y L5 hy
                  simp only [Option.some.injEq, Prod.mk.injEq] at hf
                  obtain ⟨rfl, rfl⟩ := hf
                  exact ⟨true, rfl, fun h => (by cases h), fun _ => el_ok _ y hy rfl⟩
                · cases hf
              · rename_i L4 hcv
                rw [hcv]
                simp only [Option.some.injEq, Prod.mk.injEq] at hf
                obtain ⟨rfl, rfl⟩ := hf
                refine ⟨false, rfl, fun _ => ⟨by omega, ys', L3, hr, ?_⟩, fun h => (by cases h)⟩
                simpa using r
              · cases hf
            · cases hi
        · cases h
      · cases h
    · cases h
  · rintro acc L' ⟨_, ys, L2, h, r⟩
    rw [List.drop_length] at h
    simp only [lcL] at h
    split at h
    · simp only [Option.some.injEq, Prod.mk.injEq] at h
      obtain ⟨rfl, rfl⟩ := h
      rw [List.append_nil] at r
      exact r
    · cases h
theorem lc_iter {m : Bool} {own : List Nat} {tg it cd el : T} {Γ : Ct} {δ : Ds} {L : Mu} {Q : D → Mu → Prop} (q : WE G Γ δ (ev G.P G.call (.lc m own tg it cd el) δ L) Q) :
    WE G Γ δ (ev G.P G.call it δ L) fun d L1 => ∃ ds g, itO L1 d = some (ds, g) ∧ ds.length ≤ SL ∧ ∃ ys L2, lcL (stands ds g) (lcf G.P G.call own tg cd el δ) ds L1 = some (ys, L2) ∧ WE G Γ δ (mkL m ys L2) Q := by
  rw [ev_lc] at q
  refine WE.mono q.eb fun d L1 q1 => ?_
  split at q1
  · exact q1.elim
  · rename_i ds g hi
    split at q1
    · rename_i hz
      split at q1
      · rename_i ys L2 hl
        exact ⟨ds, g, hi, of_decide_eq_true hz, ys, L2, hl, q1⟩
      · exact q1.elim
    · exact q1.elim
theorem ok_lc (m : Bool) (own : List Nat) (tg it cd el : T) (ihi : Ok1 G it) (ihc : Ok1 G cd) (ihe : Ok1 G el) : Ok1 G (.lc m own tg it cd el) := by
  refine Ok1.val (fun lam Γ e hc h δ L Q q => ?_) (by intro C N lam ns e h; simp only [okE] at h; cases e <;> first | rfl | cases h) (fun _ _ _ _ _ => by simp [okA]) (fun _ _ _ _ _ => by simp [okR])
  simp only [okE] at h
  split at h
  · rename_i elt tg' iter ifs scope pos
    simp only [Bool.and_eq_true, beq_iff_eq] at h
    obtain ⟨⟨⟨⟨⟨⟨⟨h1, h2⟩, h3⟩, h4⟩, h5⟩, h6⟩, h7⟩, h8⟩ := h
    haveI := blk_of h1
    have q := lc_iter q
    cases m with
    | false => exact be_lcI (iter_ok ihi hc h5 (WE.mono q fun d L1 ⟨ds, g, hi, hz, ys, L2, hl, q⟩ => ⟨ds, g, hi, lci_ok ihc ihe hc h6 h7 h8 hz ⟨ys, L2, hl, q⟩⟩)) hc.calm h2 h3 (fun env x => fsi_ok h4 env x)
    | true => exact be_lcIM (iter_ok ihi hc h5 (WE.mono q fun d L1 ⟨ds, g, hi, hz, ys, L2, hl, q⟩ => ⟨ds, g, hi, lci_ok ihc ihe hc h6 h7 h8 hz ⟨ys, L2, hl, q⟩⟩)) hc.calm h2 h3 (fun env x => fsi_ok h4 env x)
  · cases h
theorem tell_ok (Hf : Lk G) {Γ : Ct} {δ : Ds} {L : Mu} {Q : D → Mu → Prop} {f c : Nat} (hr : G.P.rs c = true) : ∀ {l : List (Nat × Tx)}, (∀ q ∈ l, q ∈ G.P.tl f) → WE G Γ δ (tellO G.P.sub l c L) Q → tell G.W.K (.ref (G.xa c)) (fun ret => Q (.str ret) L) (l.map fun q => (G.xa q.1, q.2))
  | [], _, h => h.elim
  | (c', t) :: l, hm, h => by
    refine ⟨G.P.sub c c', Hf.sb c c' hr ⟨f, t, hm _ List.mem_cons_self⟩, fun e => ?_, fun e => ?_⟩
    · simp only [tellO, e, if_true] at h; exact h
    · simp only [tellO, e] at h
      exact tell_ok Hf hr (fun q hq => hm q (List.mem_cons_of_mem _ hq)) h
theorem ok_told (Hf : Lk G) (f : Nat) (b : T) (ih : Ok1 G b) : Ok1 G (.told f b) := by
  refine Ok1.val (fun lam Γ e hc h δ L Q q => ?_) (by intro C N lam ns e h; simp only [okE, Bool.and_eq_true] at h; cases e <;> first | rfl | cases h.2) (fun _ _ _ _ _ => by simp [okA]) (fun _ _ _ _ _ => by simp [okR])
  simp only [okE, Bool.and_eq_true] at h
  obtain ⟨hl, h⟩ := h
  split at h
  · rename_i x p params body scope lpos pos
    simp only [Bool.and_eq_true, beq_iff_eq, Bool.not_eq_true'] at h
    obtain ⟨⟨⟨⟨⟨⟨⟨⟨h1, h2⟩, h3⟩, h4⟩, h5⟩, h6⟩, h7⟩, h8⟩, h9⟩ := h
    obtain ⟨hlv, c, P, hcp, hT⟩ := hc.lm (beq_iff_eq.mp hl)
    have Tl := Hf.tl f x h1
    have hW := hc.W
    rw [← hc.W] at Tl
    haveI := kd_gl h2
    haveI := blk_of h3
    unfold emptyArgs at h8
    split at h8
    · refine be_told (k := G.k + 1) Tl hcp hT (by omega) hc.calm h4 h5 h6 h7 (fun env => rfl) (fun _ _ _ _ _ => rfl) fun qn => ?_
      refine ih.e .no (ctL Γ scope (G.k + 1) qn fun cls _ _ L1 => tell Γ.K cls (fun ret => Q (.str ret) L1) _) body ⟨hW, rfl, Nat.le_refl _, (fun z => nomatch z), (fun z => nomatch z)⟩ h9 δ L Q ?_
      simp only [ev] at q
      cases hr : ev G.P G.call b δ L with
      | ok d L1 => rw [hr] at q; exact q
      | no => rw [hr] at q; exact q
      | ex c1 p1 L1 =>
        rw [hr] at q
        obtain ⟨hrs, q⟩ := WE.gd q
        have := tell_ok Hf (f := f) hrs (fun _ h => h) q
        rw [← hW] at this
        exact this
    · cases h8
  · cases h
def okR' (r : RE) (Q : D → Mu → Prop) : Prop := match r with
  | .ok d L => Q d L
  | _ => False
theorem ev_gen (P : Prg) (call : Nat → List D → Mu → RE) (kd : Gk) (own : List Nat) (tg it cd e : T) (δ : Ds) (L : Mu) : ev P call (.gen kd own tg it cd e) δ L = eb (ev P call it δ L) fun d L => match itO L d with
    | none => .no
    | some (ds, g) => gnL (stands ds g) (lcf P call own tg cd e δ) kd 0 ds L := by
  conv => lhs; unfold ev
  rfl
theorem gnL_ok {g : Mu → Bool} {f : D → Mu → Option (Option D × Mu)} {kd : Gk} : ∀ {ds : List D} {c : Int} {L : Mu} {Γ : Ct} {δ : Ds} {Q : D → Mu → Prop}, WE G Γ δ (gnL g f kd c ds L) Q → okR' (gnL g f kd c ds L) Q
  | [], c, L, Γ, δ, Q, h => by
    simp only [gnL] at h ⊢
    split at h
    · rename_i hg; rw [if_pos hg]; exact h
    · exact h.elim
  | d :: ds, c, L, Γ, δ, Q, h => by
    simp only [gnL] at h ⊢
    split at h
    · rename_i hg
      rw [if_pos hg]
      split at h
      · split at h
        · exact gnL_ok h
        · exact h
        · exact h.elim
      · exact gnL_ok h
      · exact h.elim
    · exact h.elim
theorem gnL_st {g : Mu → Bool} {f : D → Mu → Option (Option D × Mu)} {kd : Gk} {ds : List D} {c : Int} {L : Mu} {Q : D → Mu → Prop} (h : okR' (gnL g f kd c ds L) Q) : g L = true := by
  cases ds with
  | nil =>
    simp only [gnL] at h
    split at h
    · assumption
    · exact h.elim
  | cons d ds =>
    simp only [gnL] at h
    split at h
    · assumption
    · exact h.elim
theorem gni_ok {α : Type} {Jr : α → Int → Prop} {c0 : α} {stp : α → D → Mu → (α → Prop) → Prop} {fn : α → Mu → Prop} {kd : Gk} {own : List Nat} {tg cd el : T} {Γ : Ct} {scope : Scope} {tg' elt : Expr} {ifs : List Expr} {δ : Ds} {L : Mu} {ds : List D} {g : Option Nat} {Q : D → Mu → Prop}
    (ihc : Ok1 G cd) (ihe : Ok1 G el) (hW : Γ.toWd = G.W) (hg : okG Γ.N tg scope.names own tg' = true) (hi : (match ifs with
        | [] => isNop cd
        | [c] => !isNop cd && okE G.C Γ.N .no cd scope.names c
        | _ => false) = true) (he : okE G.C Γ.N .no el scope.names elt = true) (h0 : Jr c0 0)
    (hst : ∀ a c y L (Nx : α → Prop), Jr a c → (∃ r, gkS kd c y = some r ∧ match r with
      | .inl c2 => ∀ a2, Jr a2 c2 → Nx a2
      | .inr d => Q d L) → stp a y L Nx) (hex : ∀ c2, ∃ a2, Jr a2 c2) (hfn : ∀ a c L, Jr a c → Q (gkF kd c) L → fn a L)
    (q : okR' (gnL (stands ds g) (lcf G.P G.call own tg cd el δ) kd 0 ds L) Q) : GnI Γ scope (G.k + 1) (ownOf Γ.N own) tg' elt ifs δ ds (Stl ds g) L stp fn c0 := by
  have eo : (ownOf Γ.N own).map (·.2) = own := by
    unfold ownOf
    rw [List.map_map]
    exact (List.map_congr_left fun _ _ => rfl).trans (List.map_id own)
  intro qn
  have hcG : Cxt G .no (ctG Γ scope (G.k + 1) qn) := ⟨hW, rfl, Nat.le_refl _, (fun z => nomatch z), (fun z => nomatch z)⟩
  refine ⟨fun i a L' => ∃ c, Jr a c ∧ okR' (gnL (stands ds g) (lcf G.P G.call own tg cd el δ) kd c (ds.drop i) L') Q, ⟨0, h0, q⟩, ?_, ?_, ?_⟩
  · rintro i a L' _ ⟨c, _, h⟩
    exact stl_of (gnL_st h)
  · rintro i d a L' hd ⟨c, hj, h⟩
    have hlt : i < ds.length := (List.getElem?_eq_some_iff.mp hd).1
    have ed : ds.drop i = d :: ds.drop (i + 1) := by
      rw [List.drop_eq_getElem_cons hlt]
      congr 1
      exact (List.getElem?_eq_some_iff.mp hd).2
    rw [ed] at h
    simp only [gnL] at h
    split at h
    · rw [eo]
      cases hf : lcf G.P G.call own tg cd el δ d L' with
      | none => rw [hf] at h; exact h.elim
      | some p =>
        obtain ⟨o, L1⟩ := p
        rw [hf] at h
        have key : ∀ y, o = some y → stp a y L1 fun a2 => ∃ c, Jr a2 c ∧ okR' (gnL (stands ds g) (lcf G.P G.call own tg cd el δ) kd c (ds.drop (i + 1)) L1) Q := fun y e => by
          subst e
          refine hst a c y L1 _ hj ?_
          simp only at h
          split at h
          · rename_i c2 hk
            exact ⟨_, hk, fun a2 h2 => ⟨c2, h2, h⟩⟩
          · rename_i r hk
            exact ⟨_, hk, h⟩
          · exact h.elim
        have keyN : o = none → ∃ c, Jr a c ∧ okR' (gnL (stands ds g) (lcf G.P G.call own tg cd el δ) kd c (ds.drop (i + 1)) L1) Q := fun e => by
          subst e
          exact ⟨c, hj, h⟩
        unfold lcf at hf
        split at hf
        · cases hf
        · rename_i δ' ha
          refine BGv.mono ((asgN_ok (Γ := ctG Γ scope (G.k + 1) qn) rfl own tg).1 tg' hg d _ δ' L' ha) ?_
          rintro δ2 L2' ⟨rfl, rfl⟩
          have el_ok : ∀ (L4 : Mu) (y : D), ev G.P G.call el δ2 L4 = .ok y L1 → o = some y → BE (ctG Γ scope (G.k + 1) qn) elt δ2 L4 fun y L5 => stp a y L5 fun a2 => ∃ c, Jr a2 c ∧ okR' (gnL (stands ds g) (lcf G.P G.call own tg cd el δ) kd c (ds.drop (i + 1)) L5) Q := fun L4 y hy e => by
            refine ihe.e .no (ctG Γ scope (G.k + 1) qn) elt hcG he δ2 L4 _ ?_
            rw [hy]
            exact key y e
          split at hi
          · rw [if_pos hi] at hf
            refine ⟨fun h => (by cases h), fun _ => ?_⟩
            split at hf
            · rename_i y L4 hy
              simp only [Option.some.injEq, Prod.mk.injEq] at hf
              obtain ⟨e, rfl⟩ := hf
              exact el_ok _ y hy e.symm
            · cases hf
          · rename_i cx
            rw [Bool.and_eq_true] at hi
            rw [if_neg (nopF hi.1)] at hf
            refine ihc.b .no (ctG Γ scope (G.k + 1) qn) cx hcG hi.2 δ2 L2' _ ?_
            split at hf
            · rename_i L4 hcv
              rw [hcv]
              split at hf
              · rename_i y L5 hy
                simp only [Option.some.injEq, Prod.mk.injEq] at hf
                obtain ⟨e, rfl⟩ := hf
                exact ⟨true, rfl, fun h => (by cases h), fun _ => el_ok _ y hy e.symm⟩
              · cases hf
            · rename_i L4 hcv
              rw [hcv]
              simp only [Option.some.injEq, Prod.mk.injEq] at hf
              obtain ⟨e, rfl⟩ := hf
              exact ⟨false, rfl, fun _ => keyN e.symm, fun h => (by cases h)⟩
            · cases hf
          · cases hi
    · exact h.elim
  · rintro a L' ⟨c, hj, h⟩
    rw [List.drop_length] at h
    simp only [gnL] at h
    split at h
    · exact hfn a c L' hj h
    · exact h.elim
theorem gen_iter {kd : Gk} {own : List Nat} {tg it cd el : T} {Γ : Ct} {δ : Ds} {L : Mu} {Q : D → Mu → Prop} (q : WE G Γ δ (ev G.P G.call (.gen kd own tg it cd el) δ L) Q) :
    WE G Γ δ (ev G.P G.call it δ L) fun d L1 => ∃ ds g, itO L1 d = some (ds, g) ∧ okR' (gnL (stands ds g) (lcf G.P G.call own tg cd el δ) kd 0 ds L1) Q := by
  rw [ev_gen] at q
  refine WE.mono q.eb fun d L1 q1 => ?_
  split at q1
  · exact q1.elim
  · rename_i ds g hi
    exact ⟨ds, g, hi, gnL_ok q1⟩
theorem inL_ok {i : Int} (h : inL i = true) : InLong i := by
  unfold inL at h
  simp only [Bool.and_eq_true, decide_eq_true_eq] at h
  exact h
theorem fold_ok {e : Expr} (h1 : notLs e = true) (h2 : notSet e = true) (env : Env) (x : Value) : genFold e env x = pure x := by
  unfold genFold
  split
  · cases h1
  · exact fsi_ok h2 env x
theorem ok_gen (Hf : Lk G) (kd : Gk) (own : List Nat) (tg it cd el : T) (ihi : Ok1 G it) (ihc : Ok1 G cd) (ihe : Ok1 G el) : Ok1 G (.gen kd own tg it cd el) := by
  refine Ok1.val (fun lam Γ e hc h δ L Q q => ?_) (by intro C N lam ns e h; simp only [okE, Bool.and_eq_true] at h; cases e <;> first | rfl | cases h.2) (fun _ _ _ _ _ => by simp [okA]) (fun _ _ _ _ _ => by simp [okR])
  simp only [okE] at h
  rw [Bool.and_eq_true] at h
  obtain ⟨hl, h⟩ := h
  split at h
  · rename_i x p elt tg' iter ifs scope gpos pos
    simp only [Bool.and_eq_true, beq_iff_eq, Bool.not_eq_true'] at h
    obtain ⟨h1, h2, h3, h4, h5, h6, h7, h8, h9, h10, h11, h12, h13, h14, h15⟩ := h
    obtain ⟨hlv, c, P, hcp, hT⟩ := hc.gn (beq_iff_eq.mp hl)
    have hcell : ∀ y ∈ scope.names, y.2 ≠ .cell := fun y hy e => by
      have := List.all_eq_true.mp h8 y hy
      rw [e] at this
      cases this
    have O : GOk Γ (G.k + 1) scope := ⟨⟨c, P, hcp, hT⟩, by omega, hc.calm, h5, h6, h7, hcell, h9⟩
    haveI := kd_gl h3
    haveI := blk_of h4
    have hbn := Hf.bi x (List.contains_iff_mem.mp h2)
    have hbn : ∃ u, Bn Γ.mg x u := by
      have e : Γ.mg = G.W.mg := congrArg Wd.mg hc.W
      rw [e]; exact hbn
    have q := gen_iter q
    subst h1
    cases kd with
    | any =>
      haveI : Kd Γ.sc.names ("any" : Str) .globalImplicit := kd_gl h3
      refine be_anyG hbn O (fun env v => fold_ok h10 h11 env v) (iter_ok ihi hc h12 (WE.mono q fun d L1 ⟨ds, g, hi, hq⟩ => ⟨ds, g, hi, gni_ok (Jr := fun _ _ => True) ihc ihe hc.W h13 h14 h15 trivial (fun a c y L Nx _ ⟨r, hr, hm⟩ => ?_) (fun _ => ⟨(), trivial⟩) (fun a c L _ f => f) hq⟩))
      cases y with
      | bl b =>
        refine ⟨b, rfl, ?_⟩
        cases b with
        | true => cases hr; exact hm
        | false => cases hr; exact hm () trivial
      | _ => cases hr
    | all =>
      haveI : Kd Γ.sc.names ("all" : Str) .globalImplicit := kd_gl h3
      refine be_allG hbn (by decide +kernel) O (fun env v => fold_ok h10 h11 env v) (iter_ok ihi hc h12 (WE.mono q fun d L1 ⟨ds, g, hi, hq⟩ => ⟨ds, g, hi, gni_ok (Jr := fun _ _ => True) ihc ihe hc.W h13 h14 h15 trivial (fun a c y L Nx _ ⟨r, hr, hm⟩ => ?_) (fun _ => ⟨(), trivial⟩) (fun a c L _ f => f) hq⟩))
      cases y with
      | bl b =>
        refine ⟨b, rfl, ?_⟩
        cases b with
        | true => cases hr; exact hm () trivial
        | false => cases hr; exact hm
      | _ => cases hr
    | sum =>
      haveI : Kd Γ.sc.names ("sum" : Str) .globalImplicit := kd_gl h3
      refine be_sumG hbn (by decide +kernel) O (fun env v => fold_ok h10 h11 env v) (iter_ok ihi hc h12 (WE.mono q fun d L1 ⟨ds, g, hi, hq⟩ => ⟨ds, g, hi, gni_ok (Jr := fun a c => a = c) ihc ihe hc.W h13 h14 h15 rfl (fun a c y L Nx ha ⟨r, hr, hm⟩ => ?_) (fun c2 => ⟨c2, rfl⟩) (fun a c L e f => by subst e; exact f) hq⟩))
      subst ha
      cases y with
      | bl b =>
        simp only [gkS] at hr
        by_cases hin : inL (a + if b = true then 1 else 0) = true
        · rw [if_pos hin] at hr
          obtain rfl := Option.some.inj hr
          exact ⟨_, .inr ⟨b, rfl, rfl⟩, (by cases b <;> (constructor <;> decide)), inL_ok hin, hm _ rfl⟩
        · rw [if_neg hin] at hr
          cases hr
      | int j =>
        simp only [gkS] at hr
        by_cases hin : (inL j && inL (a + j)) = true
        · rw [if_pos hin] at hr
          obtain rfl := Option.some.inj hr
          rw [Bool.and_eq_true] at hin
          exact ⟨j, .inl rfl, inL_ok hin.1, inL_ok hin.2, hm _ rfl⟩
        · rw [if_neg hin] at hr
          cases hr
      | _ => cases hr
  · cases h
theorem expr_ok (Hf : Lk G) (t : T) : Ok1 G t := by
  induction t with
  | loc i => exact ok_loc i
  | non => exact ok_non
  | bl b => exact ok_bl b
  | int i => exact ok_int i
  | str x => exact ok_str x
  | glb g => exact ok_glb Hf g
  | bin op a b iha ihb => exact ok_bin op a b iha ihb
  | binM op a b iha ihb => exact ok_binM op a b iha ihb
  | neg a iha => exact ok_neg a iha
  | cmp op a b iha ihb => exact ok_cmp op a b iha ihb
  | chn op op' a b c iha ihb ihc => exact ok_chn op op' a b c iha ihb ihc
  | and a b iha ihb => exact ok_and a b iha ihb
  | or a b iha ihb => exact ok_or a b iha ihb
  | not a iha => exact ok_not a iha
  | ite c a b ihc iha ihb => exact ok_ite c a b ihc iha ihb
  | nil => exact ok_nil
  | cons a b iha ihb => exact ok_cons a b iha ihb
  | tup es ih => exact ok_tup es ih
  | lst m es ih => exact ok_lst m es ih
  | ix a b iha ihb => exact ok_ix a b iha ihb
  | sl a lo hi iha ihl ihh => exact ok_sl a lo hi iha ihl ihh
  | nop => exact ok_nop
  | call f es ih => exact ok_call Hf f es ih
  | mk c es ih => exact ok_mk Hf c es ih
  | meth m o es iho ih => exact ok_meth Hf m o es iho ih
  | fld f o iho => exact ok_fld Hf f o iho
  | bi b m es ih => exact ok_bi Hf b m es ih
  | bm b o e iho ihe => exact ok_bm b o e iho ihe
  | rng a b c iha ihb ihc => exact ok_rng Hf a b c iha ihb ihc
  | lrg tp a b c iha ihb ihc => exact ok_lrg Hf tp a b c iha ihb ihc
  | lc m own tg it cd e iht ihi ihc ihe => exact ok_lc m own tg it cd e ihi ihc ihe
  | itr k es ih => exact ok_itr Hf k es ih
  | lrm a ih => exact ok_lrm Hf a ih
  | pop0 o ih => exact ok_pop0 o ih
  | told f e ih => exact ok_told Hf f e ih
  | gen kd own tg it cd e iht ihi ihc ihe => exact ok_gen Hf kd own tg it cd e ihi ihc ihe
end Ac
end
section
/-! Ev16: statements. -/
namespace Ac
open PySem PySem.Spec PyProof.Rows L2

/-! ### stores -/
def notNm : Expr → Bool
  | .Name .. => false
  | _ => true
def capB (ns : Ns) (x : Str) : Bool := match ns.lookup x with
  | some .local => false
  | some _ => true
  | none => false
def oddT (ns : Ns) : Expr → Bool
  | .Name x _ => capB ns x
  | _ => true
def lcB (ns : Ns) (x : Str) : Bool := ns.lookup x == some .local
def parB (ns : Ns) (ts vs : List Expr) : Bool := match ts, vs with
  | [.Name x px, .Name y py], [a, b] => lcB ns x && lcB ns y && x != y && py.line == px.line && noSt a && noSt b && !(foldedForSure 8 a && foldedForSure 8 b) && !(constantsAlone 8 a && constantsAlone 8 b)
  | [.Name x px, .Name y py, .Name z pz], [a, b, c] => lcB ns x && lcB ns y && lcB ns z && x != y && x != z && y != z && py.line == px.line && pz.line == px.line && noSt a && noSt b && noSt c && !(foldedForSure 8 a && (foldedForSure 8 b && foldedForSure 8 c)) && !(constantsAlone 8 a && (constantsAlone 8 b && constantsAlone 8 c))
  | _, _ => false
def noneB (ns : Ns) (ts vs : List Expr) : Bool := !(ts.length == 2 || ts.length == 3) || vs.all (foldedForSure 8) || ts.any (oddT ns)
/-- y = [..] by the comprehension's own way -/
def lcwB (ns : Ns) (x : Str) (px : Pos) (scope : Scope) (pos : Pos) : Bool := lcB ns x && (px.line == pos.line) && !(scope.names.any fun (n, k) => n == x && (k == .local || k == .cell))
theorem sw_len {ts vs : List Expr} {a b : Nat} {p q : Pos} {env : Env} (h : (ts.length == 2 || ts.length == 3) = false) : swappedStores [.Tuple ts a p] (.Tuple vs b q) env = pure none := by
  unfold swappedStores
  simp only []
  rw [if_pos (by rw [h]; rfl)]
theorem sw_odd {ts vs : List Expr} {a b : Nat} {p q : Pos} {env : Env} {t : Expr} (hm : t ∈ ts) (ht : notNm t = true) : swappedStores [.Tuple ts a p] (.Tuple vs b q) env = pure none := by
  unfold swappedStores
  simp only []
  split
  · rfl
  · split
    · rfl
    · refine if_pos ?_
      rw [Bool.or_eq_true]
      refine .inl (bne_iff_ne.mpr (Nat.ne_of_lt (fm_lt hm ?_)))
      cases t <;> first | rfl | cases ht
theorem swN {e t : Expr} (h : notNm t = true) (l : Nat) (env : Env) : swapsWith e (some t) l env = pure false := by
  cases e <;> first | rfl | (cases t <;> first | rfl | cases h)
theorem swLc {elt : Expr} {gs : List Comprehension} {scope : Scope} {pos : Pos} {x : Str} {px : Pos} {l : Nat} {env : Env} (h : (env.kindOf x == some .local) = false ∨ (px.line == pos.line) = false ∨ (scope.names.any fun (n, k) => n == x && (k == .local || k == .cell)) = true) :
    swapsWith (.ListComp elt gs scope pos) (some (.Name x px)) l env = pure false := by
  have e : swapsWith (.ListComp elt gs scope pos) (some (.Name x px)) l env = pure (env.blockKind == .function && env.kindOf x == some .local && px.line == pos.line && !(scope.names.any fun (n, k) => n == x && (k == .local || k == .cell))) := rfl
  rw [e]
  rcases h with h | h | h
  · rw [h]; simp
  · rw [h]; simp
  · rw [h]; simp
section
variable {Γ : Ct} {δ : Ds} {L : Mu} {A : AEnds} {pos : Pos} {e tg : Expr}
theorem bs_asgX (h : BE Γ e δ L fun d L1 => BG Γ tg d δ L1 A.nx) (hs : ∀ X R0, Fits Γ X R0 → swapsWithSole [tg] e pos.line X.env = pure false) (hw : ∀ X R0, Fits Γ X R0 → swappedStores [tg] e X.env = pure none) (h1 : noSt tg = true) : BS Γ (.Assign [tg] e pos) δ L A := fun X R0 F R σ H l Ar S E g =>
  PS_w (ps_asg peW pgW (hs X R0 F) (hw X R0 F) (ae_one h1 _)) (h X R0 F R σ H l Ar S _ fun v d R1 H1 L1 l1 A1 r1 q1 => q1 X R0 F R1 σ H1 v (l.trans l1) A1 (S.le l1) r1 _ (g.nx.le l1))
theorem capB_k {ns : Ns} {x : Str} (h : capB ns x = true) : ∃ k, (x, k) ∈ ns ∧ k ≠ .local := by
  unfold capB at h
  split at h
  · cases h
  · rename_i k hk hn
    exact ⟨k, look_mem hn, fun e => hk e⟩
  · cases h
theorem none_ok {ts vs : List Expr} {a b : Nat} {p q : Pos} (h : noneB Γ.sc.names ts vs = true) (X : Cx) (R0 : Rw) (F : Fits Γ X R0) : swappedStores [.Tuple ts a p] (.Tuple vs b q) X.env = pure none := by
  unfold noneB at h
  rw [Bool.or_eq_true, Bool.or_eq_true] at h
  rcases h with (h | h) | h
  · exact sw_len (by rw [Bool.not_eq_true'] at h; exact h)
  · exact sw_fold h
  · obtain ⟨t, ht, ho⟩ := List.any_eq_true.mp h
    cases hn : notNm t with
    | true => exact sw_odd ht hn
    | false =>
      cases t <;> first | (cases hn; done) | skip
      obtain ⟨k, m, nk⟩ := capB_k (show capB Γ.sc.names _ = true from ho)
      obtain ⟨k', e', n'⟩ := F.ncl _ k m nk
      exact sw_cell ht e' n'
end
/-! ### targets -/
section
variable (C : Nm) (N : List Str)
def okT (lam : Fl) : T → Ns → Expr → Bool
  | .loc i, ns, e => match e with
    | .Name x _ => (N[i]? == some x) && locB ns x
    | _ => false
  | .tup es, ns, e => match e with
    | .Tuple xs _ _ => okTs es ns xs
    | _ => false
  | .ix o i, ns, e => match e with
    | .Subscript x y _ => notSl y && okE C N lam o ns x && okE C N lam i ns y
    | _ => false
  | _, _, _ => false
where okTs : T → Ns → List Expr → Bool
  | .nil, _, [] => true
  | .cons a b, ns, x :: xs => noSt x && okT lam a ns x && okTs b ns xs
  | _, _, _ => false
end
def WG (G : Glo) (Γ : Ct) (r : RG) (Q : Ds → Mu → Prop) : Prop := match r with
  | .ok δ L => Q δ L
  | .ex c p δ L => Γ.EX (.ref (G.xa c)) p δ L
  | .no => False
def WS (G : Glo) (Γ : Ct) (r : RT) (A : AEnds) : Prop := match r with
  | .nx δ L => A.nx δ L
  | .rt d L => A.rt d L
  | .bk δ L => A.bk δ L
  | .ct δ L => A.ct δ L
  | .ex c p δ L => Γ.EX (.ref (G.xa c)) p δ L
  | .no => False
section
variable {G : Glo} {Γ : Ct} {δ : Ds} {Q Q' : Ds → Mu → Prop} {A : AEnds} {r : RE}
theorem WG.mono {r : RG} (h : WG G Γ r Q) (m : ∀ δ L, Q δ L → Q' δ L) : WG G Γ r Q' := by
  cases r with
  | ok δ L => exact m _ _ h
  | ex c p δ L => exact h
  | no => exact h
theorem WG.gE {f : D → Mu → RG} (h : WG G Γ (gE δ r f) Q) : WE G Γ δ r fun d L => WG G Γ (f d L) Q := by
  cases r <;> exact h
theorem WG.gq {r : RG} {f : Ds → Mu → RG} (h : WG G Γ (gq r f) Q) : WG G Γ r fun δ L => WG G Γ (f δ L) Q := by
  cases r <;> exact h
theorem WS.sG {r : RG} {f : Ds → Mu → RT} (h : WS G Γ (sG r f) A) : WG G Γ r fun δ L => WS G Γ (f δ L) A := by
  cases r <;> exact h
theorem WS.sE {f : D → Mu → RT} (h : WS G Γ (sE δ r f) A) : WE G Γ δ r fun d L => WS G Γ (f d L) A := by
  cases r <;> exact h
theorem WS.sB {f : Bool → Mu → RT} (h : WS G Γ (sB δ r f) A) : WE G Γ δ r fun d L => ∃ k, d = .bl k ∧ WS G Γ (f k L) A := by
  cases r with
  | ok d L => cases d <;> first | exact ⟨_, rfl, h⟩ | exact h.elim
  | ex c p L => exact h
  | no => exact h
theorem WS.sq {r : RT} {f : Ds → Mu → RT} (h : WS G Γ (sq r f) A) : WS G Γ r { A with nx := fun δ L => WS G Γ (f δ L) A } := by
  cases r <;> exact h
theorem WS.gd {b : Bool} {r : RT} (h : WS G Γ (gdS b r) A) : b = true ∧ WS G Γ r A := by
  unfold gdS at h
  cases b with
  | true => exact ⟨rfl, h⟩
  | false => exact h.elim
theorem BG.mono {tg : Expr} {d : D} {L : Mu} (h : BG Γ tg d δ L Q) (m : ∀ δ' L', Q δ' L' → Q' δ' L') : BG Γ tg d δ L Q' := fun X R0 F R σ H v l A S r QV g =>
  h X R0 F R σ H v l A S r QV fun σ2 δ2 R' H' L' l' A' S' q => g σ2 δ2 R' H' L' l' A' S' (m _ _ q)
end
theorem asg_eq {o i : Expr} (h : notSl i = true) (pos : Pos) (env : Env) (v : Value) : assign (.Subscript o i pos) env v = (do
      let ov ← holding [v] (eval o env)
      let iv ← holding [v, ov] (eval i env)
      standAt pos
      holding [v, ov, iv] (setItem ov iv v)
      release [v, ov, iv] []) := by
  conv => lhs; unfold assign
  cases i <;> first | rfl | cases h
variable {G : Glo}
theorem okTs_st {C : Nm} {N : List Str} {lam : Fl} {ns : Ns} : ∀ {t : T} {es : List Expr}, okT.okTs C N lam t ns es = true → es.all noSt = true := by
  intro t
  induction t with
  | nil => intro es h; cases es <;> first | rfl | (simp [okT.okTs] at h; done)
  | cons a b iha ihb =>
    intro es h
    cases es <;> first | (simp [okT.okTs] at h; done) | skip
    simp only [okT.okTs, Bool.and_eq_true] at h
    rw [List.all_cons, h.1.1, ihb h.2]; rfl
  | _ => intro es h; simp [okT.okTs] at h
theorem okTs_len {C : Nm} {N : List Str} {lam : Fl} {ns : Ns} : ∀ {t : T} {es : List Expr}, okT.okTs C N lam t ns es = true → lenT t = es.length := by
  intro t
  induction t with
  | nil => intro es h; cases es <;> first | rfl | (simp [okT.okTs] at h; done)
  | cons a b iha ihb =>
    intro es h
    cases es <;> first | (simp [okT.okTs] at h; done) | skip
    simp only [okT.okTs, Bool.and_eq_true] at h
    simp only [lenT, List.length_cons, ihb h.2]
  | _ => intro es h; simp [okT.okTs] at h
theorem asg_ok (Hf : Lk G) {lam : Fl} {Γ : Ct} (hc : Cxt G lam Γ) (tg : T) : (∀ e, okT G.C Γ.N lam tg Γ.sc.names e = true → ∀ (d : D) (δ : Ds) (L : Mu) (Q : Ds → Mu → Prop), WG G Γ (asg G.P G.call tg d δ L) Q → BG Γ e d δ L Q) ∧
    (∀ es, okT.okTs G.C Γ.N lam tg Γ.sc.names es = true → ∀ (ds : List D) (δ : Ds) (L : Mu) (Q : Ds → Mu → Prop), lenT tg = ds.length → WG G Γ (asg.asgs G.P G.call tg ds δ L) Q → BGs Γ es ds δ L Q) := by
  induction tg with
  | loc i =>
    refine ⟨fun e h d δ L Q q => ?_, fun es h => by simp [okT.okTs] at h⟩
    simp only [okT] at h
    cases e <;> first | (cases h; done) | skip
    simp only [Bool.and_eq_true] at h
    simp only [asg] at q
    obtain ⟨h1, h2⟩ := h
    unfold locB at h2
    split at h2
    · rename_i k hk
      haveI := ix_of h1
      haveI := kd_of hk
      exact bg_name q h2
    · cases h2
  | tup es ih =>
    refine ⟨fun e h d δ L Q q => ?_, fun es h => by simp [okT.okTs] at h⟩
    simp only [okT] at h
    cases e <;> first | (cases h; done) | skip
    cases d <;> first | (simp only [asg] at q; exact q.elim) | skip
    simp only [asg] at q
    split at q
    · rename_i hl
      exact bg_tup (ih.2 _ h _ _ _ _ hl q) hc.calm (fun env => by rw [ae_len, ← hl, okTs_len h]) (fun env => ae_st (okTs_st h) env)
    · exact q.elim
  | ix o i iho ihi =>
    refine ⟨fun e h d δ L Q q => ?_, fun es h => by simp [okT.okTs] at h⟩
    simp only [okT] at h
    cases e <;> first | (cases h; done) | skip
    simp only [Bool.and_eq_true] at h
    simp only [asg] at q
    refine bg_ixA (BE.mono ((expr_ok Hf o).e lam Γ _ hc h.1.2 δ L _ q.gE) fun d1 L1 q1 => BE.mono ((expr_ok Hf i).e lam Γ _ hc h.2 δ L1 _ (WG.gE q1)) fun y L2 q2 => ?_) (fun env v => asg_eq h.1.1 _ env v)
    unfold stG at q2
    split at q2
    · rename_i L3 he
      exact ⟨L3, he, q2⟩
    · exact q2.elim
  | nil =>
    refine ⟨fun e h => by simp [okT] at h, fun es h ds δ L Q hl q => ?_⟩
    cases es <;> first | (simp [okT.okTs] at h; done) | skip
    cases ds <;> first | (simp only [asg.asgs] at q; exact q.elim) | skip
    simp only [asg.asgs] at q
    exact bgs_nil q
  | cons a b iha ihb =>
    refine ⟨fun e h => by simp [okT] at h, fun es h ds δ L Q hl q => ?_⟩
    cases es <;> first | (simp [okT.okTs] at h; done) | skip
    cases ds <;> first | (simp only [asg.asgs] at q; exact q.elim) | skip
    simp only [okT.okTs, Bool.and_eq_true] at h
    simp only [asg.asgs] at q
    simp only [lenT, List.length_cons, Nat.add_right_cancel_iff] at hl
    exact bgs_cons (BG.mono (iha.1 _ h.1.2 _ _ _ _ q.gq) fun δ2 L2 q2 => ihb.2 _ h.2 _ _ _ _ hl q2) (fun env => ae_cons h.1.1 _ env)
  | _ => exact ⟨fun e h => by simp [okT] at h, fun es h => by simp [okT.okTs] at h⟩
end Ac
end
section
/-! Ev17: the terms of statements are sound. -/
namespace Ac
open PySem PySem.Spec PyProof.Rows L2
section
variable (C : Nm) (N : List Str)
/-- a store of a value -/
def okAs (lam : Fl) (tg e : T) (ns : Ns) (t v : Expr) : Bool := match v with
  | .ListComp _ [⟨_, _, _, 0⟩] scope pos => okE C N lam e ns v && (match t with
    | .Name x px => lcwB ns x px scope pos || capB ns x || !(px.line == pos.line) || (scope.names.any fun (n, k) => n == x && (k == .local || k == .cell))
    | _ => true)
  | .Tuple vs _ _ => okE C N lam e ns v && (match t with
    | .Tuple ts _ _ => parB ns ts vs || noneB ns ts vs
    | _ => notTs t)
  | _ => okE C N lam e ns v && notLc v && (notTs v || notTs t)
mutual
def okS (lam : Fl) : S → Ns → Stmt → Bool
  | .skip, _, st => match st with
    | .Pass _ => true
    | .Expr (.Constant (.str _) _ _) _ => true
    | _ => false
  | .ex e, ns, st => match st with
    | .Expr v _ => notLc v && okE C N lam e ns v
    | _ => false
  | .asg tg e, ns, st => match st with
    | .Assign [t] v _ => (match tg with
      | .fld f o => (match t with
        | .Attribute ob x _ => (C.att[f]? == some x) && okE C N lam o ns ob && okE C N lam e ns v
        | _ => false)
      | tg => noSt t && okT C N lam tg ns t && okAs C N lam tg e ns t v)
    | _ => false
  | .aug op tg e, ns, st => match st with
    | .AugAssign t op' v _ => op == op' && okE C N lam e ns v && (match tg with
      | .loc i => (match t with
        | .Name x _ => (N[i]? == some x) && locB ns x
        | _ => false)
      | .fld f o => (match t with
        | .Attribute ob x _ => (C.att[f]? == some x) && okE C N lam o ns ob
        | _ => false)
      | .ix o i => (match t with
        | .Subscript x y _ => notSl y && (okE C N lam o ns x && okE C N lam i ns y)
        | _ => false)
      | _ => false)
    | _ => false
  | .ret e, ns, st => match st with
    | .Return (some v) _ => okE C N lam e ns v
    | _ => false
  | .retN, _, st => match st with
    | .Return none _ => true
    | _ => false
  | .ifs c a b, ns, st => match st with
    | .If t x y _ => okE C N lam c ns t && okB lam a ns x && okB lam b ns y
    | _ => false
  | .for_ tg it b, ns, st => match st with
    | .For t i x [] _ => notSet i && okT C N lam tg ns t && ((okE C N lam it ns i || okR C N lam it ns i) && itT it t) && okB lam b ns x
    | _ => false
  | .whl c b, ns, st => match st with
    | .While t x [] _ => okE C N lam c ns t && okB lam b ns x
    | _ => false
  | .brk, _, st => match st with
    | .Break _ => true
    | _ => false
  | .cnt, _, st => match st with
    | .Continue _ => true
    | _ => false
  | .rse c e, ns, st => match st with
    | .Raise (some (.Call (.Name x _) [v] [] _)) none _ => (C.exn[c]? == some (some x)) && glB ns x && noSt v && okE C N lam e ns v
    | _ => false
  | _, _, _ => false
def okB (lam : Fl) : S → Ns → List Stmt → Bool
  | .nil, _, ss => ss.isEmpty
  | .seq a b, ns, ss => match ss with
    | s :: r => okS lam a ns s && okB lam b ns r
    | [] => false
  | _, _, _ => false
end
end
structure Ok2 (G : Glo) (s : S) : Prop where
  st : ∀ lam Γ st, Cxt G lam Γ → okS G.C Γ.N lam s Γ.sc.names st = true → ∀ δ L A, WS G Γ (sv G.P G.call s δ L) A → BS Γ st δ L A
  bl : ∀ lam Γ ss, Cxt G lam Γ → okB G.C Γ.N lam s Γ.sc.names ss = true → ∀ δ L A, WS G Γ (sv G.P G.call s δ L) A → BSs Γ ss δ L A
variable {G : Glo}
theorem Ok2.one {s : S} (h : ∀ lam Γ st, Cxt G lam Γ → okS G.C Γ.N lam s Γ.sc.names st = true → ∀ δ L A, WS G Γ (sv G.P G.call s δ L) A → BS Γ st δ L A) (hb : ∀ C N lam ns ss, okB C N lam s ns ss = false) : Ok2 G s :=
  ⟨h, fun lam Γ ss hc h => absurd h (by rw [hb]; decide)⟩
theorem st_skip : Ok2 G .skip := by
  refine Ok2.one (fun lam Γ st hc h δ L A q => ?_) (fun _ _ _ _ _ => by simp [okB])
  simp only [okS] at h
  split at h
  · exact bs_pass q
  · exact bs_doc q
  · cases h
theorem st_ex (Hf : Lk G) (e : T) : Ok2 G (.ex e) := by
  refine Ok2.one (fun lam Γ st hc h δ L A q => ?_) (fun _ _ _ _ _ => by simp [okB])
  simp only [okS] at h
  split at h
  · rw [Bool.and_eq_true] at h
    simp only [sv] at q
    exact bs_expr ((expr_ok Hf e).e lam Γ _ hc h.2 δ L _ q.sE) (fun env => swW h.1 _ _ _)
  · cases h
theorem lcB_k {ns : Ns} {x : Str} (h : lcB ns x = true) : Kd ns x .local := kd_of (beq_iff_eq.mp h)
theorem isSt_of {e : Expr} (h : noSt e = true) : isStar e = false := by cases e <;> first | rfl | cases h
theorem ix_inj {N : List Str} {x y : Str} {i j : Nat} (hi : (N[i]? == some x) = true) (hj : (N[j]? == some y) = true) (h : (x != y) = true) : i ≠ j := fun e => by
  subst e
  rw [beq_iff_eq.mp hi] at hj
  have := beq_iff_eq.mp hj
  cases this
  simp at h
theorem swSN {e t : Expr} (h : notNm t = true) (l : Nat) (env : Env) : swapsWithSole [t] e l env = pure false := swN h l env
/-- stores of a tuple's parts -/
theorem par_ok (Hf : Lk G) {lam : Fl} {Γ : Ct} (hc : Cxt G lam Γ) {tg e : T} {ts vs : List Expr} {kt k2 : Nat} {pt pt2 pos : Pos} {δ : Ds} {L : Mu} {A : AEnds} (ht : okT G.C Γ.N lam tg Γ.sc.names (.Tuple ts kt pt) = true) (he : okE G.C Γ.N lam e Γ.sc.names (.Tuple vs k2 pt2) = true) (hp : parB Γ.sc.names ts vs = true)
    (q : WE G Γ δ (ev G.P G.call e δ L) fun d L1 => WS G Γ (sG (asg G.P G.call tg d δ L1) fun δ L => .nx δ L) A) : BS Γ (.Assign [.Tuple ts kt pt] (.Tuple vs k2 pt2) pos) δ L A := by
  cases tg <;> first | (simp [okT] at ht; done) | skip
  rename_i tes
  simp only [okT] at ht
  cases e <;> first | (simp [okE] at he; done) | skip
  rename_i ees
  simp only [okE] at he
  simp only [ev] at q
  have q1 := q.eA
  clear q
  unfold parB at hp
  split at hp
  · rename_i x px y py a b
    simp only [Bool.and_eq_true, Bool.not_eq_true', beq_iff_eq] at hp
    obtain ⟨⟨⟨⟨⟨⟨⟨h1, h2⟩, h3⟩, h4⟩, h5⟩, h6⟩, h7⟩, h8⟩ := hp
    cases tes <;> first | (simp [okT.okTs] at ht; done) | skip
    rename_i t1 r1
    simp only [okT.okTs, Bool.and_eq_true] at ht
    obtain ⟨⟨_, ht1⟩, ht⟩ := ht
    cases r1 <;> first | (simp [okT.okTs] at ht; done) | skip
    rename_i t2 r2
    simp only [okT.okTs, Bool.and_eq_true] at ht
    obtain ⟨⟨_, ht2⟩, ht⟩ := ht
    cases r2 <;> first | (simp [okT.okTs] at ht; done) | skip
    cases t1 <;> first | (simp [okT] at ht1; done) | skip
    cases t2 <;> first | (simp [okT] at ht2; done) | skip
    rename_i i j
    simp only [okT, Bool.and_eq_true] at ht1 ht2
    haveI := ix_of ht1.1
    haveI := ix_of ht2.1
    haveI := lcB_k h1
    haveI := lcB_k h2
    refine bs_par ((expr_ok Hf ees).al lam Γ _ hc he δ L _ (WE.mono q1 fun d L1 q2 => ?_)) (ix_inj ht1.1 ht2.1 h3) h4 (isSt_of h5) (isSt_of h6) h7 h8 hc.calm
    obtain ⟨ds, rfl, q2⟩ := q2
    refine ⟨ds, rfl, fun hl => ?_⟩
    obtain ⟨_, q2⟩ := WE.gd q2
    match ds, hl with
    | [d, e], _ =>
      refine ⟨d, e, rfl, ?_⟩
      have q3 := WS.sG (WE.ok (d := .tup [d, e]) q2)
      simp only [asg, asg.asgs, lenT, List.length_cons, List.length_nil, gq] at q3
      exact q3
  · rename_i x px y py z pz a b c
    simp only [Bool.and_eq_true, Bool.not_eq_true', beq_iff_eq] at hp
    obtain ⟨⟨⟨⟨⟨⟨⟨⟨⟨⟨⟨⟨h1, h2⟩, h2b⟩, h3⟩, h3b⟩, h3c⟩, h4⟩, h4b⟩, h5⟩, h6⟩, h6b⟩, h7⟩, h8⟩ := hp
    cases tes <;> first | (simp [okT.okTs] at ht; done) | skip
    rename_i t1 r1
    simp only [okT.okTs, Bool.and_eq_true] at ht
    obtain ⟨⟨_, ht1⟩, ht⟩ := ht
    cases r1 <;> first | (simp [okT.okTs] at ht; done) | skip
    rename_i t2 r2
    simp only [okT.okTs, Bool.and_eq_true] at ht
    obtain ⟨⟨_, ht2⟩, ht⟩ := ht
    cases r2 <;> first | (simp [okT.okTs] at ht; done) | skip
    rename_i t3 r3
    simp only [okT.okTs, Bool.and_eq_true] at ht
    obtain ⟨⟨_, ht3⟩, ht⟩ := ht
    cases r3 <;> first | (simp [okT.okTs] at ht; done) | skip
    cases t1 <;> first | (simp [okT] at ht1; done) | skip
    cases t2 <;> first | (simp [okT] at ht2; done) | skip
    cases t3 <;> first | (simp [okT] at ht3; done) | skip
    rename_i i j m
    simp only [okT, Bool.and_eq_true] at ht1 ht2 ht3
    haveI := ix_of ht1.1
    haveI := ix_of ht2.1
    haveI := ix_of ht3.1
    haveI := lcB_k h1
    haveI := lcB_k h2
    haveI := lcB_k h2b
    refine bs_par3 ((expr_ok Hf ees).al lam Γ _ hc he δ L _ (WE.mono q1 fun d L1 q2 => ?_)) (ix_inj ht1.1 ht2.1 h3) (ix_inj ht1.1 ht3.1 h3b) (ix_inj ht2.1 ht3.1 h3c) h4 h4b (isSt_of h5) (isSt_of h6) (isSt_of h6b) h7 h8 hc.calm
    obtain ⟨ds, rfl, q2⟩ := q2
    refine ⟨ds, rfl, fun hl => ?_⟩
    obtain ⟨_, q2⟩ := WE.gd q2
    match ds, hl with
    | [d, e, f], _ =>
      refine ⟨d, e, f, rfl, ?_⟩
      have q3 := WS.sG (WE.ok (d := .tup [d, e, f]) q2)
      simp only [asg, asg.asgs, lenT, List.length_cons, List.length_nil, gq] at q3
      exact q3
  · cases hp
theorem WSG_nx {Γ : Ct} {A : AEnds} {r : RG} (h : WS G Γ (sG r fun δ L => .nx δ L) A) : WG G Γ r A.nx := WG.mono h.sG fun δ L h => h
theorem as_ok (Hf : Lk G) {lam : Fl} {Γ : Ct} (hc : Cxt G lam Γ) {tg e : T} {t v : Expr} {pos : Pos} {δ : Ds} {L : Mu} {A : AEnds} (hs : noSt t = true) (ht : okT G.C Γ.N lam tg Γ.sc.names t = true) (ha : okAs G.C Γ.N lam tg e Γ.sc.names t v = true)
    (q : WE G Γ δ (ev G.P G.call e δ L) fun d L1 => WS G Γ (sG (asg G.P G.call tg d δ L1) fun δ L => .nx δ L) A) : BS Γ (.Assign [t] v pos) δ L A := by
  have gen : okE G.C Γ.N lam e Γ.sc.names v = true → (∀ X R0, Fits Γ X R0 → swapsWithSole [t] v pos.line X.env = pure false) → (∀ X R0, Fits Γ X R0 → swappedStores [t] v X.env = pure none) → BS Γ (.Assign [t] v pos) δ L A := fun he h1 h2 =>
    bs_asgX (BE.mono ((expr_ok Hf e).e lam Γ v hc he δ L _ q) fun d L1 q1 => (asg_ok Hf hc tg).1 t ht d δ L1 _ (WSG_nx q1)) h1 h2 hs
  unfold okAs at ha
  split at ha
  · rename_i elt tg' iter ifs scope lpos
    rw [Bool.and_eq_true] at ha
    obtain ⟨he, ha⟩ := ha
    split at ha
    · rename_i x px
      by_cases hw : lcwB Γ.sc.names x px scope lpos = true
      · unfold lcwB at hw
        simp only [Bool.and_eq_true, Bool.not_eq_true'] at hw
        obtain ⟨⟨w1, w2⟩, w3⟩ := hw
        cases tg <;> first | (simp [okT] at ht; done) | skip
        rename_i i
        simp only [okT, Bool.and_eq_true] at ht
        cases e <;> first | (simp [okE] at he; done) | skip
        rename_i m own tg2 it cd el
        simp only [okE, Bool.and_eq_true, beq_iff_eq] at he
        obtain ⟨⟨⟨⟨⟨⟨⟨h1, h2⟩, h3⟩, h4⟩, h5⟩, h6⟩, h7⟩, h8⟩ := he
        haveI := blk_of h1
        haveI := ix_of ht.1
        haveI := lcB_k w1
        have q := lc_iter q
        cases m with
        | false =>
          refine bs_setLc (iter_ok (expr_ok Hf it) hc h5 (WE.mono q fun d L1 ⟨ds, g, hi, hz, ys, L2, hl, q⟩ => ⟨ds, g, hi, lci_ok (expr_ok Hf cd) (expr_ok Hf el) hc h6 h7 h8 hz ⟨ys, L2, hl, ?_⟩⟩)) hc.calm h2 h3 (fun env x => fsi_ok h4 env x) w2 w3
          exact q
        | true =>
          refine bs_setLcM (iter_ok (expr_ok Hf it) hc h5 (WE.mono q fun d L1 ⟨ds, g, hi, hz, ys, L2, hl, q⟩ => ⟨ds, g, hi, lci_ok (expr_ok Hf cd) (expr_ok Hf el) hc h6 h7 h8 hz ⟨ys, L2, hl, ?_⟩⟩)) hc.calm h2 h3 (fun env x => fsi_ok h4 env x) w2 w3
          exact q
      · refine gen he (fun X R0 F => ?_) (fun X R0 F => ss_val rfl _ _)
        refine swLc (l := pos.line) (env := X.env) ?_
        simp only [Bool.or_eq_true, Bool.not_eq_true'] at ha
        rcases ha with ((ha | ha) | ha) | ha
        · exact absurd ha hw
        · obtain ⟨k, m, nk⟩ := capB_k ha
          obtain ⟨k', e', n'⟩ := F.ncl _ k m nk
          left
          show (X.env.scope.names.lookup x == some NameKind.local) = false
          rw [e']
          exact beq_eq_false_iff_ne.mpr fun z => n' (Option.some.inj z)
        · exact .inr (.inl ha)
        · exact .inr (.inr ha)
    · rename_i hn
      refine gen he (fun X R0 F => swSN ?_ _ _) (fun X R0 F => ss_val rfl _ _)
      cases t <;> first | rfl | exact absurd rfl (hn _ _)
  · rename_i vs k2 pt2
    rw [Bool.and_eq_true] at ha
    obtain ⟨he, ha⟩ := ha
    split at ha
    · rename_i ts kt pt
      rw [Bool.or_eq_true] at ha
      rcases ha with ha | ha
      · exact par_ok Hf hc ht he ha q
      · exact gen he (fun X R0 F => swSN rfl _ _) (fun X R0 F => none_ok ha X R0 F)
    · exact gen he (fun X R0 F => swS rfl _ _ _) (fun X R0 F => ss_tgt ha _ _)
  · simp only [Bool.and_eq_true] at ha
    exact gen ha.1.1 (fun X R0 F => swS ha.1.2 _ _ _) (fun X R0 F => (Bool.or_eq_true_iff.mp ha.2).elim (fun h => ss_val h _ _) fun h => ss_tgt h _ _)
end Ac
end
section
/-! Ev18: the terms of statements are sound: all of them. -/
namespace Ac
open PySem PySem.Spec PyProof.Rows L2
variable {G : Glo}
theorem st_asg (Hf : Lk G) (tg e : T) : Ok2 G (.asg tg e) := by
  refine Ok2.one (fun lam Γ st hc h δ L A q => ?_) (fun _ _ _ _ _ => by simp [okB])
  simp only [okS] at h
  split at h
  · rename_i t v pos
    simp only [sv] at q
    replace q := q.sE
    split at h
    · rename_i f o
      split at h
      · rename_i ob x apos
        simp only [Bool.and_eq_true] at h
        obtain ⟨⟨h1, h2⟩, h3⟩ := h
        refine bs_fld (BE.mono ((expr_ok Hf e).e lam Γ _ hc h3 δ L _ q) fun y L1 q1 => BE.mono ((expr_ok Hf o).e lam Γ _ hc h2 δ L1 _ (WS.sE q1)) fun d L2 q2 => ?_) (fun env => swN rfl _ _)
        replace q2 : WS G Γ (sfl G.P f y d δ L2) A := q2
        unfold sfl at q2
        split at q2
        · rename_i i
          split at q2
          · rename_i C xs hi
            split at q2
            · rename_i c hcd
              split at q2
              · rename_i j hj
                obtain ⟨hb, q2⟩ := WS.gd q2
                obtain ⟨k1, k2⟩ := Hf.cl C c hcd
                have k3 := k2 f j hj x (beq_iff_eq.mp h1)
                rw [← hc.W] at k1 k3
                exact ⟨i, C, j, xs, rfl, hi, k1, k3, of_decide_eq_true hb, q2⟩
              · exact q2.elim
            · exact q2.elim
          · exact q2.elim
        · exact q2.elim
      · cases h
    · rename_i tg' hn
      simp only [Bool.and_eq_true] at h
      refine as_ok Hf hc h.1.1 h.1.2 h.2 (WE.mono q fun d L1 q1 => ?_)
      split at q1
      · exact absurd rfl (hn _ _)
      · exact q1
  · cases h
theorem aug_eq {i : Expr} (h : notSl i = true) (x1 x2 new : Value) : augStore i x1 x2 new = (do holding [new, x1, x2] (setItem x1 x2 new); release [new, x1, x2] []; pure .next) := by
  unfold augStore
  cases i <;> first | rfl | cases h
theorem st_aug (Hf : Lk G) (op : Operator) (tg e : T) : Ok2 G (.aug op tg e) := by
  refine Ok2.one (fun lam Γ st hc h δ L A q => ?_) (fun _ _ _ _ _ => by simp [okB])
  simp only [okS] at h
  split at h
  · rename_i t op' v pos
    simp only [Bool.and_eq_true, beq_iff_eq] at h
    obtain ⟨⟨rfl, h0⟩, h⟩ := h
    simp only [sv, aug] at q
    split at h
    · rename_i i
      split at h
      · rename_i x px
        rw [Bool.and_eq_true] at h
        obtain ⟨h1, h2⟩ := h
        unfold locB at h2
        simp only at q
        split at q
        · rename_i d hd
          split at h2
          · rename_i k hk
            haveI := ix_of h1
            haveI := kd_of hk
            exact bs_aug hd (BE.mono ((expr_ok Hf e).e lam Γ _ hc h0 δ L _ q.sE) fun y L1 q1 => o2i_ok (G := G) (δ := δ) (WS.sE q1)) h2
          · cases h2
        · exact q.elim
      · cases h
    · rename_i f o
      split at h
      · rename_i ob x apos
        rw [Bool.and_eq_true] at h
        obtain ⟨h1, h2⟩ := h
        simp only at q
        refine bs_fldAug (BE.mono ((expr_ok Hf o).e lam Γ _ hc h2 δ L _ q.sE) fun d L1 q1 => ?_)
        replace q1 := q1
        split at q1
        · rename_i i
          split at q1
          · rename_i C xs hi
            split at q1
            · rename_i c hcd
              split at q1
              · rename_i j hj
                split at q1
                · rename_i z hz
                  obtain ⟨k1, k2⟩ := Hf.cl C c hcd
                  have k3 := k2 f j hj x (beq_iff_eq.mp h1)
                  rw [← hc.W] at k1 k3
                  refine ⟨i, C, j, xs, z, rfl, hi, k1, k3, hz, BE.mono ((expr_ok Hf e).e lam Γ _ hc h0 δ L1 _ (WS.sE q1)) fun y L2 q2 => o2i_ok (G := G) (δ := δ) (WE.mono (WS.sE q2) fun w L3 q3 => ?_)⟩
                  split at q3
                  · rename_i C' xs' hi'
                    obtain ⟨hb, q3⟩ := WS.gd q3
                    simp only [Bool.and_eq_true, beq_iff_eq, decide_eq_true_eq] at hb
                    obtain ⟨rfl, hb⟩ := hb
                    exact ⟨xs', hi', hb, q3⟩
                  · exact q3.elim
                · exact q1.elim
              · exact q1.elim
            · exact q1.elim
          · exact q1.elim
        · exact q1.elim
      · cases h
    · rename_i o i
      split at h
      · rename_i x y tpos
        rw [Bool.and_eq_true, Bool.and_eq_true] at h
        simp only at q
        refine bs_ixAug (BE.mono ((expr_ok Hf o).e lam Γ _ hc h.2.1 δ L _ q.sE) fun d L1 q1 => BE.mono ((expr_ok Hf i).e lam Γ _ hc h.2.2 δ L1 _ (WS.sE q1)) fun y2 L2 q2 => ?_) (fun x1 x2 new => aug_eq h.1 x1 x2 new)
        replace q2 := q2
        split at q2
        · rename_i z hz
          refine ⟨z, hz, BE.mono ((expr_ok Hf e).e lam Γ _ hc h0 δ L2 _ (WS.sE q2)) fun w L3 q3 => o2i_ok (G := G) (δ := δ) (WE.mono (WS.sE q3) fun r L4 q4 => ?_)⟩
          unfold stR at q4
          split at q4
          · rename_i L5 he
            exact ⟨L5, he, q4⟩
          · exact q4.elim
        · exact q2.elim
      · cases h
    · cases h
  · cases h
theorem st_ret (Hf : Lk G) (e : T) : Ok2 G (.ret e) := by
  refine Ok2.one (fun lam Γ st hc h δ L A q => ?_) (fun _ _ _ _ _ => by simp [okB])
  simp only [okS] at h
  split at h
  · simp only [sv] at q
    exact bs_ret ((expr_ok Hf e).e lam Γ _ hc h δ L _ q.sE)
  · cases h
theorem st_retN : Ok2 G .retN := by
  refine Ok2.one (fun lam Γ st hc h δ L A q => ?_) (fun _ _ _ _ _ => by simp [okB])
  simp only [okS] at h
  split at h
  · exact bs_retN q
  · cases h
theorem st_ifs (Hf : Lk G) (c : T) (a b : S) (iha : Ok2 G a) (ihb : Ok2 G b) : Ok2 G (.ifs c a b) := by
  refine Ok2.one (fun lam Γ st hc h δ L A q => ?_) (fun _ _ _ _ _ => by simp [okB])
  simp only [okS] at h
  split at h
  · simp only [Bool.and_eq_true] at h
    simp only [sv] at q
    refine bs_if ((expr_ok Hf c).b lam Γ _ hc h.1.1 δ L _ (WE.mono q.sB fun d L1 q1 => ?_))
    obtain ⟨k, rfl, q1⟩ := q1
    refine ⟨k, rfl, fun e => ?_, fun e => ?_⟩
    · subst e; exact iha.bl lam Γ _ hc h.1.2 δ L1 _ q1
    · subst e; exact ihb.bl lam Γ _ hc h.2 δ L1 _ q1
  · cases h
theorem st_for (Hf : Lk G) (tg it : T) (b : S) (ihb : Ok2 G b) : Ok2 G (.for_ tg it b) := by
  refine Ok2.one (fun lam Γ st hc h δ L A q => ?_) (fun _ _ _ _ _ => by simp [okB])
  simp only [okS] at h
  split at h
  · rename_i t i x pos
    simp only [Bool.and_eq_true] at h
    obtain ⟨⟨⟨h1, h2⟩, h3⟩, h4⟩ := h
    simp only [sv] at q
    refine bs_for (iter_ok (expr_ok Hf it) hc h3 (WE.mono q.sE fun d L1 q1 => ?_)) hc.calm (fun env y => fsi_ok h1 env y)
    split at q1
    · exact q1.elim
    · rename_i ds g hi
      refine ⟨ds, g, hi, fun i δ' L' => WS G Γ (forL (stands ds g) (fun d δ L => sG (asg G.P G.call tg d δ L) fun δ L => sv G.P G.call b δ L) (ds.drop i) δ' L') A, q1, ?_, ?_, ?_⟩
      · intro i δ' L' _ z
        cases hd : ds.drop i with
        | nil => rw [hd] at z; simp only [forL] at z; exact stl_of (WS.gd z).1
        | cons d r => rw [hd] at z; simp only [forL] at z; exact stl_of (WS.gd z).1
      · intro i d δ' L' hd z
        have hlt : i < ds.length := (List.getElem?_eq_some_iff.mp hd).1
        have ed : ds.drop i = d :: ds.drop (i + 1) := by
          rw [List.drop_eq_getElem_cons hlt]
          congr 1
          exact (List.getElem?_eq_some_iff.mp hd).2
        replace z : WS G Γ (forL (stands ds g) (fun d δ L => sG (asg G.P G.call tg d δ L) fun δ L => sv G.P G.call b δ L) (ds.drop i) δ' L') A := z
        rw [ed] at z
        simp only [forL] at z
        have z := (WS.gd z).2
        refine (asg_ok Hf hc tg).1 t h2 d δ' L' _ ?_
        cases hg : asg G.P G.call tg d δ' L' with
        | no => rw [hg] at z; exact z.elim
        | ex c1 p1 δ1 L1 => rw [hg] at z; exact z
        | ok δ1 L1 =>
          rw [hg] at z
          refine ihb.bl lam Γ x hc h4 δ1 L1 _ ?_
          simp only [sG] at z
          cases hv : sv G.P G.call b δ1 L1 with
          | nx δ2 L2 => rw [hv] at z; exact z
          | ct δ2 L2 => rw [hv] at z; exact z
          | bk δ2 L2 => rw [hv] at z; exact z
          | rt d2 L2 => rw [hv] at z; exact z
          | ex c2 p2 δ2 L2 => rw [hv] at z; exact z
          | no => rw [hv] at z; exact z.elim
      · intro δ' L' z
        replace z : WS G Γ (forL (stands ds g) (fun d δ L => sG (asg G.P G.call tg d δ L) fun δ L => sv G.P G.call b δ L) (ds.drop ds.length) δ' L') A := z
        rw [List.drop_length] at z
        simp only [forL] at z
        exact (WS.gd z).2
  · cases h
theorem st_whl (Hf : Lk G) (c : T) (b : S) (ihb : Ok2 G b) : Ok2 G (.whl c b) := by
  refine Ok2.one (fun lam Γ st hc h δ L A q => ?_) (fun _ _ _ _ _ => by simp [okB])
  simp only [okS] at h
  split at h
  · rename_i t x pos
    rw [Bool.and_eq_true] at h
    simp only [sv] at q
    refine bs_while (fun m δ' L' => WS G Γ (whlL (ev G.P G.call c) (sv G.P G.call b) m δ' L') A) FU q ?_
    intro m δ' L' z
    cases m with
    | zero => exact (show False from z).elim
    | succ m =>
      replace z : WS G Γ (whlL (ev G.P G.call c) (sv G.P G.call b) (m + 1) δ' L') A := z
      simp only [whlL] at z
      refine (expr_ok Hf c).b lam Γ t hc h.1 δ' L' _ (WE.mono z.sB fun d L1 q1 => ?_)
      obtain ⟨k, rfl, q1⟩ := q1
      refine ⟨k, rfl, fun e => ?_, fun e => ?_⟩
      · subst e
        refine ihb.bl lam Γ x hc h.2 δ' L1 _ ?_
        rw [if_pos rfl] at q1
        cases hv : sv G.P G.call b δ' L1 with
        | nx δ2 L2 => rw [hv] at q1; exact ⟨m, Nat.lt_succ_self m, q1⟩
        | ct δ2 L2 => rw [hv] at q1; exact ⟨m, Nat.lt_succ_self m, q1⟩
        | bk δ2 L2 => rw [hv] at q1; exact q1
        | rt d2 L2 => rw [hv] at q1; exact q1
        | ex c2 p2 δ2 L2 => rw [hv] at q1; exact q1
        | no => rw [hv] at q1; exact q1.elim
      · subst e
        rw [if_neg (by decide)] at q1
        exact q1
  · cases h
theorem st_rse (Hf : Lk G) (c : Nat) (e : T) : Ok2 G (.rse c e) := by
  refine Ok2.one (fun lam Γ st hc h δ L A q => ?_) (fun _ _ _ _ _ => by simp [okB])
  simp only [okS] at h
  split at h
  · rename_i x p v pos p2
    simp only [Bool.and_eq_true] at h
    obtain ⟨⟨⟨h1, h2⟩, h3⟩, h4⟩ := h
    have hx := Hf.xc c x (beq_iff_eq.mp h1)
    rw [← hc.W] at hx
    haveI := kd_gl h2
    simp only [sv] at q
    exact bs_raise1 hx ((expr_ok Hf e).e lam Γ _ hc h4 δ L _ q.sE) hc.calm (fun env => se_cons h3 _ env)
  · cases h
theorem stmt_ok (Hf : Lk G) (s : S) : Ok2 G s := by
  induction s with
  | skip => exact st_skip
  | ex e => exact st_ex Hf e
  | asg tg e => exact st_asg Hf tg e
  | aug op tg e => exact st_aug Hf op tg e
  | ret e => exact st_ret Hf e
  | retN => exact st_retN
  | ifs c a b iha ihb => exact st_ifs Hf c a b iha ihb
  | for_ tg it b ihb => exact st_for Hf tg it b ihb
  | whl c b ihb => exact st_whl Hf c b ihb
  | brk =>
    refine Ok2.one (fun lam Γ st hc h δ L A q => ?_) (fun _ _ _ _ _ => by simp [okB])
    simp only [okS] at h
    split at h
    · exact bs_break q
    · cases h
  | cnt =>
    refine Ok2.one (fun lam Γ st hc h δ L A q => ?_) (fun _ _ _ _ _ => by simp [okB])
    simp only [okS] at h
    split at h
    · exact bs_continue q
    · cases h
  | rse c e => exact st_rse Hf c e
  | nil =>
    refine ⟨fun lam Γ st hc h => by simp [okS] at h, fun lam Γ ss hc h δ L A q => ?_⟩
    simp only [okB, List.isEmpty_iff] at h
    subst h
    exact bss_nil q
  | seq a b iha ihb =>
    refine ⟨fun lam Γ st hc h => by simp [okS] at h, fun lam Γ ss hc h δ L A q => ?_⟩
    cases ss <;> first | (simp [okB] at h; done) | skip
    simp only [okB, Bool.and_eq_true] at h
    simp only [sv] at q
    refine bss_cons (iha.st lam Γ _ hc h.1 δ L _ ?_)
    cases hv : sv G.P G.call a δ L with
    | nx δ2 L2 => rw [hv] at q; exact ihb.bl lam Γ _ hc h.2 δ2 L2 _ q
    | ct δ2 L2 => rw [hv] at q; exact q
    | bk δ2 L2 => rw [hv] at q; exact q
    | rt d2 L2 => rw [hv] at q; exact q
    | ex c2 p2 δ2 L2 => rw [hv] at q; exact q
    | no => rw [hv] at q; exact q.elim
end Ac
end
section
/-! Ev19: defs; the links of all levels; the law. -/
namespace Ac
open PySem PySem.Spec PyProof.Rows L2

/-- a def whose wishes are told otherwise within -/
theorem fnOk_ofG {W : Wd} {x qual : Str} {params : Arguments} {body : List Stmt} {scope : Scope} {f : Addr} {fd : FuncData} {kws : List (Str × V)} {N ps : List Str} {k : Nat} {C : Con} {cp : Option (Addr × Addr)}
    (F : FunD W.K x qual params body scope [] kws f fd) (S : FnScope N ps scope) (hsc : ScB scope.names = true) (hcp : ∀ c P, cp = some (c, P) → fd.code = .ref c ∧ LamX.TabB W.base W.mg c P)
    (len : ∀ xs L Q E, C xs L Q E → xs.length = ps.length)
    (h : ∀ xs L Q EQ, C xs L Q EQ → ∃ (QB : D → Mu → Prop) (EB : EXm),
      (∀ (QV : VK) (R : Rw), (∀ i, L.length ≤ i → R.v i = none) → (∀ v d R' H' L', Le R R' → AR W.T W.K R' L' H' → Rp W.K R' v d → Q d L' → QV v H') → ∀ v d R' H' L', Le R R' → AR W.T W.K R' L' H' → Rp W.K R' v d → QB d L' → QV v H') ∧
      (∀ (E : XK) (R : Rw), (∀ i, L.length ≤ i → R.v i = none) → (∀ cls oa pay R' H' L', Le R R' → AR W.T W.K R' L' H' → PayOk W.K R' H' oa pay → EQ cls pay L' → E cls oa H') → ∀ cls oa pay R' H' L', Le R R' → AR W.T W.K R' L' H' → PayOk W.K R' H' oa pay → EB cls pay L' → E cls oa H') ∧
      BSs (ctD W N scope k qual cp EB) body (xs.map some ++ List.replicate (N.length - xs.length) none) L { nx := fun _ L' => QB .non L', rt := QB }) : FnOk W.P W.w W.K W.mg W.base (L2.CX W.P W.w) (k + 1) f fd ps (spOf W C) := by
  obtain ⟨oc, od, dV, kV, doc, pm, an, cdv, ct, osl, rfl, lk, hcd, _, _⟩ := F.ex
  refine fn_of lk hcd S (fun vs H Q E ⟨R, xs, L, Q', EQ, _, _, r, hc, _⟩ => by rw [r.length]; exact len _ _ _ _ hc) fun A outer s H vs QV E hr ⟨R, xs, L, Q, EQ, ec, Ar, r, hc, hQ, hE⟩ => ?_
  obtain ⟨QB, EB, gQ, gE, hB⟩ := h xs L Q EQ hc
  have gQ := gQ QV R Ar.dom hQ
  have gE := gE E R Ar.dom hE
  refine ⟨_, pssW, ?_⟩
  refine hB _ R ?_ R _ H (Le.refl R) Ar ?_ _ ⟨fun σ δ R' H' L' l' A' S' q => gQ _ _ R' H' L' l' A' .non q, gQ, fun _ _ _ _ _ _ _ _ q => q.elim, fun _ _ _ _ _ _ _ _ q => q.elim⟩
  · refine ⟨ec, rfl, rfl, rfl, rfl, rfl, rfl, S.nd, hsc, S.kind, fun x k m v => vis_of (ScB.look hsc m) v, fun x m => ScB.look hsc m, fun x k m v => ⟨?_, .inl rfl⟩, fun x m => ScB.look hsc m, fun x k m n => ⟨k, ScB.look hsc m, n⟩, fun x k m c => ?_, ?_, fun _ => hr, rfl, ⟨_, L2.takes_of rfl rfl rfl rfl, fun cls oa pay σ δ R' H' L' l' A' _ po q => gE cls oa pay R' H' L' l' A' po q⟩, L2.passes_of rfl, fun _ => ⟨rfl, rfl⟩, rfl, fun c P e => ?_⟩
    · have z := ScB.look hsc m
      cases k with
      | «local» => exact .inl z
      | cell => exact .inr z
      | _ => cases v
    · have z := ScB.look hsc m
      cases k with
      | cell => exact .inl z
      | free => exact .inr z
      | _ => cases c
    · have := hr.un
      show _ + 64 < _
      have h2 : (A.deeper (envOfC qual scope s.heap.objs.size f cdv)).units + 16 * k + 200 < cLine := this
      show (A.deeper (envOfC qual scope s.heap.objs.size f cdv)).units + 64 < cLine
      omega
    · exact hcp c P e
  · have e : L2.start N vs = vs.map some ++ List.replicate (N.length - xs.length) none := by
      unfold L2.start
      rw [← r.length]
    rw [e]
    exact RS.start r

section
variable {W : Wd} {l : PySem.W.OpenLaw} {fa : List He.Fa} {fn : List He.DefD} {tq : TQ} {ex : PySem.W.Frag → Bool} {cls : PySem.W.Frag → Nat → Addr × List Str} {P : Prg} {C : Nm} {xa : Nat → Addr}
/-- arguments bind to a def's parameters, none with a default -/
def BindsD (ps : List Str) (d : He.DefD) : Prop := d.dfl = [] ∧ d.kwd = [] ∧ ∀ (kV doc pm : Value) (an : Option Addr) (cdv ct : Value) (us : List Value), us.length = ps.length → bindArgs (PySem.W.fnOf d.name d.qual d.params d.body d.scope .none kV doc pm an cdv ct) ⟨us, []⟩ = pure (ps.zip us)
theorem FunD.codeT {K : PySem.W.Frag} {x q : Str} {pr : Arguments} {body : List Stmt} {sc : Scope} {kws : List (Str × V)} {at_ : He.Defn} {fd : FuncData} (F : FunD K x q pr body sc [] kws (He.fAd K at_) fd) : fd.code = .ref (He.cT K at_).1 := by
  obtain ⟨oc, od, dV, kV, doc, pm, an, cdv, ct, osl, rfl, lk, hcd, _, _⟩ := F.ex
  obtain ⟨c, rfl⟩ := He.codeIn_ref hcd
  show Value.ref c = .ref (He.codeOf K at_)
  rw [He.codeOf_eq lk rfl]
/-- a def and its term -/
structure FRp (P : Prg) (C : Nm) (fn : List He.DefD) (tq : TQ) (f : Nat) (d : He.DefD) (ps : List Str) : Prop where
  ex : ∃ (F : Fd) (N : List Str) (lam : Fl), P.fns[f]? = some F ∧ d ∈ fn ∧ FnScope N ps d.scope ∧ ScB d.scope.names = true ∧ BindsD ps d ∧ F.np = ps.length ∧ F.n = N.length ∧ (lam = .lam → (d.at_, (d.qual ++ ".<locals>.") ++ "<lambda>") ∈ tq) ∧ (lam = .gen → (d.at_, (d.qual ++ ".<locals>.") ++ "<genexpr>") ∈ tq) ∧ okB C N lam F.body d.scope.names d.body = true
def FR (P : Prg) (C : Nm) (fn : List He.DefD) (tq : TQ) (f : Nat) (d : He.DefD) : Prop := ∃ ps, FRp P C fn tq f d ps
abbrev Gn (W : Wd) (P : Prg) (C : Nm) (xa : Nat → Addr) (n : Nat) : Glo := ⟨W, P, C, run P n, 8 * n + 1, xa⟩
theorem run_ok (E : Env0 W l fa fn tq ex cls) {f : Nat} {d : He.DefD} {ps : List Str} (R : FRp P C fn tq f d ps) {n : Nat} (Hf : Lk (Gn W P C xa n)) {fd : FuncData} (F0 : FunD W.K d.name d.qual d.params d.body d.scope (d.dvs W.K) (d.kws W.K) (He.fAd W.K d.at_) fd) :
    FnOk W.P W.w W.K W.mg W.base (L2.CX W.P W.w) (8 * n + 9) (He.fAd W.K d.at_) fd ps (spOf W (Cof (Gn W P C xa (n + 1)) f)) ∧ Binds W.K fd ps [] := by
  obtain ⟨F, N, lam, hF, hm, S, hsc, ⟨h1, h2, h3⟩, hnp, hN, hlam, hgen, hok⟩ := R.ex
  have F1 : FunD W.K d.name d.qual d.params d.body d.scope [] (d.kws W.K) (He.fAd W.K d.at_) fd := by
    have e : d.dvs W.K = [] := by unfold He.DefD.dvs; rw [h1]; rfl
    rw [← e]; exact F0
  have core : ∀ (cp : Option (Addr × Addr)), (∀ EB, Cxt (Gn W P C xa n) lam (ctD W N d.scope (8 * n + 8) d.qual cp EB)) → (∀ c P, cp = some (c, P) → fd.code = .ref c ∧ LamX.TabB W.base W.mg c P) → FnOk W.P W.w W.K W.mg W.base (L2.CX W.P W.w) (8 * n + 9) (He.fAd W.K d.at_) fd ps (spOf W (Cof (Gn W P C xa (n + 1)) f)) := fun cp hcx hcp => by
    refine fnOk_ofG (k := 8 * n + 8) (cp := cp) F1 S hsc hcp (fun xs L Q X h => ?_) (fun xs L Q X h => ?_)
    · have h : RC xa (run P (n + 1) f xs L) Q X := h
      simp only [run, hF] at h
      split at h
      · rw [← hnp]; assumption
      · exact h.elim
    · have h : RC xa (run P (n + 1) f xs L) Q X := h
      simp only [run, hF] at h
      split at h
      · rename_i hlen
        refine ⟨fun d' L' => RC xa (fin F.md L.length (.ok d' L')) Q X, fun cls' pay L' => ∃ c, cls' = .ref (xa c) ∧ RC xa (fin F.md L.length (.ex c pay L')) Q X, ?_, ?_, ?_⟩
        · intro QV R hd g v d' R' H' L' l' A' r q
          exact fin_ok (G := Gn W P C xa n) hd g l' A' r q
        · rintro E' R hd g cls' oa pay R' H' L' l' A' po ⟨c, rfl, q⟩
          exact fin_ex (G := Gn W P C xa n) hd g l' A' po q
        · have hxl : N.length - xs.length = F.n - F.np := by rw [hN, hlen]
          rw [hxl]
          refine (stmt_ok Hf F.body).bl lam _ d.body (hcx _) hok _ L _ ?_
          show WS (Gn W P C xa n) _ (sv P (run P n) F.body _ L) _
          cases hv : sv P (run P n) F.body (xs.map some ++ List.replicate (F.n - F.np) none) L with
          | nx δ2 L2 => rw [hv] at h; exact h
          | rt d2 L2 => rw [hv] at h; exact h
          | ex c2 p2 δ2 L2 => rw [hv] at h; exact ⟨c2, rfl, h⟩
          | bk δ2 L2 => rw [hv] at h; exfalso; revert h; simp only [svR]; unfold fin; split <;> simp_all [RC]
          | ct δ2 L2 => rw [hv] at h; exfalso; revert h; simp only [svR]; unfold fin; split <;> simp_all [RC]
          | no => rw [hv] at h; exfalso; revert h; simp only [svR]; unfold fin; split <;> simp_all [RC]
      · exact h.elim
  refine ⟨?_, F1.bindsN h3⟩
  cases lam with
  | no => exact core none (fun EB => ⟨rfl, rfl, (by show 8 * n + 1 + 1 ≤ 8 * n + 8; omega), (fun z => nomatch z), (fun z => nomatch z)⟩) (fun c P e => nomatch e)
  | lam =>
    have hq := hlam rfl
    refine core (some (He.cT W.K d.at_)) (fun EB => ⟨rfl, rfl, (by show 8 * n + 1 + 1 ≤ 8 * n + 8; omega), (fun _ => ⟨(by show 8 * n + 1 + 3 ≤ 8 * n + 8; omega), (He.cT W.K d.at_).1, (He.cT W.K d.at_).2, rfl, ?_⟩), (fun z => nomatch z)⟩) (fun c P e => ?_)
    · show ((He.cT W.K d.at_).2, (d.qual ++ ".<locals>.") ++ "<lambda>") ∈ W.T
      rw [E.T]
      exact List.mem_map.mpr ⟨_, hq, rfl⟩
    · cases e
      exact ⟨FunD.codeT F1, E.B _ (List.mem_map.mpr ⟨_, hq, rfl⟩)⟩
  | gen =>
    have hq := hgen rfl
    refine core (some (He.cT W.K d.at_)) (fun EB => ⟨rfl, rfl, (by show 8 * n + 1 + 1 ≤ 8 * n + 8; omega), (fun z => nomatch z), (fun _ => ⟨(by show 8 * n + 1 + 4 ≤ 8 * n + 8; omega), (He.cT W.K d.at_).1, (He.cT W.K d.at_).2, rfl, ?_⟩)⟩) (fun c P e => ?_)
    · show ((He.cT W.K d.at_).2, (d.qual ++ ".<locals>.") ++ "<genexpr>") ∈ W.T
      rw [E.T]
      exact List.mem_map.mpr ⟨_, hq, rfl⟩
    · cases e
      exact ⟨FunD.codeT F1, E.B _ (List.mem_map.mpr ⟨_, hq, rfl⟩)⟩
theorem run_fn (E : Env0 W l fa fn tq ex cls) {f : Nat} {d : He.DefD} (R : FR P C fn tq f d) {n : Nat} (Hf : Lk (Gn W P C xa n)) : Fn W (8 * n + 9) (He.fAd W.K d.at_) (Cof (Gn W P C xa (n + 1)) f) := by
  obtain ⟨ps, R⟩ := R
  obtain ⟨_, _, _, _, hm, _⟩ := R.ex
  obtain ⟨fd, F0⟩ := E.S.defs hm
  obtain ⟨h, b⟩ := run_ok E R Hf F0
  exact ⟨⟨fd, ps, h, b⟩, F0.kp⟩
/-- at level 0 nothing is called -/
theorem run_fn0 (E : Env0 W l fa fn tq ex cls) {f : Nat} {d : He.DefD} (R : FR P C fn tq f d) : Fn W 1 (He.fAd W.K d.at_) (Cof (Gn W P C xa 0) f) := by
  obtain ⟨ps, R⟩ := R
  obtain ⟨F, N, lam, hF, hm, S, hsc, ⟨h1, h2, h3⟩, hnp, hN, hlam, hgen, hok⟩ := R.ex
  obtain ⟨fd, F0⟩ := E.S.defs hm
  have F1 : FunD W.K d.name d.qual d.params d.body d.scope [] (d.kws W.K) (He.fAd W.K d.at_) fd := by
    have e : d.dvs W.K = [] := by unfold He.DefD.dvs; rw [h1]; rfl
    rw [← e]; exact F0
  exact fn_ok (k := 0) (cp := none) F1 S hsc (F1.bindsN h3) (fun c P e => nomatch e) (fun xs L Q X h => (show False from h).elim) (fun xs L Q X h => (show False from h).elim)
/-- what links a text with its terms, at no level -/
structure Sk (W : Wd) (P : Prg) (C : Nm) (xa : Nat → Addr) (fn : List He.DefD) (tq : TQ) (dl : Nat → He.DefD) : Prop where
  fns : ∀ (f : Nat) (x : Str), C.fnm[f]? = some (some x) → W.mg x = some (.ref (He.fAd W.K (dl f).at_)) ∧ FR P C fn tq f (dl f)
  cl : ∀ (c : Nat) (cd : Cd), P.cls[c]? = some cd → Kl W c ∧ (∀ (f j : Nat), cd.fl.idxOf? f = some j → ∀ x : Str, C.att[f]? = some x → (W.cls c).2[j]? = some x)
  mt : ∀ (c : Nat) (cd : Cd) (m f : Nat) (x : Str), P.cls[c]? = some cd → cd.ml.lookup m = some f → C.att[m]? = some x → x ∉ (W.cls c).2 ∧ Meth W.K (W.cls c).1 x (He.fAd W.K (dl f).at_) ∧ FR P C fn tq f (dl f)
  mkr : ∀ (c : Nat) (x : Str), C.cnm[c]? = some x → ∃ cd, P.cls[c]? = some cd ∧ W.mg x = some (.ref (W.cls c).1) ∧ Mk W.K (W.cls c).1 (He.fAd W.K (dl cd.init).at_) ∧ FR P C fn tq cd.init (dl cd.init)
  gl : ∀ (g : Nat) (x : Str) (d : D), C.gnm[g]? = some x → P.glb[g]? = some d → ∃ u, W.mg x = some u ∧ RpK W.K u d
  bi : ∀ x : Str, x ∈ C.bnm → ∃ u, Bn W.mg x u
  xc : ∀ (c : Nat) (x : Str), C.exn[c]? = some (some x) → Xc W x (xa c)
  sb : ∀ c c' : Nat, P.rs c = true → (∃ f t, (c', t) ∈ P.tl f) → PySem.W.exmOne W.K (.ref (xa c)) (.ref (xa c')) = some (P.sub c c')
  tl : ∀ (f : Nat) (x : Str), C.tnm[f]? = some (some x) → Told W x ((P.tl f).map fun q => (xa q.1, q.2))
theorem lk_all (E : Env0 W l fa fn tq ex cls) {dl : Nat → He.DefD} (S : Sk W P C xa fn tq dl) : ∀ n, Lk (Gn W P C xa n) := by
  have base : ∀ n, (∀ f, FR P C fn tq f (dl f) → Fn W (8 * n + 1) (He.fAd W.K (dl f).at_) (Cof (Gn W P C xa n) f)) → Lk (Gn W P C xa n) := fun n h =>
    ⟨fun f x e => ⟨_, (S.fns f x e).1, h f (S.fns f x e).2⟩, S.cl, fun c cd m f x h1 h2 h3 => ⟨(S.mt c cd m f x h1 h2 h3).1, _, (S.mt c cd m f x h1 h2 h3).2.1, h f (S.mt c cd m f x h1 h2 h3).2.2⟩,
      fun c x e => by obtain ⟨cd, h1, h2, h3, h4⟩ := S.mkr c x e; exact ⟨cd, h1, h2, _, h3, h _ h4⟩, S.gl, S.bi, S.xc, S.sb, S.tl⟩
  intro n
  induction n with
  | zero => exact base 0 fun f R => run_fn0 E R
  | succ n ih => exact base (n + 1) fun f R => run_fn E R ih
/-- the law's def keeps the law -/
theorem law_ok (E : Env0 W l fa fn tq ex cls) {dl : Nat → He.DefD} (S : Sk W P C xa fn tq dl) {f : Nat} {d : He.DefD} {ps : List Str} (R : FRp P C fn tq f d ps) {n : Nat} (h : ∀ ns : List Int, ns.length ≤ 63 → ∃ L, run P (n + 1) f [.lsk (ns.map .int)] [] = .ok (.bl true) L) {fd : FuncData} (F0 : FunD W.K d.name d.qual d.params d.body d.scope (d.dvs W.K) (d.kws W.K) (He.fAd W.K d.at_) fd) :
    FnOk W.P W.w W.K W.mg W.base (L2.CX W.P W.w) (8 * n + 9) (He.fAd W.K d.at_) fd ps (spOf W LawC) ∧ Binds W.K fd ps [] := by
  obtain ⟨a, b⟩ := run_ok E R (lk_all (xa := xa) E S n) F0
  refine ⟨a.imp fun vs H Q X ⟨R', xs, L, Q', EQ, h1, h2, h3, h4, h5⟩ => ⟨R', xs, L, Q', EQ, h1, h2, h3, ?_, h5⟩, b⟩
  obtain ⟨ns, rfl, rfl, hn, _, hq⟩ := h4
  obtain ⟨L2, e⟩ := h ns hn
  show RC xa (run P (n + 1) f [.lsk (ns.map .int)] []) Q' EQ
  rw [e]
  exact hq L2
end
end Ac
end
section
/-! Ev20: small things for the links of a law. -/
namespace Ac
open PySem PySem.Spec PyProof.Rows L2
theorem lk_mem {m f : Nat} : ∀ {l : List (Nat × Nat)}, l.lookup m = some f → (m, f) ∈ l
  | [], h => by cases h
  | (a, b) :: r, h => by
    rw [List.lookup_cons] at h
    by_cases e : m = a
    · subst e; simp at h; subst h; exact List.mem_cons_self
    · rw [beq_eq_false_iff_ne.mpr e] at h
      exact List.mem_cons_of_mem _ (lk_mem h)
theorem idx_at {f j : Nat} : ∀ {l : List Nat}, l.idxOf? f = some j → l[j]? = some f := fun {l} h => by
  rw [List.idxOf?_eq_map_finIdxOf?_val] at h
  simp only [Option.map_eq_some_iff] at h
  obtain ⟨k, hk, rfl⟩ := h
  have := List.finIdxOf?_eq_some_iff.mp hk
  have h1 := this.1
  rw [List.getElem?_eq_getElem k.isLt]
  exact congrArg some h1
theorem fl_at {att names : List Str} {fl : List Nat} (h : fl.map (fun f => att[f]?) = names.map some) {f j : Nat} (hj : fl.idxOf? f = some j) {x : Str} (hx : att[f]? = some x) : names[j]? = some x := by
  have h1 := idx_at hj
  have h2 := congrArg (fun l => l[j]?) h
  simp only [List.getElem?_map, h1, Option.map_some, hx] at h2
  cases hn : names[j]? with
  | none => rw [hn] at h2; cases h2
  | some y => rw [hn] at h2; simp only [Option.map_some, Option.some.injEq] at h2; rw [h2]
theorem kl_of {W : Wd} {c : Nat} {a : Addr} {fl : List Str} (e : W.cls c = (a, fl)) (h1 : Cls W.K a) (h2 : ∀ f ∈ fl, NoAttr W.K a f) (h3 : NmB fl = true) (h4 : fl.length < 1000) : Kl W c := by
  refine ⟨by rw [e]; exact h1, by rw [e]; exact h2, by rw [e]; exact NmB.nd h3, by rw [e]; exact h4⟩
theorem rps_txs {K : PySem.W.Frag} {R : Rw} : ∀ ns : List Tx, Rps K R (ns.map fun x => V.str (Tx.s x)) (ns.map D.str)
  | [] => .nil
  | n :: ns => .cons .str (rps_txs ns)
end Ac
end
section
/-! Ev21: a law's links from lists of names. -/
namespace Ac
open PySem PySem.Spec PyProof.Rows L2
mutual
/-- a written thing of the module -/
def gB (K : PySem.W.Frag) : D → Value → Bool
  | .int i, v => (match v with
    | .int j _ => decide (j = i)
    | _ => false)
  | .str x, v => (match v with
    | .str y _ => decide (y = Tx.s x)
    | _ => false)
  | .bl b, v => (match v with
    | .bool c => decide (c = b)
    | _ => false)
  | .tup ds, v => (match v with
    | .ref a => (match K.lookup a with
      | some ⟨.type c, _, .seq its _, _⟩ => decide (c = "tuple") && (decide (its.size ≤ sizeLine) && gBs K ds its.toList)
      | _ => false)
    | _ => false)
  | _, _ => false
def gBs (K : PySem.W.Frag) : List D → List Value → Bool
  | [], vs => vs.isEmpty
  | d :: ds, vs => (match vs with
    | v :: vs => gB K d v && gBs K ds vs
    | [] => false)
end
mutual
theorem gB_ok {K : PySem.W.Frag} : ∀ {d : D} {u : Value}, gB K d u = true → RpK K u d
  | .int i, u, h => by
    unfold gB at h; split at h
    · rename_i j t; have := of_decide_eq_true h; subst this; exact ⟨.int _, ⟨t, rfl⟩, fun R => .int⟩
    · cases h
  | .str x, u, h => by
    unfold gB at h; split at h
    · rename_i j t; have := of_decide_eq_true h; subst this; exact ⟨.str _, ⟨t, rfl⟩, fun R => .str⟩
    · cases h
  | .bl b, u, h => by
    unfold gB at h; split at h
    · have := of_decide_eq_true h; subst this; exact ⟨.bl _, rfl, fun R => .bl⟩
    · cases h
  | .tup ds, u, h => by
    unfold gB at h; split at h
    · rename_i a
      split at h
      · rename_i c od its n sl q
        obtain ⟨h1, h2⟩ := Bool.and_eq_true_iff.mp h
        obtain ⟨h3, h4⟩ := Bool.and_eq_true_iff.mp h2
        obtain ⟨vs, r, w⟩ := gBs_ok h4
        refine ⟨.ref a, rfl, fun R => .tup (.inr ⟨_, its, n, q, congrArg Value.type (of_decide_eq_true h1), rfl, of_decide_eq_true h3, r⟩) (w R)⟩
      · cases h
    · cases h
  | .non, u, h => by unfold gB at h; cases h
  | .lst _, u, h => by unfold gB at h; cases h
  | .dct _, u, h => by unfold gB at h; cases h
  | .rf _, u, h => by unfold gB at h; cases h
  | .ty _, u, h => by unfold gB at h; cases h
  | .dtt _, u, h => by unfold gB at h; cases h
  | .obj _ _, u, h => by unfold gB at h; cases h
  | .lsk _, u, h => by unfold gB at h; cases h
  | .lam _, u, h => by unfold gB at h; cases h
theorem gBs_ok {K : PySem.W.Frag} : ∀ {ds : List D} {us : List Value}, gBs K ds us = true → ∃ vs, Vals vs us ∧ ∀ R, Rps K R vs ds
  | [], us, h => by
    unfold gBs at h
    cases us with
    | nil => exact ⟨[], .nil, fun R => .nil⟩
    | cons _ _ => cases h
  | d :: ds, us, h => by
    unfold gBs at h
    cases us with
    | nil => cases h
    | cons u us =>
      obtain ⟨h1, h2⟩ := Bool.and_eq_true_iff.mp h
      obtain ⟨v, r, w⟩ := gB_ok h1
      obtain ⟨vs, rs, ws⟩ := gBs_ok h2
      exact ⟨v :: vs, .cons r rs, fun R => .cons (w R) (ws R)⟩
end
def gvB (K : PySem.W.Frag) (x : Str) (d : D) : Bool := match PySem.W.nsIn K mainGlobals x with
  | some (some v) => gB K d v
  | _ => false
theorem gvB_ok {K : PySem.W.Frag} {h : Heap} {mg : Str → Option Value} (X : K.In h) (G : h.Ns mainGlobals mg) {x : Str} {d : D} (e : gvB K x d = true) : ∃ u, mg x = some u ∧ RpK K u d := by
  unfold gvB at e
  split at e
  · rename_i v q
    exact ⟨v, PySem.W.mg_of X G q, gB_ok e⟩
  · cases e

structure Hd where
  glos : List Str
  frees : List Str
  clss : List (Str × List Str × List Str)
  exn : List Str
  rsl : List Nat
  cll : List Nat
  frl : List Nat
  tls : List (Nat × List (Nat × Tx))
def Hd.ex (h : Hd) (c : Nat) : Str := h.exn.getD c ""
def Hd.fa (h : Hd) (P : Prg) : List He.Fa := h.glos.map .glo ++ (h.frees.map .free ++ ((h.clss.flatMap fun c => .cls c.1 :: .mkr c.1 :: (c.2.1.map (fun f => .noat c.1 f) ++ c.2.2.map fun m => .meth c.1 m)) ++ ((h.rsl.map fun c => .exc (h.ex c)) ++ (h.rsl.flatMap fun c => h.cll.map fun c' => .exm (h.ex c) (h.ex c') (P.sub c c')))))
def Hd.cl (h : Hd) (K : PySem.W.Frag) (c : Nat) : Addr × List Str := match h.clss[c]? with
  | some t => (He.ga K t.1, t.2.1)
  | none => (0, [])
def glAll (P : Prg) (C : Nm) (K : PySem.W.Frag) : Bool := (List.range C.gnm.length).all fun g => match C.gnm[g]?, P.glb[g]? with
  | some x, some d => gvB K x d
  | _, _ => true
section
variable (h : Hd) (P : Prg) (C : Nm) (dl : Nat → He.DefD)
def Hd.fnB : Bool := (List.range C.fnm.length).all fun f => match C.fnm[f]? with
  | some (some x) => decide ((dl f).at_ = (x, none)) && (h.glos.contains x && h.frl.contains f)
  | _ => true
def Hd.clB : Bool := (List.range P.cls.length).all fun c => match P.cls[c]?, h.clss[c]? with
  | some cd, some t => decide (cd.fl.map (fun f => C.att[f]?) = t.2.1.map some) && (NmB t.2.1 && (decide (t.2.1.length < 1000) && cd.ml.all fun q => match C.att[q.1]? with
    | some x => !t.2.1.contains x && (t.2.2.contains x && (decide ((dl q.2).at_ = (t.1, some x)) && h.frl.contains q.2))
    | none => true))
  | _, _ => false
def Hd.mkB : Bool := (List.range C.cnm.length).all fun c => match C.cnm[c]?, P.cls[c]?, h.clss[c]? with
  | some x, some cd, some t => decide (x = t.1) && (h.glos.contains x && (decide ((dl cd.init).at_ = (x, some ("__init__" : Str))) && h.frl.contains cd.init))
  | _, _, _ => false
def Hd.xcB : Bool := (List.range C.exn.length).all fun c => match C.exn[c]? with
  | some (some x) => decide (x = h.ex c) && (h.rsl.contains c && h.glos.contains x)
  | _ => true
def Hd.tlB : Bool := h.tls.all fun p => p.2.all fun q => h.cll.contains q.1
def Hd.biB : Bool := C.bnm.all fun x => h.frees.contains x && ((bootBuiltins x).isSome && decide (x ≠ "__name__"))
end
theorem all_at {α : Type} {l : List α} {f : Nat → Bool} (h : (List.range l.length).all f = true) {i : Nat} {a : α} (e : l[i]? = some a) : f i = true := List.all_eq_true.mp h i (List.mem_range.mpr (List.getElem?_eq_some_iff.mp e).1)
theorem lk_in {β : Type} {m : Nat} {f : β} : ∀ {l : List (Nat × β)}, l.lookup m = some f → (m, f) ∈ l
  | [], h => by cases h
  | (a, b) :: r, h => by
    rw [List.lookup_cons] at h
    by_cases e : m = a
    · subst e; simp at h; subst h; exact List.mem_cons_self
    · rw [beq_eq_false_iff_ne.mpr e] at h
      exact List.mem_cons_of_mem _ (lk_in h)
section
variable {W : Wd} {l : PySem.W.OpenLaw} {fn : List He.DefD} {tq : TQ} {ex : PySem.W.Frag → Bool} {h : Hd} {P : Prg} {C : Nm} {dl : Nat → He.DefD}
theorem sk_of (E : Env0 W l (h.fa P) fn tq ex h.cl) (hf : h.fnB C dl = true) (hc : h.clB P C dl = true) (hm : h.mkB P C dl = true) (hx : h.xcB C = true) (ht : h.tlB = true) (hb : h.biB C = true) (hg : ∀ K, ex K = true → glAll P C K = true)
    (FRs : ∀ f ∈ h.frl, FR P C fn tq f (dl f)) (hrs : ∀ c, P.rs c = h.rsl.contains c) (htl : ∀ f, P.tl f = (h.tls.lookup f).getD [])
    (TL : ∀ (f : Nat) (x : Str), C.tnm[f]? = some (some x) → Told W x ((P.tl f).map fun q => (He.ga W.K (h.ex q.1), q.2))) : Sk W P C (fun c => He.ga W.K (h.ex c)) fn tq dl := by
  have F1 : ∀ x ∈ h.glos, W.mg x = some (.ref (He.ga W.K x)) := fun x m => He.glo_ok E.X E.G (E.S.facts (f := .glo x) (List.mem_append.mpr (.inl (List.mem_map.mpr ⟨x, m, rfl⟩))))
  have F2 : ∀ x ∈ h.frees, W.mg x = none := fun x m => He.free_ok E.X E.G (E.S.facts (f := .free x) (List.mem_append.mpr (.inr (List.mem_append.mpr (.inl (List.mem_map.mpr ⟨x, m, rfl⟩))))))
  have F3 : ∀ t ∈ h.clss, ∀ f, f ∈ (He.Fa.cls t.1 :: .mkr t.1 :: (t.2.1.map (fun f => He.Fa.noat t.1 f) ++ t.2.2.map fun m => He.Fa.meth t.1 m)) → f ∈ h.fa P := fun t m f hf => List.mem_append.mpr (.inr (List.mem_append.mpr (.inr (List.mem_append.mpr (.inl (List.mem_flatMap.mpr ⟨t, m, hf⟩))))))
  have F4 : ∀ c ∈ h.rsl, He.Fa.exc (h.ex c) ∈ h.fa P := fun c m => List.mem_append.mpr (.inr (List.mem_append.mpr (.inr (List.mem_append.mpr (.inr (List.mem_append.mpr (.inl (List.mem_map.mpr ⟨c, m, rfl⟩))))))))
  have F5 : ∀ c ∈ h.rsl, ∀ c' ∈ h.cll, He.Fa.exm (h.ex c) (h.ex c') (P.sub c c') ∈ h.fa P := fun c m c' m' => List.mem_append.mpr (.inr (List.mem_append.mpr (.inr (List.mem_append.mpr (.inr (List.mem_append.mpr (.inr (List.mem_flatMap.mpr ⟨c, m, List.mem_map.mpr ⟨c', m', rfl⟩⟩))))))))
  have hW : ∀ c t, h.clss[c]? = some t → W.cls c = (He.ga W.K t.1, t.2.1) := fun c t e => by rw [E.C]; unfold Hd.cl; rw [e]
  refine ⟨fun f x e => ?_, fun c cd e => ?_, fun c cd m f x e1 e2 e3 => ?_, fun c x e => ?_, fun g x d e1 e2 => ?_, fun x m => ?_, fun c x e => ?_, fun c c' e1 e2 => ?_, TL⟩
  · have q := all_at hf e
    simp only [e] at q
    obtain ⟨q1, q2⟩ := Bool.and_eq_true_iff.mp q
    obtain ⟨q2, q3⟩ := Bool.and_eq_true_iff.mp q2
    refine ⟨?_, FRs f (List.contains_iff_mem.mp q3)⟩
    rw [of_decide_eq_true q1]
    exact F1 x (List.contains_iff_mem.mp q2)
  · have q := all_at hc e
    simp only [e] at q
    cases et : h.clss[c]? with
    | none => rw [et] at q; cases q
    | some t =>
      rw [et] at q
      obtain ⟨q1, q2⟩ := Bool.and_eq_true_iff.mp q
      obtain ⟨q2, q3⟩ := Bool.and_eq_true_iff.mp q2
      obtain ⟨q3, q4⟩ := Bool.and_eq_true_iff.mp q3
      have tm := List.mem_of_getElem? et
      have ew := hW c t et
      refine ⟨kl_of ew (He.cls_ok (E.S.facts (F3 t tm _ List.mem_cons_self))) (fun f m => He.noat_ok (E.S.facts (F3 t tm _ (List.mem_cons_of_mem _ (List.mem_cons_of_mem _ (List.mem_append.mpr (.inl (List.mem_map.mpr ⟨f, m, rfl⟩)))))))) q2 (of_decide_eq_true q3), fun f j hj x hx => ?_⟩
      rw [ew]
      exact fl_at (of_decide_eq_true q1) hj hx
  · have q := all_at hc e1
    simp only [e1] at q
    cases et : h.clss[c]? with
    | none => rw [et] at q; cases q
    | some t =>
      rw [et] at q
      obtain ⟨q1, q2⟩ := Bool.and_eq_true_iff.mp q
      obtain ⟨q2, q3⟩ := Bool.and_eq_true_iff.mp q2
      obtain ⟨q3, q4⟩ := Bool.and_eq_true_iff.mp q3
      have tm := List.mem_of_getElem? et
      have ew := hW c t et
      have q5 := List.all_eq_true.mp q4 _ (lk_mem e2)
      simp only [e3] at q5
      obtain ⟨q5, q6⟩ := Bool.and_eq_true_iff.mp q5
      obtain ⟨q6, q7⟩ := Bool.and_eq_true_iff.mp q6
      obtain ⟨q7, q8⟩ := Bool.and_eq_true_iff.mp q7
      refine ⟨?_, ?_, FRs f (List.contains_iff_mem.mp q8)⟩
      · rw [ew]
        intro hm
        rw [List.contains_iff_mem.mpr hm] at q5
        cases q5
      · rw [ew, of_decide_eq_true q7]
        exact He.meth_ok (E.S.facts (F3 t tm _ (List.mem_cons_of_mem _ (List.mem_cons_of_mem _ (List.mem_append.mpr (.inr (List.mem_map.mpr ⟨x, List.contains_iff_mem.mp q6, rfl⟩)))))))
  · have q := all_at hm e
    simp only [e] at q
    cases ec : P.cls[c]? with
    | none => rw [ec] at q; cases q
    | some cd =>
      cases et : h.clss[c]? with
      | none => rw [ec, et] at q; cases q
      | some t =>
        rw [ec, et] at q
        obtain ⟨q1, q2⟩ := Bool.and_eq_true_iff.mp q
        obtain ⟨q2, q3⟩ := Bool.and_eq_true_iff.mp q2
        obtain ⟨q3, q4⟩ := Bool.and_eq_true_iff.mp q3
        have tm := List.mem_of_getElem? et
        have ew := hW c t et
        have ex := of_decide_eq_true q1
        subst ex
        refine ⟨cd, rfl, ?_, ?_, FRs _ (List.contains_iff_mem.mp q4)⟩
        · rw [ew]; exact F1 _ (List.contains_iff_mem.mp q2)
        · rw [ew, of_decide_eq_true q3]
          exact He.mkr_ok (E.S.facts (F3 t tm _ (List.mem_cons_of_mem _ List.mem_cons_self)))
  · have q := all_at (hg _ E.E) e1
    simp only [e1, e2] at q
    exact gvB_ok E.X E.G q
  · have q := List.all_eq_true.mp hb x m
    obtain ⟨q1, q2⟩ := Bool.and_eq_true_iff.mp q
    obtain ⟨q2, q3⟩ := Bool.and_eq_true_iff.mp q2
    obtain ⟨u, hu⟩ := Option.isSome_iff_exists.mp q2
    exact ⟨u, F2 x (List.contains_iff_mem.mp q1), hu, of_decide_eq_true q3⟩
  · have q := all_at hx e
    simp only [e] at q
    obtain ⟨q1, q4⟩ := Bool.and_eq_true_iff.mp q
    obtain ⟨q2, q3⟩ := Bool.and_eq_true_iff.mp q4
    have ex := of_decide_eq_true q1
    subst ex
    obtain ⟨a, b, c3, d⟩ := He.exc_ok (E.S.facts (F4 c (List.contains_iff_mem.mp q2)))
    exact ⟨F1 _ (List.contains_iff_mem.mp q3), a, b, c3, d⟩
  · rw [hrs] at e1
    obtain ⟨f, t, e2⟩ := e2
    rw [htl] at e2
    cases el : h.tls.lookup f with
    | none => rw [el] at e2; exact (List.not_mem_nil e2).elim
    | some p =>
      rw [el] at e2
      have q := List.all_eq_true.mp (List.all_eq_true.mp ht _ (lk_in el)) _ e2
      exact He.exm_ok (E.S.facts (F5 c (List.contains_iff_mem.mp e1) c' (List.contains_iff_mem.mp q)))
end
end Ac
end
section
/-! Bx1: what terms come to, by rewriting: what comes after is held back until what goes before is known. -/
namespace Ac
open PySem PySem.Spec
class KE where f : D → Mu → RE
class KB where f : Bool → Mu → RE
class KI where f : Int → Mu → RE
class KA where f : List D → Mu → RE
class KR where r : RE
class ZE where f : D → Mu → RT
class ZB where f : Bool → Mu → RT
class ZK where f : Ds → Mu → RT
class ZR where r : RT
class GE where f : D → Mu → RG
class GK where f : Ds → Mu → RG
class KL where f : List D → Option Nat → RE
class ZL where f : List D → Option Nat → RT
class FB where f : D → Ds → Mu → RT
class KF where f : Nat → RE
def kE (r : RE) [k : KE] : RE := eb r k.f
def kB (r : RE) [k : KB] : RE := eB r k.f
def kI (r : RE) [k : KI] : RE := eO r k.f
def kA (r : RE) [k : KA] : RE := eA r k.f
def zE (δ : Ds) (r : RE) [k : ZE] : RT := sE δ r k.f
def zB (δ : Ds) (r : RE) [k : ZB] : RT := sB δ r k.f
def zQ (r : RT) [k : ZK] : RT := sq r k.f
def gxE (δ : Ds) (r : RE) [k : GE] : RG := gE δ r k.f
def gxQ (r : RG) [k : GK] : RG := gq r k.f
def zG (r : RG) [k : ZK] : RT := sG r k.f
/-- a fork -/
def fk (b : Bool) [x : KR] [y : KR] : RE := if b then x.r else y.r
def fkS (b : Bool) [x : ZR] [y : ZR] : RT := if b then x.r else y.r
def itK (o : Option (List D × Option Nat)) [k : KL] : RE := match o with | none => .no | some (ds, g) => k.f ds g
def itZ (o : Option (List D × Option Nat)) [k : ZL] : RT := match o with | none => .no | some (ds, g) => k.f ds g
def mtK (o : Option Nat) [k : KF] : RE := match o with | none => .no | some f => k.f f
def lcR (m : Bool) (g : Mu → Bool) (F : D → Mu → Option (Option D × Mu)) (ds : List D) (L : Mu) : RE := match lcL g F ds L with | some (ys, L) => mkL m ys L | none => .no
def forF (g : Mu → Bool) [f : FB] (ds : List D) (δ : Ds) (L : Mu) : RT := forL g f.f ds δ L
def loop (r : RT) [k : ZK] : RT := match r with
  | .nx δ L => k.f δ L
  | .ct δ L => k.f δ L
  | .bk δ L => .nx δ L
  | r => r
def tld (P : Prg) (f : Nat) (r : RE) : RE := match r with
  | .ok d L => .ok d L
  | .ex c _ L => gd (P.rs c) (tellO P.sub (P.tl f) c L)
  | .no => .no
section
variable {d : D} {L : Mu} {δ : Ds} {c : Nat} {p : Option D} {b : Bool} {i : Int} {ds : List D} {x y : RE} {xs ys : RT}
theorem kE_ok {f : D → Mu → RE} : @kE (.ok d L) ⟨f⟩ = f d L := (rfl)
theorem kE_ex [KE] : kE (.ex c p L) = .ex c p L := (rfl)
theorem kE_fk [k : KE] : @kE (@fk b ⟨x⟩ ⟨y⟩) k = @fk b ⟨@kE x k⟩ ⟨@kE y k⟩ := by cases b <;> rfl
theorem kB_ok {f : Bool → Mu → RE} : @kB (.ok (.bl b) L) ⟨f⟩ = f b L := (rfl)
theorem kB_ex [KB] : kB (.ex c p L) = .ex c p L := (rfl)
theorem kB_fk [k : KB] : @kB (@fk b ⟨x⟩ ⟨y⟩) k = @fk b ⟨@kB x k⟩ ⟨@kB y k⟩ := by cases b <;> rfl
theorem kI_ok {f : Int → Mu → RE} : @kI (.ok (.int i) L) ⟨f⟩ = f i L := (rfl)
theorem kI_ex [KI] : kI (.ex c p L) = .ex c p L := (rfl)
theorem kI_fk [k : KI] : @kI (@fk b ⟨x⟩ ⟨y⟩) k = @fk b ⟨@kI x k⟩ ⟨@kI y k⟩ := by cases b <;> rfl
theorem kA_ok {f : List D → Mu → RE} : @kA (.ok (.tup ds) L) ⟨f⟩ = f ds L := (rfl)
theorem kA_ex [KA] : kA (.ex c p L) = .ex c p L := (rfl)
theorem kA_fk [k : KA] : @kA (@fk b ⟨x⟩ ⟨y⟩) k = @fk b ⟨@kA x k⟩ ⟨@kA y k⟩ := by cases b <;> rfl
theorem zE_ok {f : D → Mu → RT} : @zE δ (.ok d L) ⟨f⟩ = f d L := (rfl)
theorem zE_ex [ZE] : zE δ (.ex c p L) = .ex c p δ L := (rfl)
theorem zE_fk [k : ZE] : @zE δ (@fk b ⟨x⟩ ⟨y⟩) k = @fkS b ⟨@zE δ x k⟩ ⟨@zE δ y k⟩ := by cases b <;> rfl
theorem zB_ok {f : Bool → Mu → RT} : @zB δ (.ok (.bl b) L) ⟨f⟩ = f b L := (rfl)
theorem zB_ex [ZB] : zB δ (.ex c p L) = .ex c p δ L := (rfl)
theorem zB_fk [k : ZB] : @zB δ (@fk b ⟨x⟩ ⟨y⟩) k = @fkS b ⟨@zB δ x k⟩ ⟨@zB δ y k⟩ := by cases b <;> rfl
theorem gxE_ok {f : D → Mu → RG} : @gxE δ (.ok d L) ⟨f⟩ = f d L := (rfl)
theorem gxE_ex [GE] : gxE δ (.ex c p L) = .ex c p δ L := (rfl)
theorem gxQ_ok {f : Ds → Mu → RG} : @gxQ (.ok δ L) ⟨f⟩ = f δ L := (rfl)
theorem gxQ_ex [GK] : gxQ (.ex c p δ L) = .ex c p δ L := (rfl)
theorem zG_ok {f : Ds → Mu → RT} : @zG (.ok δ L) ⟨f⟩ = f δ L := (rfl)
theorem zG_ex [ZK] : zG (.ex c p δ L) = .ex c p δ L := (rfl)
theorem zQ_nx {f : Ds → Mu → RT} : @zQ (.nx δ L) ⟨f⟩ = f δ L := (rfl)
theorem zQ_rt [ZK] : zQ (.rt d L) = .rt d L := (rfl)
theorem zQ_bk [ZK] : zQ (.bk δ L) = .bk δ L := (rfl)
theorem zQ_ct [ZK] : zQ (.ct δ L) = .ct δ L := (rfl)
theorem zQ_ex [ZK] : zQ (.ex c p δ L) = .ex c p δ L := (rfl)
theorem zQ_fk [k : ZK] : @zQ (@fkS b ⟨xs⟩ ⟨ys⟩) k = @fkS b ⟨@zQ xs k⟩ ⟨@zQ ys k⟩ := by cases b <;> rfl
theorem loop_nx {f : Ds → Mu → RT} : @loop (.nx δ L) ⟨f⟩ = f δ L := (rfl)
theorem loop_ct {f : Ds → Mu → RT} : @loop (.ct δ L) ⟨f⟩ = f δ L := (rfl)
theorem loop_bk [ZK] : loop (.bk δ L) = .nx δ L := (rfl)
theorem loop_rt [ZK] : loop (.rt d L) = .rt d L := (rfl)
theorem loop_ex [ZK] : loop (.ex c p δ L) = .ex c p δ L := (rfl)
theorem loop_fk [k : ZK] : @loop (@fkS b ⟨xs⟩ ⟨ys⟩) k = @fkS b ⟨@loop xs k⟩ ⟨@loop ys k⟩ := by cases b <;> rfl
theorem svR_nx : svR (.nx δ L) = .ok .non L := (rfl)
theorem svR_rt : svR (.rt d L) = .ok d L := (rfl)
theorem svR_ex : svR (.ex c p δ L) = .ex c p L := (rfl)
theorem svR_fk : svR (@fkS b ⟨xs⟩ ⟨ys⟩) = @fk b ⟨svR xs⟩ ⟨svR ys⟩ := by cases b <;> rfl
theorem tld_fk {P : Prg} {f : Nat} : tld P f (@fk b ⟨x⟩ ⟨y⟩) = @fk b ⟨tld P f x⟩ ⟨tld P f y⟩ := by cases b <;> rfl
theorem tld_ok {P : Prg} {f : Nat} : tld P f (.ok d L) = .ok d L := (rfl)
theorem fk_t : @fk true ⟨x⟩ ⟨y⟩ = x := (rfl)
theorem fk_f : @fk false ⟨x⟩ ⟨y⟩ = y := (rfl)
theorem fkS_t : @fkS true ⟨xs⟩ ⟨ys⟩ = xs := (rfl)
theorem fkS_f : @fkS false ⟨xs⟩ ⟨ys⟩ = ys := (rfl)
theorem fk_not : @fk (!b) ⟨x⟩ ⟨y⟩ = @fk b ⟨y⟩ ⟨x⟩ := by cases b <;> rfl
theorem fkS_not : @fkS (!b) ⟨xs⟩ ⟨ys⟩ = @fkS b ⟨ys⟩ ⟨xs⟩ := by cases b <;> rfl
theorem fk_and {a : Bool} : @fk (a && b) ⟨x⟩ ⟨y⟩ = @fk a ⟨@fk b ⟨x⟩ ⟨y⟩⟩ ⟨y⟩ := by cases a <;> rfl
theorem fkS_and {a : Bool} : @fkS (a && b) ⟨xs⟩ ⟨ys⟩ = @fkS a ⟨@fkS b ⟨xs⟩ ⟨ys⟩⟩ ⟨ys⟩ := by cases a <;> rfl
theorem fk_or {a : Bool} : @fk (a || b) ⟨x⟩ ⟨y⟩ = @fk a ⟨x⟩ ⟨@fk b ⟨x⟩ ⟨y⟩⟩ := by cases a <;> rfl
theorem fkS_or {a : Bool} : @fkS (a || b) ⟨xs⟩ ⟨ys⟩ = @fkS a ⟨xs⟩ ⟨@fkS b ⟨xs⟩ ⟨ys⟩⟩ := by cases a <;> rfl
theorem fk_dt {p : Prop} [Decidable p] (h : p) : @fk (decide p) ⟨x⟩ ⟨y⟩ = x := by rw [decide_eq_true h]; rfl
theorem fk_df {p : Prop} [Decidable p] (h : ¬ p) : @fk (decide p) ⟨x⟩ ⟨y⟩ = y := by rw [decide_eq_false h]; rfl
theorem fkS_dt {p : Prop} [Decidable p] (h : p) : @fkS (decide p) ⟨xs⟩ ⟨ys⟩ = xs := by rw [decide_eq_true h]; rfl
theorem fkS_df {p : Prop} [Decidable p] (h : ¬ p) : @fkS (decide p) ⟨xs⟩ ⟨ys⟩ = ys := by rw [decide_eq_false h]; rfl
theorem itK_s {f : List D → Option Nat → RE} {g : Option Nat} : @itK (some (ds, g)) ⟨f⟩ = f ds g := (rfl)
theorem itZ_s {f : List D → Option Nat → RT} {g : Option Nat} : @itZ (some (ds, g)) ⟨f⟩ = f ds g := (rfl)
theorem mtK_s {f : Nat → RE} {n : Nat} : @mtK (some n) ⟨f⟩ = f n := (rfl)
theorem gd_t {r : RE} : gd true r = r := (rfl)
theorem gd_p {p : Prop} [Decidable p] {r : RE} (h : p) : gd (decide p) r = r := by rw [decide_eq_true h]; rfl
theorem gd_and {a : Bool} {r : RE} : gd (a && b) r = gd a (gd b r) := by cases a <;> cases b <;> rfl
theorem gd_orl {p q : Prop} [Decidable p] [Decidable q] {r : RE} (h : p ∨ q) : gd (decide p || decide q) r = r := by
  rw [← Bool.decide_or, decide_eq_true h]; rfl
theorem gdS_t {r : RT} : gdS true r = r := (rfl)
theorem gdS_p {p : Prop} [Decidable p] {r : RT} (h : p) : gdS (decide p) r = r := by rw [decide_eq_true h]; rfl
theorem fk_cases {b : Bool} {Q : RE → Prop} (h1 : b = true → Q x) (h2 : b = false → Q y) : Q (@fk b ⟨x⟩ ⟨y⟩) := by
  cases b
  · exact h2 rfl
  · exact h1 rfl
theorem fkS_cases {b : Bool} {Q : RT → Prop} (h1 : b = true → Q xs) (h2 : b = false → Q ys) : Q (@fkS b ⟨xs⟩ ⟨ys⟩) := by
  cases b
  · exact h2 rfl
  · exact h1 rfl
theorem stands_n {xs : List D} : stands xs none L = true := (rfl)
end
/-! ### expressions -/
section
variable (P : Prg) (K : Nat → List D → Mu → RE) (δ : Ds) (L : Mu)
def locO (o : Option (Option D)) (L : Mu) : RE := match o with | some (some d) => .ok d L | _ => .no
theorem locO_s (d : D) (L : Mu) : locO (some (some d)) L = .ok d L := (rfl)
def glbO (o : Option D) (L : Mu) : RE := match o with | some d => .ok d L | _ => .no
theorem glbO_s (d : D) (L : Mu) : glbO (some d) L = .ok d L := (rfl)
theorem ev_loc (i : Nat) : ev P K (.loc i) δ L = locO δ[i]? L := by unfold ev; rfl
theorem ev_glb (g : Nat) : ev P K (.glb g) δ L = glbO P.glb[g]? L := by
  unfold ev glbO
  cases P.glb[g]? <;> rfl
theorem ev_non : ev P K .non δ L = .ok .non L := by unfold ev; rfl
theorem ev_bl (b : Bool) : ev P K (.bl b) δ L = .ok (.bl b) L := by unfold ev; rfl
theorem ev_int (i : Int) : ev P K (.int i) δ L = .ok (.int i) L := by unfold ev; rfl
theorem ev_str (x : Tx) : ev P K (.str x) δ L = .ok (.str x) L := by unfold ev; rfl
theorem ev_bin (op : Operator) (a b : T) : ev P K (.bin op a b) δ L = @kE (ev P K a δ L) ⟨fun x L => @kE (ev P K b δ L) ⟨fun y L => o2 op x y L⟩⟩ := by (conv => lhs; unfold ev); rfl
theorem ev_binM (op : Operator) (a b : T) : ev P K (.binM op a b) δ L = @kE (ev P K a δ L) ⟨fun x L => @kE (ev P K b δ L) ⟨fun y L => o2M op x y L⟩⟩ := by (conv => lhs; unfold ev); rfl
theorem ev_neg (a : T) : ev P K (.neg a) δ L = @kI (ev P K a δ L) ⟨fun i L => .ok (.int (-i)) L⟩ := by (conv => lhs; unfold ev); rfl
theorem ev_cmp (op : CmpOp) (a b : T) : ev P K (.cmp op a b) δ L = @kE (ev P K a δ L) ⟨fun x L => @kE (ev P K b δ L) ⟨fun y L => oc op x y L⟩⟩ := by (conv => lhs; unfold ev); rfl
theorem ev_chn (op op' : CmpOp) (a b c : T) : ev P K (.chn op op' a b c) δ L = @kE (ev P K a δ L) ⟨fun x L => @kE (ev P K b δ L) ⟨fun y L => @kB (oc op x y L) ⟨fun k L => @fk k ⟨@kE (ev P K c δ L) ⟨fun z L => oc op' y z L⟩⟩ ⟨.ok (.bl false) L⟩⟩⟩⟩ := by (conv => lhs; unfold ev); rfl
theorem ev_and (a b : T) : ev P K (.and a b) δ L = @kB (ev P K a δ L) ⟨fun k L => @fk k ⟨ev P K b δ L⟩ ⟨.ok (.bl false) L⟩⟩ := by (conv => lhs; unfold ev); rfl
theorem ev_or (a b : T) : ev P K (.or a b) δ L = @kB (ev P K a δ L) ⟨fun k L => @fk k ⟨.ok (.bl true) L⟩ ⟨ev P K b δ L⟩⟩ := by (conv => lhs; unfold ev); rfl
theorem ev_not (a : T) : ev P K (.not a) δ L = @kB (ev P K a δ L) ⟨fun k L => .ok (.bl (!k)) L⟩ := by (conv => lhs; unfold ev); rfl
theorem ev_ite (c a b : T) : ev P K (.ite c a b) δ L = @kB (ev P K c δ L) ⟨fun k L => @fk k ⟨ev P K a δ L⟩ ⟨ev P K b δ L⟩⟩ := by (conv => lhs; unfold ev); rfl
theorem ev_nil : ev P K .nil δ L = .ok (.tup []) L := by unfold ev; rfl
theorem ev_cons (a b : T) : ev P K (.cons a b) δ L = @kE (ev P K a δ L) ⟨fun d L => @kA (ev P K b δ L) ⟨fun ds L => .ok (.tup (d :: ds)) L⟩⟩ := by (conv => lhs; unfold ev); rfl
theorem ev_tup (es : T) : ev P K (.tup es) δ L = @kA (ev P K es δ L) ⟨fun ds L => gd (decide (ds.length ≤ 16777216)) (.ok (.tup ds) L)⟩ := by (conv => lhs; unfold ev); rfl
theorem ev_lst (m : Bool) (es : T) : ev P K (.lst m es) δ L = @kA (ev P K es δ L) ⟨fun ds L => gd (decide (ds.length ≤ 16777216)) (mkL m ds L)⟩ := by (conv => lhs; unfold ev); rfl
theorem ev_ix (a b : T) : ev P K (.ix a b) δ L = @kE (ev P K a δ L) ⟨fun d L => @kE (ev P K b δ L) ⟨fun y L => ixO d y L⟩⟩ := by (conv => lhs; unfold ev); rfl
theorem ev_sl (a lo hi : T) : ev P K (.sl a lo hi) δ L = @kE (ev P K a δ L) ⟨fun d L => @fk (isNop lo) ⟨@fk (isNop hi) ⟨slO d none none L⟩ ⟨@kI (ev P K hi δ L) ⟨fun j L => slO d none (some j) L⟩⟩⟩ ⟨@kI (ev P K lo δ L) ⟨fun i L => @fk (isNop hi) ⟨slO d (some i) none L⟩ ⟨@kI (ev P K hi δ L) ⟨fun j L => slO d (some i) (some j) L⟩⟩⟩⟩⟩ := by (conv => lhs; unfold ev); rfl
theorem ev_call (f : Nat) (es : T) : ev P K (.call f es) δ L = @kA (ev P K es δ L) ⟨fun ds L => K f ds L⟩ := by (conv => lhs; unfold ev); rfl
theorem ev_mk (c : Nat) (es : T) : ev P K (.mk c es) δ L = @kA (ev P K es δ L) ⟨fun ds L => mkO P K c ds L⟩ := by (conv => lhs; unfold ev); rfl
theorem ev_meth (m : Nat) (o es : T) : ev P K (.meth m o es) δ L = @kE (ev P K o δ L) ⟨fun d L0 => @mtK (methF P m d L0) ⟨fun f => @kA (ev P K es δ L0) ⟨fun ds L => K f (d :: ds) L⟩⟩⟩ := by
  conv => lhs; unfold ev
  unfold kE
  congr 1; funext d L0
  simp only [mtK]
  split <;> simp only [*] <;> rfl
theorem ev_fld (f : Nat) (o : T) : ev P K (.fld f o) δ L = @kE (ev P K o δ L) ⟨fun d L => fldO P f d L⟩ := by (conv => lhs; unfold ev); rfl
theorem ev_bi (b : Bi) (m : Bool) (es : T) : ev P K (.bi b m es) δ L = @kA (ev P K es δ L) ⟨fun ds L => biO b m ds L⟩ := by (conv => lhs; unfold ev); rfl
theorem ev_bm (b : Bm) (o es : T) : ev P K (.bm b o es) δ L = @kE (ev P K o δ L) ⟨fun d L0 => @fk (bmP b d L0) ⟨@kE (ev P K es δ L0) ⟨fun y L => bmO b d [y] L⟩⟩ ⟨.no⟩⟩ := by
  conv => lhs; unfold ev
  unfold kE
  congr 1
theorem ev_rng (a b c : T) : ev P K (.rng a b c) δ L = @kI (ev P K a δ L) ⟨fun i L => @fk (isNop b) ⟨rgR [.int i] L⟩ ⟨@kI (ev P K b δ L) ⟨fun j L => @fk (isNop c) ⟨rgR [.int i, .int j] L⟩ ⟨@kI (ev P K c δ L) ⟨fun k L => rgR [.int i, .int j, .int k] L⟩⟩⟩⟩⟩ := by (conv => lhs; unfold ev); rfl
theorem ev_lrg (tp : Bool) (a b c : T) : ev P K (.lrg tp a b c) δ L = @kI (ev P K a δ L) ⟨fun i L => @fk (isNop b) ⟨rgL tp [.int i] L⟩ ⟨@kI (ev P K b δ L) ⟨fun j L => @fk (isNop c) ⟨rgL tp [.int i, .int j] L⟩ ⟨@kI (ev P K c δ L) ⟨fun k L => rgL tp [.int i, .int j, .int k] L⟩⟩⟩⟩⟩ := by (conv => lhs; unfold ev); rfl
theorem ev_lcx (m : Bool) (own : List Nat) (tg it cd e : T) : ev P K (.lc m own tg it cd e) δ L = @kE (ev P K it δ L) ⟨fun d L => @itK (itO L d) ⟨fun ds g => gd (decide (ds.length ≤ 16777216)) (lcR m (stands ds g) (lcf P K own tg cd e δ) ds L)⟩⟩ := by
  rw [ev_lc]
  unfold kE
  congr 1
theorem ev_genx (kd : Gk) (own : List Nat) (tg it cd e : T) : ev P K (.gen kd own tg it cd e) δ L = @kE (ev P K it δ L) ⟨fun d L => @itK (itO L d) ⟨fun ds g => gnL (stands ds g) (lcf P K own tg cd e δ) kd 0 ds L⟩⟩ := by
  rw [ev_gen]
  unfold kE
  congr 1
theorem ev_told (f : Nat) (e : T) : ev P K (.told f e) δ L = tld P f (ev P K e δ L) := by
  conv => lhs; unfold ev
  rfl
theorem ev_itr (k : Ik) (e : T) : ev P K (.itr k e) δ L = @kE (ev P K e δ L) ⟨fun d L => itrO k d L⟩ := by (conv => lhs; unfold ev); rfl
def lrmO (i : Int) (L : Mu) : RE := match rgO [.int i] with
    | some ns => gd (decide (ns.length ≤ SL)) (.ok (.rf L.length) (L ++ [.lst (ns.map .int)]))
    | none => .no
theorem ev_lrm (a : T) : ev P K (.lrm a) δ L = @kI (ev P K a δ L) ⟨fun i L => lrmO i L⟩ := by (conv => lhs; unfold ev); rfl
theorem ev_pop0 (o : T) : ev P K (.pop0 o) δ L = @kE (ev P K o δ L) ⟨fun d L => popO d L⟩ := by (conv => lhs; unfold ev); rfl
/-! ### statements -/
theorem sv_skip : sv P K .skip δ L = .nx δ L := by unfold sv; rfl
theorem sv_ex (e : T) : sv P K (.ex e) δ L = @zE δ (ev P K e δ L) ⟨fun _ L => .nx δ L⟩ := by (conv => lhs; unfold sv); rfl
theorem sv_ret (e : T) : sv P K (.ret e) δ L = @zE δ (ev P K e δ L) ⟨fun d L => .rt d L⟩ := by (conv => lhs; unfold sv); rfl
theorem sv_retN : sv P K .retN δ L = .rt .non L := by unfold sv; rfl
theorem sv_ifs (c : T) (a b : S) : sv P K (.ifs c a b) δ L = @zB δ (ev P K c δ L) ⟨fun k L => @fkS k ⟨sv P K a δ L⟩ ⟨sv P K b δ L⟩⟩ := by (conv => lhs; unfold sv); rfl
theorem sv_brk : sv P K .brk δ L = .bk δ L := by unfold sv; rfl
theorem sv_cnt : sv P K .cnt δ L = .ct δ L := by unfold sv; rfl
theorem sv_rse (c : Nat) (e : T) : sv P K (.rse c e) δ L = @zE δ (ev P K e δ L) ⟨fun _ L => .ex c none δ L⟩ := by (conv => lhs; unfold sv); rfl
theorem sv_nil : sv P K .nil δ L = .nx δ L := by unfold sv; rfl
theorem sv_seq (a b : S) : sv P K (.seq a b) δ L = @zQ (sv P K a δ L) ⟨fun δ L => sv P K b δ L⟩ := by (conv => lhs; unfold sv); rfl
theorem sv_for (tg it : T) (b : S) : sv P K (.for_ tg it b) δ L = @zE δ (ev P K it δ L) ⟨fun d L => @itZ (itO L d) ⟨fun ds g => @forF (stands ds g) ⟨fun d δ L => @zG (asg P K tg d δ L) ⟨fun δ L => sv P K b δ L⟩⟩ ds δ L⟩⟩ := by
  conv => lhs; unfold sv
  unfold zE
  congr 1
theorem sv_asgl (i : Nat) (e : T) : sv P K (.asg (.loc i) e) δ L = @zE δ (ev P K e δ L) ⟨fun d L => .nx (δ.set i (some d)) L⟩ := by
  conv => lhs; unfold sv
  rfl
theorem sv_asgt (es e : T) : sv P K (.asg (.tup es) e) δ L = @zE δ (ev P K e δ L) ⟨fun d L => @zG (asg P K (.tup es) d δ L) ⟨fun δ L => .nx δ L⟩⟩ := by
  conv => lhs; unfold sv
  rfl
theorem sv_asgi (a b e : T) : sv P K (.asg (.ix a b) e) δ L = @zE δ (ev P K e δ L) ⟨fun d L => @zG (asg P K (.ix a b) d δ L) ⟨fun δ L => .nx δ L⟩⟩ := by
  conv => lhs; unfold sv
  rfl
theorem sv_asgf (f : Nat) (o e : T) : sv P K (.asg (.fld f o) e) δ L = @zE δ (ev P K e δ L) ⟨fun d L => @zE δ (ev P K o δ L) ⟨fun x L => sfl P f d x δ L⟩⟩ := by
  conv => lhs; unfold sv
  rfl
/-! ### stores -/
theorem asg_loc (i : Nat) (d : D) : asg P K (.loc i) d δ L = .ok (δ.set i (some d)) L := by unfold asg; rfl
def gdG (b : Bool) (r : RG) : RG := if b then r else .no
theorem gdG_t {r : RG} : gdG true r = r := (rfl)
theorem asg_tup (es : T) (ds : List D) : asg P K (.tup es) (.tup ds) δ L = gdG (lenT es == ds.length) (asg.asgs P K es ds δ L) := by
  conv => lhs; unfold asg
  unfold gdG
  by_cases h : lenT es = ds.length
  · rw [if_pos h, if_pos (beq_iff_eq.mpr h)]
  · rw [if_neg h, if_neg (fun e => h (beq_iff_eq.mp e))]
theorem asgs_nil : asg.asgs P K .nil [] δ L = .ok δ L := by unfold asg.asgs; rfl
theorem asgs_cons (a b : T) (d : D) (ds : List D) : asg.asgs P K (.cons a b) (d :: ds) δ L = @gxQ (asg P K a d δ L) ⟨fun δ L => asg.asgs P K b ds δ L⟩ := by
  conv => lhs; unfold asg.asgs
  rfl
theorem asg_ix (o i : T) (v : D) : asg P K (.ix o i) v δ L = @gxE δ (ev P K o δ L) ⟨fun d L => @gxE δ (ev P K i δ L) ⟨fun y L => stG δ (stO v d y L)⟩⟩ := by
  conv => lhs; unfold asg
  rfl
end
end Ac
end
section
/-! Bx2: values. -/
namespace Ac
open PySem PySem.Spec
section
variable {L : Mu} {a b c : Int} {i k n : Nat} {d d2 : D} {xs ys : List D} {x y : Tx}
/-! ### operators -/
theorem o2_add : o2 .Add (.int a) (.int b) L = .ok (.int (a + b)) L := (rfl)
theorem o2_sub : o2 .Sub (.int a) (.int b) L = .ok (.int (a - b)) L := (rfl)
theorem o2_mul (h : a.natAbs < 18446744073709551616 ∨ b.natAbs < 18446744073709551616) : o2 .Mult (.int a) (.int b) L = .ok (.int (a * b)) L := by
  show gd _ _ = _
  exact gd_orl h
theorem o2_fdiv (h : 0 < b) (h' : b < 1073741824) : o2 .FloorDiv (.int a) (.int b) L = .ok (.int (a / b)) L := by
  show gd _ _ = _
  rw [gd_and, gd_p h, gd_p h']
theorem o2_mod (h : 0 < b) : o2 .Mod (.int a) (.int b) L = .ok (.int (a % b)) L := gd_p h
theorem o2_pow (h : 0 ≤ b) (h' : b ≤ 1000000) (ha : a.natAbs < 18446744073709551616) : o2 .Pow (.int a) (.int b) L = .ok (.int (a ^ b.toNat)) L := by
  show gd _ _ = _
  rw [gd_and, gd_and, gd_p h, gd_p h', gd_p ha]
theorem o2_adds : o2 .Add (.str x) (.str y) L = gd (decide (x.length + y.length ≤ 16777216)) (.ok (.str (x ++ y)) L) := (rfl)
theorem o2_catT : o2 .Add (.tup xs) (.tup ys) L = gd (decide (xs.length + ys.length ≤ 16777216)) (.ok (.tup (xs ++ ys)) L) := (rfl)
theorem o2_cat : o2 .Add (.lst xs) (.lst ys) L = gd (decide (xs.length + ys.length ≤ 16777216)) (.ok (.lst (xs ++ ys)) L) := (rfl)
theorem o2M_rep : o2M .Mult (.lst xs) (.int a) L = gd (decide (-9223372036854775808 ≤ a) && decide (a < 9223372036854775808) && decide (xs.length * a.toNat ≤ 16777216)) (.ok (.rf L.length) (L ++ [.lst (List.replicate a.toNat xs).flatten])) := (rfl)
theorem o2M_cat : o2M .Add (.lst xs) (.lst ys) L = gd (decide (xs.length + ys.length ≤ 16777216)) (.ok (.rf L.length) (L ++ [.lst (xs ++ ys)])) := (rfl)
theorem o2_rep : o2 .Mult (.lst xs) (.int a) L = gd (decide (-9223372036854775808 ≤ a) && decide (a < 9223372036854775808) && decide (xs.length * a.toNat ≤ 16777216)) (.ok (.lst (List.replicate a.toNat xs).flatten) L) := (rfl)
theorem o2i_add : o2i .Add (.int a) (.int b) L = .ok (.int (a + b)) L := (rfl)
theorem o2i_mul (h : a.natAbs < 18446744073709551616 ∨ b.natAbs < 18446744073709551616) : o2i .Mult (.int a) (.int b) L = .ok (.int (a * b)) L := by
  show gd (decide (a.natAbs < 18446744073709551616) || decide (b.natAbs < 18446744073709551616)) (.ok (.int (a * b)) L) = _
  rcases h with h | h <;> simp [h, gd]
theorem o2i_adds : o2i .Add (.str x) (.str y) L = gd (decide (x.length + y.length ≤ SL)) (.ok (.str (x ++ y)) L) := (rfl)
theorem o2i_sub : o2i .Sub (.int a) (.int b) L = .ok (.int (a - b)) L := (rfl)
theorem oc_lt : oc .Lt (.int a) (.int b) L = .ok (.bl (decide (a < b))) L := (rfl)
theorem oc_le : oc .LtE (.int a) (.int b) L = .ok (.bl (decide (a ≤ b))) L := (rfl)
theorem oc_gt : oc .Gt (.int a) (.int b) L = .ok (.bl (decide (b < a))) L := (rfl)
theorem oc_ge : oc .GtE (.int a) (.int b) L = .ok (.bl (decide (b ≤ a))) L := (rfl)
theorem bi_strI {m : Bool} : biO .str m [.int a] L = gd (decide (a.natAbs < 18446744073709551616)) (.ok (.str (txI a)) L) := (rfl)
theorem bi_strS {m : Bool} : biO .str m [.str x] L = .ok (.str x) L := (rfl)
theorem oc_lts : oc .Lt (.str x) (.str y) L = gd (okAl [.str x, .str y]) (.ok (.bl (ltD (.str x) (.str y))) L) := (rfl)
theorem oc_les : oc .LtE (.str x) (.str y) L = gd (okAl [.str x, .str y]) (.ok (.bl (!ltD (.str y) (.str x))) L) := (rfl)
theorem oc_gts : oc .Gt (.str x) (.str y) L = gd (okAl [.str x, .str y]) (.ok (.bl (ltD (.str y) (.str x))) L) := (rfl)
theorem oc_ges : oc .GtE (.str x) (.str y) L = gd (okAl [.str x, .str y]) (.ok (.bl (!ltD (.str x) (.str y))) L) := (rfl)
theorem oc_eqi : oc .Eq (.int a) (.int b) L = .ok (.bl (decide (a = b))) L := by
  show RE.ok (.bl (decide (a = b) != false)) L = _
  rw [bne_false]
theorem oc_nei : oc .NotEq (.int a) (.int b) L = .ok (.bl (!decide (a = b))) L := by
  show RE.ok (.bl (decide (a = b) != true)) L = _
  rw [bne_true]
def eqR (a b : Option D) (c c' : Option (List (Kt × D))) (L : Mu) : RE := match a, b with
  | some a, some b => .ok (.bl (a.eq b)) L
  | _, _ => match c, c' with
    | some ks, some ls => gd (dcEq ks ls) (.ok (.bl true) L)
    | _, _ => .no
def neR (a b : Option D) (c c' : Option (List (Kt × D))) (L : Mu) : RE := match a, b with
  | some a, some b => .ok (.bl (!a.eq b)) L
  | _, _ => match c, c' with
    | some ks, some ls => gd (dcEq ks ls) (.ok (.bl false) L)
    | _, _ => .no
section
variable {c c' : Option (List (Kt × D))} {ks ls : List (Kt × D)}
theorem eqR_s {d e : D} : eqR (some d) (some e) c c' L = .ok (.bl (d.eq e)) L := (rfl)
theorem neR_s {d e : D} : neR (some d) (some e) c c' L = .ok (.bl (!d.eq e)) L := (rfl)
theorem eqR_d {b : Option D} : eqR none b (some ks) (some ls) L = gd (dcEq ks ls) (.ok (.bl true) L) := (rfl)
theorem neR_d {b : Option D} : neR none b (some ks) (some ls) L = gd (dcEq ks ls) (.ok (.bl false) L) := (rfl)
end
theorem oc_eq {d e : D} : oc .Eq d e L = eqR (rsv L 60 d) (rsv L 60 e) (dcO L d) (dcO L e) L := by
  show eqO d e L false = _
  unfold eqO eqR
  split
  · rw [bne_false]; simp only [rsv, D.eq_intI]
  · cases rsv L 60 d <;> cases rsv L 60 e <;> cases dcO L d <;> cases dcO L e <;> simp only [bne_false] <;> rfl
theorem oc_ne {d e : D} : oc .NotEq d e L = neR (rsv L 60 d) (rsv L 60 e) (dcO L d) (dcO L e) L := by
  show eqO d e L true = _
  unfold eqO neR
  split
  · rw [bne_true]; simp only [rsv, D.eq_intI]
  · cases rsv L 60 d <;> cases rsv L 60 e <;> cases dcO L d <;> cases dcO L e <;> simp only [bne_true] <;> rfl
def cellD (o : Option MO) : Option (List (Kt × D)) := match o with
  | some (.dct ks) => some ks
  | _ => none
theorem cellD_s {ks : List (Kt × D)} : cellD (some (.dct ks)) = some ks := (rfl)
theorem cellD_l : cellD (some (.lst xs)) = none := (rfl)
theorem dcO_dct {ks : List (Kt × D)} : dcO L (.dct ks) = some ks := (rfl)
theorem dcO_rf : dcO L (.rf i) = cellD L[i]? := by
  unfold dcO cellD
  dsimp only
  all_goals (cases L[i]? with | none => rfl | some o => cases o <;> rfl)
/-! ### data through cells -/
theorem rsv_non : rsv L n .non = some .non := by unfold rsv; rfl
theorem rsv_bl {b : Bool} : rsv L n (.bl b) = some (.bl b) := by unfold rsv; rfl
theorem rsv_int : rsv L n (.int a) = some (.int a) := by unfold rsv; rfl
theorem rsv_str (h : tOk x = true) : rsv L n (.str x) = some (.str x) := by unfold rsv; rw [if_pos h]
theorem rsv_tup : rsv L (n + 1) (.tup xs) = (rsvs L n xs).map .tup := by (conv => lhs; unfold rsv)
theorem rsv_lst : rsv L (n + 1) (.lst xs) = (rsvs L n xs).map .lst := by (conv => lhs; unfold rsv)
def rsC (L : Mu) (n : Nat) (o : Option MO) : Option D := match o with
  | some (.lst xs) => (rsvs L n xs).map .lst
  | _ => none
theorem rsC_s : rsC L n (some (.lst xs)) = (rsvs L n xs).map .lst := (rfl)
theorem rsC_d {ks : List (Kt × D)} : rsC L n (some (.dct ks)) = none := (rfl)
theorem rsv_dct {ks : List (Kt × D)} : rsv L n (.dct ks) = none := by unfold rsv; rfl
theorem rsv_rf : rsv L (n + 1) (.rf i) = rsC L n L[i]? := by
  conv => lhs; unfold rsv
  unfold rsC
  all_goals (cases L[i]? with | none => rfl | some o => cases o <;> rfl)
theorem rsvs_nil : rsvs L n [] = some [] := by unfold rsvs; rfl
def rcs (a : Option D) (b : Option (List D)) : Option (List D) := match a, b with
  | some a, some b => some (a :: b)
  | _, _ => none
theorem rcs_s : rcs (some d) (some xs) = some (d :: xs) := (rfl)
theorem rsvs_cons : rsvs L n (d :: xs) = rcs (rsv L n d) (rsvs L n xs) := by
  conv => lhs; unfold rsvs
  unfold rcs
  cases rsv L n d <;> cases rsvs L n xs <;> rfl
theorem rsvs_ints {ns : List Int} : rsvs L n (ns.map .int) = some (ns.map .int) := by
  induction ns with
  | nil => rw [List.map_nil, rsvs_nil]
  | cons m ns ih => rw [List.map_cons, rsvs_cons, ih, rsv_int]; rfl
theorem rsvs_map {α : Type} {f : α → D} {g : α → D} {l : List α} (h : ∀ z ∈ l, rsv L n (f z) = some (g z)) : rsvs L n (l.map f) = some (l.map g) := by
  induction l with
  | nil => rw [List.map_nil, rsvs_nil]; rfl
  | cons m ns ih => rw [List.map_cons, rsvs_cons, ih (fun z hz => h z (List.mem_cons_of_mem _ hz)), h _ List.mem_cons_self]; rfl
mutual
theorem rsv_flat : ∀ {n : Nat} {d : D}, D.flat n d = true → rsv L n d = some d
  | n, .non, _ => by unfold rsv; rfl
  | n, .bl a, _ => by unfold rsv; rfl
  | n, .int a, _ => by unfold rsv; rfl
  | n, .str a, h => by unfold D.flat at h; exact rsv_str h
  | n + 1, .tup a, h => by simp only [D.flat] at h; rw [rsv_tup, rsvs_flat h]; rfl
  | n + 1, .lst a, h => by simp only [D.flat] at h; rw [rsv_lst, rsvs_flat h]; rfl
  | 0, .tup _, h | 0, .lst _, h => by simp [D.flat] at h
  | _, .lsk _, h | _, .rf _, h | _, .obj _ _, h | _, .dct _, h | _, .dtt _, h | _, .ty _, h | _, .lam _, h => by simp [D.flat] at h
theorem rsvs_flat : ∀ {n : Nat} {a : List D}, flats n a = true → rsvs L n a = some a
  | n, [], _ => rsvs_nil
  | n, a :: as, h => by
    simp only [flats, Bool.and_eq_true] at h
    rw [rsvs_cons, rsv_flat h.1, rsvs_flat h.2]; rfl
end
theorem oc_ne_same {d e : D} (h : d = e) (hf : D.flat 60 d = true) : oc .NotEq d e L = .ok (.bl false) L := by
  subst h
  rw [oc_ne, rsv_flat hf, neR_s, D.eq_refl hf]; rfl
theorem oc_eq_same {d e : D} (h : d = e) (hf : D.flat 60 d = true) : oc .Eq d e L = .ok (.bl true) L := by
  subst h
  rw [oc_eq, rsv_flat hf, eqR_s, D.eq_refl hf]
theorem flat_int : D.flat n (.int a) = true := (rfl)
theorem flat_bl {b : Bool} : D.flat n (.bl b) = true := (rfl)
theorem flat_non : D.flat n .non = true := (rfl)
theorem flat_str : D.flat n (.str x) = tOk x := (rfl)
theorem flat_tup : D.flat (n + 1) (.tup xs) = flats n xs := by unfold D.flat; rfl
theorem flat_lst : D.flat (n + 1) (.lst xs) = flats n xs := by unfold D.flat; rfl
theorem flats_nil : flats n [] = true := by unfold flats; rfl
theorem flats_cons : flats n (d :: xs) = (D.flat n d && flats n xs) := by (conv => lhs; unfold flats)
theorem flats_ints {ns : List Int} : flats n (ns.map .int) = true := by
  induction ns with
  | nil => rw [List.map_nil, flats_nil]
  | cons m ns ih => rw [List.map_cons, flats_cons, ih]; rfl
theorem flats_app : flats n (xs ++ ys) = (flats n xs && flats n ys) := by
  induction xs with
  | nil => rw [flats_nil]; rfl
  | cons m ns ih => rw [List.cons_append, flats_cons, flats_cons, ih, Bool.and_assoc]
theorem flats_map {α : Type} {f : α → D} {l : List α} (h : ∀ z ∈ l, D.flat n (f z) = true) : flats n (l.map f) = true := by
  induction l with
  | nil => rw [List.map_nil, flats_nil]
  | cons m ns ih => rw [List.map_cons, flats_cons, ih (fun z hz => h z (List.mem_cons_of_mem _ hz)), h _ List.mem_cons_self]; rfl
/-! ### equality of data -/
def D.eqs (xs ys : List D) : Bool := PyData.eqvAll (pds xs) (pds ys)
theorem deq_int : D.eq (.int a) (.int b) = decide (a = b) := D.eq_intI a b
theorem deq_bl {a b : Bool} : D.eq (.bl a) (.bl b) = (a == b) := by unfold D.eq D.pd; cases a <;> cases b <;> (simp only [PyData.eqv]; try decide)
theorem deq_str : D.eq (.str x) (.str y) = decide (x = y) := by
  unfold D.eq D.pd
  simp only [PyData.eqv]
  rw [Bool.eq_iff_iff, decide_eq_true_eq, beq_iff_eq]
  unfold Tx.s
  constructor
  · intro h
    have := congrArg (fun s : Str => s.cps.toList) h
    simpa using this
  · rintro rfl; rfl
theorem deq_tup : D.eq (.tup xs) (.tup ys) = D.eqs xs ys := by unfold D.eq D.pd; simp only [PyData.eqv, D.eqs]
theorem deq_lst : D.eq (.lst xs) (.lst ys) = D.eqs xs ys := by unfold D.eq D.pd; simp only [PyData.eqv, D.eqs]
theorem deqs_nil : D.eqs [] [] = true := by unfold D.eqs pds; simp only [PyData.eqvAll]
theorem deqs_cons : D.eqs (d :: xs) (d2 :: ys) = (d.eq d2 && D.eqs xs ys) := by unfold D.eqs; conv => lhs; unfold pds; unfold PyData.eqvAll
                                                                                rfl
theorem deqs_nc : D.eqs [] (d2 :: ys) = false := by unfold D.eqs pds; simp only [PyData.eqvAll]
theorem deqs_cn : D.eqs (d :: xs) [] = false := by unfold D.eqs pds; simp only [PyData.eqvAll]
theorem deq_non : D.eq .non .non = true := by unfold D.eq D.pd; simp only [PyData.eqv]
theorem deq_non_int : D.eq .non (.int b) = false := by unfold D.eq D.pd; simp only [PyData.eqv]
theorem deq_non_str : D.eq .non (.str y) = false := by unfold D.eq D.pd; simp only [PyData.eqv]
theorem deq_non_tup : D.eq .non (.tup ys) = false := by unfold D.eq D.pd; simp only [PyData.eqv]
theorem deq_non_lst : D.eq .non (.lst ys) = false := by unfold D.eq D.pd; simp only [PyData.eqv]
theorem deq_int_non : D.eq (.int a) .non = false := by unfold D.eq D.pd; simp only [PyData.eqv]
theorem deq_int_str : D.eq (.int a) (.str y) = false := by unfold D.eq D.pd; simp only [PyData.eqv]
theorem deq_int_tup : D.eq (.int a) (.tup ys) = false := by unfold D.eq D.pd; simp only [PyData.eqv]
theorem deq_int_lst : D.eq (.int a) (.lst ys) = false := by unfold D.eq D.pd; simp only [PyData.eqv]
theorem deq_str_non : D.eq (.str x) .non = false := by unfold D.eq D.pd; simp only [PyData.eqv]
theorem deq_str_int : D.eq (.str x) (.int b) = false := by unfold D.eq D.pd; simp only [PyData.eqv]
theorem deq_str_tup : D.eq (.str x) (.tup ys) = false := by unfold D.eq D.pd; simp only [PyData.eqv]
theorem deq_str_lst : D.eq (.str x) (.lst ys) = false := by unfold D.eq D.pd; simp only [PyData.eqv]
theorem deq_tup_non : D.eq (.tup xs) .non = false := by unfold D.eq D.pd; simp only [PyData.eqv]
theorem deq_tup_int : D.eq (.tup xs) (.int b) = false := by unfold D.eq D.pd; simp only [PyData.eqv]
theorem deq_tup_str : D.eq (.tup xs) (.str y) = false := by unfold D.eq D.pd; simp only [PyData.eqv]
theorem deq_tup_lst : D.eq (.tup xs) (.lst ys) = false := by unfold D.eq D.pd; simp only [PyData.eqv]
theorem deq_lst_non : D.eq (.lst xs) .non = false := by unfold D.eq D.pd; simp only [PyData.eqv]
theorem deq_lst_int : D.eq (.lst xs) (.int b) = false := by unfold D.eq D.pd; simp only [PyData.eqv]
theorem deq_lst_str : D.eq (.lst xs) (.str y) = false := by unfold D.eq D.pd; simp only [PyData.eqv]
theorem deq_lst_tup : D.eq (.lst xs) (.tup ys) = false := by unfold D.eq D.pd; simp only [PyData.eqv]
theorem deq_bl_str {b : Bool} : D.eq (.bl b) (.str y) = false := by unfold D.eq D.pd; simp only [PyData.eqv]
theorem deq_str_bl {b : Bool} : D.eq (.str x) (.bl b) = false := by unfold D.eq D.pd; simp only [PyData.eqv]
/-! ### what reads as a list -/
def cellL (o : Option MO) : Option (List D) := match o with
  | some (.lst xs) => some xs
  | _ => none
theorem cellL_s : cellL (some (.lst xs)) = some xs := (rfl)
theorem cellL_d {ks : List (Kt × D)} : cellL (some (.dct ks)) = none := (rfl)
theorem lsO_lst : lsO L (.lst xs) = some xs := (rfl)
theorem lsO_lsk : lsO L (.lsk xs) = some xs := (rfl)
theorem lsO_rf : lsO L (.rf i) = cellL L[i]? := by
  unfold lsO cellL
  dsimp only
  all_goals (cases L[i]? with | none => rfl | some o => cases o <;> rfl)
theorem ltO_lst : ltO L (.lst xs) = some xs := (rfl)
theorem ltO_rf : ltO L (.rf i) = cellL L[i]? := by
  unfold ltO cellL
  dsimp only
  all_goals (cases L[i]? with | none => rfl | some o => cases o <;> rfl)
theorem sqO_tup : sqO L (.tup xs) = some xs := (rfl)
theorem sqO_lst : sqO L (.lst xs) = some xs := (rfl)
theorem sqO_lsk : sqO L (.lsk xs) = some xs := (rfl)
theorem sqO_rf : sqO L (.rf i) = cellL L[i]? := lsO_rf
def itC (i : Nat) (o : Option MO) : Option (List D × Option Nat) := match o with
  | some (.lst xs) => some (xs, some i)
  | _ => none
theorem itC_s : itC i (some (.lst xs)) = some (xs, some i) := (rfl)
theorem itO_tup : itO L (.tup xs) = some (xs, none) := (rfl)
theorem itO_lst : itO L (.lst xs) = some (xs, none) := (rfl)
theorem itO_lsk : itO L (.lsk xs) = some (xs, none) := (rfl)
theorem itO_str : itO L (.str x) = some (x.map fun c => .str [c], none) := (rfl)
theorem itO_rf : itO L (.rf i) = itC i L[i]? := by
  unfold itO itC
  dsimp only
  all_goals (cases L[i]? with | none => rfl | some o => cases o <;> rfl)
/-! ### objects -/
def cellI (o : Option MO) : Option (Nat × List D) := match o with
  | some (.ins C xs) => some (C, xs)
  | _ => none
theorem cellI_s : cellI (some (.ins n xs)) = some (n, xs) := (rfl)
theorem insO_obj : insO L (.obj n xs) = some (n, xs) := (rfl)
theorem insO_rf : insO L (.rf i) = cellI L[i]? := by
  unfold insO cellI
  dsimp only
  all_goals (cases L[i]? with | none => rfl | some o => cases o <;> rfl)
/-- the place of a field -/
def fix (P : Prg) (C f : Nat) : Option Nat := (P.cls[C]?).bind fun c => c.fl.idxOf? f
/-- the def of a method -/
def mtx (P : Prg) (C m : Nat) : Option Nat := (P.cls[C]?).bind fun c => c.ml.lookup m
def fldR (P : Prg) (f : Nat) (o : Option (Nat × List D)) (L : Mu) : RE := match o with
  | none => .no
  | some (C, xs) => match fix P C f with
    | none => .no
    | some j => glbO xs[j]? L
def fldJ (o : Option Nat) (xs : List D) (L : Mu) : RE := match o with
    | none => .no
    | some j => glbO xs[j]? L
theorem fldJ_s {j : Nat} : fldJ (some j) xs L = glbO xs[j]? L := (rfl)
theorem fldR_s {P : Prg} {f : Nat} : fldR P f (some (n, xs)) L = fldJ (fix P n f) xs L := (rfl)
theorem fldO_R {P : Prg} {f : Nat} : fldO P f d L = fldR P f (insO L d) L := by
  unfold fldO fldR fix
  cases insO L d with
  | none => rfl
  | some p =>
    obtain ⟨C, xs⟩ := p
    cases h : P.cls[C]? with
    | none => simp only [h]; rfl
    | some c =>
      simp only [h, Option.bind_some]
      cases c.fl.idxOf? f with
      | none => rfl
      | some j => simp only [glbO]; cases xs[j]? <;> rfl
def mthR (P : Prg) (m : Nat) (o : Option (Nat × List D)) : Option Nat := match o with
  | none => none
  | some (C, _) => mtx P C m
theorem mthR_s {P : Prg} {m : Nat} : mthR P m (some (n, xs)) = mtx P n m := (rfl)
theorem methF_R {P : Prg} {m : Nat} : methF P m d L = mthR P m (insO L d) := by
  unfold methF mthR mtx
  cases insO L d with
  | none => rfl
  | some p =>
    obtain ⟨C, xs⟩ := p
    cases h : P.cls[C]? <;> simp only [h] <;> rfl
def sflR (P : Prg) (f : Nat) (y : D) (i : Nat) (δ : Ds) (L : Mu) (o : Option (Nat × List D)) : RT := match o with
  | none => .no
  | some (C, xs) => match fix P C f with
    | none => .no
    | some j => gdS (decide (j ≤ xs.length)) (.nx δ (L.set i (.ins C (putX j y xs))))
def sflJ (o : Option Nat) (C : Nat) (y : D) (i : Nat) (δ : Ds) (L : Mu) (xs : List D) : RT := match o with
    | none => .no
    | some j => gdS (decide (j ≤ xs.length)) (.nx δ (L.set i (.ins C (putX j y xs))))
theorem sflJ_s {j C : Nat} {δ : Ds} : sflJ (some j) C d i δ L xs = gdS (decide (j ≤ xs.length)) (.nx δ (L.set i (.ins C (putX j d xs)))) := (rfl)
theorem sflR_s {P : Prg} {f : Nat} {δ : Ds} : sflR P f d i δ L (some (n, xs)) = sflJ (fix P n f) n d i δ L xs := (rfl)
theorem sfl_R {P : Prg} {f : Nat} {δ : Ds} : sfl P f d (.rf i) δ L = sflR P f d i δ L (cellI L[i]?) := by
  unfold sfl sflR cellI fix
  cases h : L[i]? with
  | none => simp only [h]
  | some o => cases o with
    | ins C ys =>
      simp only [h]
      cases h2 : P.cls[C]? with
      | none => simp only [h2]; rfl
      | some c => simp only [h2, Option.bind_some]; cases c.fl.idxOf? f <;> rfl
    | _ => simp only [h]
/-! ### subscripts -/
def atR (o : Option D) (L : Mu) : RE := match o with | some z => .ok z L | none => .no
theorem atR_s : atR (some d) L = .ok d L := (rfl)
theorem ix_tup : ixO (.tup xs) (.int a) L = atR (L2.atI xs a) L := (rfl)
theorem ix_lst : ixO (.lst xs) (.int a) L = atR (L2.atI xs a) L := (rfl)
def ixR (o : Option (List D)) (c : Option (List (Kt × D))) (a : Int) (L : Mu) : RE := match o with
  | some xs => atR (L2.atI xs a) L
  | none => match c with
    | some ks => atR (valD ks (.inl a)) L
    | none => .no
def ixK (c : Option (List (Kt × D))) (x : Tx) (L : Mu) : RE := match c with
  | some ks => atR (valD ks (.inr x)) L
  | none => .no
section
variable {c : Option (List (Kt × D))} {ks : List (Kt × D)}
theorem ixR_s : ixR (some xs) c a L = atR (L2.atI xs a) L := (rfl)
theorem ixR_d : ixR none (some ks) a L = atR (valD ks (.inl a)) L := (rfl)
theorem ixK_s : ixK (some ks) x L = atR (valD ks (.inr x)) L := (rfl)
theorem ix_rf : ixO (.rf i) (.int a) L = ixR (cellL L[i]?) (cellD L[i]?) a L := by
  rw [← lsO_rf, ← dcO_rf]
  unfold ixO ixR atR
  dsimp only [ktO]
  cases lsO L (.rf i) with
  | some xs => rfl
  | none => cases dcO L (.rf i) <;> rfl
theorem ix_rfS : ixO (.rf i) (.str x) L = ixK (cellD L[i]?) x L := by
  rw [← dcO_rf]
  unfold ixO ixK atR
  dsimp only [ktO]
  have : dcO L (.rf i) = cellD L[i]? := dcO_rf
  rw [this, lsO_rf]
  all_goals (cases L[i]? with | none => rfl | some o => cases o <;> rfl)
theorem ix_dctS : ixO (.dct ks) (.str x) L = atR (valD ks (.inr x)) L := (rfl)
theorem ix_dctI : ixO (.dct ks) (.int a) L = atR (valD ks (.inl a)) L := (rfl)
end
theorem at_nat {α : Type} {xs : List α} {i : Nat} : L2.atI xs (i : Int) = xs[i]? := by
  unfold L2.atI L2.ixN
  rw [if_pos (by omega)]
  split
  · simp
  · rename_i h
    rw [List.getElem?_eq_none (by omega)]; rfl
theorem at_0 {α : Type} {xs : List α} : L2.atI xs (0 : Int) = xs[0]? := at_nat (i := 0)
theorem at_pos {α : Type} {xs : List α} (h : 0 ≤ a) : L2.atI xs a = xs[a.toNat]? := by
  obtain ⟨n, rfl⟩ := Int.eq_ofNat_of_zero_le h
  rw [at_nat]; rfl
theorem at_neg {α : Type} {xs : List α} (h : a < 0) (h' : -(xs.length : Int) ≤ a) : L2.atI xs a = xs[(a + xs.length).toNat]? := by
  unfold L2.atI L2.ixN
  rw [if_neg (by omega), if_pos h']
  rfl
def strR (o : Option Nat) (x : Tx) (L : Mu) : RE := match o with
  | some c => gd (decide (x.length ≤ 16777216)) (.ok (.str [c]) L)
  | none => .no
theorem strR_s {c : Nat} : strR (some c) x L = gd (decide (x.length ≤ 16777216)) (.ok (.str [c]) L) := (rfl)
theorem ix_str : ixO (.str x) (.int a) L = strR (L2.atI x a) x L := (rfl)
theorem get_tx (ha : 0 ≤ a) (hb : a < x.length) : x[a.toNat]? = some (x.getD a.toNat 0) := by
  rw [List.getElem?_eq_getElem (show a.toNat < x.length by omega)]
  simp [List.getD_eq_getElem?_getD, List.getElem?_eq_getElem (show a.toNat < x.length by omega)]
def joR (a : Tx) (o : Option (List Tx)) (L : Mu) : RE := match o with
  | some ys => gd (decide ((ys.map (fun z : List Nat => z.length)).sum + ys.length * a.length ≤ 16777216)) (.ok (.str (TL.joinL a ys)) L)
  | none => .no
theorem joR_s {ys : List Tx} : joR x (some ys) L = gd (decide ((ys.map (fun z : List Nat => z.length)).sum + ys.length * x.length ≤ 16777216)) (.ok (.str (TL.joinL x ys)) L) := (rfl)
theorem bm_joinL : bmO .join (.str x) [.lst xs] L = joR x (txs xs) L := by
  show (match sqO L (.lst xs) with
    | some xs => match txs xs with
      | some ys => gd (decide ((ys.map (fun z : List Nat => z.length)).sum + ys.length * x.length ≤ 16777216)) (RE.ok (.str (TL.joinL x ys)) L)
      | none => .no
    | none => .no) = _
  rw [sqO_lst]; unfold joR; rfl
theorem txs_map {α : Type} {f : α → Tx} {l : List α} : txs (l.map fun z => D.str (f z)) = some (l.map f) := by
  induction l with
  | nil => rfl
  | cons z l ih =>
    rw [List.map_cons]
    show (txs (l.map fun z => D.str (f z))).map (f z :: ·) = _
    rw [ih]; rfl
theorem joinL_0 : ∀ ys : List Tx, TL.joinL [] ys = ys.flatten
  | [] => rfl
  | [p] => by simp [TL.joinL]
  | p :: q :: r => by
    show p ++ ([] ++ TL.joinL [] (q :: r)) = _
    rw [joinL_0 (q :: r), List.flatten_cons]; rfl
theorem flat_sing {α : Type} {f : α → Nat} {l : List α} : (l.map fun z => [f z]).flatten = l.map f := by
  induction l with
  | nil => rfl
  | cons z l ih => rw [List.map_cons, List.flatten_cons, ih]; rfl
theorem len_sing {α : Type} {f : α → Nat} {l : List α} : ((l.map fun z => [f z]).map (fun z : List Nat => z.length)).sum = l.length := by
  induction l with
  | nil => rfl
  | cons z l ih => rw [List.map_cons, List.map_cons, List.sum_cons, ih, List.length_cons]; exact Nat.add_comm 1 _
section
variable {δ : Ds} {c : Option (List (Kt × D))} {ks : List (Kt × D)} {j : Nat}
def stJ (v : D) (i : Nat) (j : Option Nat) (xs : List D) (L : Mu) : Option Mu := match j with
  | some j => some (L.set i (.lst (xs.set j v)))
  | none => none
def stK (v : D) (i : Nat) (k : Kt) (ks : List (Kt × D)) (L : Mu) : Option Mu := if ks.length < 16777216 then some (L.set i (.dct (putD ks k v))) else none
def stL (v : D) (i : Nat) (a : Int) (o : Option (List D)) (c : Option (List (Kt × D))) (L : Mu) : Option Mu := match o with
  | some xs => stJ v i (L2.ixN xs.length a) xs L
  | none => match c with
    | some ks => stK v i (.inl a) ks L
    | none => none
def stS (v : D) (i : Nat) (x : Tx) (c : Option (List (Kt × D))) (L : Mu) : Option Mu := match c with
  | some ks => stK v i (.inr x) ks L
  | none => none
theorem stJ_s : stJ d i (some j) xs L = some (L.set i (.lst (xs.set j d))) := (rfl)
theorem stK_s {k : Kt} (h : ks.length < 16777216) : stK d i k ks L = some (L.set i (.dct (putD ks k d))) := by unfold stK; rw [if_pos h]
theorem stL_s : stL d i a (some xs) c L = stJ d i (L2.ixN xs.length a) xs L := (rfl)
theorem stL_d : stL d i a none (some ks) L = stK d i (.inl a) ks L := (rfl)
theorem stS_s : stS d i x (some ks) L = stK d i (.inr x) ks L := (rfl)
theorem stG_s : stG δ (some L) = .ok δ L := (rfl)
theorem stR_s : stR δ (some L) = .nx δ L := (rfl)
theorem sto_rf : stO d (.rf i) (.int a) L = stL d i a (cellL L[i]?) (cellD L[i]?) L := by
  unfold stO stL stJ stK cellL cellD
  dsimp only [ktO]
  all_goals (cases L[i]? with
    | none => rfl
    | some o => cases o with
      | lst xs => dsimp only; cases L2.ixN xs.length a <;> rfl
      | _ => rfl)
theorem sto_rfS : stO d (.rf i) (.str x) L = stS d i x (cellD L[i]?) L := by
  unfold stO stS stK cellD
  dsimp only [ktO]
  all_goals (cases L[i]? with | none => rfl | some o => cases o <;> rfl)
def gtL (a : Int) (o : Option (List D)) (c : Option (List (Kt × D))) : Option D := match o with
  | some xs => L2.atI xs a
  | none => match c with
    | some ks => valD ks (.inl a)
    | none => none
def gtS (x : Tx) (c : Option (List (Kt × D))) : Option D := match c with
  | some ks => valD ks (.inr x)
  | none => none
theorem gtL_s : gtL a (some xs) c = L2.atI xs a := (rfl)
theorem gtL_d : gtL a none (some ks) = valD ks (.inl a) := (rfl)
theorem gtS_s : gtS x (some ks) = valD ks (.inr x) := (rfl)
theorem gto_rf : gtO (.rf i) (.int a) L = gtL a (cellL L[i]?) (cellD L[i]?) := by
  unfold gtO gtL cellL cellD
  dsimp only [ktO]
  all_goals (cases L[i]? with | none => rfl | some o => cases o <;> rfl)
theorem gto_rfS : gtO (.rf i) (.str x) L = gtS x (cellD L[i]?) := by
  unfold gtO gtS cellD
  dsimp only [ktO]
  all_goals (cases L[i]? with | none => rfl | some o => cases o <;> rfl)
end
theorem ixN_pos {n : Nat} (h : 0 ≤ a) (h' : a < n) : L2.ixN n a = some a.toNat := by
  unfold L2.ixN
  rw [if_pos h, if_pos h']
theorem sl_tup {i j : Option Int} : slO (.tup xs) i j L = .ok (.tup (cut xs i j)) L := (rfl)
theorem sl_lst {i j : Option Int} : slO (.lst xs) i j L = .ok (.lst (cut xs i j)) L := (rfl)
theorem sl_lsk {i j : Option Int} : slO (.lsk xs) i j L = .ok (.lst (cut xs i j)) L := (rfl)
/-! ### built-ins -/
def lenR (o : Option (List D)) (c : Option (List (Kt × D))) (L : Mu) : RE := match o with
  | some xs => .ok (.int xs.length) L
  | none => match c with
    | some ks => .ok (.int ks.length) L
    | none => .no
theorem lenR_s {c : Option (List (Kt × D))} : lenR (some xs) c L = .ok (.int xs.length) L := (rfl)
theorem lenR_d {ks : List (Kt × D)} : lenR none (some ks) L = .ok (.int ks.length) L := (rfl)
variable {m : Bool}
theorem bi_lenS : biO .len m [.str x] L = gd (decide (x.length ≤ 16777216)) (.ok (.int x.length) L) := (rfl)
theorem bi_lenT : biO .len m [.tup xs] L = .ok (.int xs.length) L := (rfl)
theorem bi_lenL : biO .len m [.lst xs] L = .ok (.int xs.length) L := (rfl)
theorem bi_lenC : biO .len m [.rf i] L = lenR (cellL L[i]?) (cellD L[i]?) L := by rw [← sqO_rf, ← dcO_rf]; rfl
theorem bi_lenD {ks : List (Kt × D)} : biO .len m [.dct ks] L = .ok (.int ks.length) L := (rfl)
def dctR (m : Bool) (o : Option (List (Kt × D))) (L : Mu) : RE := match o with
  | some ks => mkDc m (mergeD [] ks) L
  | none => .no
theorem dctR_s {ks : List (Kt × D)} : dctR m (some ks) L = mkDc m (mergeD [] ks) L := (rfl)
theorem mkDc_t {ks : List (Kt × D)} : mkDc true ks L = .ok (.rf L.length) (L ++ [.dct ks]) := (rfl)
theorem mkDc_f {ks : List (Kt × D)} : mkDc false ks L = .ok (.dct ks) L := (rfl)
theorem bi_dct : biO .dct m [.lst xs] L = dctR m (prsO xs) L := by
  show (match lsO L (.lst xs) with
    | some xs => match prsO xs with
      | some ks => mkDc m (mergeD [] ks) L
      | none => RE.no
    | none => RE.no) = _
  rw [lsO_lst]; rfl
theorem bi_abs : biO .abs m [.int a] L = .ok (.int (if a < 0 then -a else a)) L := (rfl)
theorem bi_min2 : biO .min m [.int a, .int b] L = .ok (.int (min a b)) L := (rfl)
theorem bi_max2 : biO .max m [.int a, .int b] L = .ok (.int (max a b)) L := (rfl)
theorem bi_min3 : biO .min m [.int a, .int b, .int c] L = .ok (.int (min (min a b) c)) L := (rfl)
theorem bi_max3 : biO .max m [.int a, .int b, .int c] L = .ok (.int (max (max a b) c)) L := (rfl)
theorem bi_min4 {e : Int} : biO .min m [.int a, .int b, .int c, .int e] L = .ok (.int (min (min (min a b) c) e)) L := (rfl)
theorem ints_map {ns : List Int} : intsO (ns.map .int) = some ns := by
  induction ns with
  | nil => rfl
  | cons k ns ih => rw [List.map_cons]; unfold intsO; rw [ih]; rfl
def lsIR (b : Bool) (o : Option (List Int)) (o2 : Option (List (List Int))) (xs : List D) (L : Mu) : RE := match o with
  | some ns => gd (!ns.isEmpty) (.ok (.int (if b then minI ns else maxI ns)) L)
  | none => match o2 with
    | some (x :: r) => .ok (tupD (if b then lstT x r else grtT x r)) L
    | _ => match xs with
      | x :: r => gd (okAl (x :: r)) (.ok (if b then leastD x r else mostD x r) L)
      | [] => .no
theorem lsIR_i {b : Bool} {ns : List Int} {o2 : Option (List (List Int))} : lsIR b (some ns) o2 xs L = gd (!ns.isEmpty) (.ok (.int (if b then minI ns else maxI ns)) L) := (rfl)
theorem lsIR_t {x : List Int} {r : List (List Int)} {b : Bool} : lsIR b none (some (x :: r)) xs L = .ok (tupD (if b then lstT x r else grtT x r)) L := (rfl)
theorem lsIR_d {b : Bool} : lsIR b none none (d :: xs) L = gd (okAl (d :: xs)) (.ok (if b then leastD d xs else mostD d xs) L) := (rfl)
theorem lstR_I {b : Bool} : lstR b xs L = lsIR b (intsO xs) (tpsO xs) xs L := by
  unfold lstR lsIR
  cases intsO xs with
  | some ns => rfl
  | none => cases tpsO xs with
    | none => cases xs <;> rfl
    | some r => cases r <;> first | rfl | (cases xs <;> rfl)
theorem bi_minL {m : Bool} : biO .min m [.lst xs] L = lsIR true (intsO xs) (tpsO xs) xs L := by rw [← lstR_I]; rfl
theorem bi_minT {m : Bool} : biO .min m [.tup xs] L = lsIR true (intsO xs) (tpsO xs) xs L := by rw [← lstR_I]; rfl
theorem bi_maxL {m : Bool} : biO .max m [.lst xs] L = lsIR false (intsO xs) (tpsO xs) xs L := by rw [← lstR_I]; rfl
theorem bi_maxT {m : Bool} : biO .max m [.tup xs] L = lsIR false (intsO xs) (tpsO xs) xs L := by rw [← lstR_I]; rfl
def lsC (b : Bool) (o : Option (List D)) (L : Mu) : RE := match o with
  | some xs => lsIR b (intsO xs) (tpsO xs) xs L
  | none => .no
theorem lsC_s {b : Bool} : lsC b (some xs) L = lsIR b (intsO xs) (tpsO xs) xs L := (rfl)
theorem bi_minC {m : Bool} : biO .min m [.rf i] L = lsC true (cellL L[i]?) L := by
  rw [← sqO_rf]
  show (match sqO L (.rf i) with | some xs => lstR true xs L | none => .no) = _
  unfold lsC
  cases sqO L (.rf i) with
  | none => rfl
  | some xs => exact lstR_I
theorem bi_maxC {m : Bool} : biO .max m [.rf i] L = lsC false (cellL L[i]?) L := by
  rw [← sqO_rf]
  show (match sqO L (.rf i) with | some xs => lstR false xs L | none => .no) = _
  unfold lsC
  cases sqO L (.rf i) with
  | none => rfl
  | some xs => exact lstR_I
theorem ints_t : intsO (.tup xs :: ys) = none := (rfl)
theorem tps_map {nss : List (List Int)} : tpsO (nss.map tupD) = some nss := by
  induction nss with
  | nil => rfl
  | cons k ns ih =>
    rw [List.map_cons]
    show (match intsO (k.map .int) with | some ns' => (tpsO (ns.map tupD)).map (ns' :: ·) | none => none) = _
    rw [ints_map, ih]; rfl
theorem ints_tps {x : List Int} {nss : List (List Int)} : intsO ((x :: nss).map tupD) = none := (rfl)
theorem bi_int : biO .int m [.int a] L = .ok (.int a) L := (rfl)
theorem bi_intB {b : Bool} : biO .int m [.bl b] L = .ok (.int (if b then 1 else 0)) L := (rfl)
theorem mk_f : mkL false xs L = .ok (.lst xs) L := (rfl)
theorem mk_t : mkL true xs L = .ok (.rf L.length) (L ++ [.lst xs]) := (rfl)
theorem bi_listT : biO .list m [.tup xs] L = mkL m xs L := (rfl)
theorem bi_listL : biO .list m [.lst xs] L = mkL m xs L := (rfl)
theorem bi_tupT : biO .tuple m [.tup xs] L = .ok (.tup xs) L := (rfl)
theorem bi_tupL : biO .tuple m [.lst xs] L = .ok (.tup xs) L := (rfl)
def tupR (o : Option (List D)) (L : Mu) : RE := match o with | some xs => .ok (.tup xs) L | none => .no
theorem tupR_s : tupR (some xs) L = .ok (.tup xs) L := (rfl)
theorem bi_tupC : biO .tuple m [.rf i] L = tupR (cellL L[i]?) L := by rw [← sqO_rf]; rfl
def listR (m : Bool) (o : Option (List D)) (L : Mu) : RE := match o with | some xs => mkL m xs L | none => .no
theorem listR_s : listR m (some xs) L = mkL m xs L := (rfl)
theorem bi_listC : biO .list m [.rf i] L = listR m (cellL L[i]?) L := by rw [← sqO_rf]; rfl
theorem nc2 : ((2 : Nat) : Int) = 2 := (rfl)
theorem nc3 : ((3 : Nat) : Int) = 3 := (rfl)
theorem nc4 : ((4 : Nat) : Int) = 4 := (rfl)
theorem nc5 : ((5 : Nat) : Int) = 5 := (rfl)
theorem nc6 : ((6 : Nat) : Int) = 6 := (rfl)
theorem nc7 : ((7 : Nat) : Int) = 7 := (rfl)
theorem nc8 : ((8 : Nat) : Int) = 8 := (rfl)
theorem nc9 : ((9 : Nat) : Int) = 9 := (rfl)
theorem nc10 : ((10 : Nat) : Int) = 10 := (rfl)
theorem nc11 : ((11 : Nat) : Int) = 11 := (rfl)
theorem nc12 : ((12 : Nat) : Int) = 12 := (rfl)
theorem nc13 : ((13 : Nat) : Int) = 13 := (rfl)
theorem nc14 : ((14 : Nat) : Int) = 14 := (rfl)
theorem nc15 : ((15 : Nat) : Int) = 15 := (rfl)
theorem nc16 : ((16 : Nat) : Int) = 16 := (rfl)
/-! ### None -/
theorem oc_is {d : D} : oc .Is d .non L = .ok (.bl (isN d)) L := (rfl)
theorem oc_isnt {d : D} : oc .IsNot d .non L = .ok (.bl (!isN d)) L := (rfl)
theorem isN_n : isN .non = true := (rfl)
theorem isN_i : isN (.int a) = false := (rfl)
theorem isN_s : isN (.str x) = false := (rfl)
theorem isN_t : isN (.tup xs) = false := (rfl)
theorem isN_l : isN (.lst xs) = false := (rfl)
theorem isN_r : isN (.rf i) = false := (rfl)
/-! ### methods of lists -/
def okL (o : Option (List D)) : Bool := match o with | some _ => true | none => false
theorem okL_s : okL (some xs) = true := (rfl)
theorem bmP_app : bmP .append (.rf i) L = okL (cellL L[i]?) := by
  unfold bmP okL cellL
  dsimp only
  all_goals (cases L[i]? with | none => rfl | some o => cases o <;> rfl)
theorem bmP_pop : bmP .pop (.rf i) L = okL (cellL L[i]?) := by
  unfold bmP okL cellL
  dsimp only
  all_goals (cases L[i]? with | none => rfl | some o => cases o <;> rfl)
theorem bmP_cnt : bmP .count (.lst xs) L = true := (rfl)
theorem bmP_cntC : bmP .count (.rf i) L = okL (cellL L[i]?) := by
  rw [← lsO_rf]
  show (lsO L (.rf i)).isSome = _
  cases lsO L (.rf i) <;> rfl
theorem bmP_sw : bmP .startswith (.str x) L = true := (rfl)
theorem bmP_join : bmP .join (.str x) L = true := (rfl)
def appR (i : Nat) (y : D) (o : Option (List D)) (L : Mu) : RE := match o with
  | some xs => gd (decide (xs.length < 16777216)) (.ok .non (L.set i (.lst (xs ++ [y]))))
  | none => .no
theorem appR_s : appR i d (some xs) L = gd (decide (xs.length < 16777216)) (.ok .non (L.set i (.lst (xs ++ [d])))) := (rfl)
theorem bmP_scnt : bmP .scount (.str x) L = true := (rfl)
theorem bm_scnt : bmO .scount (.str x) [.str y] L = .ok (.int (Txt.count (Tx.s x) (Tx.s y))) L := (rfl)
theorem bmP_idx : bmP .index (.lst xs) L = true := (rfl)
theorem bmP_idxC : bmP .index (.rf i) L = okL (cellL L[i]?) := by
  show (lsO L (.rf i)).isSome = _
  rw [lsO_rf]; cases cellL L[i]? <;> rfl
def ntR (o : Option (List Int)) (a : Int) (L : Mu) : RE := match o with | some ns => .ok (.int (ns.count a : Nat)) L | none => .no
def tnR (o : Option (List Tx)) (x : Tx) (L : Mu) : RE := match o with | some ns => .ok (.int (ns.count x : Nat)) L | none => .no
def niR (o : Option (List Int)) (a : Int) (L : Mu) : RE := match o with | some ns => gd (decide (a ∈ ns)) (.ok (.int (ns.idxOf a : Nat)) L) | none => .no
def tiR (o : Option (List Tx)) (x : Tx) (L : Mu) : RE := match o with | some ns => gd (decide (x ∈ ns)) (.ok (.int (ns.idxOf x : Nat)) L) | none => .no
theorem tnR_s {ns : List Tx} : tnR (some ns) x L = .ok (.int (ns.count x : Nat)) L := (rfl)
theorem niR_s {ns : List Int} (h : a ∈ ns) : niR (some ns) a L = .ok (.int (ns.idxOf a : Nat)) L := gd_p h
theorem tiR_s {ns : List Tx} (h : x ∈ ns) : tiR (some ns) x L = .ok (.int (ns.idxOf x : Nat)) L := gd_p h
theorem ntR_s {ns : List Int} : ntR (some ns) a L = .ok (.int (ns.count a : Nat)) L := (rfl)
theorem bm_cntI : bmO .count (.lst xs) [.int a] L = ntR (intsO xs) a L := (rfl)
theorem bm_cntS : bmO .count (.lst xs) [.str x] L = tnR (txs xs) x L := (rfl)
theorem bm_idxI : bmO .index (.lst xs) [.int a] L = niR (intsO xs) a L := (rfl)
theorem bm_idxS : bmO .index (.lst xs) [.str x] L = tiR (txs xs) x L := (rfl)
def lbR (o : Option (List D)) (y : D) (b : Bm) (L : Mu) : RE := match o with | some xs => bmO b (.lst xs) [y] L | none => .no
theorem lbR_s {y : D} {b : Bm} : lbR (some xs) y b L = bmO b (.lst xs) [y] L := (rfl)
theorem bm_cntIC : bmO .count (.rf i) [.int a] L = lbR (cellL L[i]?) (.int a) .count L := by
  rw [← lsO_rf]; unfold bmO lbR; rfl
theorem bm_cntSC : bmO .count (.rf i) [.str x] L = lbR (cellL L[i]?) (.str x) .count L := by
  rw [← lsO_rf]; unfold bmO lbR; rfl
theorem bm_idxIC : bmO .index (.rf i) [.int a] L = lbR (cellL L[i]?) (.int a) .index L := by
  rw [← lsO_rf]; unfold bmO lbR; rfl
theorem bm_idxSC : bmO .index (.rf i) [.str x] L = lbR (cellL L[i]?) (.str x) .index L := by
  rw [← lsO_rf]; unfold bmO lbR; rfl
theorem bm_app : bmO .append (.rf i) [d] L = appR i d (cellL L[i]?) L := by
  unfold bmO appR cellL
  dsimp only
  all_goals (cases L[i]? with | none => rfl | some o => cases o <;> rfl)
def popR (i : Nat) (a : Int) (o : Option (List D)) (L : Mu) : RE := match o with
  | some xs => match seqIndex? a xs.length with
    | some j => match xs[j]? with
      | some z => gd (decide (-(2 ^ 63) ≤ a) && decide (a < 2 ^ 63)) (.ok z (L.set i (.lst (xs.eraseIdx j))))
      | none => .no
    | none => .no
  | none => .no
theorem bm_pop : bmO .pop (.rf i) [.int a] L = popR i a (cellL L[i]?) L := by
  unfold bmO popR cellL
  dsimp only
  all_goals (cases L[i]? with | none => rfl | some o => cases o <;> rfl)
theorem popR_0 : popR i 0 (some (d :: xs)) L = .ok d (L.set i (.lst xs)) := by
  unfold popR seqIndex?
  have : (decide ((0 : Int) ≤ 0) && decide ((0 : Int) < ((d :: xs).length : Nat))) = true := by simp
  simp only [Int.lt_irrefl, if_false]
  rw [this]
  rfl
theorem popR_s {j : Nat} (h : 0 ≤ a) (h1 : a < xs.length) (h2 : xs[a.toNat]? = some d) (h3 : a < 2 ^ 63) : popR i a (some xs) L = .ok d (L.set i (.lst (xs.eraseIdx a.toNat))) := by
  unfold popR seqIndex?
  have : (decide (0 ≤ a) && decide (a < (xs.length : Nat))) = true := by simp [h, h1]
  simp only [show ¬ a < 0 by omega, if_false]
  rw [this]
  simp only [if_true, h2]
  rw [gd_and, gd_p (by omega), gd_p h3]
def pop0R (i : Nat) (o : Option (List D)) (L : Mu) : RE := match o with
  | some xs => match xs[xs.length - 1]? with
      | some z => .ok z (L.set i (.lst xs.dropLast))
      | none => .no
  | none => .no
theorem pop0_C : popO (.rf i) L = pop0R i (cellL L[i]?) L := by
  unfold popO pop0R cellL
  dsimp only
  all_goals (cases L[i]? with | none => rfl | some o => cases o <;> rfl)
theorem pop0R_s : pop0R i (some (xs ++ [d])) L = .ok d (L.set i (.lst xs)) := by
  unfold pop0R
  simp
/-! ### enumerate -/
theorem itr_tup' : itrO .enm (.tup xs) L = .ok (.tup (enm 0 xs)) L := (rfl)
theorem itr_lst' : itrO .enm (.lst xs) L = .ok (.tup (enm 0 xs)) L := (rfl)
theorem itr_str' : itrO .enm (.str x) L = .ok (.tup (enm 0 (x.map fun c => .str [c]))) L := (rfl)
theorem enm_nil' : enm i [] = [] := (rfl)
theorem enm_cons' : enm i (d :: xs) = .tup [.int (i : Nat), d] :: enm (i + 1) xs := (rfl)
theorem lrm_s (h : 0 ≤ a) (h' : a ≤ 16777216) : lrmO a L = .ok (.rf L.length) (L ++ [.lst ((rg 0 a).map .int)]) := by
  unfold lrmO rgO
  simp only [show -4611686018427387904 ≤ a by omega, show a < 4611686018427387904 by omega, decide_true, Bool.and_self, if_true]
  exact gd_p (by rw [show (rg 0 a).length = (a - 0).toNat from rg_length 0 a]; show _ ≤ 16777216; omega)
theorem map_app1 {ns : List Int} : ns.map D.int ++ [.int a] = (ns ++ [a]).map D.int := by simp
theorem decide_T : decide True = true := (rfl)
/-! ### more ints -/
def srR (m : Bool) (o : Option (List Int)) (t : Option (List Tx)) (f : RE) (L : Mu) : RE := match o with
  | some ns => mkL m ((sortI ns).map .int) L
  | none => match t with
    | some ns => mkL m ((sortT ns).map .str) L
    | none => f
theorem srR_s {ns : List Int} {t : Option (List Tx)} {f : RE} : srR m (some ns) t f L = mkL m ((sortI ns).map .int) L := (rfl)
theorem srR_t {ns : List Tx} {f : RE} : srR m none (some ns) f L = mkL m ((sortT ns).map .str) L := (rfl)
theorem srR_d {f : RE} : srR m none none f L = f := (rfl)
theorem bi_srtI : biO .srt m [.lst xs] L = srR m (intsO xs) (txs xs) (gd (okSr xs) (mkL m (sortD false xs) L)) L := by
  unfold biO srR
  dsimp only
  rw [sqO_lst, lsO_lst]
  dsimp only
  cases intsO xs with
  | some ns => rfl
  | none => cases txs xs <;> rfl
def srK (m : Bool) (o : Option (List Int)) (t : Option (List Tx)) (L : Mu) : RE := match o with
  | some ns => mkL m ((sortI ns).map .int) L
  | none => match t with
    | some ns => mkL m ((sortT ns).map .str) L
    | none => .no
theorem srK_s {ns : List Int} {t : Option (List Tx)} : srK m (some ns) t L = mkL m ((sortI ns).map .int) L := (rfl)
theorem srK_t {ns : List Tx} : srK m none (some ns) L = mkL m ((sortT ns).map .str) L := (rfl)
theorem bi_srtD {ks : List (Kt × D)} : biO .srt m [.dct ks] L = srK m (keysI ks) (keysS ks) L := (rfl)
def srC (m : Bool) (o : Option (List D)) (k : Option (List (Kt × D))) (L : Mu) : RE := match o with
  | some xs => srR m (intsO xs) (txs xs) (gd (okSr xs) (mkL m (sortD false xs) L)) L
  | none => match k with
    | some ks => srK m (keysI ks) (keysS ks) L
    | none => .no
theorem srC_l {k : Option (List (Kt × D))} : srC m (some xs) k L = srR m (intsO xs) (txs xs) (gd (okSr xs) (mkL m (sortD false xs) L)) L := (rfl)
theorem srC_d {ks : List (Kt × D)} : srC m none (some ks) L = srK m (keysI ks) (keysS ks) L := (rfl)
theorem bi_srtC : biO .srt m [.rf i] L = srC m (cellL L[i]?) (dcO L (.rf i)) L := by
  unfold biO srC
  dsimp only
  rw [sqO_rf, lsO_rf]
  cases cellL L[i]? with
  | none => rfl
  | some xs => rfl
def smR (o : Option (List Int)) (L : Mu) : RE := match o with | some ns => .ok (.int ns.sum) L | none => .no
theorem smR_s {ns : List Int} : smR (some ns) L = .ok (.int ns.sum) L := (rfl)
theorem bi_sumI : biO .sum m [.lst xs] L = smR (intsO xs) L := by
  show (match sqO L (.lst xs) with
    | some xs => match intsO xs with
      | some ns => RE.ok (.int ns.sum) L
      | none => RE.no
    | none => RE.no) = _
  rw [sqO_lst]; unfold smR; dsimp only
theorem bi_sumT : biO .sum m [.tup xs] L = smR (intsO xs) L := by
  show (match sqO L (.tup xs) with
    | some xs => match intsO xs with
      | some ns => RE.ok (.int ns.sum) L
      | none => RE.no
    | none => RE.no) = _
  rw [sqO_tup]; unfold smR; dsimp only
theorem bi_srtT : biO .srt m [.tup xs] L = srR m (intsO xs) (txs xs) .no L := by
  unfold biO srR
  dsimp only
  rw [sqO_tup]; rfl
def appI (a b : Option (List Int)) : Option (List Int) := match a, b with
  | some a, some b => some (a ++ b)
  | _, _ => none
theorem appI_s {ns ms : List Int} : appI (some ns) (some ms) = some (ns ++ ms) := (rfl)
theorem ints_app : intsO (xs ++ ys) = appI (intsO xs) (intsO ys) := by
  induction xs with
  | nil => cases h : intsO ys <;> simp [intsO, appI, h]
  | cons d xs ih =>
    cases d <;> first | (simp [intsO, appI]; done) | skip
    simp only [List.cons_append, intsO, ih]
    cases intsO xs <;> cases intsO ys <;> rfl
theorem ints_nil : intsO [] = some [] := (rfl)
def consI (a : Int) (b : Option (List Int)) : Option (List Int) := match b with
  | some b => some (a :: b)
  | _ => none
theorem consI_s {ns : List Int} : consI a (some ns) = some (a :: ns) := (rfl)
theorem ints_cons : intsO (.int a :: ys) = consI a (intsO ys) := by
  simp only [intsO]; cases intsO ys <;> rfl
def appD (a b : Option (List D)) : Option (List D) := match a, b with
  | some a, some b => some (a ++ b)
  | _, _ => none
theorem appD_s : appD (some xs) (some ys) = some (xs ++ ys) := (rfl)
theorem rsvs_app : rsvs L n (xs ++ ys) = appD (rsvs L n xs) (rsvs L n ys) := by
  induction xs with
  | nil => rw [rsvs_nil]; cases h : rsvs L n ys <;> simp [appD, h]
  | cons d xs ih =>
    rw [List.cons_append, rsvs_cons, rsvs_cons, ih]
    cases rsv L n d <;> cases rsvs L n xs <;> cases rsvs L n ys <;> rfl
def rsS (b : Bool) (x : Tx) : Option D := if b then some (.str x) else none
theorem rsS_t : rsS true x = some (.str x) := (rfl)
theorem rsv_strT : rsv L n (.str x) = rsS (tOk x) x := by unfold rsv; rfl
theorem deqs_ints {ns ms : List Int} : D.eqs (ns.map .int) (ms.map .int) = decide (ns = ms) := by
  induction ns generalizing ms with
  | nil => cases ms with
    | nil => rw [List.map_nil, deqs_nil]; rfl
    | cons m ms => rw [List.map_nil, List.map_cons, deqs_nc]; rfl
  | cons n ns ih => cases ms with
    | nil => rw [List.map_nil, List.map_cons, deqs_cn]; rfl
    | cons m ms => rw [List.map_cons, List.map_cons, deqs_cons, deq_int, ih, ← Bool.decide_and]; simp only [List.cons.injEq]
theorem deq_same {d : D} (h : D.flat 60 d = true) : D.eq d d = true := D.eq_refl h
theorem all_fl {ns : List Int} : (ns.map D.int).all D.fl = true := by
  rw [List.all_map]; simp [D.fl]
theorem inV_ints {a : Int} {ns : List Int} : L2.inV (.int a) ((ns.map D.int).map D.v) = decide (a ∈ ns) := by
  unfold L2.inV
  induction ns with
  | nil => rfl
  | cons m ns ih =>
    rw [List.map_cons, List.map_cons, List.any_cons, ih]
    show ((m == a) || decide (a ∈ ns)) = _
    by_cases h : m = a
    · subst h; simp
    · simp [h, Ne.symm h]
theorem in_intsT {ns : List Int} : oc .In (.int a) (.tup (ns.map .int)) L = .ok (.bl (decide (a ∈ ns))) L := by
  show inO (.int a) (.tup (ns.map .int)) L false = _
  unfold inO
  simp only [sqO, all_fl, D.fl, Bool.and_self, gd_t, D.v]
  rw [show L2.inV (.int a) ((ns.map D.int).map D.v) = decide (a ∈ ns) from inV_ints, bne_false]
theorem in_sg {c : Nat} {z : Tx} : oc .In (.str [c]) (.str z) L = .ok (.bl (decide (c ∈ z))) L := by
  show RE.ok (.bl (decide (c ∈ z) != false)) L = _
  rw [bne_false]
theorem nin_sg {c : Nat} {z : Tx} : oc .NotIn (.str [c]) (.str z) L = .ok (.bl (!decide (c ∈ z))) L := by
  show RE.ok (.bl (decide (c ∈ z) != true)) L = _
  rw [bne_true]
theorem in_intsL {ns : List Int} : oc .In (.int a) (.lst (ns.map .int)) L = .ok (.bl (decide (a ∈ ns))) L := by
  show inO (.int a) (.lst (ns.map .int)) L false = _
  unfold inO
  simp only [sqO, lsO, all_fl, D.fl, Bool.and_self, gd_t, D.v]
  rw [show L2.inV (.int a) ((ns.map D.int).map D.v) = decide (a ∈ ns) from inV_ints, bne_false]
/-! ### ranges -/
theorem rgR_1 (h : -4611686018427387904 ≤ a) (h' : a < 4611686018427387904) : rgR [.int a] L = .ok (.tup ((rg 0 a).map .int)) L := by
  unfold rgR rgO
  simp only [h, h', decide_true, Bool.and_self, if_true]
theorem rgR_2 (h : -4611686018427387904 ≤ a) (h' : a < 4611686018427387904) (hb : -4611686018427387904 ≤ b) (hb' : b < 4611686018427387904) : rgR [.int a, .int b] L = .ok (.tup ((rg a b).map .int)) L := by
  unfold rgR rgO
  simp only [h, h', hb, hb', decide_true, Bool.and_self, if_true]
theorem rg_len : (rg a b).length = (b - a).toNat := rg_length a b
theorem rgL_1 {tp : Bool} (h : -4611686018427387904 ≤ a) (h' : a ≤ 16777216) : rgL tp [.int a] L = .ok (if tp then .tup ((rg 0 a).map .int) else .lst ((rg 0 a).map .int)) L := by
  unfold rgL rgO
  simp only [h, show a < 4611686018427387904 by omega, decide_true, Bool.and_self, if_true]
  exact gd_p (by rw [rg_len]; show _ ≤ 16777216; omega)
theorem rgL_2 {tp : Bool} (h : -4611686018427387904 ≤ a) (h' : a < 4611686018427387904) (hb : -4611686018427387904 ≤ b) (hb' : b < 4611686018427387904) (hl : b - a ≤ 16777216) : rgL tp [.int a, .int b] L = .ok (if tp then .tup ((rg a b).map .int) else .lst ((rg a b).map .int)) L := by
  unfold rgL rgO
  simp only [h, h', hb, hb', decide_true, Bool.and_self, if_true]
  exact gd_p (by rw [rg_len]; show _ ≤ 16777216; omega)
/-! ### calls -/
def fnR (P : Prg) (k : Nat) (F : Option Fd) (args : List D) (L : Mu) : RE := match F with
  | none => .no
  | some F => if args.length = F.np then fin F.md L.length (svR (sv P (Ac.run P k) F.body (args.map some ++ List.replicate (F.n - F.np) none) L)) else .no
theorem run_s {P : Prg} {k f : Nat} {args : List D} : Ac.run P (k + 1) f args L = fnR P k P.fns[f]? args L := by
  conv => lhs; unfold Ac.run
  unfold fnR
  cases P.fns[f]? <;> rfl
theorem fnR_0 {P : Prg} {k np n : Nat} {b : S} {args : List D} (h : args.length = np) : fnR P k (some ⟨np, n, b, 0⟩) args L = svR (sv P (Ac.run P k) b (args.map some ++ List.replicate (n - np) none) L) := by
  unfold fnR
  simp only [if_pos h]
  unfold fin
  rfl
end
end Ac
end
section
/-! Bx3: calls, makers, loops. -/
namespace Ac
open PySem PySem.Spec
section
variable {P : Prg} {K : Nat → List D → Mu → RE} {L : Mu} {δ : Ds} {a b c : Int} {i k n : Nat} {d d2 : D} {xs ys : List D} {x y : Tx}
/-! ### the ends of calls -/
def wfM (n : Nat) (L : Mu) : Bool := L.all (MO.blw n)
theorem fin1_ok : fin 1 n (.ok d L) = gd (d.blw n && wfM n (L.take n)) (.ok d (L.take n)) := (rfl)
theorem fin1_ex {p : Option D} : fin 1 n (.ex i p L) = gd (payB n p && wfM n (L.take n)) (.ex i p (L.take n)) := (rfl)
def finZ (o : Option D) (n : Nat) (L : Mu) : RE := match o with
  | some e => gd (wfM n (L.take n)) (.ok e (L.take n))
  | none => .no
theorem finZ_s : finZ (some d) n L = gd (wfM n (L.take n)) (.ok d (L.take n)) := (rfl)
theorem fin2_ok : fin 2 n (.ok d L) = finZ (dfz L n 60 d) n L := by unfold fin finZ wfM; rfl
theorem fin2_ex {p : Option D} : fin 2 n (.ex i p L) = gd (payB n p && wfM n (L.take n)) (.ex i p (L.take n)) := (rfl)
theorem fin_fk {b : Bool} {m : Nat} {x y : RE} : fin m n (@fk b ⟨x⟩ ⟨y⟩) = @fk b ⟨fin m n x⟩ ⟨fin m n y⟩ := by cases b <;> rfl
theorem wf_nil : wfM n [] = true := (rfl)
theorem wf_cons {m : MO} : wfM n (m :: L) = (m.blw n && wfM n L) := (rfl)
theorem blw_ins : MO.blw n (.ins i xs) = D.blws n xs := (rfl)
theorem blw_lst : MO.blw n (.lst xs) = D.blws n xs := (rfl)
theorem blws_nil : D.blws n [] = true := by unfold D.blws; rfl
theorem blws_cons : D.blws n (d :: xs) = (D.blw n d && D.blws n xs) := by (conv => lhs; unfold D.blws)
theorem blw_int : D.blw n (.int a) = true := (rfl)
theorem blw_bl {b : Bool} : D.blw n (.bl b) = true := (rfl)
theorem blw_non : D.blw n .non = true := (rfl)
theorem blw_str : D.blw n (.str x) = true := (rfl)
theorem blw_tup : D.blw n (.tup xs) = D.blws n xs := by unfold D.blw; rfl
theorem blw_lst' : D.blw n (.lst xs) = D.blws n xs := by unfold D.blw; rfl
theorem blw_obj : D.blw n (.obj i xs) = D.blws n xs := by unfold D.blw; rfl
theorem blw_rf (h : i < n) : D.blw n (.rf i) = true := by unfold D.blw; exact decide_eq_true h
theorem blws_ints {ns : List Int} : D.blws n (ns.map .int) = true := by
  induction ns with
  | nil => rw [List.map_nil, blws_nil]
  | cons m ns ih => rw [List.map_cons, blws_cons, ih]; rfl
theorem blws_map {α : Type} {f : α → D} {l : List α} (h : ∀ z ∈ l, D.blw n (f z) = true) : D.blws n (l.map f) = true := by
  induction l with
  | nil => rw [List.map_nil, blws_nil]
  | cons m ns ih => rw [List.map_cons, blws_cons, ih (fun z hz => h z (List.mem_cons_of_mem _ hz)), h _ List.mem_cons_self]; rfl
theorem blws_app : D.blws n (xs ++ ys) = (D.blws n xs && D.blws n ys) := by
  induction xs with
  | nil => rw [blws_nil]; rfl
  | cons m ns ih => rw [List.cons_append, blws_cons, blws_cons, ih, Bool.and_assoc]
mutual
theorem blw_flat : ∀ {m : Nat} {d : D}, D.flat m d = true → D.blw n d = true
  | _, .non, _ => rfl
  | _, .bl a, _ => rfl
  | _, .int a, _ => rfl
  | _, .str a, h => rfl
  | m + 1, .tup a, h => by simp only [D.flat] at h; rw [blw_tup]; exact blws_flat h
  | m + 1, .lst a, h => by simp only [D.flat] at h; rw [blw_lst']; exact blws_flat h
  | 0, .tup _, h | 0, .lst _, h => by simp [D.flat] at h
  | _, .lsk _, h | _, .rf _, h | _, .obj _ _, h | _, .dct _, h | _, .dtt _, h | _, .ty _, h | _, .lam _, h => by simp [D.flat] at h
theorem blws_flat : ∀ {m : Nat} {a : List D}, flats m a = true → D.blws n a = true
  | m, [], _ => blws_nil
  | m, a :: as, h => by
    simp only [flats, Bool.and_eq_true] at h
    rw [blws_cons, blw_flat h.1, blws_flat h.2]; rfl
end
def dzC (n k : Nat) (L : Mu) (o : Option MO) : Option D := match o with
  | some (.lst xs) => (dfzs L n k xs).map .lst
  | some (.ins C xs) => (dfzs L n k xs).map (.obj C)
  | some (.dct ks) => (dfzk L n k ks).map .dct
  | _ => none
theorem dzC_d {ks : List (Kt × D)} : dzC n k L (some (.dct ks)) = (dfzk L n k ks).map .dct := (rfl)
theorem dzC_i {C : Nat} : dzC n k L (some (.ins C xs)) = (dfzs L n k xs).map (.obj C) := (rfl)
theorem dzC_l : dzC n k L (some (.lst xs)) = (dfzs L n k xs).map .lst := (rfl)
theorem dfz_rf (h : n ≤ i) : dfz L n (k + 1) (.rf i) = dzC n k L L[i]? := by
  conv => lhs; unfold dfz
  rw [if_neg (by omega)]
  rfl
theorem dfz_old (h : i < n) : dfz L n (k + 1) (.rf i) = some (.rf i) := by
  conv => lhs; unfold dfz
  rw [if_pos h]
theorem dfz_int : dfz L n k (.int a) = some (.int a) := by cases k <;> simp only [dfz]
theorem dfz_bl {b : Bool} : dfz L n k (.bl b) = some (.bl b) := by cases k <;> simp only [dfz]
theorem dfz_non : dfz L n k .non = some .non := by cases k <;> simp only [dfz]
theorem dfz_str : dfz L n k (.str x) = some (.str x) := by cases k <;> simp only [dfz]
theorem dfz_tup : dfz L n (k + 1) (.tup xs) = (dfzs L n k xs).map .tup := by (conv => lhs; unfold dfz)
theorem dfz_lst : dfz L n (k + 1) (.lst xs) = (dfzs L n k xs).map .lst := by (conv => lhs; unfold dfz)
theorem dfz_obj : dfz L n (k + 1) (.obj i xs) = (dfzs L n k xs).map (.obj i) := by (conv => lhs; unfold dfz)
theorem dfz_dct {ks : List (Kt × D)} : dfz L n (k + 1) (.dct ks) = (dfzk L n k ks).map .dct := by (conv => lhs; unfold dfz)
def intV : D → Bool
  | .int _ => true
  | _ => false
theorem dfzk_ints : ∀ {ks : List (Kt × D)}, (ks.all fun e => intV e.2) = true → dfzk L n k ks = some ks
  | [], _ => by unfold dfzk; rfl
  | (y, d) :: ks, h => by
    rw [List.all_cons, Bool.and_eq_true] at h
    conv => lhs; unfold dfzk
    cases d <;> first | (cases h.1; done) | skip
    rw [dfz_int, dfzk_ints h.2]; rfl
theorem blwk_ints : ∀ {ks : List (Kt × D)}, (ks.all fun e => intV e.2) = true → D.blwk n ks = true
  | [], _ => by unfold D.blwk; rfl
  | (y, d) :: ks, h => by
    rw [List.all_cons, Bool.and_eq_true] at h
    unfold D.blwk
    cases d <;> first | (cases h.1; done) | skip
    rw [blwk_ints h.2]; unfold D.blw; rfl
theorem dfzs_nil : dfzs L n k [] = some [] := by unfold dfzs; rfl
theorem dfzs_cons : dfzs L n k (d :: xs) = rcs (dfz L n k d) (dfzs L n k xs) := by
  conv => lhs; unfold dfzs
  unfold rcs
  cases dfz L n k d <;> cases dfzs L n k xs <;> rfl
theorem dfzs_ints {ns : List Int} : dfzs L n k (ns.map .int) = some (ns.map .int) := by
  induction ns with
  | nil => rw [List.map_nil, dfzs_nil]
  | cons m ns ih => rw [List.map_cons, dfzs_cons, ih, dfz_int]; rfl
mutual
theorem dfz_flat : ∀ {k : Nat} {d : D}, D.flat k d = true → dfz L n k d = some d
  | _, .non, _ => dfz_non
  | _, .bl a, _ => dfz_bl
  | _, .int a, _ => dfz_int
  | _, .str a, h => dfz_str
  | m + 1, .tup a, h => by simp only [D.flat] at h; rw [dfz_tup, dfzs_flat h]; rfl
  | m + 1, .lst a, h => by simp only [D.flat] at h; rw [dfz_lst, dfzs_flat h]; rfl
  | 0, .tup _, h | 0, .lst _, h => by simp [D.flat] at h
  | _, .lsk _, h | _, .rf _, h | _, .obj _ _, h | _, .dct _, h | _, .dtt _, h | _, .ty _, h | _, .lam _, h => by simp [D.flat] at h
theorem dfzs_flat : ∀ {k : Nat} {a : List D}, flats k a = true → dfzs L n k a = some a
  | m, [], _ => dfzs_nil
  | m, a :: as, h => by
    simp only [flats, Bool.and_eq_true] at h
    rw [dfzs_cons, dfz_flat h.1, dfzs_flat h.2]; rfl
end
theorem mapS {α β : Type} {f : α → β} {a : α} : (some a).map f = some (f a) := (rfl)
theorem fnR_1 {np m : Nat} {b : S} {args : List D} (h : args.length = np) : fnR P k (some ⟨np, m, b, 1⟩) args L = fin 1 L.length (svR (sv P (Ac.run P k) b (args.map some ++ List.replicate (m - np) none) L)) := by
  unfold fnR
  simp only [if_pos h]
theorem fnR_2 {np m : Nat} {b : S} {args : List D} (h : args.length = np) : fnR P k (some ⟨np, m, b, 2⟩) args L = fin 2 L.length (svR (sv P (Ac.run P k) b (args.map some ++ List.replicate (m - np) none) L)) := by
  unfold fnR
  simp only [if_pos h]
/-! ### makers -/
def mkR (frz : Bool) (n : Nat) (r : RE) : RE := match r with
  | .ok .non L2 => if frz then fin 2 n (.ok (.rf n) L2) else .ok (.rf n) L2
  | .ok _ _ => .no
  | .ex c p L2 => fin 1 n (.ex c p L2)
  | .no => .no
theorem mkR_f : mkR true n (.ok .non L) = fin 2 n (.ok (.rf n) L) := (rfl)
theorem mkR_m : mkR false n (.ok .non L) = .ok (.rf n) L := (rfl)
theorem mkR_ex {f : Bool} {p : Option D} : mkR f n (.ex i p L) = fin 1 n (.ex i p L) := (rfl)
theorem mkR_fk {f b : Bool} {x y : RE} : mkR f n (@fk b ⟨x⟩ ⟨y⟩) = @fk b ⟨mkR f n x⟩ ⟨mkR f n y⟩ := by cases b <;> rfl
def mkC (K : Nat → List D → Mu → RE) (C : Option Cd) (c : Nat) (ds : List D) (L : Mu) : RE := match C with
  | none => .no
  | some C => mkR C.frz L.length (K C.init (.rf L.length :: ds) (L ++ [.ins c []]))
theorem mkC_s {i : Nat} {f : Bool} {fl : List Nat} {ml : List (Nat × Nat)} : mkC K (some ⟨i, f, fl, ml⟩) n xs L = mkR f L.length (K i (.rf L.length :: xs) (L ++ [.ins n []])) := (rfl)
theorem mkO_C : mkO P K n xs L = mkC K P.cls[n]? n xs L := by
  unfold mkO mkC
  cases P.cls[n]? with
  | none => rfl
  | some C => rfl
theorem putX_d : putX k d xs = if k < xs.length then xs.set k d else xs ++ [d] := (rfl)
theorem putX_end (h : xs.length = k) : putX k d xs = xs ++ [d] := by unfold putX; rw [if_neg (by omega)]
theorem putX_in (h : k < xs.length) : putX k d xs = xs.set k d := by unfold putX; rw [if_pos h]
/-! ### op= on a name, on a field -/
theorem sv_augl (op : Operator) (e : T) : sv P K (.aug op (.loc i) e) δ L = @zE δ (locO δ[i]? L) ⟨fun x L => @zE δ (ev P K e δ L) ⟨fun y L => @zE δ (o2i op x y L) ⟨fun z L => .nx (δ.set i (some z)) L⟩⟩⟩ := by
  conv => lhs; unfold sv aug
  dsimp only
  unfold locO
  cases δ[i]? with
  | none => rfl
  | some o => cases o <;> rfl
def augR (P : Prg) (C j i : Nat) (δ : Ds) (L : Mu) (z : D) (o : Option (Nat × List D)) : RT := match o with
  | some (C', xs') => gdS (C' == C && decide (j < xs'.length)) (.nx δ (L.set i (.ins C (xs'.set j z))))
  | none => .no
theorem augR_s {C j : Nat} {z : D} : augR P C j i δ L z (some (n, xs)) = gdS (n == C && decide (j < xs.length)) (.nx δ (L.set i (.ins C (xs.set j z)))) := (rfl)
def augF (P : Prg) (K : Nat → List D → Mu → RE) (op : Operator) (f : Nat) (e : T) (δ : Ds) (i : Nat) (o : Option (Nat × List D)) (L : Mu) : RT := match o with
  | none => .no
  | some (C, xs) => match fix P C f with
    | none => .no
    | some j => @zE δ (glbO xs[j]? L) ⟨fun x L => @zE δ (ev P K e δ L) ⟨fun y L => @zE δ (o2i op x y L) ⟨fun z L => augR P C j i δ L z (cellI L[i]?)⟩⟩⟩
def augJ (P : Prg) (K : Nat → List D → Mu → RE) (op : Operator) (e : T) (δ : Ds) (i C : Nat) (xs : List D) (o : Option Nat) (L : Mu) : RT := match o with
    | none => .no
    | some j => @zE δ (glbO xs[j]? L) ⟨fun x L => @zE δ (ev P K e δ L) ⟨fun y L => @zE δ (o2i op x y L) ⟨fun z L => augR P C j i δ L z (cellI L[i]?)⟩⟩⟩
theorem augF_s {op : Operator} {f : Nat} {e : T} : augF P K op f e δ i (some (n, xs)) L = augJ P K op e δ i n xs (fix P n f) L := (rfl)
theorem augJ_s {op : Operator} {C j : Nat} {e : T} : augJ P K op e δ i C xs (some j) L = @zE δ (glbO xs[j]? L) ⟨fun x L => @zE δ (ev P K e δ L) ⟨fun y L => @zE δ (o2i op x y L) ⟨fun z L => augR P C j i δ L z (cellI L[i]?)⟩⟩⟩ := (rfl)
def augD (P : Prg) (K : Nat → List D → Mu → RE) (op : Operator) (f : Nat) (e : T) (δ : Ds) (d : D) (L : Mu) : RT := match d with
  | .rf i => augF P K op f e δ i (cellI L[i]?) L
  | _ => .no
theorem augD_rf {op : Operator} {f : Nat} {e : T} : augD P K op f e δ (.rf i) L = augF P K op f e δ i (cellI L[i]?) L := (rfl)
theorem sv_augx (op : Operator) (a b e : T) : sv P K (.aug op (.ix a b) e) δ L = @zE δ (ev P K a δ L) ⟨fun d L => @zE δ (ev P K b δ L) ⟨fun y L => @zE δ (atR (gtO d y L) L) ⟨fun x L => @zE δ (ev P K e δ L) ⟨fun w L => @zE δ (o2i op x w L) ⟨fun z L => stR δ (stO z d y L)⟩⟩⟩⟩⟩ := by
  conv => lhs; unfold sv; unfold aug
  refine congrArg (fun f => @zE δ (ev P K a δ L) ⟨f⟩) (funext fun d => funext fun L => congrArg (fun f => @zE δ (ev P K b δ L) ⟨f⟩) (funext fun y => funext fun L => ?_))
  cases h : gtO d y L <;> rfl
theorem sv_augf (op : Operator) (f : Nat) (o e : T) : sv P K (.aug op (.fld f o) e) δ L = @zE δ (ev P K o δ L) ⟨fun d L => augD P K op f e δ d L⟩ := by
  conv => lhs; unfold sv aug
  dsimp only
  unfold zE
  congr 1; funext d L
  unfold augD
  cases d with
  | rf i =>
    dsimp only
    unfold augF cellI fix
    cases h : L[i]? with
    | none => simp only [h]
    | some o => cases o with
      | ins C xs =>
        simp only [h]
        cases h2 : P.cls[C]? with
        | none => simp only [h2]; rfl
        | some c =>
          simp only [h2, Option.bind_some]
          cases c.fl.idxOf? f with
          | none => rfl
          | some j =>
            dsimp only
            cases h3 : xs[j]? with
            | none => simp only [h3]; rfl
            | some x =>
              simp only [h3, glbO, zE, sE]
              congr 1; funext y L
              congr 1; funext z L
              unfold augR
              cases L[i]? with
              | none => rfl
              | some o => cases o <;> rfl
      | _ => simp only [h]
  | _ => rfl
/-! ### loops -/
theorem forF_nil {g : Mu → Bool} [f : FB] (h : g L = true) : forF g [] δ L = .nx δ L := by
  unfold forF forL
  rw [h]; rfl
theorem forF_cons {g : Mu → Bool} {f : D → Ds → Mu → RT} (h : g L = true) : @forF g ⟨f⟩ (d :: xs) δ L = @loop (f d δ L) ⟨fun δ L => @forF g ⟨f⟩ xs δ L⟩ := by
  conv => lhs; unfold forF forL
  rw [h]
  show (match f d δ L with
    | .nx δ L => forL g f xs δ L
    | .ct δ L => forL g f xs δ L
    | .bk δ L => .nx δ L
    | r => r) = _
  unfold loop
  rfl
/-- a loop by what holds at each turn -/
theorem for_inv {g : Mu → Bool} {f : D → Ds → Mu → RT} (I : Nat → Ds → Mu → Prop) (hg : ∀ j δ L, I j δ L → g L = true) (h0 : I 0 δ L)
    (hs : ∀ (j : Nat) (d : D) (δ : Ds) (L : Mu), xs[j]? = some d → I j δ L → ∃ δ' L', (f d δ L = .nx δ' L' ∨ f d δ L = .ct δ' L') ∧ I (j + 1) δ' L') : ∃ δ' L', @forF g ⟨f⟩ xs δ L = .nx δ' L' ∧ I xs.length δ' L' := by
  suffices h : ∀ (ys : List D) (j : Nat) (δ : Ds) (L : Mu), xs.drop j = ys → j ≤ xs.length → I j δ L → ∃ δ' L', @forF g ⟨f⟩ ys δ L = .nx δ' L' ∧ I xs.length δ' L' from h xs 0 δ L (by simp) (Nat.zero_le _) h0
  intro ys
  induction ys with
  | nil =>
    intro j δ L e hj hI
    have : xs.length ≤ j := List.drop_eq_nil_iff.mp e
    have : j = xs.length := by omega
    subst this
    exact ⟨δ, L, @forF_nil L δ g ⟨f⟩ (hg _ _ _ hI), hI⟩
  | cons y ys ih =>
    intro j δ L e hj hI
    have hlt : j < xs.length := by
      rcases Nat.lt_or_ge j xs.length with h | h
      · exact h
      · rw [List.drop_eq_nil_iff.mpr h] at e; cases e
    have he : xs[j]? = some y := by
      rw [← List.head?_drop, e]; rfl
    have e2 : xs.drop (j + 1) = ys := by
      rw [← List.tail_drop, e]; rfl
    obtain ⟨δ', L', hf, hI'⟩ := hs j y δ L he hI
    obtain ⟨δ2, L2, h2, h3⟩ := ih (j + 1) δ' L' e2 hlt hI'
    refine ⟨δ2, L2, ?_, h3⟩
    rw [forF_cons (f := f) (hg _ _ _ hI)]
    rcases hf with hf | hf
    · rw [hf, loop_nx, h2]
    · rw [hf, loop_ct, h2]
/-- a for over a range -/
theorem for_rg {g : Mu → Bool} {f : D → Ds → Mu → RT} (I : Int → Ds → Mu → Prop) (hab : a ≤ b) (hg : ∀ j δ L, I j δ L → g L = true) (h0 : I a δ L)
    (hs : ∀ (j : Int) (δ : Ds) (L : Mu), a ≤ j → j < b → I j δ L → ∃ δ' L', (f (.int j) δ L = .nx δ' L' ∨ f (.int j) δ L = .ct δ' L') ∧ I (j + 1) δ' L') : ∃ δ' L', @forF g ⟨f⟩ ((rg a b).map .int) δ L = .nx δ' L' ∧ I b δ' L' := by
  obtain ⟨δ', L', h1, h2⟩ := for_inv (g := g) (f := f) (xs := (rg a b).map .int) (δ := δ) (L := L) (fun j δ L => I (a + (j : Nat)) δ L) (fun j δ L h => hg _ _ _ h) (by simpa using h0) (fun j d δ L hd hI => by
    rw [List.getElem?_map] at hd
    obtain ⟨z, hz, rfl⟩ := Option.map_eq_some_iff.mp hd
    have hl := (List.getElem?_eq_some_iff.mp hz).1
    rw [rg_length] at hl
    have ez : z = a + (j : Nat) := by
      unfold rg at hz
      rw [List.getElem?_map] at hz
      obtain ⟨w, hw, rfl⟩ := Option.map_eq_some_iff.mp hz
      have hw2 := (List.getElem?_eq_some_iff.mp hw).2
      rw [List.getElem_range] at hw2
      rw [hw2]
    subst ez
    obtain ⟨δ', L', h1, h2⟩ := hs _ δ L (by omega) (by omega) hI
    exact ⟨δ', L', h1, by have : a + ((j + 1 : Nat) : Int) = a + (j : Nat) + 1 := by omega
                          rw [this]; exact h2⟩)
  refine ⟨δ', L', h1, ?_⟩
  rw [List.length_map, rg_length] at h2
  have : a + (((b - a).toNat : Nat) : Int) = b := by omega
  rwa [this] at h2
/-! ### comprehensions -/
end
class KM where f : Mu → Option (Option D × Mu)
class KD where f : Ds → Option (Option D × Mu)
class KO where r : Option (Option D × Mu)
def seO (r : RE) : Option (Option D × Mu) := match r with | .ok y L => some (some y, L) | _ => none
def fkO (b : Bool) [x : KO] [y : KO] : Option (Option D × Mu) := if b then x.r else y.r
def cdK (r : RE) [k : KM] : Option (Option D × Mu) := match r with
  | .ok (.bl true) L => k.f L
  | .ok (.bl false) L => some (none, L)
  | _ => none
def asK (o : Option Ds) [k : KD] : Option (Option D × Mu) := match o with
  | none => none
  | some δ => k.f δ
def asN (o : Option Ds) (b : T) (ds : List D) : Option Ds := match o with
  | some δ => asgN.asgNs b ds δ
  | none => none
section
variable {P : Prg} {K : Nat → List D → Mu → RE} {L : Mu} {δ : Ds} {a b c : Int} {i k n : Nat} {d d2 : D} {xs ys : List D} {x y : Tx} {u v : Option (Option D × Mu)}
theorem seO_ok : seO (.ok d L) = some (some d, L) := (rfl)
theorem seO_fk {b : Bool} {x y : RE} : seO (@fk b ⟨x⟩ ⟨y⟩) = @fkO b ⟨seO x⟩ ⟨seO y⟩ := by cases b <;> rfl
theorem cdK_ok {b : Bool} {f : Mu → Option (Option D × Mu)} : @cdK (.ok (.bl b) L) ⟨f⟩ = @fkO b ⟨f L⟩ ⟨some (none, L)⟩ := by cases b <;> rfl
theorem cdK_fk {b : Bool} {x y : RE} [k : KM] : @cdK (@fk b ⟨x⟩ ⟨y⟩) k = @fkO b ⟨@cdK x k⟩ ⟨@cdK y k⟩ := by cases b <;> rfl
theorem fkO_t : @fkO true ⟨u⟩ ⟨v⟩ = u := (rfl)
theorem fkO_f : @fkO false ⟨u⟩ ⟨v⟩ = v := (rfl)
theorem fkO_not {b : Bool} : @fkO (!b) ⟨u⟩ ⟨v⟩ = @fkO b ⟨v⟩ ⟨u⟩ := by cases b <;> rfl
theorem fkO_and {a b : Bool} : @fkO (a && b) ⟨u⟩ ⟨v⟩ = @fkO a ⟨@fkO b ⟨u⟩ ⟨v⟩⟩ ⟨v⟩ := by cases a <;> rfl
theorem fkO_or {a b : Bool} : @fkO (a || b) ⟨u⟩ ⟨v⟩ = @fkO a ⟨u⟩ ⟨@fkO b ⟨u⟩ ⟨v⟩⟩ := by cases a <;> rfl
theorem fkO_dt {p : Prop} [Decidable p] (h : p) : @fkO (decide p) ⟨u⟩ ⟨v⟩ = u := by rw [decide_eq_true h]; rfl
theorem fkO_df {p : Prop} [Decidable p] (h : ¬ p) : @fkO (decide p) ⟨u⟩ ⟨v⟩ = v := by rw [decide_eq_false h]; rfl
theorem asK_s {f : Ds → Option (Option D × Mu)} : @asK (some δ) ⟨f⟩ = f δ := (rfl)
theorem asgN_loc : asgN (.loc i) d δ = some (δ.set i (some d)) := (rfl)
theorem asgN_tup {es : T} : asgN (.tup es) (.tup xs) δ = asgN.asgNs es xs δ := by conv => lhs; unfold asgN
theorem asgNs_nil : asgN.asgNs .nil [] δ = some δ := (rfl)
theorem asN_s {b : T} : asN (some δ) b xs = asgN.asgNs b xs δ := (rfl)
theorem asgNs_cons {a b : T} : asgN.asgNs (.cons a b) (d :: xs) δ = asN (asgN a d δ) b xs := by
  conv => lhs; unfold asgN.asgNs
  unfold asN
  cases asgN a d δ <;> rfl
theorem wipe_nil : wipeD δ [] = δ := (rfl)
theorem wipe_cons {v : Nat} {vs : List Nat} : wipeD δ (v :: vs) = (wipeD δ vs).set v none := (rfl)
theorem lcf_k {own : List Nat} {tg cd e : T} : lcf P K own tg cd e δ d L = @asK (asgN tg d (wipeD δ own)) ⟨fun δ' => @fkO (isNop cd) ⟨seO (ev P K e δ' L)⟩ ⟨@cdK (ev P K cd δ' L) ⟨fun L => seO (ev P K e δ' L)⟩⟩⟩ := by
  unfold lcf asK
  cases asgN tg d (wipeD δ own) with
  | none => rfl
  | some δ' => rfl
/-- nothing is changed -/
theorem lc_pure {α : Type} {g : Mu → Bool} {F : D → Mu → Option (Option D × Mu)} {f : α → D} {h : α → Option D} (hg : g L = true) {l : List α} (H : ∀ z ∈ l, F (f z) L = some (h z, L)) : lcL g F (l.map f) L = some ((l.map h).flatMap Option.toList, L) := by
  induction l with
  | nil => unfold lcL; simp only [List.map_nil]; rw [hg]; rfl
  | cons m ns ih =>
    simp only [List.map_cons]
    unfold lcL
    rw [hg, if_pos rfl, H _ List.mem_cons_self]
    simp only [ih fun z hz => H z (List.mem_cons_of_mem _ hz)]
    rfl
theorem lc_map {α : Type} {m : Bool} {g : Mu → Bool} {F : D → Mu → Option (Option D × Mu)} {f h : α → D} (hg : g L = true) {l : List α} (H : ∀ z ∈ l, F (f z) L = some (some (h z), L)) : lcR m g F (l.map f) L = mkL m (l.map h) L := by
  unfold lcR
  rw [lc_pure (h := fun z => some (h z)) hg H]
  simp only
  congr 1
  induction l with
  | nil => rfl
  | cons m ns ih => simp only [List.map_cons, List.flatMap_cons, Option.toList, List.cons_append, List.nil_append]; rw [ih fun z hz => H z (List.mem_cons_of_mem _ hz)]
theorem lc_filter {α : Type} {m : Bool} {g : Mu → Bool} {F : D → Mu → Option (Option D × Mu)} {f h : α → D} {p : α → Bool} (hg : g L = true) {l : List α} (H : ∀ z ∈ l, F (f z) L = some (if p z then some (h z) else none, L)) : lcR m g F (l.map f) L = mkL m ((l.filter p).map h) L := by
  unfold lcR
  rw [lc_pure (h := fun z => if p z then some (h z) else none) hg H]
  simp only
  congr 1
  induction l with
  | nil => rfl
  | cons m ns ih =>
    simp only [List.map_cons, List.flatMap_cons, List.filter_cons]
    rw [ih fun z hz => H z (List.mem_cons_of_mem _ hz)]
    cases p m <;> rfl
/-- a comprehension over few things -/
def lcN (g : Mu → Bool) (F : D → Mu → Option (Option D × Mu)) (m : Bool) (acc : List D) (ds : List D) (L : Mu) : RE := match lcL g F ds L with | some (ys, L) => mkL m (acc ++ ys) L | none => .no
class KY where f : Option D → Mu → RE
def oK (o : Option (Option D × Mu)) [k : KY] : RE := match o with | none => .no | some (y, L) => k.f y L
theorem oK_s {f : Option D → Mu → RE} {y : Option D} : @oK (some (y, L)) ⟨f⟩ = f y L := (rfl)
theorem oK_fk {b : Bool} [k : KY] : @oK (@fkO b ⟨u⟩ ⟨v⟩) k = @fk b ⟨@oK u k⟩ ⟨@oK v k⟩ := by cases b <;> rfl
theorem lcN_nil {g : Mu → Bool} {F : D → Mu → Option (Option D × Mu)} {m : Bool} (h : g L = true) : lcN g F m xs [] L = mkL m xs L := by
  unfold lcN lcL
  rw [h]; simp
theorem lcN_cons {g : Mu → Bool} {F : D → Mu → Option (Option D × Mu)} {m : Bool} (h : g L = true) : lcN g F m xs (d :: ys) L = @oK (F d L) ⟨fun y L => lcN g F m (xs ++ y.toList) ys L⟩ := by
  unfold lcN oK
  conv => lhs; unfold lcL
  rw [h, if_pos rfl]
  cases F d L with
  | none => rfl
  | some p =>
    obtain ⟨o, L1⟩ := p
    dsimp only
    cases lcL g F ys L1 with
    | none => rfl
    | some q => obtain ⟨zs, L2⟩ := q; dsimp only; rw [List.append_assoc]
theorem lcR_N {g : Mu → Bool} {F : D → Mu → Option (Option D × Mu)} {m : Bool} : lcR m g F xs L = lcN g F m [] xs L := by
  unfold lcR lcN
  cases lcL g F xs L with
  | none => rfl
  | some q => obtain ⟨zs, L2⟩ := q; rfl
theorem lcR_n {g : Mu → Bool} {F : D → Mu → Option (Option D × Mu)} {m : Bool} : lcR m g F [] L = lcN g F m [] [] L := lcR_N
theorem lcR_c {g : Mu → Bool} {F : D → Mu → Option (Option D × Mu)} {m : Bool} : lcR m g F (d :: xs) L = lcN g F m [] (d :: xs) L := lcR_N
/-! ### dice -/
end
structure Dc where
  a : Int
  b : Int
  c : Int
def dcM (s : Dc) : MO := .lst [.int s.a, .int s.b, .int s.c]
theorem blw_dc {n : Nat} {s : Dc} : MO.blw n (dcM s) = true := (rfl)
def rollS : S := (.seq (.ifs (.or (.cmp .Eq (.ix (.loc 0) (.int 2)) (.int 2)) (.and (.cmp .Eq (.ix (.loc 0) (.int 2)) (.int 1)) (.cmp .Gt (.ix (.loc 0) (.int 0)) (.int 0)))) (.seq (.asg (.loc 2) (.bin .Mod (.bi .int false (.cons (.ix (.loc 0) (.int 0)) .nil)) (.loc 1))) (.seq (.asg (.ix (.loc 0) (.int 0)) (.bin .FloorDiv (.ix (.loc 0) (.int 0)) (.loc 1))) (.seq (.ret (.loc 2)) .nil))) .nil) (.seq (.asg (.ix (.loc 0) (.int 2)) (.int 0)) (.seq (.asg (.ix (.loc 0) (.int 0)) (.bin .Mod (.bi .int false (.cons (.bin .Add (.bin .Add (.bin .Mult (.ix (.loc 0) (.int 0)) (.int 48271)) (.bin .Mult (.ix (.loc 0) (.int 1)) (.int 69621))) (.int 11)) .nil)) (.int 2147483647))) (.seq (.asg (.ix (.loc 0) (.int 1)) (.bin .Add (.ix (.loc 0) (.int 1)) (.int 1))) (.seq (.ret (.bin .Mod (.bi .int false (.cons (.bin .Add (.bin .FloorDiv (.ix (.loc 0) (.int 0)) (.int 7)) (.ix (.loc 0) (.int 0))) .nil)) (.loc 1))) .nil)))))
def low (s : Dc) : Bool := decide (s.c = 2) || decide (s.c = 1) && decide (0 < s.a)
def mixA (s : Dc) : Int := (s.a * 48271 + s.b * 69621 + 11) % 2147483647
def rolV (s : Dc) (m : Int) : Int := if low s then s.a % m else (mixA s / 7 + mixA s) % m
def rolN (s : Dc) (m : Int) : Dc := if low s then ⟨s.a / m, s.b, s.c⟩ else ⟨mixA s, s.b + 1, 0⟩
theorem rolV_0 {s : Dc} {m : Int} (h : 0 < m) : 0 ≤ rolV s m := by
  unfold rolV; split <;> exact Int.emod_nonneg _ (by omega)
theorem rolV_1 {s : Dc} {m : Int} (h : 0 < m) : rolV s m < m := by
  unfold rolV; split <;> exact Int.emod_lt_of_pos _ h
end Ac
end
section
/-! Bx4: dice. -/
open PySem PySem.Spec Ac
local macro_rules | `(tactic| walk_at "ev") => `(tactic| simp (disch := first | assumption | omega | (refine @id _ ?_; with_unfolding_all rfl) | (refine @id _ ?_; intro z hz; with_unfolding_all rfl) | (intro z hz; simp only [*]; done)) only [run_s, fnR_0, fnR_1, fnR_2, 
  ev_loc, ev_glb, ev_non, ev_bl, ev_int, ev_str, ev_bin, ev_binM, o2M_rep, o2M_cat, ev_neg, ev_cmp, ev_chn, ev_and, ev_or, ev_not, ev_ite, ev_nil, ev_cons, ev_tup, ev_lst, ev_ix, ev_sl, ev_call, ev_mk, ev_meth, ev_fld, ev_bi, ev_bm, ev_rng, ev_lrg, ev_lcx, ev_genx, ev_told, ev_itr, ev_lrm, ev_pop0, oc_is, oc_isnt, isN_n, isN_i, isN_s, isN_t, isN_l, isN_r, okL_s, bmP_app, bmP_pop, bmP_cnt, bmP_cntC, bmP_sw, bmP_join, appR_s, bm_app, bmP_scnt, bm_scnt, bmP_idx, bmP_idxC, ntR_s, bm_cntI, bm_cntIC, tnR_s, niR_s, tiR_s, bm_cntS, bm_idxI, bm_idxS, lbR_s, bm_cntSC, bm_idxIC, bm_idxSC, bm_pop, popR_0, popR_s, pop0_C, pop0R_s, itr_tup', itr_lst', itr_str', enm_nil', enm_cons', lrm_s, srR_s, srR_t, srR_d, srK_s, srK_t, srC_l, srC_d, bi_srtD, bi_srtC, bi_srtI, smR_s, bi_sumI, bi_sumT, map_app1, appI_s, ints_app, ints_nil, consI_s, ints_cons, ints_map, appD_s, rsvs_app, rsS_t, rsv_strT, deqs_ints, in_sg, nin_sg, List.mem_cons, List.not_mem_nil, or_false, false_or, or_true, true_or, in_intsT, in_intsL, List.append_nil,
  sv_skip, sv_ex, sv_ret, sv_retN, sv_ifs, sv_brk, sv_cnt, sv_rse, sv_nil, sv_seq, sv_for, sv_asgl, sv_asgt, sv_asgi, sv_asgf, sv_augl, sv_augf, sv_augx, asg_loc, asg_tup, gdG_t, asgs_nil, asgs_cons, asg_ix, lenT,
  kE_ok, kE_ex, kE_fk, kB_ok, kB_ex, kB_fk, kI_ok, kI_ex, kI_fk, kA_ok, kA_ex, kA_fk, zE_ok, zE_ex, zE_fk, zB_ok, zB_ex, zB_fk, gxE_ok, gxE_ex, gxQ_ok, gxQ_ex, zG_ok, zG_ex, zQ_nx, zQ_rt, zQ_bk, zQ_ct, zQ_ex, zQ_fk, loop_nx, loop_ct, loop_bk, loop_rt, loop_ex, loop_fk, svR_nx, svR_rt, svR_ex, svR_fk, tld_fk, tld_ok, fk_dt, fk_df, fkS_dt, fkS_df, fkO_dt, fkO_df, fk_t, fk_f, fkS_t, fkS_f, fk_not, fkS_not, fk_and, fkS_and, fk_or, fkS_or, itK_s, itZ_s, mtK_s, gd_t, gd_p, gd_and, gdS_t, gdS_p, stands_n, locO_s, glbO_s,
  o2_add, o2_sub, o2_mul, o2_fdiv, o2_mod, o2_pow, o2_adds, o2_catT, o2_cat, o2_rep, o2i_add, o2i_sub, o2i_mul, o2i_adds, oc_lt, bi_strI, bi_strS, oc_lts, oc_les, oc_gts, oc_ges, oc_le, oc_gt, oc_ge, oc_eqi, oc_nei, oc_eq, oc_ne, eqR_s, neR_s,
  rsv_non, rsv_bl, rsv_int, rsv_tup, rsv_lst, rsC_s, rsv_rf, rsvs_nil, rcs_s, rsvs_cons, rsvs_ints, mapS,
  deq_int, deq_bl, deq_str, deq_tup, deq_lst, deqs_nil, deqs_cons, deqs_nc, deqs_cn, deq_non, deq_non_int, deq_non_str, deq_non_tup, deq_non_lst, deq_int_non, deq_int_str, deq_int_tup, deq_int_lst, deq_str_non, deq_str_int, deq_str_tup, deq_str_lst, deq_tup_non, deq_tup_int, deq_tup_str, deq_tup_lst, deq_lst_non, deq_lst_int, deq_lst_str, deq_lst_tup, deq_bl_str, deq_str_bl,
  cellL_s, lsO_lst, lsO_lsk, lsO_rf, ltO_lst, ltO_rf, sqO_tup, sqO_lst, sqO_lsk, sqO_rf, itC_s, itO_tup, itO_lst, itO_lsk, itO_str, itO_rf, cellI_s, insO_obj, insO_rf, fldJ_s, fldR_s, fldO_R, mthR_s, methF_R, sflJ_s, sflR_s, sfl_R, atR_s, ix_tup, ix_lst, ixR_s, ixR_d, ix_rfS, ixK_s, ix_dctS, ix_dctI, cellL_d, cellD_s, cellD_l, dcO_dct, dcO_rf, rsC_d, rsv_dct, eqR_d, neR_d, bi_lenD, dctR_s, mkDc_t, mkDc_f, bi_dct, lenR_d, bi_srtT, ix_rf, ix_str, strR_s, get_tx, joR_s, bm_joinL, txs_map, joinL_0, flat_sing, len_sing, Nat.mul_zero, at_pos, stL_s, stJ_s, sto_rf, sto_rfS, stG_s, stR_s, stK_s, stL_d, stS_s, gto_rf, gto_rfS, gtL_s, gtL_d, gtS_s, ixN_pos, sl_tup, sl_lst, sl_lsk, lenR_s, bi_lenS, bi_lenT, bi_lenL, bi_lenC, bi_abs, bi_min2, bi_max2, bi_min3, bi_max3, bi_min4, lsC_s, bi_minC, bi_maxC, lsIR_i, lsIR_t, lsIR_d, bi_minL, bi_minT, bi_maxL, bi_maxT, ints_t, tps_map, ints_tps, bi_int, bi_intB, mk_f, mk_t, bi_listT, bi_listL, bi_tupT, bi_tupL, tupR_s, bi_tupC, listR_s, bi_listC, rgR_1, rgR_2, rgL_1, rgL_2,
  fin1_ok, fin1_ex, dzC_d, dfz_dct, dfzk_ints, blwk_ints, finZ_s, fin2_ok, fin2_ex, fin_fk, wf_nil, wf_cons, blw_ins, blw_dc, blw_lst, blws_nil, blws_cons, blw_int, blw_bl, blw_non, blw_str, blw_tup, blw_lst', blw_obj, blw_rf, blws_ints, dzC_i, dzC_l, dfz_rf, dfz_old, dfz_int, dfz_bl, dfz_non, dfz_str, dfz_tup, dfz_lst, dfz_obj, dfzs_nil, dfzs_cons, dfzs_ints, payB,
  at_0, mkR_f, mkR_m, mkR_ex, mkR_fk, mkC_s, mkO_C, putX_d, augR_s, augF_s, augJ_s, augD_rf, forF_nil, forF_cons, seO_ok, seO_fk, cdK_ok, cdK_fk, fkO_t, fkO_f, fkO_not, fkO_and, fkO_or, asK_s, asgN_loc, asgN_tup, asgNs_nil, asN_s, asgNs_cons, wipe_nil, wipe_cons, lcf_k, oK_s, oK_fk, lcR_n, lcR_c, lcN_nil, lcN_cons,
  isNop, List.length_cons, List.length_nil, List.length_append, List.length_map, List.length_set, List.getElem?_cons_succ, List.getElem?_cons_zero, List.map_cons, List.map_nil, List.cons_append, List.nil_append, List.append_assoc, List.set_set, nc2, nc3, nc4, nc5, nc6, nc7, nc8, nc9, nc10, nc11, nc12, nc13, nc14, nc15, nc16, Int.natCast_zero, Int.natCast_one, List.set_cons_succ, List.set_cons_zero, List.take_succ_cons, List.take_zero, List.replicate_succ, List.replicate_zero, Nat.reduceSub, Nat.reduceAdd, Nat.reduceEqDiff, Nat.reduceLT, Nat.reduceLeDiff, Nat.reduceBEq, Nat.zero_add, Nat.add_zero, Int.reduceToNat, Int.reduceLT, Int.reduceLE, Int.reduceAdd, Int.reduceSub, Int.reduceMul, Int.reduceNeg, Int.reduceEq, if_true, if_false, ite_true, ite_false, Bool.and_true, Bool.true_and, Bool.and_self, Bool.and_false, Bool.false_and, Bool.not_true, Bool.not_false, Bool.or_false, Bool.false_or, Bool.or_true, Bool.true_or, decide_true, decide_false, eq_self, List.cons.injEq, and_true, true_and, and_self, and_false, false_and,  Option.toList, beq_self_eq_true, reduceCtorEq, *])
namespace Ac
theorem set_get {α : Type} {L : List α} {i : Nat} {x y : α} (h : L[i]? = some y) : (L.set i x)[i]? = some x := by
  rw [List.getElem?_set_self (List.getElem?_eq_some_iff.mp h).1]
theorem run_roll {P : Prg} {k f i : Nat} {L : Mu} {s : Dc} {m : Int} (hf : P.fns[f]? = some ⟨2, 3, rollS, 0⟩) (hi : L[i]? = some (dcM s)) (hm : 0 < m) (hm' : m < 1073741824) : Ac.run P (k + 1) f [.rf i, .int m] L = .ok (.int (rolV s m)) (L.set i (dcM (rolN s m))) := by
  have h0 : ∀ x, (L.set i x)[i]? = some x := fun x => set_get hi
  have h1 : cellL (some (dcM s)) = some [.int s.a, .int s.b, .int s.c] := rfl
  have h2 : ∀ x y : MO, (L.set i x).set i y = L.set i y := fun x y => List.set_set ..
  rw [run_s, hf]
  unfold rollS
  walk_at "ev"
  unfold rolV rolN low
  by_cases c1 : s.c = 2
  · walk_at "ev"
    simp only [mixA, dcM]
  · by_cases c2 : s.c = 1
    · by_cases c3 : 0 < s.a
      · walk_at "ev"
        simp only [mixA, dcM]
      · walk_at "ev"
        simp only [mixA, dcM]
    · walk_at "ev"
      simp only [mixA, dcM]
/-! ### what a body of a loop comes to -/
def Nx (I : Ds → Mu → Prop) (r : RT) : Prop := ∃ δ L, (r = .nx δ L ∨ r = .ct δ L) ∧ I δ L
def Tr (Q : D → Mu → Prop) (r : RE) : Prop := ∃ d L, r = .ok d L ∧ Q d L
section
variable {I : Ds → Mu → Prop} {Q : D → Mu → Prop} {b : Bool} {x y : RE} {xs ys : RT} {δ : Ds} {L : Mu} {d : D}
theorem Nx.fk (h1 : b = true → Nx I xs) (h2 : b = false → Nx I ys) : Nx I (@fkS b ⟨xs⟩ ⟨ys⟩) := by
  cases b
  · exact h2 rfl
  · exact h1 rfl
theorem Nx.nx (h : I δ L) : Nx I (.nx δ L) := ⟨_, _, .inl rfl, h⟩
theorem Nx.ct (h : I δ L) : Nx I (.ct δ L) := ⟨_, _, .inr rfl, h⟩
theorem Tr.fk (h1 : b = true → Tr Q x) (h2 : b = false → Tr Q y) : Tr Q (@fk b ⟨x⟩ ⟨y⟩) := by
  cases b
  · exact h2 rfl
  · exact h1 rfl
theorem Tr.ok (h : Q d L) : Tr Q (.ok d L) := ⟨_, _, rfl, h⟩
end
/-- a text that is walked statement by statement -/
def svl (P : Prg) (K : Nat → List D → Mu → RE) (s : S) (δ : Ds) (L : Mu) : RT := sv P K s δ L
theorem Nx.go {I : Ds → Mu → Prop} {P : Prg} {K : Nat → List D → Mu → RE} {s : S} {δ : Ds} {L : Mu} (h : Nx I (svl P K s δ L)) : Nx I (sv P K s δ L) := h
theorem Nx.st {I : Ds → Mu → Prop} {P : Prg} {K : Nat → List D → Mu → RE} {a b : S} {δ δ' : Ds} {L L' : Mu} (h : sv P K a δ L = .nx δ' L') (h2 : Nx I (svl P K b δ' L')) : Nx I (svl P K (.seq a b) δ L) := by
  unfold svl at *
  rw [sv_seq, h]; exact h2
theorem Nx.end {I : Ds → Mu → Prop} {P : Prg} {K : Nat → List D → Mu → RE} {δ : Ds} {L : Mu} (h : I δ L) : Nx I (svl P K .nil δ L) := by
  unfold svl
  rw [sv_nil]; exact ⟨δ, L, .inl rfl, h⟩
theorem Tr.go {Q : D → Mu → Prop} {P : Prg} {K : Nat → List D → Mu → RE} {s : S} {δ : Ds} {L : Mu} (h : Tr Q (svR (svl P K s δ L))) : Tr Q (svR (sv P K s δ L)) := h
theorem Tr.st {Q : D → Mu → Prop} {P : Prg} {K : Nat → List D → Mu → RE} {a b : S} {δ δ' : Ds} {L L' : Mu} (h : sv P K a δ L = .nx δ' L') (h2 : Tr Q (svR (svl P K b δ' L'))) : Tr Q (svR (svl P K (.seq a b) δ L)) := by
  unfold svl at *
  rw [sv_seq, h]; exact h2
theorem Tr.ret {Q : D → Mu → Prop} {P : Prg} {K : Nat → List D → Mu → RE} {a : T} {b : S} {δ : Ds} {L L' : Mu} {d : D} (h : ev P K a δ L = .ok d L') (h2 : Q d L') : Tr Q (svR (svl P K (.seq (.ret a) b) δ L)) := by
  unfold svl
  rw [sv_seq, sv_ret, h]; exact ⟨d, L', rfl, h2⟩
theorem Nx.cut {I : Ds → Mu → Prop} {r : RT} {f : Ds → Mu → RT} {δ : Ds} {L : Mu} (h : r = .nx δ L) (h2 : Nx I (f δ L)) : Nx I (@zQ r ⟨f⟩) := by
  subst h; exact h2
theorem Tr.cut {Q : D → Mu → Prop} {r : RT} {f : Ds → Mu → RT} {δ : Ds} {L : Mu} (h : r = .nx δ L) (h2 : Tr Q (svR (f δ L))) : Tr Q (svR (@zQ r ⟨f⟩)) := by
  subst h; exact h2
theorem fkS_eq {b : Bool} {xs ys R : RT} (h1 : b = true → xs = R) (h2 : b = false → ys = R) : @fkS b ⟨xs⟩ ⟨ys⟩ = R := by
  cases b
  · exact h2 rfl
  · exact h1 rfl
theorem fk_eq {b : Bool} {xs ys R : RE} (h1 : b = true → xs = R) (h2 : b = false → ys = R) : @fk b ⟨xs⟩ ⟨ys⟩ = R := by
  cases b
  · exact h2 rfl
  · exact h1 rfl
theorem for_rgN {g : Mu → Bool} {f : D → Ds → Mu → RT} {a b : Int} {δ : Ds} {L : Mu} (I : Int → Ds → Mu → Prop) (hab : a ≤ b) (hg : ∀ j δ L, I j δ L → g L = true) (h0 : I a δ L)
    (hs : ∀ (j : Int) (δ : Ds) (L : Mu), a ≤ j → j < b → I j δ L → Nx (I (j + 1)) (f (.int j) δ L)) : ∃ δ' L', @forF g ⟨f⟩ ((rg a b).map .int) δ L = .nx δ' L' ∧ I b δ' L' := for_rg I hab hg h0 hs
theorem sortI_len (xs : List Int) : (sortI xs).length = xs.length := (sortI_perm xs).length_eq
theorem sortI_idem (xs : List Int) : sortI (sortI xs) = sortI xs := (sortI_one (List.Perm.refl _) (sortI_srt xs)).symm
theorem map_sing {α β : Type} {f : α → β} {x : α} : [f x] = [x].map f := rfl
end Ac
end
section
/-! Bx5: more. -/
open PySem PySem.Spec Ac
local macro_rules | `(tactic| walk_at "ev") => `(tactic| simp (disch := first | assumption | omega | (refine @id _ ?_; with_unfolding_all rfl) | (refine @id _ ?_; intro z hz; with_unfolding_all rfl) | (intro z hz; simp only [*]; done)) only [fnR_0, fnR_1, fnR_2, 
  ev_loc, ev_glb, ev_non, ev_bl, ev_int, ev_str, ev_bin, ev_binM, o2M_rep, o2M_cat, ev_neg, ev_cmp, ev_chn, ev_and, ev_or, ev_not, ev_ite, ev_nil, ev_cons, ev_tup, ev_lst, ev_ix, ev_sl, ev_call, ev_mk, ev_meth, ev_fld, ev_bi, ev_bm, ev_rng, ev_lrg, ev_lcx, ev_genx, ev_told, ev_itr, ev_lrm, ev_pop0, oc_is, oc_isnt, isN_n, isN_i, isN_s, isN_t, isN_l, isN_r, okL_s, bmP_app, bmP_pop, bmP_cnt, bmP_cntC, bmP_sw, bmP_join, appR_s, bm_app, bmP_scnt, bm_scnt, bmP_idx, bmP_idxC, ntR_s, bm_cntI, bm_cntIC, tnR_s, niR_s, tiR_s, bm_cntS, bm_idxI, bm_idxS, lbR_s, bm_cntSC, bm_idxIC, bm_idxSC, bm_pop, popR_0, popR_s, pop0_C, pop0R_s, itr_tup', itr_lst', itr_str', enm_nil', enm_cons', lrm_s, srR_s, srR_t, srR_d, srK_s, srK_t, srC_l, srC_d, bi_srtD, bi_srtC, bi_srtI, smR_s, bi_sumI, bi_sumT, map_app1, appI_s, ints_app, ints_nil, consI_s, ints_cons, ints_map, appD_s, rsvs_app, rsS_t, rsv_strT, deqs_ints, in_sg, nin_sg, List.mem_cons, List.not_mem_nil, or_false, false_or, or_true, true_or, in_intsT, in_intsL, List.append_nil,
  sv_skip, sv_ex, sv_ret, sv_retN, sv_ifs, sv_brk, sv_cnt, sv_rse, sv_nil, sv_seq, sv_for, sv_asgl, sv_asgt, sv_asgi, sv_asgf, sv_augl, sv_augf, sv_augx, asg_loc, asg_tup, gdG_t, asgs_nil, asgs_cons, asg_ix, lenT,
  kE_ok, kE_ex, kE_fk, kB_ok, kB_ex, kB_fk, kI_ok, kI_ex, kI_fk, kA_ok, kA_ex, kA_fk, zE_ok, zE_ex, zE_fk, zB_ok, zB_ex, zB_fk, gxE_ok, gxE_ex, gxQ_ok, gxQ_ex, zG_ok, zG_ex, zQ_nx, zQ_rt, zQ_bk, zQ_ct, zQ_ex, zQ_fk, loop_nx, loop_ct, loop_bk, loop_rt, loop_ex, loop_fk, svR_nx, svR_rt, svR_ex, svR_fk, tld_fk, tld_ok, fk_dt, fk_df, fkS_dt, fkS_df, fkO_dt, fkO_df, fk_t, fk_f, fkS_t, fkS_f, fk_not, fkS_not, fk_and, fkS_and, fk_or, fkS_or, itK_s, itZ_s, mtK_s, gd_t, gd_p, gd_and, gdS_t, gdS_p, stands_n, locO_s, glbO_s,
  o2_add, o2_sub, o2_mul, o2_fdiv, o2_mod, o2_pow, o2_adds, o2_catT, o2_cat, o2_rep, o2i_add, o2i_sub, o2i_mul, o2i_adds, oc_lt, bi_strI, bi_strS, oc_lts, oc_les, oc_gts, oc_ges, oc_le, oc_gt, oc_ge, oc_eqi, oc_nei, oc_eq, oc_ne, eqR_s, neR_s,
  rsv_non, rsv_bl, rsv_int, rsv_tup, rsv_lst, rsC_s, rsv_rf, rsvs_nil, rcs_s, rsvs_cons, rsvs_ints, mapS,
  deq_int, deq_bl, deq_str, deq_tup, deq_lst, deqs_nil, deqs_cons, deqs_nc, deqs_cn, deq_non, deq_non_int, deq_non_str, deq_non_tup, deq_non_lst, deq_int_non, deq_int_str, deq_int_tup, deq_int_lst, deq_str_non, deq_str_int, deq_str_tup, deq_str_lst, deq_tup_non, deq_tup_int, deq_tup_str, deq_tup_lst, deq_lst_non, deq_lst_int, deq_lst_str, deq_lst_tup, deq_bl_str, deq_str_bl,
  cellL_s, lsO_lst, lsO_lsk, lsO_rf, ltO_lst, ltO_rf, sqO_tup, sqO_lst, sqO_lsk, sqO_rf, itC_s, itO_tup, itO_lst, itO_lsk, itO_str, itO_rf, cellI_s, insO_obj, insO_rf, fldJ_s, fldR_s, fldO_R, mthR_s, methF_R, sflJ_s, sflR_s, sfl_R, atR_s, ix_tup, ix_lst, ixR_s, ixR_d, ix_rfS, ixK_s, ix_dctS, ix_dctI, cellL_d, cellD_s, cellD_l, dcO_dct, dcO_rf, rsC_d, rsv_dct, eqR_d, neR_d, bi_lenD, dctR_s, mkDc_t, mkDc_f, bi_dct, lenR_d, bi_srtT, ix_rf, ix_str, strR_s, get_tx, joR_s, bm_joinL, txs_map, joinL_0, flat_sing, len_sing, Nat.mul_zero, at_pos, stL_s, stJ_s, sto_rf, sto_rfS, stG_s, stR_s, stK_s, stL_d, stS_s, gto_rf, gto_rfS, gtL_s, gtL_d, gtS_s, ixN_pos, sl_tup, sl_lst, sl_lsk, lenR_s, bi_lenS, bi_lenT, bi_lenL, bi_lenC, bi_abs, bi_min2, bi_max2, bi_min3, bi_max3, bi_min4, lsC_s, bi_minC, bi_maxC, lsIR_i, lsIR_t, lsIR_d, bi_minL, bi_minT, bi_maxL, bi_maxT, ints_t, tps_map, ints_tps, bi_int, bi_intB, mk_f, mk_t, bi_listT, bi_listL, bi_tupT, bi_tupL, tupR_s, bi_tupC, listR_s, bi_listC, rgR_1, rgR_2, rgL_1, rgL_2,
  fin1_ok, fin1_ex, dzC_d, dfz_dct, dfzk_ints, blwk_ints, finZ_s, fin2_ok, fin2_ex, fin_fk, wf_nil, wf_cons, blw_ins, blw_dc, blw_lst, blws_nil, blws_cons, blw_int, blw_bl, blw_non, blw_str, blw_tup, blw_lst', blw_obj, blw_rf, blws_ints, dzC_i, dzC_l, dfz_rf, dfz_old, dfz_int, dfz_bl, dfz_non, dfz_str, dfz_tup, dfz_lst, dfz_obj, dfzs_nil, dfzs_cons, dfzs_ints, payB,
  at_0, mkR_f, mkR_m, mkR_ex, mkR_fk, mkC_s, mkO_C, putX_d, augR_s, augF_s, augJ_s, augD_rf, forF_nil, forF_cons, seO_ok, seO_fk, cdK_ok, cdK_fk, fkO_t, fkO_f, fkO_not, fkO_and, fkO_or, asK_s, asgN_loc, asgN_tup, asgNs_nil, asN_s, asgNs_cons, wipe_nil, wipe_cons, lcf_k, oK_s, oK_fk, lcR_n, lcR_c, lcN_nil, lcN_cons,
  isNop, List.length_cons, List.length_nil, List.length_append, List.length_map, List.length_set, List.getElem?_cons_succ, List.getElem?_cons_zero, List.map_cons, List.map_nil, List.cons_append, List.nil_append, List.append_assoc, List.set_set, nc2, nc3, nc4, nc5, nc6, nc7, nc8, nc9, nc10, nc11, nc12, nc13, nc14, nc15, nc16, Int.natCast_zero, Int.natCast_one, List.set_cons_succ, List.set_cons_zero, List.take_succ_cons, List.take_zero, List.replicate_succ, List.replicate_zero, Nat.reduceSub, Nat.reduceAdd, Nat.reduceEqDiff, Nat.reduceLT, Nat.reduceLeDiff, Nat.reduceBEq, Nat.zero_add, Nat.add_zero, Int.reduceToNat, Int.reduceLT, Int.reduceLE, Int.reduceAdd, Int.reduceSub, Int.reduceMul, Int.reduceNeg, Int.reduceEq, if_true, if_false, ite_true, ite_false, Bool.and_true, Bool.true_and, Bool.and_self, Bool.and_false, Bool.false_and, Bool.not_true, Bool.not_false, Bool.or_false, Bool.false_or, Bool.or_true, Bool.true_or, decide_true, decide_false, eq_self, List.cons.injEq, and_true, true_and, and_self, and_false, false_and,  Option.toList, beq_self_eq_true, reduceCtorEq, *])
namespace Ac
section
variable {P : Prg} {K : Nat → List D → Mu → RE} {L : Mu} {δ : Ds} {a b c : Int} {i k n : Nat} {d d2 : D} {xs ys ds : List D} {x y : Tx} {g : Mu → Bool} {F : D → Mu → Option (Option D × Mu)}
/-! ### generator expressions -/
def gnZ (o : Option (Int ⊕ D)) (g : Mu → Bool) (F : D → Mu → Option (Option D × Mu)) (kd : Gk) (ds : List D) (L : Mu) : RE := match o with
  | some (.inl c) => gnL g F kd c ds L
  | some (.inr r) => .ok r L
  | none => .no
def gnY (g : Mu → Bool) (F : D → Mu → Option (Option D × Mu)) (kd : Gk) (c : Int) (ds : List D) (y : Option D) (L : Mu) : RE := match y with
  | some y => gnZ (gkS kd c y) g F kd ds L
  | none => gnL g F kd c ds L
theorem gn_nil {kd : Gk} {c : Int} (h : g L = true) : gnL g F kd c [] L = .ok (gkF kd c) L := by unfold gnL; rw [h]; rfl
theorem gn_cons {kd : Gk} {c : Int} (h : g L = true) : gnL g F kd c (d :: ds) L = @oK (F d L) ⟨fun y L => gnY g F kd c ds y L⟩ := by
  conv => lhs; unfold gnL
  rw [h, if_pos rfl]
  unfold oK gnY
  cases F d L with
  | none => rfl
  | some p =>
    obtain ⟨o, L1⟩ := p
    cases o with
    | none => rfl
    | some y =>
      dsimp only
      unfold gnZ
      cases gkS kd c y with
      | none => rfl
      | some z => cases z <;> rfl
theorem gnY_n {kd : Gk} : gnY g F kd c ds none L = gnL g F kd c ds L := (rfl)
theorem gnY_any {b : Bool} : gnY g F .any c ds (some (.bl b)) L = @fk b ⟨.ok (.bl true) L⟩ ⟨gnL g F .any c ds L⟩ := by cases b <;> rfl
theorem gnY_all {b : Bool} : gnY g F .all c ds (some (.bl b)) L = @fk b ⟨gnL g F .all c ds L⟩ ⟨.ok (.bl false) L⟩ := by cases b <;> rfl
theorem inL_of (h : -9223372036854775808 ≤ a) (h' : a < 9223372036854775808) : inL a = true := by
  unfold inL
  rw [decide_eq_true (by omega), decide_eq_true (by omega)]; rfl
theorem gnY_sum (h : -4611686018427387904 ≤ a) (h' : a ≤ 4611686018427387904) (h2 : -4611686018427387904 ≤ c) (h2' : c < 4611686018427387904) : gnY g F .sum c ds (some (.int a)) L = gnL g F .sum (c + a) ds L := by
  have e : gkS .sum c (.int a) = some (.inl (c + a)) := by
    show (if (inL a && inL (c + a)) = true then some (Sum.inl (c + a)) else none) = _
    rw [inL_of (by omega) (by omega), inL_of (by omega) (by omega)]; rfl
  show gnZ (gkS .sum c (.int a)) g F .sum ds L = _
  rw [e]; rfl
theorem gkF_any : gkF .any c = .bl false := (rfl)
theorem gkF_all : gkF .all c = .bl true := (rfl)
theorem gkF_sum : gkF .sum c = .int c := (rfl)
theorem gn_any {α : Type} {f : α → D} {p : α → Bool} {l : List α} (hg : g L = true) (H : ∀ z ∈ l, F (f z) L = some (some (.bl (p z)), L)) : gnL g F .any c (l.map f) L = .ok (.bl (l.any p)) L := by
  induction l with
  | nil => rw [List.map_nil, gn_nil hg]; rfl
  | cons m ns ih =>
    rw [List.map_cons, gn_cons hg, H _ List.mem_cons_self, oK_s, gnY_any, List.any_cons, ih fun z hz => H z (List.mem_cons_of_mem _ hz)]
    cases p m <;> rfl
theorem gn_all {α : Type} {f : α → D} {p : α → Bool} {l : List α} (hg : g L = true) (H : ∀ z ∈ l, F (f z) L = some (some (.bl (p z)), L)) : gnL g F .all c (l.map f) L = .ok (.bl (l.all p)) L := by
  induction l with
  | nil => rw [List.map_nil, gn_nil hg]; rfl
  | cons m ns ih =>
    rw [List.map_cons, gn_cons hg, H _ List.mem_cons_self, oK_s, gnY_all, List.all_cons, ih fun z hz => H z (List.mem_cons_of_mem _ hz)]
    cases p m <;> rfl
theorem gn_sum {α : Type} {f : α → D} {p : α → Bool} {v : α → Int} {l : List α} (hg : g L = true) (H : ∀ z ∈ l, F (f z) L = some (if p z then some (.int (v z)) else none, L)) (hv : ∀ z ∈ l, -1000000000 ≤ v z ∧ v z ≤ 1000000000) (hc : -1000000000 * (1000000000 - l.length) ≤ c ∧ c ≤ 1000000000 * (1000000000 - (l.length : Int))) (hl : l.length ≤ 1000000000) : gnL g F .sum c (l.map f) L = .ok (.int (c + ((l.filter p).map v).sum)) L := by
  induction l generalizing c with
  | nil => rw [List.map_nil, gn_nil hg]; simp [gkF]
  | cons m ns ih =>
    have hm := hv m List.mem_cons_self
    rw [List.length_cons] at hc hl
    have hc' : -1000000000 * (1000000000 - ((ns.length : Int) + 1)) ≤ c ∧ c ≤ 1000000000 * (1000000000 - ((ns.length : Int) + 1)) := by simpa using hc
    rw [List.map_cons, gn_cons hg, H _ List.mem_cons_self, oK_s]
    have ih' := fun c hc => ih (c := c) (fun z hz => H z (List.mem_cons_of_mem _ hz)) (fun z hz => hv z (List.mem_cons_of_mem _ hz)) hc (by omega)
    cases hp : p m with
    | false =>
      simp only [Bool.false_eq_true, if_false, gnY_n]
      rw [ih' c (by omega)]
      simp [List.filter_cons, hp]
    | true =>
      simp only [if_true]
      rw [gnY_sum (by omega) (by omega) (by omega) (by omega), ih' (c + v m) (by omega)]
      simp [List.filter_cons, hp, Int.add_assoc]
/-! ### while -/
theorem sv_whl (t : T) (s : S) : sv P K (.whl t s) δ L = whlL (ev P K t) (sv P K s) FU δ L := by (conv => lhs; unfold sv)
theorem whl_inv {ct : Ds → Mu → RE} {f : Ds → Mu → RT} (I : Nat → Ds → Mu → Prop) (hs : ∀ m δ L, I (m + 1) δ L → ct δ L = .ok (.bl true) L ∧ Nx (I m) (f δ L)) (h0 : ∀ δ L, I 0 δ L → ct δ L = .ok (.bl false) L) :
    ∀ (u m : Nat) (δ : Ds) (L : Mu), I m δ L → m < u → ∃ δ' L', whlL ct f u δ L = .nx δ' L' ∧ I 0 δ' L'
  | 0, _, _, _, _, h => absurd h (Nat.not_lt_zero _)
  | u + 1, 0, δ, L, h, _ => by
    refine ⟨δ, L, ?_, h⟩
    unfold whlL
    rw [h0 δ L h]; rfl
  | u + 1, m + 1, δ, L, h, hm => by
    obtain ⟨h1, δ1, L1, h2, h3⟩ := hs m δ L h
    obtain ⟨δ2, L2, h4, h5⟩ := whl_inv I hs h0 u m δ1 L1 h3 (by omega)
    refine ⟨δ2, L2, ?_, h5⟩
    conv => lhs; unfold whlL
    rw [h1]
    show (match f δ L with
      | .nx δ L => whlL ct f u δ L
      | .ct δ L => whlL ct f u δ L
      | .bk δ L => .nx δ L
      | r => r) = _
    rcases h2 with h2 | h2 <;> rw [h2] <;> exact h4
/-! ### ranges -/
theorem rg_nil (h : b ≤ a) : rg a b = [] := by
  unfold rg
  rw [show (b - a).toNat = 0 by omega]; rfl
theorem rg_succ (h : a ≤ b) : rg a (b + 1) = rg a b ++ [b] := by
  unfold rg
  rw [show (b + 1 - a).toNat = (b - a).toNat + 1 by omega, List.range_succ, List.map_append, List.map_singleton]
  congr 2
  omega
theorem rg_cons (h : a < b) : rg a b = a :: rg (a + 1) b := by
  unfold rg
  rw [show (b - a).toNat = (b - (a + 1)).toNat + 1 by omega, List.range_succ_eq_map, List.map_cons, List.map_map]
  congr 1
  · simp
  · exact List.map_congr_left fun j _ => by simp only [Function.comp]; omega
theorem at_rg {α : Type} {f : Int → α} (h : 0 ≤ k) (ha : a ≤ c) (hb : c < b) : L2.atI ((rg a b).map f) (c - a) = some (f c) := by
  have e : c - a = ((c - a).toNat : Int) := by omega
  rw [e, at_nat, List.getElem?_map]
  unfold rg
  rw [List.getElem?_map, List.getElem?_range (by omega)]
  simp only [Option.map_some]
  congr 2
  omega
theorem at_rg0 {α : Type} {f : Int → α} (ha : 0 ≤ c) (hb : c < b) : L2.atI ((rg 0 b).map f) c = some (f c) := by
  have := at_rg (f := f) (k := 0) (a := 0) (b := b) (c := c) (Nat.zero_le _) ha hb
  rwa [show c - 0 = c by omega] at this
theorem get_rg0 {α : Type} {f : Int → α} (ha : 0 ≤ c) (hb : c < b) : ((rg 0 b).map f)[c.toNat]? = some (f c) := by
  rw [← at_pos ha]; exact at_rg0 ha hb
theorem get_mapI {ns : List Int} (ha : 0 ≤ c) (hb : c < ns.length) : (ns.map D.int)[c.toNat]? = some (.int (ns.getD c.toNat 0)) := by
  rw [List.getElem?_map, List.getElem?_eq_getElem (show c.toNat < ns.length by omega)]
  simp [List.getD_eq_getElem?_getD, List.getElem?_eq_getElem (show c.toNat < ns.length by omega)]
theorem rg00 : rg 0 0 = [] := (rfl)
theorem rg01 : rg 0 1 = [0] := (rfl)
theorem rg02 : rg 0 2 = [0, 1] := (rfl)
theorem rg03 : rg 0 3 = [0, 1, 2] := (rfl)
theorem rg04 : rg 0 4 = [0, 1, 2, 3] := (rfl)
theorem rg05 : rg 0 5 = [0, 1, 2, 3, 4] := (rfl)
theorem rg06 : rg 0 6 = [0, 1, 2, 3, 4, 5] := (rfl)
theorem rg07 : rg 0 7 = [0, 1, 2, 3, 4, 5, 6] := (rfl)
theorem rg08 : rg 0 8 = [0, 1, 2, 3, 4, 5, 6, 7] := (rfl)
theorem rg09 : rg 0 9 = [0, 1, 2, 3, 4, 5, 6, 7, 8] := (rfl)
theorem rg11 : rg 1 1 = [] := (rfl)
theorem rg12 : rg 1 2 = [1] := (rfl)
theorem rg13 : rg 1 3 = [1, 2] := (rfl)
theorem rg14 : rg 1 4 = [1, 2, 3] := (rfl)
/-! ### new cells -/
theorem apg0 {m : MO} {r : Mu} : (L ++ m :: r)[L.length]? = some m := by simp
theorem apg1 {m m2 : MO} {r : Mu} : (L ++ m :: m2 :: r)[L.length + 1]? = some m2 := by
  rw [List.getElem?_append_right (by omega)]; simp
theorem apg2 {m m2 m3 : MO} {r : Mu} : (L ++ m :: m2 :: m3 :: r)[L.length + 2]? = some m3 := by
  rw [List.getElem?_append_right (by omega)]; simp
theorem aps0 {m z : MO} {r : Mu} : (L ++ m :: r).set L.length z = L ++ z :: r := by
  rw [List.set_append_right _ _ (by omega)]; simp
theorem aps1 {m m2 z : MO} {r : Mu} : (L ++ m :: m2 :: r).set (L.length + 1) z = L ++ m :: z :: r := by
  rw [List.set_append_right _ _ (by omega)]; simp
theorem aps2 {m m2 m3 z : MO} {r : Mu} : (L ++ m :: m2 :: m3 :: r).set (L.length + 2) z = L ++ m :: m2 :: z :: r := by
  rw [List.set_append_right _ _ (by omega)]; simp
theorem apt {r : Mu} : (L ++ r).take L.length = L := List.take_left
/-! ### slices -/
theorem sIx_0 (n m : Nat) : HT.sIx n m (some 0) = 0 := by
  have := HT.sIx_nat n m 0
  simpa using this
theorem cut_take (h : 0 ≤ a) {α : Type} {zs : List α} : cut zs none (some a) = zs.take a.toNat := by
  obtain ⟨n, rfl⟩ := Int.eq_ofNat_of_zero_le h
  unfold cut
  rw [HT.sIx_none, HT.sIx_nat, List.drop_zero, Nat.sub_zero]
  simp only [Int.toNat_natCast]
  rcases Nat.le_total n zs.length with h | h
  · rw [Nat.min_eq_left h]
  · rw [Nat.min_eq_right h, List.take_of_length_le (Nat.le_refl _), List.take_of_length_le h]
theorem cut_drop (h : 0 ≤ a) {α : Type} {zs : List α} : cut zs (some a) none = zs.drop a.toNat := by
  obtain ⟨n, rfl⟩ := Int.eq_ofNat_of_zero_le h
  unfold cut
  rw [HT.sIx_none, HT.sIx_nat]
  simp only [Int.toNat_natCast]
  rcases Nat.le_total n zs.length with h | h
  · rw [Nat.min_eq_left h]
    exact List.take_of_length_le (by rw [List.length_drop]; exact Nat.le_refl _)
  · rw [Nat.min_eq_right h, List.drop_of_length_le (Nat.le_refl _), List.drop_of_length_le h]; simp
/-! ### data made over lists -/
theorem rsvs_mapF {α : Type} {f : α → D} {l : List α} (h : ∀ z ∈ l, D.flat n (f z) = true) : rsvs L n (l.map f) = some (l.map f) := rsvs_flat (flats_map h)
theorem deqs_mapF {α : Type} {f : α → D} {l : List α} (h : ∀ z ∈ l, D.flat 60 (f z) = true) : D.eqs (l.map f) (l.map f) = true := by
  have h2 : D.flat 61 (.lst (l.map f)) = true := by rw [flat_lst]; exact flats_map h
  have := D.eq_refl h2
  rwa [deq_lst] at this
theorem tOk_of {z : Tx} (h : ∀ c ∈ z, c < 1114112) : tOk z = true := by
  unfold tOk PyData.strOk Tx.s
  simp only [Array.all_eq_true]
  intro j hj
  have := h z[j] (List.getElem_mem (by simpa using hj))
  simpa using this
end
/-! ### the dice and the rounds -/
def diceS : S := (.seq (.ifs (.chn .Lt .Lt (.bin .Sub (.int 0) (.int 10)) (.loc 0) (.int 10)) (.seq (.ret (.lst true (.cons (.bi .abs false (.cons (.loc 0) .nil)) (.cons (.int 0) (.cons (.int 2) .nil))))) .nil) .nil) (.seq (.ret (.lst true (.cons (.loc 0) (.cons (.bin .Add (.int 1) (.bin .Mod (.bi .int false (.cons (.loc 0) .nil)) (.int 1009))) (.cons (.bi .int false (.cons (.cmp .GtE (.loc 0) (.bin .Pow (.int 10) (.int 18))) .nil)) .nil))))) .nil))
def roundsS (fd : Nat) : S := (.seq (.asg (.loc 2) (.sl (.loc 0) .nop (.loc 1))) (.seq (.ifs (.cmp .Eq (.loc 2) (.lst false .nil)) (.seq (.asg (.loc 2) (.lst false (.cons (.int 0) .nil))) .nil) .nil) (.seq (.ret (.lc false [3, 4] (.loc 4) (.loc 2) .nop (.call fd (.cons (.loc 4) .nil)))) .nil)))
theorem run_dice {P : Prg} {k f : Nat} {L : Mu} {m : Int} (hf : P.fns[f]? = some ⟨1, 1, diceS, 0⟩) : ∃ s, Ac.run P (k + 1) f [.int m] L = .ok (.rf L.length) (L ++ [dcM s]) := by
  rw [run_s, hf]
  unfold diceS
  by_cases h : -10 < m
  · by_cases h2 : m < 10
    · refine ⟨⟨if m < 0 then -m else m, 0, 2⟩, ?_⟩
      walk_at "ev"
      rfl
    · refine ⟨⟨m, 1 + m % 1009, if decide (10 ^ 18 ≤ m) = true then 1 else 0⟩, ?_⟩
      walk_at "ev"
      rfl
  · refine ⟨⟨m, 1 + m % 1009, if decide (10 ^ 18 ≤ m) = true then 1 else 0⟩, ?_⟩
    walk_at "ev"
    rfl
theorem run_rounds {P : Prg} {k fr fd : Nat} (h1 : P.fns[fr]? = some ⟨2, 5, roundsS fd, 0⟩) (h2 : P.fns[fd]? = some ⟨1, 1, diceS, 0⟩) (ns : List Int) : ∃ s, Ac.run P (k + 2) fr [.lsk (ns.map .int), .int 1] [] = .ok (.lst [.rf 0]) [dcM s] := by
  rw [run_s, h1]
  unfold roundsS
  cases ns with
  | nil =>
    obtain ⟨s, hs⟩ := run_dice (k := k) (L := []) (m := 0) h2
    refine ⟨s, ?_⟩
    have e : cut ([] : List D) none (some 1) = [] := rfl
    simp only [List.length_nil, List.nil_append] at hs
    walk_at "ev"
  | cons n ns =>
    obtain ⟨s, hs⟩ := run_dice (k := k) (L := []) (m := n) h2
    refine ⟨s, ?_⟩
    have e : cut (List.map D.int (n :: ns)) none (some 1) = [.int n] := by rw [cut_take (by decide)]; rfl
    have e2 : cut (D.int n :: List.map D.int ns) none (some 1) = [.int n] := e
    simp only [List.length_nil, List.nil_append] at hs
    walk_at "ev"
end Ac
namespace Ac
/-- a list of drawn ints -/
theorem lc_rolls {mm : Bool} {g : Mu → Bool} {F : D → Mu → Option (Option D × Mu)} {m : Int} (hm : 0 < m) {h : Int → Int} {i : Nat} (hg : ∀ L, g L = true) : ∀ {l : List D} {L : Mu} {s : Dc}, L[i]? = some (dcM s) → (∀ d ∈ l, ∀ (L : Mu) (s : Dc), L[i]? = some (dcM s) → F d L = some (some (.int (h (rolV s m))), L.set i (dcM (rolN s m)))) →
    ∃ (ns : List Int) (s' : Dc), lcR mm g F l L = mkL mm (ns.map .int) (L.set i (dcM s')) ∧ ns.length = l.length ∧ ∀ x ∈ ns, ∃ r, 0 ≤ r ∧ r < m ∧ x = h r := by
  intro l
  suffices hh : ∀ (l : List D) (acc : List D) (L : Mu) (s : Dc), L[i]? = some (dcM s) → (∀ d ∈ l, ∀ (L : Mu) (s : Dc), L[i]? = some (dcM s) → F d L = some (some (.int (h (rolV s m))), L.set i (dcM (rolN s m)))) →
      ∃ (ns : List Int) (s' : Dc), lcN g F mm acc l L = mkL mm (acc ++ ns.map .int) (L.set i (dcM s')) ∧ ns.length = l.length ∧ ∀ x ∈ ns, ∃ r, 0 ≤ r ∧ r < m ∧ x = h r by
    intro L s h0 H
    obtain ⟨ns, s', h1, h2, h3⟩ := hh l [] L s h0 H
    exact ⟨ns, s', by rw [lcR_N, h1]; rfl, h2, h3⟩
  intro l
  induction l with
  | nil =>
    intro acc L s h0 H
    refine ⟨[], s, ?_, rfl, fun x hx => by cases hx⟩
    rw [lcN_nil (hg L), List.map_nil, List.append_nil]
    congr 1
    rw [List.getElem?_eq_some_iff] at h0
    obtain ⟨h1, h2⟩ := h0
    rw [← h2]
    exact (List.set_getElem_self h1).symm
  | cons d l ih =>
    intro acc L s h0 H
    rw [lcN_cons (hg L), H d List.mem_cons_self L s h0, oK_s]
    obtain ⟨ns, s', h1, h2, h3⟩ := ih (acc ++ [.int (h (rolV s m))]) (L.set i (dcM (rolN s m))) (rolN s m) (set_get h0) fun d hd => H d (List.mem_cons_of_mem _ hd)
    refine ⟨h (rolV s m) :: ns, s', ?_, by rw [List.length_cons, List.length_cons, h2], fun x hx => ?_⟩
    · show lcN g F mm (acc ++ [.int (h (rolV s m))]) l _ = _
      rw [h1, List.set_set, List.append_assoc]; rfl
    · rcases List.mem_cons.mp hx with rfl | hx
      · exact ⟨_, rolV_0 hm, rolV_1 hm, rfl⟩
      · exact h3 x hx
/-- a list of what is drawn -/
theorem lc_rollsD {mm : Bool} {g : Mu → Bool} {F : D → Mu → Option (Option D × Mu)} {m : Int} (hm : 0 < m) {h : Int → D} {i : Nat} (hg : ∀ L, g L = true) : ∀ {l : List D} {L : Mu} {s : Dc}, L[i]? = some (dcM s) → (∀ d ∈ l, ∀ (L : Mu) (s : Dc), L[i]? = some (dcM s) → F d L = some (some (h (rolV s m)), L.set i (dcM (rolN s m)))) →
    ∃ (ns : List Int) (s' : Dc), lcR mm g F l L = mkL mm (ns.map h) (L.set i (dcM s')) ∧ ns.length = l.length ∧ ∀ x ∈ ns, 0 ≤ x ∧ x < m := by
  intro l
  suffices hh : ∀ (l : List D) (acc : List D) (L : Mu) (s : Dc), L[i]? = some (dcM s) → (∀ d ∈ l, ∀ (L : Mu) (s : Dc), L[i]? = some (dcM s) → F d L = some (some (h (rolV s m)), L.set i (dcM (rolN s m)))) →
      ∃ (ns : List Int) (s' : Dc), lcN g F mm acc l L = mkL mm (acc ++ ns.map h) (L.set i (dcM s')) ∧ ns.length = l.length ∧ ∀ x ∈ ns, 0 ≤ x ∧ x < m by
    intro L s h0 H
    obtain ⟨ns, s', h1, h2, h3⟩ := hh l [] L s h0 H
    exact ⟨ns, s', by rw [lcR_N, h1]; rfl, h2, h3⟩
  intro l
  induction l with
  | nil =>
    intro acc L s h0 H
    refine ⟨[], s, ?_, rfl, fun x hx => by cases hx⟩
    rw [lcN_nil (hg L), List.map_nil, List.append_nil]
    congr 1
    rw [List.getElem?_eq_some_iff] at h0
    obtain ⟨h1, h2⟩ := h0
    rw [← h2]
    exact (List.set_getElem_self h1).symm
  | cons d l ih =>
    intro acc L s h0 H
    rw [lcN_cons (hg L), H d List.mem_cons_self L s h0, oK_s]
    obtain ⟨ns, s', h1, h2, h3⟩ := ih (acc ++ [h (rolV s m)]) (L.set i (dcM (rolN s m))) (rolN s m) (set_get h0) fun d hd => H d (List.mem_cons_of_mem _ hd)
    refine ⟨rolV s m :: ns, s', ?_, by rw [List.length_cons, List.length_cons, h2], fun x hx => ?_⟩
    · show lcN g F mm (acc ++ [h (rolV s m)]) l _ = _
      rw [h1, List.set_set, List.append_assoc]; rfl
    · rcases List.mem_cons.mp hx with rfl | hx
      · exact ⟨rolV_0 hm, rolV_1 hm⟩
      · exact h3 x hx
end Ac
namespace Ac
theorem roll_ex (s : Dc) {m : Int} (h : 0 < m) : ∃ (n : Int) (t : Dc), 0 ≤ n ∧ n < m ∧ rolV s m = n ∧ rolN s m = t := ⟨_, _, rolV_0 h, rolV_1 h, rfl, rfl⟩
end Ac
namespace Ac
mutual
theorem blw_mono {n m : Nat} (h : n ≤ m) : ∀ {d : D}, D.blw n d = true → D.blw m d = true
  | .non, _ | .bl _, _ | .int _, _ | .str _, _ | .ty _, _ | .lam _, _ => rfl
  | .tup xs, e => by rw [blw_tup] at e ⊢; exact blws_mono h e
  | .lst xs, e => by rw [blw_lst'] at e ⊢; exact blws_mono h e
  | .lsk xs, e => by unfold D.blw at e ⊢; exact blws_mono h e
  | .obj _ xs, e => by rw [blw_obj] at e ⊢; exact blws_mono h e
  | .dct ks, e => by unfold D.blw at e ⊢; exact blwk_mono h e
  | .dtt ks, e => by unfold D.blw at e ⊢; exact blwt_mono h e
  | .rf i, e => by unfold D.blw at e ⊢; have := of_decide_eq_true e; exact decide_eq_true (by omega)
theorem blws_mono {n m : Nat} (h : n ≤ m) : ∀ {ds : List D}, D.blws n ds = true → D.blws m ds = true
  | [], _ => blws_nil
  | d :: ds, e => by
    rw [blws_cons, Bool.and_eq_true] at e ⊢
    exact ⟨blw_mono h e.1, blws_mono h e.2⟩
theorem blwk_mono {n m : Nat} (h : n ≤ m) : ∀ {ks : List (Kt × D)}, D.blwk n ks = true → D.blwk m ks = true
  | [], _ => by unfold D.blwk; rfl
  | (_, d) :: ds, e => by
    unfold D.blwk at e ⊢
    rw [Bool.and_eq_true] at e ⊢
    exact ⟨blw_mono h e.1, blwk_mono h e.2⟩
theorem blwt_mono {n m : Nat} (h : n ≤ m) : ∀ {ks : List (List Kt × D)}, D.blwt n ks = true → D.blwt m ks = true
  | [], _ => by unfold D.blwt; rfl
  | (_, d) :: ds, e => by
    unfold D.blwt at e ⊢
    rw [Bool.and_eq_true] at e ⊢
    exact ⟨blw_mono h e.1, blwt_mono h e.2⟩
end
theorem moblw_mono {n m : Nat} (h : n ≤ m) : ∀ {o : MO}, MO.blw n o = true → MO.blw m o = true
  | .lst _, e => blws_mono h e
  | .ins _ _, e => blws_mono h e
  | .dct _, e => blwk_mono h e
  | .dtt _, e => blwt_mono h e
theorem wf_mono {n m : Nat} (h : n ≤ m) {L : Mu} (e : wfM n L = true) : wfM m L = true := by
  unfold wfM at *
  rw [List.all_eq_true] at *
  exact fun x hx => moblw_mono h (e x hx)
theorem wf_app {n : Nat} {L M : Mu} : wfM n (L ++ M) = (wfM n L && wfM n M) := by unfold wfM; rw [List.all_append]
theorem wf_new {L : Mu} {ds : List D} (e : wfM L.length L = true) (h : flats 60 ds = true) : wfM (L ++ [MO.lst ds]).length (L ++ [MO.lst ds]) = true := by
  rw [wf_app, List.length_append, wf_mono (Nat.le_add_right _ _) e, wf_cons, wf_nil, blw_lst, blws_flat h]; rfl
theorem apt1 {L : Mu} {m : MO} {r : Mu} : (L ++ m :: r).take (L.length + 1) = L ++ [m] := by
  simp [List.take_append, List.take_of_length_le]
end Ac
namespace Ac
/-! ### loops that end early -/
theorem for_first {α : Type} {g : Mu → Bool} {f : D → Ds → Mu → RT} {e : α → D} {L : Mu} (p : α → Bool) (v : α → D) (up : α → Mu) (J : Ds → Prop) (hg : g L = true) : ∀ {l : List α}, (∀ z ∈ l, ∀ δ, J δ → (p z = true → f (e z) δ L = .rt (v z) (up z)) ∧ (p z = false → ∃ δ', f (e z) δ L = .nx δ' L ∧ J δ')) → ∀ δ, J δ →
    (∃ z, l.find? p = some z ∧ @forF g ⟨f⟩ (l.map e) δ L = .rt (v z) (up z)) ∨ (l.find? p = none ∧ ∃ δ', @forF g ⟨f⟩ (l.map e) δ L = .nx δ' L ∧ J δ')
  | [], _, δ, hJ => .inr ⟨rfl, δ, @forF_nil L δ g ⟨f⟩ hg, hJ⟩
  | z :: l, H, δ, hJ => by
    rw [List.map_cons, forF_cons (f := f) hg]
    obtain ⟨h1, h2⟩ := H z List.mem_cons_self δ hJ
    cases hp : p z with
    | true =>
      refine .inl ⟨z, by simp [List.find?_cons, hp], ?_⟩
      rw [h1 hp]; rfl
    | false =>
      obtain ⟨δ', h3, h4⟩ := h2 hp
      rw [h3, loop_nx]
      rcases for_first p v up J hg (fun z hz => H z (List.mem_cons_of_mem _ hz)) δ' h4 with ⟨y, h5, h6⟩ | ⟨h5, h6⟩
      · exact .inl ⟨y, by simp [List.find?_cons, hp, h5], h6⟩
      · exact .inr ⟨by simp [List.find?_cons, hp, h5], h6⟩
theorem for_ind {α : Type} {g : Mu → Bool} {f : D → Ds → Mu → RT} {e : α → D} (I : List α → Ds → Mu → Prop) (Q : RT → Prop) (hg : ∀ l δ L, I l δ L → g L = true) (h0 : ∀ δ L, I [] δ L → Q (.nx δ L)) (hs : ∀ z l δ L, I (z :: l) δ L → (∃ δ' L', f (e z) δ L = .nx δ' L' ∧ I l δ' L') ∨ (∃ c p δ' L', f (e z) δ L = .ex c p δ' L' ∧ Q (.ex c p δ' L'))) : ∀ l δ L, I l δ L → Q (@forF g ⟨f⟩ (l.map e) δ L)
  | [], δ, L, h => by rw [List.map_nil, @forF_nil L δ g ⟨f⟩ (hg _ _ _ h)]; exact h0 δ L h
  | z :: l, δ, L, h => by
    rw [List.map_cons, forF_cons (f := f) (hg _ _ _ h)]
    rcases hs z l δ L h with ⟨δ', L', h1, h2⟩ | ⟨c, p, δ', L', h1, h2⟩
    · rw [h1, loop_nx]; exact for_ind I Q hg h0 hs l δ' L' h2
    · rw [h1]; exact h2
theorem sum_ones {α : Type} (l : List α) : (l.map fun _ => (1 : Int)).sum = l.length := by
  induction l with
  | nil => rfl
  | cons x l ih => rw [List.map_cons, List.sum_cons, ih, List.length_cons]; omega
theorem find_filter {α : Type} {p : α → Bool} {z : α} {l : List α} (h : l.find? p = some z) : ∃ r, l.filter p = z :: r := by
  have := List.head?_filter (p := p) (l := l)
  rw [h] at this
  cases e : l.filter p with
  | nil => rw [e] at this; cases this
  | cons y r => rw [e] at this; exact ⟨r, by cases this; rfl⟩
theorem at_lastS {xs : List D} {d : D} : L2.atI (xs ++ [d]) (-1) = some d := by
  rw [at_neg (by decide) (by simp; omega)]
  simp
  rw [show (-1 + ((xs.length : Int) + 1)).toNat = xs.length by omega]
  simp
theorem filter_T {α : Type} (l : List α) : l.filter (fun _ => true) = l := by simp
theorem stands_f {xs : List D} {i : Nat} {L : Mu} (h : L[i]? = some (.lst xs)) (hf : flats 60 xs = true) : stands xs (some i) L = true := by
  simp only [stands, h]
  exact D.sames_refl (n := 60) hf
theorem in_strsL {x : Tx} {l : List Tx} {L : Mu} : oc .In (.str x) (.lst (l.map .str)) L = .ok (.bl (decide (x ∈ l))) L := by
  have h : L2.inV (D.str x).v ((l.map D.str).map D.v) = decide (x ∈ l) := by
    unfold L2.inV
    induction l with
    | nil => rfl
    | cons y l ih =>
      rw [List.map_cons, List.map_cons, List.any_cons, ih]
      show ((Tx.s y == Tx.s x) || decide (x ∈ l)) = _
      rw [beq_tx]
      by_cases h : y = x
      · subst h; simp
      · simp [h, Ne.symm h]
  have fl : (l.map D.str).all D.fl = true := by rw [List.all_map]; simp [D.fl]
  show inO (.str x) (.lst (l.map .str)) L false = _
  have e : inO (.str x) (.lst (l.map .str)) L false = gd ((D.str x).fl && (l.map D.str).all D.fl) (.ok (.bl (L2.inV (D.str x).v ((l.map D.str).map D.v) != false)) L) := by
    cases x with
    | nil => rfl
    | cons c t => cases t <;> rfl
  rw [e, fl, h, bne_false]
  rfl
end Ac
end
section
set_option maxHeartbeats 0
namespace K04
open PySem PySem.Spec Ac
def t_Round_init : S := (.seq (.ifs (.cmp .Lt (.bi .min false (.cons (.loc 1) (.cons (.loc 2) .nil))) (.int 2)) (.seq (.rse 2 (.str [110, 111, 32, 99, 114, 111, 115, 115])) .nil) .nil) (.seq (.asg (.fld 0 (.loc 0)) (.loc 1)) (.seq (.asg (.fld 1 (.loc 0)) (.loc 2)) (.seq (.asg (.fld 2 (.loc 0)) (.lst true .nil)) (.seq (.asg (.fld 3 (.loc 0)) (.int 1)) .nil)))))
def t_Round_spokes : S := (.seq (.asg (.loc 1) (.bin .Mult (.int 2) (.bin .Add (.fld 0 (.loc 0)) (.fld 1 (.loc 0))))) (.seq (.ret (.ite (.cmp .Eq (.fld 3 (.loc 0)) (.int 1)) (.int 4) (.bi .min false (.cons (.loc 1) (.cons (.bin .Mult (.int 4) (.fld 3 (.loc 0))) .nil))))) .nil))
def t_Round_open_out : S := (.seq (.ifs (.cmp .GtE (.meth 4 (.loc 0) .nil) (.bin .Mult (.int 2) (.bin .Add (.fld 0 (.loc 0)) (.fld 1 (.loc 0))))) (.seq (.rse 8 (.str [97, 108, 108, 32, 111, 112, 101, 110])) .nil) .nil) (.seq (.ifs (.or (.cmp .Eq (.fld 2 (.loc 0)) (.lst false .nil)) (.cmp .NotEq (.ix (.ix (.fld 2 (.loc 0)) (.neg (.int 1))) (.int 1)) (.fld 3 (.loc 0)))) (.seq (.rse 8 (.str [119, 101, 97, 118, 101, 32, 102, 105, 114, 115, 116])) .nil) .nil) (.seq (.aug .Mult (.fld 3 (.loc 0)) (.int 2)) .nil)))
def t_Round_weave : S := (.seq (.ifs (.cmp .Lt (.loc 1) (.int 1)) (.seq (.rse 1 (.str [110, 111, 32, 114, 111, 117, 110, 100])) .nil) .nil) (.seq (.ex (.bm .append (.fld 2 (.loc 0)) (.tup (.cons (.loc 1) (.cons (.fld 3 (.loc 0)) .nil))))) (.seq (.ret (.meth 7 (.loc 0) .nil)) .nil)))
def t_Round_half_width : S := (.seq (.ret (.bin .Add (.bin .FloorDiv (.bin .Add (.bi .max false (.cons (.fld 0 (.loc 0)) (.cons (.fld 1 (.loc 0)) .nil))) (.int 1)) (.int 2)) (.gen .sum [1, 2, 3] (.tup (.cons (.loc 2) (.cons (.loc 3) .nil))) (.fld 2 (.loc 0)) .nop (.loc 2)))) .nil)
def t_Round_gap : S := (.seq (.ret (.bin .FloorDiv (.bin .Mult (.int 710) (.meth 7 (.loc 0) .nil)) (.bin .Mult (.int 113) (.meth 4 (.loc 0) .nil)))) .nil)
def t_Round_unweave : S := (.seq (.ifs (.cmp .Eq (.fld 2 (.loc 0)) (.lst false .nil)) (.seq (.rse 8 (.str [110, 111, 110, 101])) .nil) .nil) (.seq (.asg (.tup (.cons (.loc 1) (.cons (.loc 2) .nil))) (.pop0 (.fld 2 (.loc 0)))) (.seq (.asg (.fld 3 (.loc 0)) (.loc 2)) (.seq (.ret (.loc 1)) .nil))))
def b_Round_used_0 : S := (.seq (.aug .Add (.loc 2) (.bin .Sub (.int 0) (.bin .FloorDiv (.bin .Sub (.int 0) (.bin .Mult (.int 710) (.bin .Add (.bin .Mult (.int 2) (.loc 1)) (.loc 3)))) (.int 226)))) (.seq (.aug .Add (.loc 1) (.loc 3)) .nil))
def t_Round_used : S := (.seq (.asg (.tup (.cons (.loc 1) (.cons (.loc 2) .nil))) (.tup (.cons (.bin .FloorDiv (.bin .Add (.bi .max false (.cons (.fld 0 (.loc 0)) (.cons (.fld 1 (.loc 0)) .nil))) (.int 1)) (.int 2)) (.cons (.int 0) .nil)))) (.seq (.for_ (.tup (.cons (.loc 3) (.cons (.loc 4) .nil))) (.fld 2 (.loc 0)) b_Round_used_0) (.seq (.ret (.loc 2)) .nil)))
def t_Round_shown : S := (.seq (.ret (.tup (.cons (.bi .tuple false (.cons (.fld 2 (.loc 0)) .nil)) (.cons (.fld 3 (.loc 0)) .nil)))) .nil)
def t_Oval_init : S := (.seq (.ifs (.or (.cmp .Lt (.loc 1) (.int 2)) (.cmp .Lt (.bi .min false (.cons (.loc 2) (.cons (.loc 3) .nil))) (.int 1))) (.seq (.rse 2 (.str [110, 111, 32, 111, 118, 97, 108])) .nil) .nil) (.seq (.asg (.fld 12 (.loc 0)) (.loc 1)) (.seq (.asg (.fld 3 (.loc 0)) (.loc 2)) (.seq (.asg (.fld 13 (.loc 0)) (.loc 3)) .nil))))
def t_Oval_length : S := (.seq (.ret (.bin .Add (.bin .Mult (.bin .Sub (.fld 12 (.loc 0)) (.int 1)) (.fld 3 (.loc 0))) (.bin .Mult (.int 2) (.fld 13 (.loc 0))))) .nil)
def t_Oval_rim : S := (.seq (.ret (.bin .Add (.bin .Mult (.bin .Mult (.int 2) (.bin .Sub (.fld 12 (.loc 0)) (.int 1))) (.fld 3 (.loc 0))) (.bin .FloorDiv (.bin .Mult (.int 710) (.fld 13 (.loc 0))) (.int 113)))) .nil)
def t_Oval_grown : S := (.seq (.ifs (.cmp .Lt (.loc 1) (.int 0)) (.seq (.rse 1 (.str [98, 101, 108, 111, 119, 32, 110, 111, 117, 103, 104, 116])) .nil) .nil) (.seq (.ret (.mk 1 (.cons (.fld 12 (.loc 0)) (.cons (.fld 3 (.loc 0)) (.cons (.bin .Add (.fld 13 (.loc 0)) (.loc 1)) .nil))))) .nil))
def t_Oval_stake_count : S := (.seq (.ifs (.cmp .Lt (.loc 1) (.int 1)) (.seq (.rse 1 (.str [110, 111, 32, 103, 97, 112])) .nil) .nil) (.seq (.asg (.loc 2) (.bin .Sub (.int 0) (.bin .FloorDiv (.bin .Sub (.int 0) (.meth 15 (.loc 0) .nil)) (.loc 1)))) (.seq (.ret (.bin .Add (.loc 2) (.bin .Mod (.loc 2) (.int 2)))) .nil)))
def t_Oval_lies_flat : S := (.seq (.ifs (.gen .any [2, 3] (.loc 3) (.loc 1) .nop (.cmp .NotIn (.loc 3) (.str [122, 115]))) (.seq (.rse 2 (.str [110, 111, 32, 116, 119, 105, 115, 116])) .nil) .nil) (.seq (.ret (.cmp .LtE (.bi .abs false (.cons (.bin .Sub (.bm .scount (.loc 1) (.str [122])) (.bm .scount (.loc 1) (.str [115]))) .nil)) (.int 1))) .nil))
def t_Oval_key : S := (.seq (.ret (.tup (.cons (.fld 12 (.loc 0)) (.cons (.fld 3 (.loc 0)) (.cons (.fld 13 (.loc 0)) .nil))))) .nil)
def t_dish_deep : S := (.seq (.ifs (.or (.cmp .Eq (.bi .len false (.cons (.loc 0) .nil)) (.int 0)) (.gen .any [1, 2] (.loc 2) (.rng (.int 1) (.bi .len false (.cons (.loc 0) .nil)) .nop) .nop (.cmp .Gt (.bi .abs false (.cons (.bin .Sub (.ix (.loc 0) (.loc 2)) (.ix (.loc 0) (.bin .Sub (.loc 2) (.int 1)))) .nil)) (.int 1)))) (.seq (.rse 2 (.str [97, 32, 115, 116, 101, 112])) .nil) .nil) (.seq (.ret (.bin .Sub (.bi .max false (.cons (.loc 0) .nil)) (.bi .min false (.cons (.loc 0) .nil)))) .nil))
def t_stakes_round : S := (.seq (.ifs (.or (.cmp .Lt (.loc 0) (.int 1)) (.cmp .Lt (.loc 1) (.int 1))) (.seq (.rse 1 (.str [110, 111, 32, 114, 105, 109])) .nil) .nil) (.seq (.asg (.loc 3) (.bi .max false (.cons (.int 3) (.cons (.bin .Sub (.int 0) (.bin .FloorDiv (.bin .Sub (.int 0) (.loc 0)) (.loc 1))) .nil)))) (.seq (.ret (.ite (.and (.loc 2) (.cmp .Eq (.bin .Mod (.loc 3) (.int 2)) (.int 0))) (.bin .Add (.loc 3) (.int 1)) (.loc 3))) .nil)))
def t_Board_init : S := (.seq (.ifs (.cmp .Lt (.bi .min false (.cons (.loc 1) (.cons (.loc 2) .nil))) (.int 1)) (.seq (.rse 2 (.str [110, 111, 32, 98, 111, 116, 116, 111, 109])) .nil) .nil) (.seq (.asg (.fld 20 (.loc 0)) (.loc 1)) (.seq (.asg (.fld 21 (.loc 0)) (.loc 2)) (.seq (.asg (.fld 22 (.loc 0)) (.tup .nil)) .nil))))
def t_Board_lay : S := (.seq (.ifs (.or (.cmp .Eq (.loc 1) (.str [])) (.cmp .In (.loc 1) (.lc false [4, 5] (.loc 5) (.fld 22 (.loc 0)) .nop (.ix (.loc 5) (.int 0))))) (.seq (.rse 8 (.str [116, 104, 101, 114, 101, 44, 32, 111, 114, 32, 110, 111, 110, 101])) .nil) .nil) (.seq (.ifs (.or (.cmp .Lt (.loc 3) (.fld 21 (.loc 0))) (.cmp .Lt (.loc 2) (.int 1))) (.seq (.rse 1 (.str [116, 111, 111, 32, 115, 104, 111, 114, 116])) .nil) .nil) (.seq (.ifs (.cmp .Gt (.bin .Add (.meth 24 (.loc 0) .nil) (.loc 2)) (.fld 20 (.loc 0))) (.seq (.rse 4 (.loc 1)) .nil) .nil) (.seq (.asg (.fld 22 (.loc 0)) (.bin .Add (.fld 22 (.loc 0)) (.tup (.cons (.tup (.cons (.loc 1) (.cons (.loc 2) .nil))) .nil)))) .nil))))
def t_Board_covered : S := (.seq (.ret (.gen .sum [1, 2, 3] (.tup (.cons (.loc 2) (.cons (.loc 3) .nil))) (.fld 22 (.loc 0)) .nop (.loc 3))) .nil)
def b_Board_seams_0 : S := (.seq (.aug .Add (.loc 2) (.loc 4)) (.seq (.ex (.bm .append (.loc 1) (.loc 2))) .nil))
def t_Board_seams : S := (.seq (.asg (.tup (.cons (.loc 1) (.cons (.loc 2) .nil))) (.tup (.cons (.lst true .nil) (.cons (.int 0) .nil)))) (.seq (.for_ (.tup (.cons (.loc 3) (.cons (.loc 4) .nil))) (.sl (.fld 22 (.loc 0)) .nop (.neg (.int 1))) b_Board_seams_0) (.seq (.ret (.bi .tuple false (.cons (.loc 1) .nil))) .nil)))
def b_Board_holder_0 : S := (.seq (.ifs (.chn .LtE .Lt (.loc 2) (.loc 1) (.bin .Add (.loc 2) (.loc 4))) (.seq (.ret (.loc 3)) .nil) .nil) (.seq (.aug .Add (.loc 2) (.loc 4)) .nil))
def t_Board_holder : S := (.seq (.asg (.loc 2) (.int 0)) (.seq (.for_ (.tup (.cons (.loc 3) (.cons (.loc 4) .nil))) (.fld 22 (.loc 0)) b_Board_holder_0) (.seq (.rse 3 (.str [110, 111, 110, 101])) .nil)))
def t_Board_shown : S := (.seq (.ret (.fld 22 (.loc 0))) .nil)
def b_best_boards_0 : S := (.seq (.asg (.loc 2) (.bin .Add (.loc 2) (.lc false [5, 6] (.loc 6) (.loc 2) .nop (.bin .Add (.loc 6) (.tup (.cons (.loc 3) .nil)))))) .nil)
def t_best_boards : S := (.seq (.ifs (.cmp .Gt (.bi .len false (.cons (.loc 1) .nil)) (.int 10)) (.seq (.rse 2 (.str [116, 111, 111, 32, 109, 97, 110, 121])) .nil) .nil) (.seq (.asg (.loc 2) (.lst false (.cons (.tup .nil) .nil))) (.seq (.for_ (.loc 3) (.bi .srt false (.cons (.loc 1) .nil)) b_best_boards_0) (.seq (.asg (.loc 4) (.lc false [5, 6] (.loc 6) (.loc 2) (.cmp .Eq (.gen .sum [5, 3] (.loc 3) (.loc 6) .nop (.ix (.loc 1) (.loc 3))) (.loc 0)) (.tup (.cons (.bi .len false (.cons (.loc 6) .nil)) (.cons (.loc 6) .nil))))) (.seq (.ifs (.cmp .Eq (.loc 4) (.lst false .nil)) (.seq (.rse 5 (.str [110, 111, 116, 32, 106, 117, 115, 116, 32, 115, 111])) .nil) .nil) (.seq (.ret (.ix (.bi .min false (.cons (.loc 4) .nil)) (.int 1))) .nil))))))
def t__law_dice : S := (.seq (.ifs (.chn .Lt .Lt (.bin .Sub (.int 0) (.int 10)) (.loc 0) (.int 10)) (.seq (.ret (.lst true (.cons (.bi .abs false (.cons (.loc 0) .nil)) (.cons (.int 0) (.cons (.int 2) .nil))))) .nil) .nil) (.seq (.ret (.lst true (.cons (.loc 0) (.cons (.bin .Add (.int 1) (.bin .Mod (.bi .int false (.cons (.loc 0) .nil)) (.int 1009))) (.cons (.bi .int false (.cons (.cmp .GtE (.loc 0) (.bin .Pow (.int 10) (.int 18))) .nil)) .nil))))) .nil))
def t__law_roll : S := (.seq (.ifs (.or (.cmp .Eq (.ix (.loc 0) (.int 2)) (.int 2)) (.and (.cmp .Eq (.ix (.loc 0) (.int 2)) (.int 1)) (.cmp .Gt (.ix (.loc 0) (.int 0)) (.int 0)))) (.seq (.asg (.loc 2) (.bin .Mod (.bi .int false (.cons (.ix (.loc 0) (.int 0)) .nil)) (.loc 1))) (.seq (.asg (.ix (.loc 0) (.int 0)) (.bin .FloorDiv (.ix (.loc 0) (.int 0)) (.loc 1))) (.seq (.ret (.loc 2)) .nil))) .nil) (.seq (.asg (.ix (.loc 0) (.int 2)) (.int 0)) (.seq (.asg (.ix (.loc 0) (.int 0)) (.bin .Mod (.bi .int false (.cons (.bin .Add (.bin .Add (.bin .Mult (.ix (.loc 0) (.int 0)) (.int 48271)) (.bin .Mult (.ix (.loc 0) (.int 1)) (.int 69621))) (.int 11)) .nil)) (.int 2147483647))) (.seq (.asg (.ix (.loc 0) (.int 1)) (.bin .Add (.ix (.loc 0) (.int 1)) (.int 1))) (.seq (.ret (.bin .Mod (.bi .int false (.cons (.bin .Add (.bin .FloorDiv (.ix (.loc 0) (.int 0)) (.int 7)) (.ix (.loc 0) (.int 0))) .nil)) (.loc 1))) .nil)))))
def t__law_rounds : S := (.seq (.asg (.loc 2) (.sl (.loc 0) .nop (.loc 1))) (.seq (.ifs (.cmp .Eq (.loc 2) (.lst false .nil)) (.seq (.asg (.loc 2) (.lst false (.cons (.int 0) .nil))) .nil) .nil) (.seq (.ret (.lc false [3, 4] (.loc 4) (.loc 2) .nop (.call 25 (.cons (.loc 4) .nil)))) .nil)))
def t__law_told : S := .nil
def b__law_sets_0 : S := (.seq (.asg (.loc 1) (.bin .Add (.loc 1) (.lc false [3, 4] (.loc 4) (.loc 1) .nop (.bin .Add (.loc 4) (.tup (.cons (.loc 2) .nil)))))) .nil)
def t__law_sets : S := (.seq (.asg (.loc 1) (.lst false (.cons (.tup .nil) .nil))) (.seq (.for_ (.loc 2) (.loc 0) b__law_sets_0) (.seq (.ret (.loc 1)) .nil)))
def t__law_word : S := (.seq (.ret (.bm .join (.str []) (.lc false [4, 5] (.loc 5) (.rng (.bin .Add (.loc 2) (.call 26 (.cons (.loc 0) (.cons (.bin .Add (.bin .Sub (.loc 3) (.loc 2)) (.int 1)) .nil)))) .nop .nop) .nop (.ix (.loc 1) (.call 26 (.cons (.loc 0) (.cons (.bi .len false (.cons (.loc 1) .nil)) .nil))))))) .nil)
def t__law_cases1 : S := (.seq (.ifs (.cmp .NotEq (.told 28 (.call 17 (.cons (.int 0) (.cons (.int 1) (.cons (.bl true) .nil))))) (.str [115, 105, 122, 101])) (.seq (.ret (.bl false)) .nil) .nil) (.seq (.ifs (.cmp .NotEq (.told 28 (.mk 2 (.cons (.int 0) (.cons (.int 1) .nil)))) (.str [112, 108, 97, 110])) (.seq (.ret (.bl false)) .nil) .nil) (.seq (.ifs (.cmp .NotEq (.told 28 (.call 24 (.cons (.int 1) (.cons (.bi .dct false (.cons (.lc false [0, 1] (.loc 1) (.rng (.int 11) .nop .nop) .nop (.tup (.cons (.bi .str false (.cons (.loc 1) .nil)) (.cons (.int 1) .nil)))) .nil)) .nil)))) (.str [112, 108, 97, 110])) (.seq (.ret (.bl false)) .nil) .nil) (.seq (.ret (.bl true)) .nil))))
def t__law_rest2 : S := (.seq (.ifs (.cmp .NotEq (.told 28 (.mk 0 (.cons (.int 1) (.cons (.int 2) .nil)))) (.str [112, 108, 97, 110])) (.seq (.ret (.bl false)) .nil) .nil) (.seq (.ifs (.cmp .NotEq (.told 28 (.mk 1 (.cons (.int 1) (.cons (.int 1) (.cons (.int 1) .nil))))) (.str [112, 108, 97, 110])) (.seq (.ret (.bl false)) .nil) .nil) (.seq (.ifs (.cmp .NotEq (.told 28 (.meth 16 (.loc 0) (.cons (.bin .Sub (.int 0) (.int 1)) .nil))) (.str [115, 105, 122, 101])) (.seq (.ret (.bl false)) .nil) .nil) (.seq (.ifs (.cmp .NotEq (.told 28 (.meth 17 (.loc 0) (.cons (.int 0) .nil))) (.str [115, 105, 122, 101])) (.seq (.ret (.bl false)) .nil) .nil) (.seq (.ifs (.cmp .NotEq (.told 28 (.meth 18 (.loc 0) (.cons (.str [120]) .nil))) (.str [112, 108, 97, 110])) (.seq (.ret (.bl false)) .nil) .nil) (.seq (.ifs (.not (.call 31 .nil)) (.seq (.ret (.bl false)) .nil) .nil) (.seq (.ret (.bl true)) .nil)))))))
def b__law_rest1_0 : S := (.seq (.asg (.tup (.cons (.loc 14) (.cons (.loc 16) (.cons (.loc 20) .nil)))) (.tup (.cons (.ix (.str [112, 113, 114, 115]) (.call 26 (.cons (.loc 0) (.cons (.int 4) .nil)))) (.cons (.call 26 (.cons (.loc 0) (.cons (.int 9) .nil))) (.cons (.bin .Sub (.bin .Add (.loc 7) (.call 26 (.cons (.loc 0) (.cons (.int 4) .nil)))) (.int 1)) .nil))))) (.seq (.asg (.loc 10) (.cmp .In (.loc 14) (.lc false [23, 24] (.loc 24) (.loc 8) .nop (.ix (.loc 24) (.int 0))))) (.seq (.asg (.loc 11) (.ite (.loc 10) (.str [100, 101, 101, 100]) (.ite (.or (.cmp .Lt (.loc 20) (.loc 7)) (.cmp .Lt (.loc 16) (.int 1))) (.str [115, 105, 122, 101]) (.ite (.cmp .Gt (.bin .Add (.bi .sum false (.cons (.lc false [23, 24] (.loc 24) (.loc 8) .nop (.ix (.loc 24) (.int 1))) .nil)) (.loc 16)) (.loc 22)) (.str [110, 111, 32, 114, 111, 111, 109]) .non)))) (.seq (.ifs (.cmp .NotEq (.told 28 (.meth 23 (.loc 17) (.cons (.loc 14) (.cons (.loc 16) (.cons (.loc 20) .nil))))) (.loc 11)) (.seq (.ret (.bl false)) .nil) .nil) (.seq (.asg (.loc 8) (.bin .Add (.loc 8) (.ite (.cmp .Is (.loc 11) .non) (.lst false (.cons (.tup (.cons (.loc 14) (.cons (.loc 16) .nil))) .nil)) (.lst false .nil)))) .nil)))))
def b__law_rest1_1 : S := (.seq (.ex (.bm .append (.loc 19) (.bin .Sub (.bin .Add (.ix (.loc 19) (.loc 4)) (.call 26 (.cons (.loc 0) (.cons (.int 4) .nil)))) (.int 1)))) .nil)
def t__law_rest1 : S := (.seq (.asg (.loc 19) (.lst true (.cons (.call 26 (.cons (.loc 0) (.cons (.int 4) .nil))) .nil))) (.seq (.for_ (.loc 4) (.rng (.call 26 (.cons (.loc 0) (.cons (.int 6) .nil))) .nop .nop) b__law_rest1_1) (.seq (.asg (.loc 5) (.cmp .NotEq (.lc false [23, 4] (.loc 4) (.rng (.int 1) (.bi .len false (.cons (.loc 19) .nil)) .nop) (.cmp .Gt (.bi .abs false (.cons (.bin .Sub (.ix (.loc 19) (.loc 4)) (.ix (.loc 19) (.bin .Sub (.loc 4) (.int 1)))) .nil)) (.int 1)) (.loc 4)) (.lst false .nil))) (.seq (.ifs (.cmp .NotEq (.told 28 (.call 16 (.cons (.loc 19) .nil))) (.ite (.loc 5) (.str [112, 108, 97, 110]) (.bin .Sub (.bi .max false (.cons (.loc 19) .nil)) (.bi .min false (.cons (.loc 19) .nil))))) (.seq (.ret (.bl false)) .nil) .nil) (.seq (.asg (.loc 6) (.cmp .Eq (.call 26 (.cons (.loc 0) (.cons (.int 2) .nil))) (.int 0))) (.seq (.ifs (.cmp .NotEq (.call 17 (.cons (.loc 3) (.cons (.loc 2) (.cons (.loc 6) .nil)))) (.ix (.lc false [23, 4] (.loc 4) (.rng (.int 3) (.int 400) .nop) (.and (.cmp .GtE (.bin .Mult (.loc 4) (.loc 2)) (.loc 3)) (.or (.cmp .Eq (.bin .Mod (.loc 4) (.int 2)) (.int 1)) (.not (.loc 6)))) (.loc 4)) (.int 0))) (.seq (.ret (.bl false)) .nil) .nil) (.seq (.asg (.tup (.cons (.loc 22) (.cons (.loc 7) (.cons (.loc 8) .nil)))) (.tup (.cons (.bin .Add (.int 1) (.call 26 (.cons (.loc 0) (.cons (.int 20) .nil)))) (.cons (.bin .Add (.int 1) (.call 26 (.cons (.loc 0) (.cons (.int 9) .nil)))) (.cons (.lst false .nil) .nil))))) (.seq (.asg (.loc 17) (.mk 2 (.cons (.loc 22) (.cons (.loc 7) .nil)))) (.seq (.for_ (.loc 9) (.rng (.call 26 (.cons (.loc 0) (.cons (.int 7) .nil))) .nop .nop) b__law_rest1_0) (.seq (.asg (.loc 12) (.lc false [23, 4] (.loc 4) (.rng (.bi .len false (.cons (.loc 8) .nil)) .nop .nop) .nop (.bi .sum false (.cons (.lc false [23, 24] (.loc 24) (.sl (.loc 8) .nop (.bin .Add (.loc 4) (.int 1))) .nop (.ix (.loc 24) (.int 1))) .nil)))) (.seq (.ifs (.or (.cmp .NotEq (.bi .list false (.cons (.meth 11 (.loc 17) .nil) .nil)) (.loc 8)) (.or (.cmp .NotEq (.meth 24 (.loc 17) .nil) (.bi .sum false (.cons (.lc false [23, 24] (.loc 24) (.loc 8) .nop (.ix (.loc 24) (.int 1))) .nil))) (.cmp .NotEq (.bi .list false (.cons (.meth 25 (.loc 17) .nil) .nil)) (.sl (.loc 12) .nop (.bi .max false (.cons (.int 0) (.cons (.bin .Sub (.bi .len false (.cons (.loc 12) .nil)) (.int 1)) .nil))))))) (.seq (.ret (.bl false)) .nil) .nil) (.seq (.asg (.loc 18) (.call 26 (.cons (.loc 0) (.cons (.int 20) .nil)))) (.seq (.asg (.loc 13) (.lc false [23, 4] (.loc 4) (.rng (.bi .len false (.cons (.loc 8) .nil)) .nop .nop) (.cmp .Lt (.loc 18) (.ix (.loc 12) (.loc 4))) (.ix (.ix (.loc 8) (.loc 4)) (.int 0)))) (.seq (.ifs (.cmp .NotEq (.told 28 (.meth 26 (.loc 17) (.cons (.loc 18) .nil))) (.ite (.cmp .NotEq (.loc 13) (.lst false .nil)) (.ix (.loc 13) (.int 0)) (.str [110, 111, 32, 115, 117, 99, 104]))) (.seq (.ret (.bl false)) .nil) .nil) (.seq (.asg (.loc 21) (.bi .dct false (.cons (.lc false [23, 14] (.loc 14) (.sl (.lst false (.cons (.str [102]) (.cons (.str [103]) (.cons (.str [104]) (.cons (.str [105]) (.cons (.str [106]) .nil)))))) .nop (.call 26 (.cons (.loc 0) (.cons (.int 6) .nil)))) .nop (.tup (.cons (.loc 14) (.cons (.bin .Add (.int 1) (.call 26 (.cons (.loc 0) (.cons (.int 9) .nil)))) .nil)))) .nil))) (.seq (.asg (.loc 15) (.lc false [23, 25] (.loc 25) (.call 29 (.cons (.bi .srt false (.cons (.loc 21) .nil)) .nil)) (.cmp .Eq (.bi .sum false (.cons (.lc false [23, 14] (.loc 14) (.loc 25) .nop (.ix (.loc 21) (.loc 14))) .nil)) (.loc 22)) (.tup (.cons (.bi .len false (.cons (.loc 25) .nil)) (.cons (.loc 25) .nil))))) (.seq (.ifs (.cmp .NotEq (.told 28 (.call 24 (.cons (.loc 22) (.cons (.loc 21) .nil)))) (.ite (.cmp .NotEq (.loc 15) (.lst false .nil)) (.ix (.bi .min false (.cons (.loc 15) .nil)) (.int 1)) (.str [110, 111, 32, 119, 97, 121]))) (.seq (.ret (.bl false)) .nil) .nil) (.seq (.ret (.call 32 (.cons (.loc 1) .nil))) .nil))))))))))))))))))
def t__law_rest3 : S := (.seq (.asg (.tup (.cons (.loc 1) (.cons (.loc 2) (.cons (.loc 3) (.cons (.loc 4) .nil))))) (.tup (.cons (.bin .Add (.int 2) (.call 26 (.cons (.loc 0) (.cons (.int 5) .nil)))) (.cons (.bin .Add (.int 1) (.call 26 (.cons (.loc 0) (.cons (.int 6) .nil)))) (.cons (.bin .Add (.int 1) (.call 26 (.cons (.loc 0) (.cons (.int 9) .nil)))) (.cons (.call 26 (.cons (.loc 0) (.cons (.int 6) .nil))) .nil)))))) (.seq (.asg (.tup (.cons (.loc 5) (.cons (.loc 6) .nil))) (.tup (.cons (.mk 1 (.cons (.loc 1) (.cons (.loc 2) (.cons (.loc 3) .nil)))) (.cons (.bin .Add (.int 1) (.call 26 (.cons (.loc 0) (.cons (.int 9) .nil)))) .nil)))) (.seq (.asg (.loc 7) (.bin .Add (.bin .Mult (.bin .Mult (.int 2) (.loc 2)) (.bin .Sub (.loc 1) (.int 1))) (.bin .FloorDiv (.bin .Mult (.int 710) (.loc 3)) (.int 113)))) (.seq (.ifs (.or (.cmp .NotEq (.meth 14 (.loc 5) .nil) (.bin .Add (.bin .Add (.bin .Mult (.loc 2) (.bin .Sub (.loc 1) (.int 1))) (.loc 3)) (.loc 3))) (.cmp .NotEq (.meth 15 (.loc 5) .nil) (.loc 7))) (.seq (.ret (.bl false)) .nil) .nil) (.seq (.ifs (.cmp .NotEq (.meth 19 (.meth 16 (.loc 5) (.cons (.loc 4) .nil)) .nil) (.tup (.cons (.loc 1) (.cons (.loc 2) (.cons (.bin .Add (.loc 3) (.loc 4)) .nil))))) (.seq (.ret (.bl false)) .nil) .nil) (.seq (.ifs (.cmp .NotEq (.meth 17 (.loc 5) (.cons (.loc 6) .nil)) (.ix (.lc false [9, 10] (.loc 10) (.rng (.int 0) (.int 400) (.int 2)) (.cmp .GtE (.bin .Mult (.loc 10) (.loc 6)) (.loc 7)) (.loc 10)) (.int 0))) (.seq (.ret (.bl false)) .nil) .nil) (.seq (.asg (.loc 8) (.call 30 (.cons (.loc 0) (.cons (.str [122, 115]) (.cons (.int 0) (.cons (.int 6) .nil)))))) (.seq (.ifs (.cmp .NotEq (.meth 18 (.loc 5) (.cons (.loc 8) .nil)) (.cmp .In (.bin .Sub (.bm .scount (.loc 8) (.str [122])) (.bm .scount (.loc 8) (.str [115]))) (.lst false (.cons (.bin .Sub (.int 0) (.int 1)) (.cons (.int 0) (.cons (.int 1) .nil)))))) (.seq (.ret (.bl false)) .nil) .nil) (.seq (.ifs (.not (.call 33 (.cons (.loc 0) (.cons (.loc 5) (.cons (.loc 6) (.cons (.loc 7) .nil)))))) (.seq (.ret (.bl false)) .nil) .nil) (.seq (.ret (.bl true)) .nil))))))))))
def b_law_0 : S := (.seq (.asg (.tup (.cons (.loc 14) (.cons (.loc 13) .nil))) (.tup (.cons (.bin .Add (.loc 14) (.bin .FloorDiv (.bin .Add (.bin .Mult (.int 710) (.bin .Add (.bin .Mult (.int 2) (.loc 13)) (.loc 16))) (.int 225)) (.int 226))) (.cons (.bin .Add (.loc 13) (.loc 16)) .nil)))) .nil)
def b_law_1 : S := (.seq (.asg (.tup (.cons (.loc 8) (.cons (.loc 16) .nil))) (.tup (.cons (.call 26 (.cons (.loc 1) (.cons (.int 5) .nil))) (.cons (.call 26 (.cons (.loc 1) (.cons (.int 5) .nil))) .nil)))) (.seq (.asg (.loc 9) (.ite (.cmp .Eq (.loc 5) (.int 1)) (.int 4) (.bi .min false (.cons (.bin .Mult (.int 4) (.loc 5)) (.cons (.bin .Add (.bin .Mult (.int 2) (.loc 2)) (.bin .Mult (.int 2) (.loc 3))) .nil))))) (.seq (.asg (.loc 11) (.bin .Add (.loc 6) (.bi .sum false (.cons (.lc false [17, 18, 10] (.tup (.cons (.loc 18) (.cons (.loc 10) .nil))) (.loc 4) .nop (.loc 18)) .nil)))) (.seq (.ifs (.or (.cmp .NotEq (.meth 4 (.loc 15) .nil) (.loc 9)) (.or (.cmp .NotEq (.meth 7 (.loc 15) .nil) (.loc 11)) (.cmp .NotEq (.meth 8 (.loc 15) .nil) (.bin .FloorDiv (.bin .Mult (.int 710) (.loc 11)) (.bin .Mult (.int 113) (.loc 9)))))) (.seq (.ret (.bl false)) .nil) .nil) (.seq (.ifs (.cmp .Lt (.loc 8) (.int 3)) (.seq (.ifs (.cmp .NotEq (.told 28 (.meth 6 (.loc 15) (.cons (.loc 16) .nil))) (.ite (.cmp .Gt (.loc 16) (.int 0)) (.bin .Add (.loc 11) (.loc 16)) (.str [115, 105, 122, 101]))) (.seq (.ret (.bl false)) .nil) .nil) (.seq (.asg (.loc 4) (.bin .Add (.loc 4) (.ite (.cmp .Gt (.loc 16) (.int 0)) (.lst false (.cons (.tup (.cons (.loc 16) (.cons (.loc 5) .nil))) .nil)) (.lst false .nil)))) .nil)) (.seq (.ifs (.cmp .Eq (.loc 8) (.int 3)) (.seq (.asg (.loc 12) (.ite (.or (.cmp .GtE (.loc 9) (.bin .Add (.bin .Mult (.int 2) (.loc 2)) (.bin .Mult (.int 2) (.loc 3)))) (.cmp .Eq (.loc 4) (.lst false .nil))) (.str [100, 101, 101, 100]) .non)) (.seq (.asg (.loc 12) (.ite (.and (.cmp .Is (.loc 12) .non) (.cmp .NotEq (.ix (.ix (.loc 4) (.bin .Sub (.bi .len false (.cons (.loc 4) .nil)) (.int 1))) (.int 1)) (.loc 5))) (.str [100, 101, 101, 100]) (.loc 12))) (.seq (.ifs (.cmp .NotEq (.told 28 (.meth 5 (.loc 15) .nil)) (.loc 12)) (.seq (.ret (.bl false)) .nil) .nil) (.seq (.asg (.loc 5) (.bin .Mult (.loc 5) (.ite (.cmp .Is (.loc 12) .non) (.int 2) (.int 1)))) .nil)))) (.seq (.ifs (.cmp .NotEq (.told 28 (.meth 9 (.loc 15) .nil)) (.ite (.cmp .NotEq (.loc 4) (.lst false .nil)) (.ix (.ix (.loc 4) (.bin .Sub (.bi .len false (.cons (.loc 4) .nil)) (.int 1))) (.int 0)) (.str [100, 101, 101, 100]))) (.seq (.ret (.bl false)) .nil) .nil) (.seq (.asg (.tup (.cons (.loc 5) (.cons (.loc 4) .nil))) (.ite (.cmp .NotEq (.loc 4) (.lst false .nil)) (.tup (.cons (.ix (.ix (.loc 4) (.bin .Sub (.bi .len false (.cons (.loc 4) .nil)) (.int 1))) (.int 1)) (.cons (.sl (.loc 4) .nop (.bin .Sub (.bi .len false (.cons (.loc 4) .nil)) (.int 1))) .nil))) (.tup (.cons (.loc 5) (.cons (.loc 4) .nil))))) .nil))) .nil)) (.seq (.ifs (.cmp .NotEq (.meth 11 (.loc 15) .nil) (.tup (.cons (.bi .tuple false (.cons (.loc 4) .nil)) (.cons (.loc 5) .nil)))) (.seq (.ret (.bl false)) .nil) .nil) .nil))))))
def b_law_2 : S := (.seq (.asg (.tup (.cons (.loc 2) (.cons (.loc 3) .nil))) (.tup (.cons (.bin .Add (.int 2) (.call 26 (.cons (.loc 1) (.cons (.int 5) .nil)))) (.cons (.bin .Add (.int 2) (.call 26 (.cons (.loc 1) (.cons (.int 5) .nil)))) .nil)))) (.seq (.asg (.tup (.cons (.loc 15) (.cons (.loc 4) (.cons (.loc 5) (.cons (.loc 6) .nil))))) (.tup (.cons (.mk 0 (.cons (.loc 2) (.cons (.loc 3) .nil))) (.cons (.lst false .nil) (.cons (.int 1) (.cons (.bin .FloorDiv (.bin .Add (.bi .max false (.cons (.loc 2) (.cons (.loc 3) .nil))) (.int 1)) (.int 2)) .nil)))))) (.seq (.for_ (.loc 7) (.rng (.call 26 (.cons (.loc 1) (.cons (.int 10) .nil))) .nop .nop) b_law_1) (.seq (.asg (.tup (.cons (.loc 13) (.cons (.loc 14) .nil))) (.tup (.cons (.loc 6) (.cons (.int 0) .nil)))) (.seq (.for_ (.tup (.cons (.loc 16) (.cons (.loc 10) .nil))) (.loc 4) b_law_0) (.seq (.ifs (.cmp .NotEq (.meth 10 (.loc 15) .nil) (.loc 14)) (.seq (.ret (.bl false)) .nil) .nil) (.seq (.ifs (.not (.call 34 (.cons (.loc 1) .nil))) (.seq (.ret (.bl false)) .nil) .nil) .nil)))))))
def t_law : S := (.seq (.for_ (.loc 1) (.call 27 (.cons (.loc 0) (.cons (.int 1) .nil))) b_law_2) (.seq (.ret (.bl true)) .nil))
abbrev tls : List (Nat × List (Nat × Tx)) := [(28, [(1, [115, 105, 122, 101]), (2, [112, 108, 97, 110]), (3, [110, 111, 32, 115, 117, 99, 104]), (4, [110, 111, 32, 114, 111, 111, 109]), (5, [110, 111, 32, 119, 97, 121]), (6, [115, 110, 97, 112, 115]), (7, [116, 101, 120, 116]), (8, [100, 101, 101, 100])])]
abbrev rsl : List Nat := [1, 2, 3, 4, 5, 6, 8]
def P : Prg := ⟨[⟨3, 3, t_Round_init, 0⟩, ⟨1, 2, t_Round_spokes, 0⟩, ⟨1, 1, t_Round_open_out, 0⟩, ⟨2, 2, t_Round_weave, 0⟩, ⟨1, 4, t_Round_half_width, 0⟩, ⟨1, 1, t_Round_gap, 0⟩, ⟨1, 3, t_Round_unweave, 0⟩, ⟨1, 5, t_Round_used, 0⟩, ⟨1, 1, t_Round_shown, 0⟩, ⟨4, 4, t_Oval_init, 0⟩, ⟨1, 1, t_Oval_length, 0⟩, ⟨1, 1, t_Oval_rim, 0⟩, ⟨2, 2, t_Oval_grown, 0⟩, ⟨2, 3, t_Oval_stake_count, 0⟩, ⟨2, 4, t_Oval_lies_flat, 0⟩, ⟨1, 1, t_Oval_key, 0⟩, ⟨1, 3, t_dish_deep, 0⟩, ⟨3, 4, t_stakes_round, 0⟩, ⟨3, 3, t_Board_init, 0⟩, ⟨4, 6, t_Board_lay, 0⟩, ⟨1, 4, t_Board_covered, 0⟩, ⟨1, 5, t_Board_seams, 1⟩, ⟨2, 5, t_Board_holder, 0⟩, ⟨1, 1, t_Board_shown, 0⟩, ⟨2, 7, t_best_boards, 0⟩, ⟨1, 1, t__law_dice, 0⟩, ⟨2, 3, t__law_roll, 0⟩, ⟨2, 5, t__law_rounds, 0⟩, ⟨1, 1, t__law_told, 0⟩, ⟨1, 5, t__law_sets, 0⟩, ⟨4, 6, t__law_word, 0⟩, ⟨0, 2, t__law_cases1, 1⟩, ⟨1, 1, t__law_rest2, 1⟩, ⟨4, 26, t__law_rest1, 1⟩, ⟨1, 11, t__law_rest3, 0⟩, ⟨1, 19, t_law, 1⟩], [⟨0, false, [0, 1, 2, 3], [(4, 1), (5, 2), (6, 3), (7, 4), (8, 5), (9, 6), (10, 7), (11, 8)]⟩, ⟨9, true, [12, 3, 13], [(14, 10), (15, 11), (16, 12), (17, 13), (18, 14), (19, 15)]⟩, ⟨18, false, [20, 21, 22], [(23, 19), (24, 20), (25, 21), (26, 22), (11, 23)]⟩], [], fun a b => a == b || b == 0, fun c => rsl.contains c, fun f => (tls.lookup f).getD []⟩
abbrev f_Round_init : Nat := 0
abbrev f_Round_spokes : Nat := 1
abbrev f_Round_open_out : Nat := 2
abbrev f_Round_weave : Nat := 3
abbrev f_Round_half_width : Nat := 4
abbrev f_Round_gap : Nat := 5
abbrev f_Round_unweave : Nat := 6
abbrev f_Round_used : Nat := 7
abbrev f_Round_shown : Nat := 8
abbrev f_Oval_init : Nat := 9
abbrev f_Oval_length : Nat := 10
abbrev f_Oval_rim : Nat := 11
abbrev f_Oval_grown : Nat := 12
abbrev f_Oval_stake_count : Nat := 13
abbrev f_Oval_lies_flat : Nat := 14
abbrev f_Oval_key : Nat := 15
abbrev f_dish_deep : Nat := 16
abbrev f_stakes_round : Nat := 17
abbrev f_Board_init : Nat := 18
abbrev f_Board_lay : Nat := 19
abbrev f_Board_covered : Nat := 20
abbrev f_Board_seams : Nat := 21
abbrev f_Board_holder : Nat := 22
abbrev f_Board_shown : Nat := 23
abbrev f_best_boards : Nat := 24
abbrev f__law_dice : Nat := 25
abbrev f__law_roll : Nat := 26
abbrev f__law_rounds : Nat := 27
abbrev f__law_told : Nat := 28
abbrev f__law_sets : Nat := 29
abbrev f__law_word : Nat := 30
abbrev f__law_cases1 : Nat := 31
abbrev f__law_rest2 : Nat := 32
abbrev f__law_rest1 : Nat := 33
abbrev f__law_rest3 : Nat := 34
abbrev f_law : Nat := 35
abbrev c_Round : Nat := 0
abbrev c_Oval : Nat := 1
abbrev c_Board : Nat := 2
abbrev x_BasketFault : Nat := 0
abbrev x_BadSize : Nat := 1
abbrev x_BadPlan : Nat := 2
abbrev x_NoSuch : Nat := 3
abbrev x_NoRoom : Nat := 4
abbrev x_NoWay : Nat := 5
abbrev x_Snaps : Nat := 6
abbrev x_BadText : Nat := 7
abbrev x_BadDeed : Nat := 8
end K04

namespace K04
open PySem PySem.Spec PyProof.Rows L2 Ac
def top (i : Nat) : Stmt := PySem.Challenge.pw_baskethall_k04_bases.main.body.getD i (.Pass ⟨0, 0, 0, 0⟩)
abbrev s_Round_init : Stmt := inClass (top 11) 0
def d_Round_init : He.DefD := ⟨(("Round" : Str), some ("__init__" : Str)), "__init__", "Round.__init__", defArgs s_Round_init, defBody s_Round_init, defScope s_Round_init, [], []⟩
abbrev s_Round_spokes : Stmt := inClass (top 11) 1
def d_Round_spokes : He.DefD := ⟨(("Round" : Str), some ("spokes" : Str)), "spokes", "Round.spokes", defArgs s_Round_spokes, defBody s_Round_spokes, defScope s_Round_spokes, [], []⟩
abbrev s_Round_open_out : Stmt := inClass (top 11) 2
def d_Round_open_out : He.DefD := ⟨(("Round" : Str), some ("open_out" : Str)), "open_out", "Round.open_out", defArgs s_Round_open_out, defBody s_Round_open_out, defScope s_Round_open_out, [], []⟩
abbrev s_Round_weave : Stmt := inClass (top 11) 3
def d_Round_weave : He.DefD := ⟨(("Round" : Str), some ("weave" : Str)), "weave", "Round.weave", defArgs s_Round_weave, defBody s_Round_weave, defScope s_Round_weave, [], []⟩
abbrev s_Round_half_width : Stmt := inClass (top 11) 4
def d_Round_half_width : He.DefD := ⟨(("Round" : Str), some ("half_width" : Str)), "half_width", "Round.half_width", defArgs s_Round_half_width, defBody s_Round_half_width, defScope s_Round_half_width, [], []⟩
abbrev s_Round_gap : Stmt := inClass (top 11) 5
def d_Round_gap : He.DefD := ⟨(("Round" : Str), some ("gap" : Str)), "gap", "Round.gap", defArgs s_Round_gap, defBody s_Round_gap, defScope s_Round_gap, [], []⟩
abbrev s_Round_unweave : Stmt := inClass (top 11) 6
def d_Round_unweave : He.DefD := ⟨(("Round" : Str), some ("unweave" : Str)), "unweave", "Round.unweave", defArgs s_Round_unweave, defBody s_Round_unweave, defScope s_Round_unweave, [], []⟩
abbrev s_Round_used : Stmt := inClass (top 11) 7
def d_Round_used : He.DefD := ⟨(("Round" : Str), some ("used" : Str)), "used", "Round.used", defArgs s_Round_used, defBody s_Round_used, defScope s_Round_used, [], []⟩
abbrev s_Round_shown : Stmt := inClass (top 11) 8
def d_Round_shown : He.DefD := ⟨(("Round" : Str), some ("shown" : Str)), "shown", "Round.shown", defArgs s_Round_shown, defBody s_Round_shown, defScope s_Round_shown, [], []⟩
abbrev s_Oval_init : Stmt := inClass (top 12) 0
def d_Oval_init : He.DefD := ⟨(("Oval" : Str), some ("__init__" : Str)), "__init__", "Oval.__init__", defArgs s_Oval_init, defBody s_Oval_init, defScope s_Oval_init, [], []⟩
abbrev s_Oval_length : Stmt := inClass (top 12) 1
def d_Oval_length : He.DefD := ⟨(("Oval" : Str), some ("length" : Str)), "length", "Oval.length", defArgs s_Oval_length, defBody s_Oval_length, defScope s_Oval_length, [], []⟩
abbrev s_Oval_rim : Stmt := inClass (top 12) 2
def d_Oval_rim : He.DefD := ⟨(("Oval" : Str), some ("rim" : Str)), "rim", "Oval.rim", defArgs s_Oval_rim, defBody s_Oval_rim, defScope s_Oval_rim, [], []⟩
abbrev s_Oval_grown : Stmt := inClass (top 12) 3
def d_Oval_grown : He.DefD := ⟨(("Oval" : Str), some ("grown" : Str)), "grown", "Oval.grown", defArgs s_Oval_grown, defBody s_Oval_grown, defScope s_Oval_grown, [], []⟩
abbrev s_Oval_stake_count : Stmt := inClass (top 12) 4
def d_Oval_stake_count : He.DefD := ⟨(("Oval" : Str), some ("stake_count" : Str)), "stake_count", "Oval.stake_count", defArgs s_Oval_stake_count, defBody s_Oval_stake_count, defScope s_Oval_stake_count, [], []⟩
abbrev s_Oval_lies_flat : Stmt := inClass (top 12) 5
def d_Oval_lies_flat : He.DefD := ⟨(("Oval" : Str), some ("lies_flat" : Str)), "lies_flat", "Oval.lies_flat", defArgs s_Oval_lies_flat, defBody s_Oval_lies_flat, defScope s_Oval_lies_flat, [], []⟩
abbrev s_Oval_key : Stmt := inClass (top 12) 6
def d_Oval_key : He.DefD := ⟨(("Oval" : Str), some ("key" : Str)), "key", "Oval.key", defArgs s_Oval_key, defBody s_Oval_key, defScope s_Oval_key, [], []⟩
abbrev s_dish_deep : Stmt := top 13
def d_dish_deep : He.DefD := ⟨(("dish_deep" : Str), none), "dish_deep", "dish_deep", defArgs s_dish_deep, defBody s_dish_deep, defScope s_dish_deep, [], []⟩
abbrev s_stakes_round : Stmt := top 14
def d_stakes_round : He.DefD := ⟨(("stakes_round" : Str), none), "stakes_round", "stakes_round", defArgs s_stakes_round, defBody s_stakes_round, defScope s_stakes_round, [], []⟩
abbrev s_Board_init : Stmt := inClass (top 15) 0
def d_Board_init : He.DefD := ⟨(("Board" : Str), some ("__init__" : Str)), "__init__", "Board.__init__", defArgs s_Board_init, defBody s_Board_init, defScope s_Board_init, [], []⟩
abbrev s_Board_lay : Stmt := inClass (top 15) 1
def d_Board_lay : He.DefD := ⟨(("Board" : Str), some ("lay" : Str)), "lay", "Board.lay", defArgs s_Board_lay, defBody s_Board_lay, defScope s_Board_lay, [], []⟩
abbrev s_Board_covered : Stmt := inClass (top 15) 2
def d_Board_covered : He.DefD := ⟨(("Board" : Str), some ("covered" : Str)), "covered", "Board.covered", defArgs s_Board_covered, defBody s_Board_covered, defScope s_Board_covered, [], []⟩
abbrev s_Board_seams : Stmt := inClass (top 15) 3
def d_Board_seams : He.DefD := ⟨(("Board" : Str), some ("seams" : Str)), "seams", "Board.seams", defArgs s_Board_seams, defBody s_Board_seams, defScope s_Board_seams, [], []⟩
abbrev s_Board_holder : Stmt := inClass (top 15) 4
def d_Board_holder : He.DefD := ⟨(("Board" : Str), some ("holder" : Str)), "holder", "Board.holder", defArgs s_Board_holder, defBody s_Board_holder, defScope s_Board_holder, [], []⟩
abbrev s_Board_shown : Stmt := inClass (top 15) 5
def d_Board_shown : He.DefD := ⟨(("Board" : Str), some ("shown" : Str)), "shown", "Board.shown", defArgs s_Board_shown, defBody s_Board_shown, defScope s_Board_shown, [], []⟩
abbrev s_best_boards : Stmt := top 16
def d_best_boards : He.DefD := ⟨(("best_boards" : Str), none), "best_boards", "best_boards", defArgs s_best_boards, defBody s_best_boards, defScope s_best_boards, [], []⟩
abbrev s__law_dice : Stmt := top 18
def d__law_dice : He.DefD := ⟨(("_law_dice" : Str), none), "_law_dice", "_law_dice", defArgs s__law_dice, defBody s__law_dice, defScope s__law_dice, [], []⟩
abbrev s__law_roll : Stmt := top 19
def d__law_roll : He.DefD := ⟨(("_law_roll" : Str), none), "_law_roll", "_law_roll", defArgs s__law_roll, defBody s__law_roll, defScope s__law_roll, [], []⟩
abbrev s__law_rounds : Stmt := top 20
def d__law_rounds : He.DefD := ⟨(("_law_rounds" : Str), none), "_law_rounds", "_law_rounds", defArgs s__law_rounds, defBody s__law_rounds, defScope s__law_rounds, [], []⟩
abbrev s__law_told : Stmt := top 21
def d__law_told : He.DefD := ⟨(("_law_told" : Str), none), "_law_told", "_law_told", defArgs s__law_told, defBody s__law_told, defScope s__law_told, [], []⟩
abbrev s__law_sets : Stmt := top 22
def d__law_sets : He.DefD := ⟨(("_law_sets" : Str), none), "_law_sets", "_law_sets", defArgs s__law_sets, defBody s__law_sets, defScope s__law_sets, [], []⟩
abbrev s__law_word : Stmt := top 23
def d__law_word : He.DefD := ⟨(("_law_word" : Str), none), "_law_word", "_law_word", defArgs s__law_word, defBody s__law_word, defScope s__law_word, [], []⟩
abbrev s__law_cases1 : Stmt := top 24
def d__law_cases1 : He.DefD := ⟨(("_law_cases1" : Str), none), "_law_cases1", "_law_cases1", defArgs s__law_cases1, defBody s__law_cases1, defScope s__law_cases1, [], []⟩
abbrev s__law_rest2 : Stmt := top 25
def d__law_rest2 : He.DefD := ⟨(("_law_rest2" : Str), none), "_law_rest2", "_law_rest2", defArgs s__law_rest2, defBody s__law_rest2, defScope s__law_rest2, [], []⟩
abbrev s__law_rest1 : Stmt := top 26
def d__law_rest1 : He.DefD := ⟨(("_law_rest1" : Str), none), "_law_rest1", "_law_rest1", defArgs s__law_rest1, defBody s__law_rest1, defScope s__law_rest1, [], []⟩
abbrev s__law_rest3 : Stmt := top 27
def d__law_rest3 : He.DefD := ⟨(("_law_rest3" : Str), none), "_law_rest3", "_law_rest3", defArgs s__law_rest3, defBody s__law_rest3, defScope s__law_rest3, [], []⟩
abbrev s_law : Stmt := top 28
def d_law : He.DefD := ⟨(("law" : Str), none), "law", "law", defArgs s_law, defBody s_law, defScope s_law, [], []⟩
def fn : List He.DefD := [d_Round_init, d_Round_spokes, d_Round_open_out, d_Round_weave, d_Round_half_width, d_Round_gap, d_Round_unweave, d_Round_used, d_Round_shown, d_Oval_init, d_Oval_length, d_Oval_rim, d_Oval_grown, d_Oval_stake_count, d_Oval_lies_flat, d_Oval_key, d_dish_deep, d_stakes_round, d_Board_init, d_Board_lay, d_Board_covered, d_Board_seams, d_Board_holder, d_Board_shown, d_best_boards, d__law_dice, d__law_roll, d__law_rounds, d__law_told, d__law_sets, d__law_word, d__law_cases1, d__law_rest2, d__law_rest1, d__law_rest3, d_law]
def dl (f : Nat) : He.DefD := (fn[f]?).getD d_law
abbrev C : Nm := ⟨[none, none, none, none, none, none, none, none, none, none, none, none, none, none, none, none, some ("dish_deep" : Str), some ("stakes_round" : Str), none, none, none, none, none, none, some ("best_boards" : Str), some ("_law_dice" : Str), some ("_law_roll" : Str), some ("_law_rounds" : Str), none, some ("_law_sets" : Str), some ("_law_word" : Str), some ("_law_cases1" : Str), some ("_law_rest2" : Str), some ("_law_rest1" : Str), some ("_law_rest3" : Str), some ("law" : Str)], [none, none, none, none, none, none, none, none, none, none, none, none, none, none, none, none, none, none, none, none, none, none, none, none, none, none, none, none, some ("_law_told" : Str), none, none, none, none, none, none, none], [("Round" : Str), ("Oval" : Str), ("Board" : Str)], [("through" : Str), ("across" : Str), ("rounds" : Str), ("apart" : Str), ("spokes" : Str), ("open_out" : Str), ("weave" : Str), ("half_width" : Str), ("gap" : Str), ("unweave" : Str), ("used" : Str), ("shown" : Str), ("shorts" : Str), ("half" : Str), ("length" : Str), ("rim" : Str), ("grown" : Str), ("stake_count" : Str), ("lies_flat" : Str), ("key" : Str), ("wide" : Str), ("long" : Str), ("boards" : Str), ("lay" : Str), ("covered" : Str), ("seams" : Str), ("holder" : Str)], [none, some ("BadSize" : Str), some ("BadPlan" : Str), some ("NoSuch" : Str), some ("NoRoom" : Str), some ("NoWay" : Str), some ("Snaps" : Str), none, some ("BadDeed" : Str)], [], [("abs" : Str), ("any" : Str), ("dict" : Str), ("int" : Str), ("len" : Str), ("list" : Str), ("max" : Str), ("min" : Str), ("range" : Str), ("sorted" : Str), ("str" : Str), ("sum" : Str), ("tuple" : Str)]⟩
abbrev frl : List Nat := [0, 1, 2, 3, 4, 5, 6, 7, 8, 9, 10, 11, 12, 13, 14, 15, 16, 17, 18, 19, 20, 21, 22, 23, 24, 25, 26, 27, 29, 30, 31, 32, 33, 34, 35]
abbrev hd : Hd := ⟨[("dish_deep" : Str), ("stakes_round" : Str), ("best_boards" : Str), ("_law_dice" : Str), ("_law_roll" : Str), ("_law_rounds" : Str), ("_law_told" : Str), ("_law_sets" : Str), ("_law_word" : Str), ("_law_cases1" : Str), ("_law_rest2" : Str), ("_law_rest1" : Str), ("_law_rest3" : Str), ("law" : Str), ("Round" : Str), ("Oval" : Str), ("Board" : Str), ("BasketFault" : Str), ("BadSize" : Str), ("BadPlan" : Str), ("NoSuch" : Str), ("NoRoom" : Str), ("NoWay" : Str), ("Snaps" : Str), ("BadText" : Str), ("BadDeed" : Str)], [("abs" : Str), ("any" : Str), ("dict" : Str), ("int" : Str), ("len" : Str), ("list" : Str), ("max" : Str), ("min" : Str), ("range" : Str), ("sorted" : Str), ("str" : Str), ("sum" : Str), ("tuple" : Str)], [(("Round" : Str), [("through" : Str), ("across" : Str), ("rounds" : Str), ("apart" : Str)], [("spokes" : Str), ("open_out" : Str), ("weave" : Str), ("half_width" : Str), ("gap" : Str), ("unweave" : Str), ("used" : Str), ("shown" : Str)]), (("Oval" : Str), [("shorts" : Str), ("apart" : Str), ("half" : Str)], [("length" : Str), ("rim" : Str), ("grown" : Str), ("stake_count" : Str), ("lies_flat" : Str), ("key" : Str)]), (("Board" : Str), [("wide" : Str), ("long" : Str), ("boards" : Str)], [("lay" : Str), ("covered" : Str), ("seams" : Str), ("holder" : Str), ("shown" : Str)])], [("BasketFault" : Str), ("BadSize" : Str), ("BadPlan" : Str), ("NoSuch" : Str), ("NoRoom" : Str), ("NoWay" : Str), ("Snaps" : Str), ("BadText" : Str), ("BadDeed" : Str)], rsl, [1, 2, 3, 4, 5, 6, 7, 8], frl, tls⟩
def tq : TQ := [((("Round" : Str), some ("half_width" : Str)), ("Round.half_width.<locals>.<genexpr>" : Str)), ((("Oval" : Str), some ("lies_flat" : Str)), ("Oval.lies_flat.<locals>.<genexpr>" : Str)), ((("dish_deep" : Str), none), ("dish_deep.<locals>.<genexpr>" : Str)), ((("Board" : Str), some ("covered" : Str)), ("Board.covered.<locals>.<genexpr>" : Str)), ((("best_boards" : Str), none), ("best_boards.<locals>.<genexpr>" : Str)), ((("_law_cases1" : Str), none), ("_law_cases1.<locals>.<lambda>" : Str)), ((("_law_rest2" : Str), none), ("_law_rest2.<locals>.<lambda>" : Str)), ((("_law_rest1" : Str), none), ("_law_rest1.<locals>.<lambda>" : Str)), ((("law" : Str), none), ("law.<locals>.<lambda>" : Str))]
def ex (K : PySem.W.Frag) : Bool := tqB K tq && glAll P C K
abbrev R : PySem.W.OpenRow := PySem.W.OpenLaw.row PySem.Challenge.rw_baskethall_k04_bases
abbrev fa : List He.Fa := hd.fa P
abbrev hk : PySem.W.Hook := He.hookX 5 fa fn [] (tq.map (·.1)) ex
def ob (s : PySem.W.SharedT) : He.AlX := He.obsX 5 fa fn [] (tq.map (·.1)) ex (HandSHeadRun.getT s)
theorem ob_eq (s : PySem.W.SharedT) : ob s = hk.obs s.abs := He.obsX_eq (HandSHeadRun.getT_eq s)
def loose : List Str := (["BasketFault", "BadSize", "BadPlan", "NoSuch", "NoRoom", "NoWay", "Snaps", "BadText", "BadDeed", "Round", "Oval", "dish_deep", "stakes_round", "Board", "best_boards", "_law_dice", "_law_roll", "_law_rounds", "_law_told", "_law_sets", "_law_word", "_law_cases1", "_law_rest2", "_law_rest1", "_law_rest3"] : List Str)
theorem run (w : World) : HandSHeadRun.RunEq R (PySem.W.view R.prog [28]) hk ob 20000 loose w := by
  intro os
  kernel_rfl
theorem ex_tq (K : PySem.W.Frag) (h : ex K = true) : tqB K tq = true := (Bool.and_eq_true_iff.mp h).1
theorem ex_gl (K : PySem.W.Frag) (h : ex K = true) : glAll P C K = true := (Bool.and_eq_true_iff.mp h).2
theorem fr_Round_init : FRp P C fn tq 0 d_Round_init [("self" : Str), ("through" : Str), ("across" : Str)] := ⟨⟨⟨3, 3, t_Round_init, 0⟩, [("self" : Str), ("through" : Str), ("across" : Str)], .no, rfl, by simp [fn], ⟨rfl, rfl, rfl, NmB.nd (by decide +kernel), rfl, by decide +kernel, by decide +kernel⟩, by decide +kernel, ⟨rfl, rfl, fun _ _ _ _ _ _ us hl => match us, hl with | [_, _, _], _ => rfl⟩, rfl, rfl, (fun h => (nomatch h)), (fun h => (nomatch h)), by decide +kernel⟩⟩
theorem fr_Round_spokes : FRp P C fn tq 1 d_Round_spokes [("self" : Str)] := ⟨⟨⟨1, 2, t_Round_spokes, 0⟩, [("self" : Str), ("whole" : Str)], .no, rfl, by simp [fn], ⟨rfl, rfl, rfl, NmB.nd (by decide +kernel), rfl, by decide +kernel, by decide +kernel⟩, by decide +kernel, ⟨rfl, rfl, fun _ _ _ _ _ _ us hl => match us, hl with | [_], _ => rfl⟩, rfl, rfl, (fun h => (nomatch h)), (fun h => (nomatch h)), by decide +kernel⟩⟩
theorem fr_Round_open_out : FRp P C fn tq 2 d_Round_open_out [("self" : Str)] := ⟨⟨⟨1, 1, t_Round_open_out, 0⟩, [("self" : Str)], .no, rfl, by simp [fn], ⟨rfl, rfl, rfl, NmB.nd (by decide +kernel), rfl, by decide +kernel, by decide +kernel⟩, by decide +kernel, ⟨rfl, rfl, fun _ _ _ _ _ _ us hl => match us, hl with | [_], _ => rfl⟩, rfl, rfl, (fun h => (nomatch h)), (fun h => (nomatch h)), by decide +kernel⟩⟩
theorem fr_Round_weave : FRp P C fn tq 3 d_Round_weave [("self" : Str), ("thick" : Str)] := ⟨⟨⟨2, 2, t_Round_weave, 0⟩, [("self" : Str), ("thick" : Str)], .no, rfl, by simp [fn], ⟨rfl, rfl, rfl, NmB.nd (by decide +kernel), rfl, by decide +kernel, by decide +kernel⟩, by decide +kernel, ⟨rfl, rfl, fun _ _ _ _ _ _ us hl => match us, hl with | [_, _], _ => rfl⟩, rfl, rfl, (fun h => (nomatch h)), (fun h => (nomatch h)), by decide +kernel⟩⟩
theorem fr_Round_half_width : FRp P C fn tq 4 d_Round_half_width [("self" : Str)] := ⟨⟨⟨1, 4, t_Round_half_width, 0⟩, [("self" : Str), (".0" : Str), ("thick" : Str), ("apart" : Str)], .gen, rfl, by simp [fn], ⟨rfl, rfl, rfl, NmB.nd (by decide +kernel), rfl, by decide +kernel, by decide +kernel⟩, by decide +kernel, ⟨rfl, rfl, fun _ _ _ _ _ _ us hl => match us, hl with | [_], _ => rfl⟩, rfl, rfl, (fun h => (nomatch h)), (fun _ => by decide +kernel), by decide +kernel⟩⟩
theorem fr_Round_gap : FRp P C fn tq 5 d_Round_gap [("self" : Str)] := ⟨⟨⟨1, 1, t_Round_gap, 0⟩, [("self" : Str)], .no, rfl, by simp [fn], ⟨rfl, rfl, rfl, NmB.nd (by decide +kernel), rfl, by decide +kernel, by decide +kernel⟩, by decide +kernel, ⟨rfl, rfl, fun _ _ _ _ _ _ us hl => match us, hl with | [_], _ => rfl⟩, rfl, rfl, (fun h => (nomatch h)), (fun h => (nomatch h)), by decide +kernel⟩⟩
theorem fr_Round_unweave : FRp P C fn tq 6 d_Round_unweave [("self" : Str)] := ⟨⟨⟨1, 3, t_Round_unweave, 0⟩, [("self" : Str), ("thick" : Str), ("apart" : Str)], .no, rfl, by simp [fn], ⟨rfl, rfl, rfl, NmB.nd (by decide +kernel), rfl, by decide +kernel, by decide +kernel⟩, by decide +kernel, ⟨rfl, rfl, fun _ _ _ _ _ _ us hl => match us, hl with | [_], _ => rfl⟩, rfl, rfl, (fun h => (nomatch h)), (fun h => (nomatch h)), by decide +kernel⟩⟩
theorem fr_Round_used : FRp P C fn tq 7 d_Round_used [("self" : Str)] := ⟨⟨⟨1, 5, t_Round_used, 0⟩, [("self" : Str), ("here" : Str), ("whole" : Str), ("thick" : Str), ("apart" : Str)], .no, rfl, by simp [fn], ⟨rfl, rfl, rfl, NmB.nd (by decide +kernel), rfl, by decide +kernel, by decide +kernel⟩, by decide +kernel, ⟨rfl, rfl, fun _ _ _ _ _ _ us hl => match us, hl with | [_], _ => rfl⟩, rfl, rfl, (fun h => (nomatch h)), (fun h => (nomatch h)), by decide +kernel⟩⟩
theorem fr_Round_shown : FRp P C fn tq 8 d_Round_shown [("self" : Str)] := ⟨⟨⟨1, 1, t_Round_shown, 0⟩, [("self" : Str)], .no, rfl, by simp [fn], ⟨rfl, rfl, rfl, NmB.nd (by decide +kernel), rfl, by decide +kernel, by decide +kernel⟩, by decide +kernel, ⟨rfl, rfl, fun _ _ _ _ _ _ us hl => match us, hl with | [_], _ => rfl⟩, rfl, rfl, (fun h => (nomatch h)), (fun h => (nomatch h)), by decide +kernel⟩⟩
theorem fr_Oval_init : FRp P C fn tq 9 d_Oval_init [("self" : Str), ("shorts" : Str), ("apart" : Str), ("half" : Str)] := ⟨⟨⟨4, 4, t_Oval_init, 0⟩, [("self" : Str), ("shorts" : Str), ("apart" : Str), ("half" : Str)], .no, rfl, by simp [fn], ⟨rfl, rfl, rfl, NmB.nd (by decide +kernel), rfl, by decide +kernel, by decide +kernel⟩, by decide +kernel, ⟨rfl, rfl, fun _ _ _ _ _ _ us hl => match us, hl with | [_, _, _, _], _ => rfl⟩, rfl, rfl, (fun h => (nomatch h)), (fun h => (nomatch h)), by decide +kernel⟩⟩
theorem fr_Oval_length : FRp P C fn tq 10 d_Oval_length [("self" : Str)] := ⟨⟨⟨1, 1, t_Oval_length, 0⟩, [("self" : Str)], .no, rfl, by simp [fn], ⟨rfl, rfl, rfl, NmB.nd (by decide +kernel), rfl, by decide +kernel, by decide +kernel⟩, by decide +kernel, ⟨rfl, rfl, fun _ _ _ _ _ _ us hl => match us, hl with | [_], _ => rfl⟩, rfl, rfl, (fun h => (nomatch h)), (fun h => (nomatch h)), by decide +kernel⟩⟩
theorem fr_Oval_rim : FRp P C fn tq 11 d_Oval_rim [("self" : Str)] := ⟨⟨⟨1, 1, t_Oval_rim, 0⟩, [("self" : Str)], .no, rfl, by simp [fn], ⟨rfl, rfl, rfl, NmB.nd (by decide +kernel), rfl, by decide +kernel, by decide +kernel⟩, by decide +kernel, ⟨rfl, rfl, fun _ _ _ _ _ _ us hl => match us, hl with | [_], _ => rfl⟩, rfl, rfl, (fun h => (nomatch h)), (fun h => (nomatch h)), by decide +kernel⟩⟩
theorem fr_Oval_grown : FRp P C fn tq 12 d_Oval_grown [("self" : Str), ("more" : Str)] := ⟨⟨⟨2, 2, t_Oval_grown, 0⟩, [("self" : Str), ("more" : Str)], .no, rfl, by simp [fn], ⟨rfl, rfl, rfl, NmB.nd (by decide +kernel), rfl, by decide +kernel, by decide +kernel⟩, by decide +kernel, ⟨rfl, rfl, fun _ _ _ _ _ _ us hl => match us, hl with | [_, _], _ => rfl⟩, rfl, rfl, (fun h => (nomatch h)), (fun h => (nomatch h)), by decide +kernel⟩⟩
theorem fr_Oval_stake_count : FRp P C fn tq 13 d_Oval_stake_count [("self" : Str), ("gap" : Str)] := ⟨⟨⟨2, 3, t_Oval_stake_count, 0⟩, [("self" : Str), ("gap" : Str), ("many" : Str)], .no, rfl, by simp [fn], ⟨rfl, rfl, rfl, NmB.nd (by decide +kernel), rfl, by decide +kernel, by decide +kernel⟩, by decide +kernel, ⟨rfl, rfl, fun _ _ _ _ _ _ us hl => match us, hl with | [_, _], _ => rfl⟩, rfl, rfl, (fun h => (nomatch h)), (fun h => (nomatch h)), by decide +kernel⟩⟩
theorem fr_Oval_lies_flat : FRp P C fn tq 14 d_Oval_lies_flat [("self" : Str), ("twist" : Str)] := ⟨⟨⟨2, 4, t_Oval_lies_flat, 0⟩, [("self" : Str), ("twist" : Str), (".0" : Str), ("sign" : Str)], .gen, rfl, by simp [fn], ⟨rfl, rfl, rfl, NmB.nd (by decide +kernel), rfl, by decide +kernel, by decide +kernel⟩, by decide +kernel, ⟨rfl, rfl, fun _ _ _ _ _ _ us hl => match us, hl with | [_, _], _ => rfl⟩, rfl, rfl, (fun h => (nomatch h)), (fun _ => by decide +kernel), by decide +kernel⟩⟩
theorem fr_Oval_key : FRp P C fn tq 15 d_Oval_key [("self" : Str)] := ⟨⟨⟨1, 1, t_Oval_key, 0⟩, [("self" : Str)], .no, rfl, by simp [fn], ⟨rfl, rfl, rfl, NmB.nd (by decide +kernel), rfl, by decide +kernel, by decide +kernel⟩, by decide +kernel, ⟨rfl, rfl, fun _ _ _ _ _ _ us hl => match us, hl with | [_], _ => rfl⟩, rfl, rfl, (fun h => (nomatch h)), (fun h => (nomatch h)), by decide +kernel⟩⟩
theorem fr_dish_deep : FRp P C fn tq 16 d_dish_deep [("rows" : Str)] := ⟨⟨⟨1, 3, t_dish_deep, 0⟩, [("rows" : Str), (".0" : Str), ("k" : Str)], .gen, rfl, by simp [fn], ⟨rfl, rfl, rfl, NmB.nd (by decide +kernel), rfl, by decide +kernel, by decide +kernel⟩, by decide +kernel, ⟨rfl, rfl, fun _ _ _ _ _ _ us hl => match us, hl with | [_], _ => rfl⟩, rfl, rfl, (fun h => (nomatch h)), (fun _ => by decide +kernel), by decide +kernel⟩⟩
theorem fr_stakes_round : FRp P C fn tq 17 d_stakes_round [("rim" : Str), ("gap" : Str), ("odd" : Str)] := ⟨⟨⟨3, 4, t_stakes_round, 0⟩, [("rim" : Str), ("gap" : Str), ("odd" : Str), ("many" : Str)], .no, rfl, by simp [fn], ⟨rfl, rfl, rfl, NmB.nd (by decide +kernel), rfl, by decide +kernel, by decide +kernel⟩, by decide +kernel, ⟨rfl, rfl, fun _ _ _ _ _ _ us hl => match us, hl with | [_, _, _], _ => rfl⟩, rfl, rfl, (fun h => (nomatch h)), (fun h => (nomatch h)), by decide +kernel⟩⟩
theorem fr_Board_init : FRp P C fn tq 18 d_Board_init [("self" : Str), ("wide" : Str), ("long" : Str)] := ⟨⟨⟨3, 3, t_Board_init, 0⟩, [("self" : Str), ("wide" : Str), ("long" : Str)], .no, rfl, by simp [fn], ⟨rfl, rfl, rfl, NmB.nd (by decide +kernel), rfl, by decide +kernel, by decide +kernel⟩, by decide +kernel, ⟨rfl, rfl, fun _ _ _ _ _ _ us hl => match us, hl with | [_, _, _], _ => rfl⟩, rfl, rfl, (fun h => (nomatch h)), (fun h => (nomatch h)), by decide +kernel⟩⟩
theorem fr_Board_lay : FRp P C fn tq 19 d_Board_lay [("self" : Str), ("name" : Str), ("wide" : Str), ("long" : Str)] := ⟨⟨⟨4, 6, t_Board_lay, 0⟩, [("self" : Str), ("name" : Str), ("wide" : Str), ("long" : Str), (".0" : Str), ("row" : Str)], .no, rfl, by simp [fn], ⟨rfl, rfl, rfl, NmB.nd (by decide +kernel), rfl, by decide +kernel, by decide +kernel⟩, by decide +kernel, ⟨rfl, rfl, fun _ _ _ _ _ _ us hl => match us, hl with | [_, _, _, _], _ => rfl⟩, rfl, rfl, (fun h => (nomatch h)), (fun h => (nomatch h)), by decide +kernel⟩⟩
theorem fr_Board_covered : FRp P C fn tq 20 d_Board_covered [("self" : Str)] := ⟨⟨⟨1, 4, t_Board_covered, 0⟩, [("self" : Str), (".0" : Str), ("name" : Str), ("wide" : Str)], .gen, rfl, by simp [fn], ⟨rfl, rfl, rfl, NmB.nd (by decide +kernel), rfl, by decide +kernel, by decide +kernel⟩, by decide +kernel, ⟨rfl, rfl, fun _ _ _ _ _ _ us hl => match us, hl with | [_], _ => rfl⟩, rfl, rfl, (fun h => (nomatch h)), (fun _ => by decide +kernel), by decide +kernel⟩⟩
theorem fr_Board_seams : FRp P C fn tq 21 d_Board_seams [("self" : Str)] := ⟨⟨⟨1, 5, t_Board_seams, 1⟩, [("self" : Str), ("found" : Str), ("here" : Str), ("name" : Str), ("wide" : Str)], .no, rfl, by simp [fn], ⟨rfl, rfl, rfl, NmB.nd (by decide +kernel), rfl, by decide +kernel, by decide +kernel⟩, by decide +kernel, ⟨rfl, rfl, fun _ _ _ _ _ _ us hl => match us, hl with | [_], _ => rfl⟩, rfl, rfl, (fun h => (nomatch h)), (fun h => (nomatch h)), by decide +kernel⟩⟩
theorem fr_Board_holder : FRp P C fn tq 22 d_Board_holder [("self" : Str), ("place" : Str)] := ⟨⟨⟨2, 5, t_Board_holder, 0⟩, [("self" : Str), ("place" : Str), ("here" : Str), ("name" : Str), ("wide" : Str)], .no, rfl, by simp [fn], ⟨rfl, rfl, rfl, NmB.nd (by decide +kernel), rfl, by decide +kernel, by decide +kernel⟩, by decide +kernel, ⟨rfl, rfl, fun _ _ _ _ _ _ us hl => match us, hl with | [_, _], _ => rfl⟩, rfl, rfl, (fun h => (nomatch h)), (fun h => (nomatch h)), by decide +kernel⟩⟩
theorem fr_Board_shown : FRp P C fn tq 23 d_Board_shown [("self" : Str)] := ⟨⟨⟨1, 1, t_Board_shown, 0⟩, [("self" : Str)], .no, rfl, by simp [fn], ⟨rfl, rfl, rfl, NmB.nd (by decide +kernel), rfl, by decide +kernel, by decide +kernel⟩, by decide +kernel, ⟨rfl, rfl, fun _ _ _ _ _ _ us hl => match us, hl with | [_], _ => rfl⟩, rfl, rfl, (fun h => (nomatch h)), (fun h => (nomatch h)), by decide +kernel⟩⟩
theorem fr_best_boards : FRp P C fn tq 24 d_best_boards [("wide" : Str), ("stock" : Str)] := ⟨⟨⟨2, 7, t_best_boards, 0⟩, [("wide" : Str), ("stock" : Str), ("sets" : Str), ("name" : Str), ("rows" : Str), (".0" : Str), ("row" : Str)], .gen, rfl, by simp [fn], ⟨rfl, rfl, rfl, NmB.nd (by decide +kernel), rfl, by decide +kernel, by decide +kernel⟩, by decide +kernel, ⟨rfl, rfl, fun _ _ _ _ _ _ us hl => match us, hl with | [_, _], _ => rfl⟩, rfl, rfl, (fun h => (nomatch h)), (fun _ => by decide +kernel), by decide +kernel⟩⟩
theorem fr__law_dice : FRp P C fn tq 25 d__law_dice [("cell" : Str)] := ⟨⟨⟨1, 1, t__law_dice, 0⟩, [("cell" : Str)], .no, rfl, by simp [fn], ⟨rfl, rfl, rfl, NmB.nd (by decide +kernel), rfl, by decide +kernel, by decide +kernel⟩, by decide +kernel, ⟨rfl, rfl, fun _ _ _ _ _ _ us hl => match us, hl with | [_], _ => rfl⟩, rfl, rfl, (fun h => (nomatch h)), (fun h => (nomatch h)), by decide +kernel⟩⟩
theorem fr__law_roll : FRp P C fn tq 26 d__law_roll [("dice" : Str), ("many" : Str)] := ⟨⟨⟨2, 3, t__law_roll, 0⟩, [("dice" : Str), ("many" : Str), ("found" : Str)], .no, rfl, by simp [fn], ⟨rfl, rfl, rfl, NmB.nd (by decide +kernel), rfl, by decide +kernel, by decide +kernel⟩, by decide +kernel, ⟨rfl, rfl, fun _ _ _ _ _ _ us hl => match us, hl with | [_, _], _ => rfl⟩, rfl, rfl, (fun h => (nomatch h)), (fun h => (nomatch h)), by decide +kernel⟩⟩
theorem fr__law_rounds : FRp P C fn tq 27 d__law_rounds [("script" : Str), ("most" : Str)] := ⟨⟨⟨2, 5, t__law_rounds, 0⟩, [("script" : Str), ("most" : Str), ("cells" : Str), (".0" : Str), ("cell" : Str)], .no, rfl, by simp [fn], ⟨rfl, rfl, rfl, NmB.nd (by decide +kernel), rfl, by decide +kernel, by decide +kernel⟩, by decide +kernel, ⟨rfl, rfl, fun _ _ _ _ _ _ us hl => match us, hl with | [_, _], _ => rfl⟩, rfl, rfl, (fun h => (nomatch h)), (fun h => (nomatch h)), by decide +kernel⟩⟩
theorem fr__law_sets : FRp P C fn tq 29 d__law_sets [("items" : Str)] := ⟨⟨⟨1, 5, t__law_sets, 0⟩, [("items" : Str), ("found" : Str), ("item" : Str), (".0" : Str), ("row" : Str)], .no, rfl, by simp [fn], ⟨rfl, rfl, rfl, NmB.nd (by decide +kernel), rfl, by decide +kernel, by decide +kernel⟩, by decide +kernel, ⟨rfl, rfl, fun _ _ _ _ _ _ us hl => match us, hl with | [_], _ => rfl⟩, rfl, rfl, (fun h => (nomatch h)), (fun h => (nomatch h)), by decide +kernel⟩⟩
theorem fr__law_word : FRp P C fn tq 30 d__law_word [("dice" : Str), ("letters" : Str), ("least" : Str), ("most" : Str)] := ⟨⟨⟨4, 6, t__law_word, 0⟩, [("dice" : Str), ("letters" : Str), ("least" : Str), ("most" : Str), (".0" : Str), ("k" : Str)], .no, rfl, by simp [fn], ⟨rfl, rfl, rfl, NmB.nd (by decide +kernel), rfl, by decide +kernel, by decide +kernel⟩, by decide +kernel, ⟨rfl, rfl, fun _ _ _ _ _ _ us hl => match us, hl with | [_, _, _, _], _ => rfl⟩, rfl, rfl, (fun h => (nomatch h)), (fun h => (nomatch h)), by decide +kernel⟩⟩
theorem fr__law_cases1 : FRp P C fn tq 31 d__law_cases1 [] := ⟨⟨⟨0, 2, t__law_cases1, 1⟩, [(".0" : Str), ("k" : Str)], .lam, rfl, by simp [fn], ⟨rfl, rfl, rfl, NmB.nd (by decide +kernel), rfl, by decide +kernel, by decide +kernel⟩, by decide +kernel, ⟨rfl, rfl, fun _ _ _ _ _ _ us hl => match us, hl with | [], _ => rfl⟩, rfl, rfl, (fun _ => by decide +kernel), (fun h => (nomatch h)), by decide +kernel⟩⟩
theorem fr__law_rest2 : FRp P C fn tq 32 d__law_rest2 [("oval" : Str)] := ⟨⟨⟨1, 1, t__law_rest2, 1⟩, [("oval" : Str)], .lam, rfl, by simp [fn], ⟨rfl, rfl, rfl, NmB.nd (by decide +kernel), rfl, by decide +kernel, by decide +kernel⟩, by decide +kernel, ⟨rfl, rfl, fun _ _ _ _ _ _ us hl => match us, hl with | [_], _ => rfl⟩, rfl, rfl, (fun _ => by decide +kernel), (fun h => (nomatch h)), by decide +kernel⟩⟩
theorem fr__law_rest1 : FRp P C fn tq 33 d__law_rest1 [("dice" : Str), ("oval" : Str), ("every" : Str), ("rim" : Str)] := ⟨⟨⟨4, 26, t__law_rest1, 1⟩, [("dice" : Str), ("oval" : Str), ("every" : Str), ("rim" : Str), ("k" : Str), ("bad" : Str), ("odd" : Str), ("long" : Str), ("laid" : Str), ("step" : Str), ("there" : Str), ("due" : Str), ("ends" : Str), ("over" : Str), ("name" : Str), ("good" : Str), ("broad" : Str), ("floor" : Str), ("place" : Str), ("rows" : Str), ("size" : Str), ("stock" : Str), ("wide" : Str), (".0" : Str), ("row" : Str), ("some" : Str)], .lam, rfl, by simp [fn], ⟨rfl, rfl, rfl, NmB.nd (by decide +kernel), rfl, by decide +kernel, by decide +kernel⟩, by decide +kernel, ⟨rfl, rfl, fun _ _ _ _ _ _ us hl => match us, hl with | [_, _, _, _], _ => rfl⟩, rfl, rfl, (fun _ => by decide +kernel), (fun h => (nomatch h)), by decide +kernel⟩⟩
theorem fr__law_rest3 : FRp P C fn tq 34 d__law_rest3 [("dice" : Str)] := ⟨⟨⟨1, 11, t__law_rest3, 0⟩, [("dice" : Str), ("shorts" : Str), ("gap" : Str), ("half" : Str), ("more" : Str), ("oval" : Str), ("every" : Str), ("rim" : Str), ("twist" : Str), (".0" : Str), ("k" : Str)], .no, rfl, by simp [fn], ⟨rfl, rfl, rfl, NmB.nd (by decide +kernel), rfl, by decide +kernel, by decide +kernel⟩, by decide +kernel, ⟨rfl, rfl, fun _ _ _ _ _ _ us hl => match us, hl with | [_], _ => rfl⟩, rfl, rfl, (fun h => (nomatch h)), (fun h => (nomatch h)), by decide +kernel⟩⟩
theorem fr_law : FRp P C fn tq 35 d_law [("script" : Str)] := ⟨⟨⟨1, 19, t_law, 1⟩, [("script" : Str), ("dice" : Str), ("through" : Str), ("across" : Str), ("rounds" : Str), ("apart" : Str), ("middle" : Str), ("step" : Str), ("sort" : Str), ("spokes" : Str), ("wide" : Str), ("half" : Str), ("due" : Str), ("here" : Str), ("whole" : Str), ("base" : Str), ("thick" : Str), (".0" : Str), ("one" : Str)], .lam, rfl, by simp [fn], ⟨rfl, rfl, rfl, NmB.nd (by decide +kernel), rfl, by decide +kernel, by decide +kernel⟩, by decide +kernel, ⟨rfl, rfl, fun _ _ _ _ _ _ us hl => match us, hl with | [_], _ => rfl⟩, rfl, rfl, (fun _ => by decide +kernel), (fun h => (nomatch h)), by decide +kernel⟩⟩
theorem frs : ∀ f ∈ frl, FR P C fn tq f (dl f) := List.forall_mem_cons.mpr ⟨⟨_, fr_Round_init⟩, List.forall_mem_cons.mpr ⟨⟨_, fr_Round_spokes⟩, List.forall_mem_cons.mpr ⟨⟨_, fr_Round_open_out⟩, List.forall_mem_cons.mpr ⟨⟨_, fr_Round_weave⟩, List.forall_mem_cons.mpr ⟨⟨_, fr_Round_half_width⟩, List.forall_mem_cons.mpr ⟨⟨_, fr_Round_gap⟩, List.forall_mem_cons.mpr ⟨⟨_, fr_Round_unweave⟩, List.forall_mem_cons.mpr ⟨⟨_, fr_Round_used⟩, List.forall_mem_cons.mpr ⟨⟨_, fr_Round_shown⟩, List.forall_mem_cons.mpr ⟨⟨_, fr_Oval_init⟩, List.forall_mem_cons.mpr ⟨⟨_, fr_Oval_length⟩, List.forall_mem_cons.mpr ⟨⟨_, fr_Oval_rim⟩, List.forall_mem_cons.mpr ⟨⟨_, fr_Oval_grown⟩, List.forall_mem_cons.mpr ⟨⟨_, fr_Oval_stake_count⟩, List.forall_mem_cons.mpr ⟨⟨_, fr_Oval_lies_flat⟩, List.forall_mem_cons.mpr ⟨⟨_, fr_Oval_key⟩, List.forall_mem_cons.mpr ⟨⟨_, fr_dish_deep⟩, List.forall_mem_cons.mpr ⟨⟨_, fr_stakes_round⟩, List.forall_mem_cons.mpr ⟨⟨_, fr_Board_init⟩, List.forall_mem_cons.mpr ⟨⟨_, fr_Board_lay⟩, List.forall_mem_cons.mpr ⟨⟨_, fr_Board_covered⟩, List.forall_mem_cons.mpr ⟨⟨_, fr_Board_seams⟩, List.forall_mem_cons.mpr ⟨⟨_, fr_Board_holder⟩, List.forall_mem_cons.mpr ⟨⟨_, fr_Board_shown⟩, List.forall_mem_cons.mpr ⟨⟨_, fr_best_boards⟩, List.forall_mem_cons.mpr ⟨⟨_, fr__law_dice⟩, List.forall_mem_cons.mpr ⟨⟨_, fr__law_roll⟩, List.forall_mem_cons.mpr ⟨⟨_, fr__law_rounds⟩, List.forall_mem_cons.mpr ⟨⟨_, fr__law_sets⟩, List.forall_mem_cons.mpr ⟨⟨_, fr__law_word⟩, List.forall_mem_cons.mpr ⟨⟨_, fr__law_cases1⟩, List.forall_mem_cons.mpr ⟨⟨_, fr__law_rest2⟩, List.forall_mem_cons.mpr ⟨⟨_, fr__law_rest1⟩, List.forall_mem_cons.mpr ⟨⟨_, fr__law_rest3⟩, List.forall_mem_cons.mpr ⟨⟨_, fr_law⟩, fun _ h => (List.not_mem_nil h).elim⟩⟩⟩⟩⟩⟩⟩⟩⟩⟩⟩⟩⟩⟩⟩⟩⟩⟩⟩⟩⟩⟩⟩⟩⟩⟩⟩⟩⟩⟩⟩⟩⟩⟩⟩
section
variable {W : Wd} (E : Env0 W PySem.Challenge.rw_baskethall_k04_bases fa fn tq ex hd.cl)
include E
theorem g_ (x : Str) (h : hd.glos.contains x = true) : W.mg x = some (.ref (He.ga W.K x)) := He.glo_ok E.X E.G (E.S.facts (f := .glo x) (List.mem_append.mpr (.inl (List.mem_map.mpr ⟨x, List.contains_iff_mem.mp h, rfl⟩))))
theorem told__law_told : Told W "_law_told" ((P.tl 28).map fun q => (He.ga W.K (hd.ex q.1), q.2)) := by
  obtain ⟨fd, F⟩ := E.S.defs (d := d__law_told) (by simp [fn])
  have F1 : FunD W.K "_law_told" "_law_told" (defArgs s__law_told) (defBody s__law_told) (defScope s__law_told) [] [] (He.ga W.K "_law_told") fd := F
  have b := F1.bindsN (ps := [("what" : Str)]) fun _ _ _ _ _ _ us hl => match us, hl with | [_], _ => rfl
  have kp := F1.kp
  obtain ⟨oc, od, dV, kV, doc, pm, an, cdv, ct, osl, rfl, lk, hcd, hD, _⟩ := F1.ex
  refine ⟨He.ga W.K "_law_told", [("what" : Str)], "what", _, _, dV, kV, doc, pm, cdv, ct, oc, an, od, osl, _, _, _, _, _, _, g_ E "_law_told" (by decide +kernel), kp, lk, hcd, b, ⟨rfl, rfl, rfl, NmB.nd (by decide +kernel), rfl, by decide +kernel, by decide +kernel⟩, rfl, .inl (by rfl), ?_, fun _ => rfl, by decide, by decide⟩
  exact .cons (by rfl) (by decide) (g_ E "BadSize" (by decide +kernel)) (.cons (by rfl) (by decide) (g_ E "BadPlan" (by decide +kernel)) (.cons (by rfl) (by decide) (g_ E "NoSuch" (by decide +kernel)) (.cons (by rfl) (by decide) (g_ E "NoRoom" (by decide +kernel)) (.cons (by rfl) (by decide) (g_ E "NoWay" (by decide +kernel)) (.cons (by rfl) (by decide) (g_ E "Snaps" (by decide +kernel)) (.cons (by rfl) (by decide) (g_ E "BadText" (by decide +kernel)) (.cons (by rfl) (by decide) (g_ E "BadDeed" (by decide +kernel)) (.nil))))))))
theorem told_ (f : Nat) (x : Str) (h : C.tnm[f]? = some (some x)) : Told W x ((P.tl f).map fun q => (He.ga W.K (hd.ex q.1), q.2)) := by
  have hl : f ∈ List.range C.tnm.length := List.mem_range.mpr (List.getElem?_eq_some_iff.mp h).1
  have hb : ((List.range C.tnm.length).all fun f => f == 28 && C.tnm[f]? == some (some ("_law_told" : Str)) ||  C.tnm[f]? == some none) = true := by decide +kernel
  have hb := List.all_eq_true.mp hb f hl
  rw [h] at hb
  simp at hb
  obtain ⟨rfl, rfl⟩ := hb
  exact told__law_told E
theorem sk : Sk W P C (fun c => He.ga W.K (hd.ex c)) fn tq dl := sk_of E (by decide +kernel) (by decide +kernel) (by decide +kernel) (by decide +kernel) (by decide +kernel) (by decide +kernel) ex_gl frs (fun _ => rfl) (fun _ => rfl) (told_ E)
end
end K04
end
section
namespace K04
open PySem PySem.Spec Ac
theorem fn_0 : P.fns[0]? = some ⟨3, 3, t_Round_init, 0⟩ := (rfl)
theorem rn_Round_init (k : Nat) (args : List D) (L : Mu) : Ac.run P (k + 1) 0 args L = fnR P k (some ⟨3, 3, t_Round_init, 0⟩) args L := run_s
theorem fn_1 : P.fns[1]? = some ⟨1, 2, t_Round_spokes, 0⟩ := (rfl)
theorem rn_Round_spokes (k : Nat) (args : List D) (L : Mu) : Ac.run P (k + 1) 1 args L = fnR P k (some ⟨1, 2, t_Round_spokes, 0⟩) args L := run_s
theorem fn_2 : P.fns[2]? = some ⟨1, 1, t_Round_open_out, 0⟩ := (rfl)
theorem rn_Round_open_out (k : Nat) (args : List D) (L : Mu) : Ac.run P (k + 1) 2 args L = fnR P k (some ⟨1, 1, t_Round_open_out, 0⟩) args L := run_s
theorem fn_3 : P.fns[3]? = some ⟨2, 2, t_Round_weave, 0⟩ := (rfl)
theorem rn_Round_weave (k : Nat) (args : List D) (L : Mu) : Ac.run P (k + 1) 3 args L = fnR P k (some ⟨2, 2, t_Round_weave, 0⟩) args L := run_s
theorem fn_4 : P.fns[4]? = some ⟨1, 4, t_Round_half_width, 0⟩ := (rfl)
theorem rn_Round_half_width (k : Nat) (args : List D) (L : Mu) : Ac.run P (k + 1) 4 args L = fnR P k (some ⟨1, 4, t_Round_half_width, 0⟩) args L := run_s
theorem fn_5 : P.fns[5]? = some ⟨1, 1, t_Round_gap, 0⟩ := (rfl)
theorem rn_Round_gap (k : Nat) (args : List D) (L : Mu) : Ac.run P (k + 1) 5 args L = fnR P k (some ⟨1, 1, t_Round_gap, 0⟩) args L := run_s
theorem fn_6 : P.fns[6]? = some ⟨1, 3, t_Round_unweave, 0⟩ := (rfl)
theorem rn_Round_unweave (k : Nat) (args : List D) (L : Mu) : Ac.run P (k + 1) 6 args L = fnR P k (some ⟨1, 3, t_Round_unweave, 0⟩) args L := run_s
theorem fn_7 : P.fns[7]? = some ⟨1, 5, t_Round_used, 0⟩ := (rfl)
theorem rn_Round_used (k : Nat) (args : List D) (L : Mu) : Ac.run P (k + 1) 7 args L = fnR P k (some ⟨1, 5, t_Round_used, 0⟩) args L := run_s
theorem fn_8 : P.fns[8]? = some ⟨1, 1, t_Round_shown, 0⟩ := (rfl)
theorem rn_Round_shown (k : Nat) (args : List D) (L : Mu) : Ac.run P (k + 1) 8 args L = fnR P k (some ⟨1, 1, t_Round_shown, 0⟩) args L := run_s
theorem fn_9 : P.fns[9]? = some ⟨4, 4, t_Oval_init, 0⟩ := (rfl)
theorem rn_Oval_init (k : Nat) (args : List D) (L : Mu) : Ac.run P (k + 1) 9 args L = fnR P k (some ⟨4, 4, t_Oval_init, 0⟩) args L := run_s
theorem fn_10 : P.fns[10]? = some ⟨1, 1, t_Oval_length, 0⟩ := (rfl)
theorem rn_Oval_length (k : Nat) (args : List D) (L : Mu) : Ac.run P (k + 1) 10 args L = fnR P k (some ⟨1, 1, t_Oval_length, 0⟩) args L := run_s
theorem fn_11 : P.fns[11]? = some ⟨1, 1, t_Oval_rim, 0⟩ := (rfl)
theorem rn_Oval_rim (k : Nat) (args : List D) (L : Mu) : Ac.run P (k + 1) 11 args L = fnR P k (some ⟨1, 1, t_Oval_rim, 0⟩) args L := run_s
theorem fn_12 : P.fns[12]? = some ⟨2, 2, t_Oval_grown, 0⟩ := (rfl)
theorem rn_Oval_grown (k : Nat) (args : List D) (L : Mu) : Ac.run P (k + 1) 12 args L = fnR P k (some ⟨2, 2, t_Oval_grown, 0⟩) args L := run_s
theorem fn_13 : P.fns[13]? = some ⟨2, 3, t_Oval_stake_count, 0⟩ := (rfl)
theorem rn_Oval_stake_count (k : Nat) (args : List D) (L : Mu) : Ac.run P (k + 1) 13 args L = fnR P k (some ⟨2, 3, t_Oval_stake_count, 0⟩) args L := run_s
theorem fn_14 : P.fns[14]? = some ⟨2, 4, t_Oval_lies_flat, 0⟩ := (rfl)
theorem rn_Oval_lies_flat (k : Nat) (args : List D) (L : Mu) : Ac.run P (k + 1) 14 args L = fnR P k (some ⟨2, 4, t_Oval_lies_flat, 0⟩) args L := run_s
theorem fn_15 : P.fns[15]? = some ⟨1, 1, t_Oval_key, 0⟩ := (rfl)
theorem rn_Oval_key (k : Nat) (args : List D) (L : Mu) : Ac.run P (k + 1) 15 args L = fnR P k (some ⟨1, 1, t_Oval_key, 0⟩) args L := run_s
theorem fn_16 : P.fns[16]? = some ⟨1, 3, t_dish_deep, 0⟩ := (rfl)
theorem rn_dish_deep (k : Nat) (args : List D) (L : Mu) : Ac.run P (k + 1) 16 args L = fnR P k (some ⟨1, 3, t_dish_deep, 0⟩) args L := run_s
theorem fn_17 : P.fns[17]? = some ⟨3, 4, t_stakes_round, 0⟩ := (rfl)
theorem rn_stakes_round (k : Nat) (args : List D) (L : Mu) : Ac.run P (k + 1) 17 args L = fnR P k (some ⟨3, 4, t_stakes_round, 0⟩) args L := run_s
theorem fn_18 : P.fns[18]? = some ⟨3, 3, t_Board_init, 0⟩ := (rfl)
theorem rn_Board_init (k : Nat) (args : List D) (L : Mu) : Ac.run P (k + 1) 18 args L = fnR P k (some ⟨3, 3, t_Board_init, 0⟩) args L := run_s
theorem fn_19 : P.fns[19]? = some ⟨4, 6, t_Board_lay, 0⟩ := (rfl)
theorem rn_Board_lay (k : Nat) (args : List D) (L : Mu) : Ac.run P (k + 1) 19 args L = fnR P k (some ⟨4, 6, t_Board_lay, 0⟩) args L := run_s
theorem fn_20 : P.fns[20]? = some ⟨1, 4, t_Board_covered, 0⟩ := (rfl)
theorem rn_Board_covered (k : Nat) (args : List D) (L : Mu) : Ac.run P (k + 1) 20 args L = fnR P k (some ⟨1, 4, t_Board_covered, 0⟩) args L := run_s
theorem fn_21 : P.fns[21]? = some ⟨1, 5, t_Board_seams, 1⟩ := (rfl)
theorem rn_Board_seams (k : Nat) (args : List D) (L : Mu) : Ac.run P (k + 1) 21 args L = fnR P k (some ⟨1, 5, t_Board_seams, 1⟩) args L := run_s
theorem fn_22 : P.fns[22]? = some ⟨2, 5, t_Board_holder, 0⟩ := (rfl)
theorem rn_Board_holder (k : Nat) (args : List D) (L : Mu) : Ac.run P (k + 1) 22 args L = fnR P k (some ⟨2, 5, t_Board_holder, 0⟩) args L := run_s
theorem fn_23 : P.fns[23]? = some ⟨1, 1, t_Board_shown, 0⟩ := (rfl)
theorem rn_Board_shown (k : Nat) (args : List D) (L : Mu) : Ac.run P (k + 1) 23 args L = fnR P k (some ⟨1, 1, t_Board_shown, 0⟩) args L := run_s
theorem fn_24 : P.fns[24]? = some ⟨2, 7, t_best_boards, 0⟩ := (rfl)
theorem rn_best_boards (k : Nat) (args : List D) (L : Mu) : Ac.run P (k + 1) 24 args L = fnR P k (some ⟨2, 7, t_best_boards, 0⟩) args L := run_s
theorem fn_25 : P.fns[25]? = some ⟨1, 1, t__law_dice, 0⟩ := (rfl)
theorem rn__law_dice (k : Nat) (args : List D) (L : Mu) : Ac.run P (k + 1) 25 args L = fnR P k (some ⟨1, 1, t__law_dice, 0⟩) args L := run_s
theorem fn_26 : P.fns[26]? = some ⟨2, 3, t__law_roll, 0⟩ := (rfl)
theorem rn__law_roll (k : Nat) (args : List D) (L : Mu) : Ac.run P (k + 1) 26 args L = fnR P k (some ⟨2, 3, t__law_roll, 0⟩) args L := run_s
theorem fn_27 : P.fns[27]? = some ⟨2, 5, t__law_rounds, 0⟩ := (rfl)
theorem rn__law_rounds (k : Nat) (args : List D) (L : Mu) : Ac.run P (k + 1) 27 args L = fnR P k (some ⟨2, 5, t__law_rounds, 0⟩) args L := run_s
theorem fn_28 : P.fns[28]? = some ⟨1, 1, t__law_told, 0⟩ := (rfl)
theorem rn__law_told (k : Nat) (args : List D) (L : Mu) : Ac.run P (k + 1) 28 args L = fnR P k (some ⟨1, 1, t__law_told, 0⟩) args L := run_s
theorem fn_29 : P.fns[29]? = some ⟨1, 5, t__law_sets, 0⟩ := (rfl)
theorem rn__law_sets (k : Nat) (args : List D) (L : Mu) : Ac.run P (k + 1) 29 args L = fnR P k (some ⟨1, 5, t__law_sets, 0⟩) args L := run_s
theorem fn_30 : P.fns[30]? = some ⟨4, 6, t__law_word, 0⟩ := (rfl)
theorem rn__law_word (k : Nat) (args : List D) (L : Mu) : Ac.run P (k + 1) 30 args L = fnR P k (some ⟨4, 6, t__law_word, 0⟩) args L := run_s
theorem fn_31 : P.fns[31]? = some ⟨0, 2, t__law_cases1, 1⟩ := (rfl)
theorem rn__law_cases1 (k : Nat) (args : List D) (L : Mu) : Ac.run P (k + 1) 31 args L = fnR P k (some ⟨0, 2, t__law_cases1, 1⟩) args L := run_s
theorem fn_32 : P.fns[32]? = some ⟨1, 1, t__law_rest2, 1⟩ := (rfl)
theorem rn__law_rest2 (k : Nat) (args : List D) (L : Mu) : Ac.run P (k + 1) 32 args L = fnR P k (some ⟨1, 1, t__law_rest2, 1⟩) args L := run_s
theorem fn_33 : P.fns[33]? = some ⟨4, 26, t__law_rest1, 1⟩ := (rfl)
theorem rn__law_rest1 (k : Nat) (args : List D) (L : Mu) : Ac.run P (k + 1) 33 args L = fnR P k (some ⟨4, 26, t__law_rest1, 1⟩) args L := run_s
theorem fn_34 : P.fns[34]? = some ⟨1, 11, t__law_rest3, 0⟩ := (rfl)
theorem rn__law_rest3 (k : Nat) (args : List D) (L : Mu) : Ac.run P (k + 1) 34 args L = fnR P k (some ⟨1, 11, t__law_rest3, 0⟩) args L := run_s
theorem fn_35 : P.fns[35]? = some ⟨1, 19, t_law, 1⟩ := (rfl)
theorem rn_law (k : Nat) (args : List D) (L : Mu) : Ac.run P (k + 1) 35 args L = fnR P k (some ⟨1, 19, t_law, 1⟩) args L := run_s
theorem cl_0 : P.cls[0]? = some ⟨0, false, [0, 1, 2, 3], [(4, 1), (5, 2), (6, 3), (7, 4), (8, 5), (9, 6), (10, 7), (11, 8)]⟩ := (rfl)
theorem fx_0_0 : fix P 0 0 = some 0 := (rfl)
theorem fx_0_1 : fix P 0 1 = some 1 := (rfl)
theorem fx_0_2 : fix P 0 2 = some 2 := (rfl)
theorem fx_0_3 : fix P 0 3 = some 3 := (rfl)
theorem mx_0_4 : mtx P 0 4 = some 1 := (rfl)
theorem mx_0_5 : mtx P 0 5 = some 2 := (rfl)
theorem mx_0_6 : mtx P 0 6 = some 3 := (rfl)
theorem mx_0_7 : mtx P 0 7 = some 4 := (rfl)
theorem mx_0_8 : mtx P 0 8 = some 5 := (rfl)
theorem mx_0_9 : mtx P 0 9 = some 6 := (rfl)
theorem mx_0_10 : mtx P 0 10 = some 7 := (rfl)
theorem mx_0_11 : mtx P 0 11 = some 8 := (rfl)
theorem cl_1 : P.cls[1]? = some ⟨9, true, [12, 3, 13], [(14, 10), (15, 11), (16, 12), (17, 13), (18, 14), (19, 15)]⟩ := (rfl)
theorem fx_1_12 : fix P 1 12 = some 0 := (rfl)
theorem fx_1_3 : fix P 1 3 = some 1 := (rfl)
theorem fx_1_13 : fix P 1 13 = some 2 := (rfl)
theorem mx_1_14 : mtx P 1 14 = some 10 := (rfl)
theorem mx_1_15 : mtx P 1 15 = some 11 := (rfl)
theorem mx_1_16 : mtx P 1 16 = some 12 := (rfl)
theorem mx_1_17 : mtx P 1 17 = some 13 := (rfl)
theorem mx_1_18 : mtx P 1 18 = some 14 := (rfl)
theorem mx_1_19 : mtx P 1 19 = some 15 := (rfl)
theorem cl_2 : P.cls[2]? = some ⟨18, false, [20, 21, 22], [(23, 19), (24, 20), (25, 21), (26, 22), (11, 23)]⟩ := (rfl)
theorem fx_2_20 : fix P 2 20 = some 0 := (rfl)
theorem fx_2_21 : fix P 2 21 = some 1 := (rfl)
theorem fx_2_22 : fix P 2 22 = some 2 := (rfl)
theorem mx_2_23 : mtx P 2 23 = some 19 := (rfl)
theorem mx_2_24 : mtx P 2 24 = some 20 := (rfl)
theorem mx_2_25 : mtx P 2 25 = some 21 := (rfl)
theorem mx_2_26 : mtx P 2 26 = some 22 := (rfl)
theorem mx_2_11 : mtx P 2 11 = some 23 := (rfl)
theorem td_28_1 (p : Option D) (L : Mu) : tld P 28 (.ex 1 p L) = .ok (.str [115, 105, 122, 101]) L := (rfl)
theorem td_28_2 (p : Option D) (L : Mu) : tld P 28 (.ex 2 p L) = .ok (.str [112, 108, 97, 110]) L := (rfl)
theorem td_28_3 (p : Option D) (L : Mu) : tld P 28 (.ex 3 p L) = .ok (.str [110, 111, 32, 115, 117, 99, 104]) L := (rfl)
theorem td_28_4 (p : Option D) (L : Mu) : tld P 28 (.ex 4 p L) = .ok (.str [110, 111, 32, 114, 111, 111, 109]) L := (rfl)
theorem td_28_5 (p : Option D) (L : Mu) : tld P 28 (.ex 5 p L) = .ok (.str [110, 111, 32, 119, 97, 121]) L := (rfl)
theorem td_28_6 (p : Option D) (L : Mu) : tld P 28 (.ex 6 p L) = .ok (.str [115, 110, 97, 112, 115]) L := (rfl)
theorem td_28_8 (p : Option D) (L : Mu) : tld P 28 (.ex 8 p L) = .ok (.str [100, 101, 101, 100]) L := (rfl)
theorem tk_0 : tOk [100, 101, 101, 100] = true := by decide +kernel
theorem tk_1 : tOk [102] = true := by decide +kernel
theorem tk_2 : tOk [103] = true := by decide +kernel
theorem tk_3 : tOk [104] = true := by decide +kernel
theorem tk_4 : tOk [105] = true := by decide +kernel
theorem tk_5 : tOk [106] = true := by decide +kernel
theorem tk_6 : tOk [110, 111, 110, 101] = true := by decide +kernel
theorem tk_7 : tOk [110, 111, 116, 32, 106, 117, 115, 116, 32, 115, 111] = true := by decide +kernel
theorem tk_8 : tOk [110, 111, 32, 103, 97, 112] = true := by decide +kernel
theorem tk_9 : tOk [110, 111, 32, 111, 118, 97, 108] = true := by decide +kernel
theorem tk_10 : tOk [110, 111, 32, 114, 105, 109] = true := by decide +kernel
theorem tk_11 : tOk [110, 111, 32, 114, 111, 111, 109] = true := by decide +kernel
theorem tk_12 : tOk [110, 111, 32, 114, 111, 117, 110, 100] = true := by decide +kernel
theorem tk_13 : tOk [110, 111, 32, 115, 117, 99, 104] = true := by decide +kernel
theorem tk_14 : tOk [110, 111, 32, 116, 119, 105, 115, 116] = true := by decide +kernel
theorem tk_15 : tOk [110, 111, 32, 119, 97, 121] = true := by decide +kernel
theorem tk_16 : tOk [110, 111, 32, 98, 111, 116, 116, 111, 109] = true := by decide +kernel
theorem tk_17 : tOk [110, 111, 32, 99, 114, 111, 115, 115] = true := by decide +kernel
theorem tk_18 : tOk [112, 108, 97, 110] = true := by decide +kernel
theorem tk_19 : tOk [112, 113, 114, 115] = true := by decide +kernel
theorem tk_20 : tOk [115, 105, 122, 101] = true := by decide +kernel
theorem tk_21 : tOk [115, 110, 97, 112, 115] = true := by decide +kernel
theorem tk_22 : tOk [115] = true := by decide +kernel
theorem tk_23 : tOk [116, 101, 120, 116] = true := by decide +kernel
theorem tk_24 : tOk [116, 104, 101, 114, 101, 44, 32, 111, 114, 32, 110, 111, 110, 101] = true := by decide +kernel
theorem tk_25 : tOk [116, 111, 111, 32, 109, 97, 110, 121] = true := by decide +kernel
theorem tk_26 : tOk [116, 111, 111, 32, 115, 104, 111, 114, 116] = true := by decide +kernel
theorem tk_27 : tOk [119, 101, 97, 118, 101, 32, 102, 105, 114, 115, 116] = true := by decide +kernel
theorem tk_28 : tOk [120] = true := by decide +kernel
theorem tk_29 : tOk [122, 115] = true := by decide +kernel
theorem tk_30 : tOk [122] = true := by decide +kernel
theorem tk_31 : tOk [97, 108, 108, 32, 111, 112, 101, 110] = true := by decide +kernel
theorem tk_32 : tOk [97, 32, 115, 116, 101, 112] = true := by decide +kernel
theorem tk_33 : tOk [98, 101, 108, 111, 119, 32, 110, 111, 117, 103, 104, 116] = true := by decide +kernel
theorem tk_34 : tOk [] = true := by decide +kernel
end K04
end
section
open PySem PySem.Spec Ac
section
local macro_rules | `(tactic| walk_at "ev") => `(tactic| simp (disch := first | assumption | omega | (refine @id _ ?_; with_unfolding_all rfl) | (refine @id _ ?_; intro z hz; with_unfolding_all rfl) | (intro z hz; simp only [*]; done)) only [K04.rn_Round_shown, K04.t_Round_shown, gn_nil, gn_cons, gnY_n, gnY_any, gnY_all, gnY_sum, gkF_any, gkF_all, gkF_sum, sv_whl, rg00, rg01, rg02, rg03, rg04, rg05, rg06, rg07, rg08, rg09, rg11, rg12, rg13, rg14, cut_take, cut_drop, rsvs_mapF, deqs_mapF, apg0, apg1, apg2, aps0, aps1, aps2, apt, get_rg0, get_mapI, rg_len, List.take_nil, List.drop_nil, List.drop_succ_cons, List.drop_zero, K04.cl_0, K04.fx_0_0, K04.fx_0_1, K04.fx_0_2, K04.fx_0_3, K04.mx_0_4, K04.mx_0_5, K04.mx_0_6, K04.mx_0_7, K04.mx_0_8, K04.mx_0_9, K04.mx_0_10, K04.mx_0_11, K04.cl_1, K04.fx_1_12, K04.fx_1_3, K04.fx_1_13, K04.mx_1_14, K04.mx_1_15, K04.mx_1_16, K04.mx_1_17, K04.mx_1_18, K04.mx_1_19, K04.cl_2, K04.fx_2_20, K04.fx_2_21, K04.fx_2_22, K04.mx_2_23, K04.mx_2_24, K04.mx_2_25, K04.mx_2_26, K04.mx_2_11, K04.td_28_1, K04.td_28_2, K04.td_28_3, K04.td_28_4, K04.td_28_5, K04.td_28_6, K04.td_28_8, K04.tk_0, K04.tk_1, K04.tk_2, K04.tk_3, K04.tk_4, K04.tk_5, K04.tk_6, K04.tk_7, K04.tk_8, K04.tk_9, K04.tk_10, K04.tk_11, K04.tk_12, K04.tk_13, K04.tk_14, K04.tk_15, K04.tk_16, K04.tk_17, K04.tk_18, K04.tk_19, K04.tk_20, K04.tk_21, K04.tk_22, K04.tk_23, K04.tk_24, K04.tk_25, K04.tk_26, K04.tk_27, K04.tk_28, K04.tk_29, K04.tk_30, K04.tk_31, K04.tk_32, K04.tk_33, K04.tk_34, fnR_0, fnR_1, fnR_2, 
  ev_loc, ev_glb, ev_non, ev_bl, ev_int, ev_str, ev_bin, ev_binM, o2M_rep, o2M_cat, ev_neg, ev_cmp, ev_chn, ev_and, ev_or, ev_not, ev_ite, ev_nil, ev_cons, ev_tup, ev_lst, ev_ix, ev_sl, ev_call, ev_mk, ev_meth, ev_fld, ev_bi, ev_bm, ev_rng, ev_lrg, ev_lcx, ev_genx, ev_told, ev_itr, ev_lrm, ev_pop0, oc_is, oc_isnt, isN_n, isN_i, isN_s, isN_t, isN_l, isN_r, okL_s, bmP_app, bmP_pop, bmP_cnt, bmP_cntC, bmP_sw, bmP_join, appR_s, bm_app, bmP_scnt, bm_scnt, bmP_idx, bmP_idxC, ntR_s, bm_cntI, bm_cntIC, tnR_s, niR_s, tiR_s, bm_cntS, bm_idxI, bm_idxS, lbR_s, bm_cntSC, bm_idxIC, bm_idxSC, bm_pop, popR_0, popR_s, pop0_C, pop0R_s, itr_tup', itr_lst', itr_str', enm_nil', enm_cons', lrm_s, srR_s, srR_t, srR_d, srK_s, srK_t, srC_l, srC_d, bi_srtD, bi_srtC, bi_srtI, smR_s, bi_sumI, bi_sumT, map_app1, appI_s, ints_app, ints_nil, consI_s, ints_cons, ints_map, appD_s, rsvs_app, rsS_t, rsv_strT, deqs_ints, in_sg, nin_sg, List.mem_cons, List.not_mem_nil, or_false, false_or, or_true, true_or, in_intsT, in_intsL, List.append_nil,
  sv_skip, sv_ex, sv_ret, sv_retN, sv_ifs, sv_brk, sv_cnt, sv_rse, sv_nil, sv_seq, sv_for, sv_asgl, sv_asgt, sv_asgi, sv_asgf, sv_augl, sv_augf, sv_augx, asg_loc, asg_tup, gdG_t, asgs_nil, asgs_cons, asg_ix, lenT,
  kE_ok, kE_ex, kE_fk, kB_ok, kB_ex, kB_fk, kI_ok, kI_ex, kI_fk, kA_ok, kA_ex, kA_fk, zE_ok, zE_ex, zE_fk, zB_ok, zB_ex, zB_fk, gxE_ok, gxE_ex, gxQ_ok, gxQ_ex, zG_ok, zG_ex, zQ_nx, zQ_rt, zQ_bk, zQ_ct, zQ_ex, zQ_fk, loop_nx, loop_ct, loop_bk, loop_rt, loop_ex, loop_fk, svR_nx, svR_rt, svR_ex, svR_fk, tld_fk, tld_ok, fk_dt, fk_df, fkS_dt, fkS_df, fkO_dt, fkO_df, fk_t, fk_f, fkS_t, fkS_f, fk_not, fkS_not, fk_and, fkS_and, fk_or, fkS_or, itK_s, itZ_s, mtK_s, gd_t, gd_p, gd_and, gdS_t, gdS_p, stands_n, locO_s, glbO_s,
  o2_add, o2_sub, o2_mul, o2_fdiv, o2_mod, o2_pow, o2_adds, o2_catT, o2_cat, o2_rep, o2i_add, o2i_sub, o2i_mul, o2i_adds, oc_lt, bi_strI, bi_strS, oc_lts, oc_les, oc_gts, oc_ges, oc_le, oc_gt, oc_ge, oc_eqi, oc_nei, oc_eq, oc_ne, eqR_s, neR_s,
  rsv_non, rsv_bl, rsv_int, rsv_tup, rsv_lst, rsC_s, rsv_rf, rsvs_nil, rcs_s, rsvs_cons, rsvs_ints, mapS,
  deq_int, deq_bl, deq_str, deq_tup, deq_lst, deqs_nil, deqs_cons, deqs_nc, deqs_cn, deq_non, deq_non_int, deq_non_str, deq_non_tup, deq_non_lst, deq_int_non, deq_int_str, deq_int_tup, deq_int_lst, deq_str_non, deq_str_int, deq_str_tup, deq_str_lst, deq_tup_non, deq_tup_int, deq_tup_str, deq_tup_lst, deq_lst_non, deq_lst_int, deq_lst_str, deq_lst_tup, deq_bl_str, deq_str_bl,
  cellL_s, lsO_lst, lsO_lsk, lsO_rf, ltO_lst, ltO_rf, sqO_tup, sqO_lst, sqO_lsk, sqO_rf, itC_s, itO_tup, itO_lst, itO_lsk, itO_str, itO_rf, cellI_s, insO_obj, insO_rf, fldJ_s, fldR_s, fldO_R, mthR_s, methF_R, sflJ_s, sflR_s, sfl_R, atR_s, ix_tup, ix_lst, ixR_s, ixR_d, ix_rfS, ixK_s, ix_dctS, ix_dctI, cellL_d, cellD_s, cellD_l, dcO_dct, dcO_rf, rsC_d, rsv_dct, eqR_d, neR_d, bi_lenD, dctR_s, mkDc_t, mkDc_f, bi_dct, lenR_d, bi_srtT, ix_rf, ix_str, strR_s, get_tx, joR_s, bm_joinL, txs_map, joinL_0, flat_sing, len_sing, Nat.mul_zero, at_pos, stL_s, stJ_s, sto_rf, sto_rfS, stG_s, stR_s, stK_s, stL_d, stS_s, gto_rf, gto_rfS, gtL_s, gtL_d, gtS_s, ixN_pos, sl_tup, sl_lst, sl_lsk, lenR_s, bi_lenS, bi_lenT, bi_lenL, bi_lenC, bi_abs, bi_min2, bi_max2, bi_min3, bi_max3, bi_min4, lsC_s, bi_minC, bi_maxC, lsIR_i, lsIR_t, lsIR_d, bi_minL, bi_minT, bi_maxL, bi_maxT, ints_t, tps_map, ints_tps, bi_int, bi_intB, mk_f, mk_t, bi_listT, bi_listL, bi_tupT, bi_tupL, tupR_s, bi_tupC, listR_s, bi_listC, rgR_1, rgR_2, rgL_1, rgL_2,
  fin1_ok, fin1_ex, dzC_d, dfz_dct, dfzk_ints, blwk_ints, finZ_s, fin2_ok, fin2_ex, fin_fk, wf_nil, wf_cons, blw_ins, blw_dc, blw_lst, blws_nil, blws_cons, blw_int, blw_bl, blw_non, blw_str, blw_tup, blw_lst', blw_obj, blw_rf, blws_ints, dzC_i, dzC_l, dfz_rf, dfz_old, dfz_int, dfz_bl, dfz_non, dfz_str, dfz_tup, dfz_lst, dfz_obj, dfzs_nil, dfzs_cons, dfzs_ints, payB,
  at_0, mkR_f, mkR_m, mkR_ex, mkR_fk, mkC_s, mkO_C, putX_d, augR_s, augF_s, augJ_s, augD_rf, forF_nil, forF_cons, seO_ok, seO_fk, cdK_ok, cdK_fk, fkO_t, fkO_f, fkO_not, fkO_and, fkO_or, asK_s, asgN_loc, asgN_tup, asgNs_nil, asN_s, asgNs_cons, wipe_nil, wipe_cons, lcf_k, oK_s, oK_fk, lcR_n, lcR_c, lcN_nil, lcN_cons,
  isNop, List.length_cons, List.length_nil, List.length_append, List.length_map, List.length_set, List.getElem?_cons_succ, List.getElem?_cons_zero, List.map_cons, List.map_nil, List.cons_append, List.nil_append, List.append_assoc, List.set_set, nc2, nc3, nc4, nc5, nc6, nc7, nc8, nc9, nc10, nc11, nc12, nc13, nc14, nc15, nc16, Int.natCast_zero, Int.natCast_one, List.set_cons_succ, List.set_cons_zero, List.take_succ_cons, List.take_zero, List.replicate_succ, List.replicate_zero, Nat.reduceSub, Nat.reduceAdd, Nat.reduceEqDiff, Nat.reduceLT, Nat.reduceLeDiff, Nat.reduceBEq, Nat.zero_add, Nat.add_zero, Int.reduceToNat, Int.reduceLT, Int.reduceLE, Int.reduceAdd, Int.reduceSub, Int.reduceMul, Int.reduceNeg, Int.reduceEq, if_true, if_false, ite_true, ite_false, Bool.and_true, Bool.true_and, Bool.and_self, Bool.and_false, Bool.false_and, Bool.not_true, Bool.not_false, Bool.or_false, Bool.false_or, Bool.or_true, Bool.true_or, decide_true, decide_false, eq_self, List.cons.injEq, and_true, true_and, and_self, and_false, false_and,  Option.toList, beq_self_eq_true, reduceCtorEq, *])

local macro_rules | `(tactic| walk_at "evm") => `(tactic| simp (disch := first | assumption | omega | (refine @id _ ?_; with_unfolding_all rfl) | (refine @id _ ?_; intro z hz; with_unfolding_all rfl) | (intro z hz; simp only [*]; done)) only [K04.rn_Round_shown, K04.t_Round_shown, gn_nil, gn_cons, gnY_n, gnY_any, gnY_all, gnY_sum, gkF_any, gkF_all, gkF_sum, sv_whl, rg00, rg01, rg02, rg03, rg04, rg05, rg06, rg07, rg08, rg09, rg11, rg12, rg13, rg14, cut_take, cut_drop, rsvs_mapF, deqs_mapF, apg0, apg1, apg2, aps0, aps1, aps2, apt, get_rg0, get_mapI, rg_len, List.take_nil, List.drop_nil, List.drop_succ_cons, List.drop_zero, K04.cl_0, K04.fx_0_0, K04.fx_0_1, K04.fx_0_2, K04.fx_0_3, K04.mx_0_4, K04.mx_0_5, K04.mx_0_6, K04.mx_0_7, K04.mx_0_8, K04.mx_0_9, K04.mx_0_10, K04.mx_0_11, K04.cl_1, K04.fx_1_12, K04.fx_1_3, K04.fx_1_13, K04.mx_1_14, K04.mx_1_15, K04.mx_1_16, K04.mx_1_17, K04.mx_1_18, K04.mx_1_19, K04.cl_2, K04.fx_2_20, K04.fx_2_21, K04.fx_2_22, K04.mx_2_23, K04.mx_2_24, K04.mx_2_25, K04.mx_2_26, K04.mx_2_11, K04.td_28_1, K04.td_28_2, K04.td_28_3, K04.td_28_4, K04.td_28_5, K04.td_28_6, K04.td_28_8, K04.tk_0, K04.tk_1, K04.tk_2, K04.tk_3, K04.tk_4, K04.tk_5, K04.tk_6, K04.tk_7, K04.tk_8, K04.tk_9, K04.tk_10, K04.tk_11, K04.tk_12, K04.tk_13, K04.tk_14, K04.tk_15, K04.tk_16, K04.tk_17, K04.tk_18, K04.tk_19, K04.tk_20, K04.tk_21, K04.tk_22, K04.tk_23, K04.tk_24, K04.tk_25, K04.tk_26, K04.tk_27, K04.tk_28, K04.tk_29, K04.tk_30, K04.tk_31, K04.tk_32, K04.tk_33, K04.tk_34, fnR_0, fnR_1, fnR_2, 
  ev_loc, ev_glb, ev_non, ev_bl, ev_int, ev_str, ev_bin, ev_binM, o2M_rep, o2M_cat, ev_neg, ev_cmp, ev_chn, ev_and, ev_or, ev_not, ev_ite, ev_nil, ev_cons, ev_tup, ev_lst, ev_ix, ev_sl, ev_call, ev_mk, ev_meth, ev_fld, ev_bi, ev_bm, ev_rng, ev_lrg, ev_lcx, ev_genx, ev_told, ev_itr, ev_lrm, ev_pop0, oc_is, oc_isnt, isN_n, isN_i, isN_s, isN_t, isN_l, isN_r, okL_s, bmP_app, bmP_pop, bmP_cnt, bmP_cntC, bmP_sw, bmP_join, appR_s, bm_app, bmP_scnt, bm_scnt, bmP_idx, bmP_idxC, ntR_s, bm_cntI, bm_cntIC, tnR_s, niR_s, tiR_s, bm_cntS, bm_idxI, bm_idxS, lbR_s, bm_cntSC, bm_idxIC, bm_idxSC, bm_pop, popR_0, popR_s, pop0_C, pop0R_s, itr_tup', itr_lst', itr_str', enm_nil', enm_cons', lrm_s, srR_s, srR_t, srR_d, srK_s, srK_t, srC_l, srC_d, bi_srtD, bi_srtC, bi_srtI, smR_s, bi_sumI, bi_sumT, map_app1, appI_s, ints_app, ints_nil, consI_s, ints_cons, ints_map, appD_s, rsvs_app, rsS_t, rsv_strT, deqs_ints, in_sg, nin_sg, List.mem_cons, List.not_mem_nil, or_false, false_or, or_true, true_or, in_intsT, in_intsL, List.append_nil,
  sv_skip, sv_ex, sv_ret, sv_retN, sv_ifs, sv_brk, sv_cnt, sv_rse, sv_nil, sv_seq, sv_for, sv_asgl, sv_asgt, sv_asgi, sv_asgf, sv_augl, sv_augf, sv_augx, asg_loc, asg_tup, gdG_t, asgs_nil, asgs_cons, asg_ix, lenT,
  kE_ok, kE_ex, kE_fk, kB_ok, kB_ex, kB_fk, kI_ok, kI_ex, kI_fk, kA_ok, kA_ex, kA_fk, zE_ok, zE_ex, zE_fk, zB_ok, zB_ex, zB_fk, gxE_ok, gxE_ex, gxQ_ok, gxQ_ex, zG_ok, zG_ex, zQ_nx, zQ_rt, zQ_bk, zQ_ct, zQ_ex, zQ_fk, loop_nx, loop_ct, loop_bk, loop_rt, loop_ex, loop_fk, svR_nx, svR_rt, svR_ex, svR_fk, tld_fk, tld_ok, fk_dt, fk_df, fkS_dt, fkS_df, fkO_dt, fkO_df, fk_t, fk_f, fkS_t, fkS_f, fk_not, fkS_not, fk_and, fkS_and, fk_or, fkS_or, itK_s, itZ_s, mtK_s, gd_t, gd_p, gd_and, gdS_t, gdS_p, stands_n, locO_s, glbO_s,
  o2_add, o2_sub, o2_mul, o2_fdiv, o2_mod, o2_pow, o2_adds, o2_catT, o2_cat, o2_rep, o2i_add, o2i_sub, o2i_mul, o2i_adds, oc_lt, bi_strI, bi_strS, oc_lts, oc_les, oc_gts, oc_ges, oc_le, oc_gt, oc_ge, oc_eqi, oc_nei, oc_eq, oc_ne, eqR_s, neR_s,
  rsv_non, rsv_bl, rsv_int, rsv_tup, rsv_lst, rsC_s, rsv_rf, rsvs_nil, rcs_s, rsvs_cons, rsvs_ints, mapS,
  deq_int, deq_bl, deq_str, deq_tup, deq_lst, deqs_nil, deqs_cons, deqs_nc, deqs_cn, deq_non, deq_non_int, deq_non_str, deq_non_tup, deq_non_lst, deq_int_non, deq_int_str, deq_int_tup, deq_int_lst, deq_str_non, deq_str_int, deq_str_tup, deq_str_lst, deq_tup_non, deq_tup_int, deq_tup_str, deq_tup_lst, deq_lst_non, deq_lst_int, deq_lst_str, deq_lst_tup, deq_bl_str, deq_str_bl,
  cellL_s, lsO_lst, lsO_lsk, lsO_rf, ltO_lst, ltO_rf, sqO_tup, sqO_lst, sqO_lsk, sqO_rf, itC_s, itO_tup, itO_lst, itO_lsk, itO_str, itO_rf, cellI_s, insO_obj, insO_rf, fldJ_s, fldR_s, fldO_R, mthR_s, methF_R, sflJ_s, sflR_s, sfl_R, atR_s, ix_tup, ix_lst, ixR_s, ixR_d, ix_rfS, ixK_s, ix_dctS, ix_dctI, cellL_d, cellD_s, cellD_l, dcO_dct, dcO_rf, rsC_d, rsv_dct, eqR_d, neR_d, bi_lenD, dctR_s, mkDc_t, mkDc_f, bi_dct, lenR_d, bi_srtT, ix_rf, ix_str, strR_s, get_tx, joR_s, bm_joinL, txs_map, joinL_0, flat_sing, len_sing, Nat.mul_zero, at_pos, stL_s, stJ_s, sto_rf, sto_rfS, stG_s, stR_s, stK_s, stL_d, stS_s, gto_rf, gto_rfS, gtL_s, gtL_d, gtS_s, ixN_pos, sl_tup, sl_lst, sl_lsk, lenR_s, bi_lenS, bi_lenT, bi_lenL, bi_lenC, bi_abs, bi_min2, bi_max2, bi_min3, bi_max3, bi_min4, lsC_s, bi_minC, bi_maxC, lsIR_i, lsIR_t, lsIR_d, bi_minL, bi_minT, bi_maxL, bi_maxT, ints_t, tps_map, ints_tps, bi_int, bi_intB, mk_f, mk_t, bi_listT, bi_listL, bi_tupT, bi_tupL, tupR_s, bi_tupC, listR_s, bi_listC, rgR_1, rgR_2, rgL_1, rgL_2,
  fin1_ok, fin1_ex, dzC_d, dfz_dct, dfzk_ints, blwk_ints, finZ_s, fin2_ok, fin2_ex, fin_fk, wf_nil, wf_cons, blw_ins, blw_dc, blw_lst, blws_nil, blws_cons, blw_int, blw_bl, blw_non, blw_str, blw_tup, blw_lst', blw_obj, blw_rf, blws_ints, dzC_i, dzC_l, dfz_rf, dfz_old, dfz_int, dfz_bl, dfz_non, dfz_str, dfz_tup, dfz_lst, dfz_obj, dfzs_nil, dfzs_cons, dfzs_ints, payB,
  at_0, mkR_f, mkR_m, mkR_ex, mkR_fk, mkC_s, putX_d, augR_s, augF_s, augJ_s, augD_rf, forF_nil, forF_cons, seO_ok, seO_fk, cdK_ok, cdK_fk, fkO_t, fkO_f, fkO_not, fkO_and, fkO_or, asK_s, asgN_loc, asgN_tup, asgNs_nil, asN_s, asgNs_cons, wipe_nil, wipe_cons, lcf_k, oK_s, oK_fk, lcR_n, lcR_c, lcN_nil, lcN_cons,
  isNop, List.length_cons, List.length_nil, List.length_append, List.length_map, List.length_set, List.getElem?_cons_succ, List.getElem?_cons_zero, List.map_cons, List.map_nil, List.cons_append, List.nil_append, List.append_assoc, List.set_set, nc2, nc3, nc4, nc5, nc6, nc7, nc8, nc9, nc10, nc11, nc12, nc13, nc14, nc15, nc16, Int.natCast_zero, Int.natCast_one, List.set_cons_succ, List.set_cons_zero, List.take_succ_cons, List.take_zero, List.replicate_succ, List.replicate_zero, Nat.reduceSub, Nat.reduceAdd, Nat.reduceEqDiff, Nat.reduceLT, Nat.reduceLeDiff, Nat.reduceBEq, Nat.zero_add, Nat.add_zero, Int.reduceToNat, Int.reduceLT, Int.reduceLE, Int.reduceAdd, Int.reduceSub, Int.reduceMul, Int.reduceNeg, Int.reduceEq, if_true, if_false, ite_true, ite_false, Bool.and_true, Bool.true_and, Bool.and_self, Bool.and_false, Bool.false_and, Bool.not_true, Bool.not_false, Bool.or_false, Bool.false_or, Bool.or_true, Bool.true_or, decide_true, decide_false, eq_self, List.cons.injEq, and_true, true_and, and_self, and_false, false_and,  Option.toList, beq_self_eq_true, reduceCtorEq, *])

local macro_rules | `(tactic| walk_at "evl") => `(tactic| simp (disch := first | assumption | omega | (refine @id _ ?_; with_unfolding_all rfl) | (refine @id _ ?_; intro z hz; with_unfolding_all rfl) | (intro z hz; simp only [*]; done)) only [K04.rn_Round_shown, K04.t_Round_shown, gn_nil, gn_cons, gnY_n, gnY_any, gnY_all, gnY_sum, gkF_any, gkF_all, gkF_sum, sv_whl, rg00, rg01, rg02, rg03, rg04, rg05, rg06, rg07, rg08, rg09, rg11, rg12, rg13, rg14, cut_take, cut_drop, rsvs_mapF, deqs_mapF, apg0, apg1, apg2, aps0, aps1, aps2, apt, get_rg0, get_mapI, rg_len, List.take_nil, List.drop_nil, List.drop_succ_cons, List.drop_zero, K04.cl_0, K04.fx_0_0, K04.fx_0_1, K04.fx_0_2, K04.fx_0_3, K04.mx_0_4, K04.mx_0_5, K04.mx_0_6, K04.mx_0_7, K04.mx_0_8, K04.mx_0_9, K04.mx_0_10, K04.mx_0_11, K04.cl_1, K04.fx_1_12, K04.fx_1_3, K04.fx_1_13, K04.mx_1_14, K04.mx_1_15, K04.mx_1_16, K04.mx_1_17, K04.mx_1_18, K04.mx_1_19, K04.cl_2, K04.fx_2_20, K04.fx_2_21, K04.fx_2_22, K04.mx_2_23, K04.mx_2_24, K04.mx_2_25, K04.mx_2_26, K04.mx_2_11, K04.td_28_1, K04.td_28_2, K04.td_28_3, K04.td_28_4, K04.td_28_5, K04.td_28_6, K04.td_28_8, K04.tk_0, K04.tk_1, K04.tk_2, K04.tk_3, K04.tk_4, K04.tk_5, K04.tk_6, K04.tk_7, K04.tk_8, K04.tk_9, K04.tk_10, K04.tk_11, K04.tk_12, K04.tk_13, K04.tk_14, K04.tk_15, K04.tk_16, K04.tk_17, K04.tk_18, K04.tk_19, K04.tk_20, K04.tk_21, K04.tk_22, K04.tk_23, K04.tk_24, K04.tk_25, K04.tk_26, K04.tk_27, K04.tk_28, K04.tk_29, K04.tk_30, K04.tk_31, K04.tk_32, K04.tk_33, K04.tk_34, fnR_0, fnR_1, fnR_2, 
  ev_loc, ev_glb, ev_non, ev_bl, ev_int, ev_str, ev_bin, ev_binM, o2M_rep, o2M_cat, ev_neg, ev_cmp, ev_chn, ev_and, ev_or, ev_not, ev_ite, ev_nil, ev_cons, ev_tup, ev_lst, ev_ix, ev_sl, ev_call, ev_mk, ev_meth, ev_fld, ev_bi, ev_bm, ev_rng, ev_lrg, ev_lcx, ev_genx, ev_told, ev_itr, ev_lrm, ev_pop0, oc_is, oc_isnt, isN_n, isN_i, isN_s, isN_t, isN_l, isN_r, okL_s, bmP_app, bmP_pop, bmP_cnt, bmP_cntC, bmP_sw, bmP_join, appR_s, bm_app, bmP_scnt, bm_scnt, bmP_idx, bmP_idxC, ntR_s, bm_cntI, bm_cntIC, tnR_s, niR_s, tiR_s, bm_cntS, bm_idxI, bm_idxS, lbR_s, bm_cntSC, bm_idxIC, bm_idxSC, bm_pop, popR_0, popR_s, pop0_C, pop0R_s, itr_tup', itr_lst', itr_str', enm_nil', enm_cons', lrm_s, srR_s, srR_t, srR_d, srK_s, srK_t, srC_l, srC_d, bi_srtD, bi_srtC, bi_srtI, smR_s, bi_sumI, bi_sumT, map_app1, appI_s, ints_app, ints_nil, consI_s, ints_cons, ints_map, appD_s, rsvs_app, rsS_t, rsv_strT, deqs_ints, in_sg, nin_sg, List.mem_cons, List.not_mem_nil, or_false, false_or, or_true, true_or, in_intsT, in_intsL, List.append_nil,
  sv_skip, sv_ex, sv_ret, sv_retN, sv_ifs, sv_brk, sv_cnt, sv_rse, sv_nil, sv_seq, sv_for, sv_asgl, sv_asgt, sv_asgi, sv_asgf, sv_augl, sv_augf, sv_augx, asg_loc, asg_tup, gdG_t, asgs_nil, asgs_cons, asg_ix, lenT,
  kE_ok, kE_ex, kE_fk, kB_ok, kB_ex, kB_fk, kI_ok, kI_ex, kI_fk, kA_ok, kA_ex, kA_fk, zE_ok, zE_ex, zE_fk, zB_ok, zB_ex, zB_fk, gxE_ok, gxE_ex, gxQ_ok, gxQ_ex, zG_ok, zG_ex, zQ_nx, zQ_rt, zQ_bk, zQ_ct, zQ_ex, zQ_fk, loop_nx, loop_ct, loop_bk, loop_rt, loop_ex, loop_fk, svR_nx, svR_rt, svR_ex, svR_fk, tld_fk, tld_ok, fk_dt, fk_df, fkS_dt, fkS_df, fkO_dt, fkO_df, fk_t, fk_f, fkS_t, fkS_f, fk_not, fkS_not, fk_and, fkS_and, fk_or, fkS_or, itK_s, itZ_s, mtK_s, gd_t, gd_p, gd_and, gdS_t, gdS_p, stands_n, locO_s, glbO_s,
  o2_add, o2_sub, o2_mul, o2_fdiv, o2_mod, o2_pow, o2_adds, o2_catT, o2_cat, o2_rep, o2i_add, o2i_sub, o2i_mul, o2i_adds, oc_lt, bi_strI, bi_strS, oc_lts, oc_les, oc_gts, oc_ges, oc_le, oc_gt, oc_ge, oc_eqi, oc_nei, oc_eq, oc_ne, eqR_s, neR_s,
  rsv_non, rsv_bl, rsv_int, rsv_tup, rsv_lst, rsC_s, rsv_rf, rsvs_nil, rcs_s, rsvs_cons, rsvs_ints, mapS,
  deq_int, deq_bl, deq_str, deq_tup, deq_lst, deqs_nil, deqs_cons, deqs_nc, deqs_cn, deq_non, deq_non_int, deq_non_str, deq_non_tup, deq_non_lst, deq_int_non, deq_int_str, deq_int_tup, deq_int_lst, deq_str_non, deq_str_int, deq_str_tup, deq_str_lst, deq_tup_non, deq_tup_int, deq_tup_str, deq_tup_lst, deq_lst_non, deq_lst_int, deq_lst_str, deq_lst_tup, deq_bl_str, deq_str_bl,
  cellL_s, lsO_lst, lsO_lsk, lsO_rf, ltO_lst, ltO_rf, sqO_tup, sqO_lst, sqO_lsk, sqO_rf, itC_s, itO_tup, itO_lst, itO_lsk, itO_str, itO_rf, cellI_s, insO_obj, insO_rf, fldJ_s, fldR_s, fldO_R, mthR_s, methF_R, sflJ_s, sflR_s, sfl_R, atR_s, ix_tup, ix_lst, ixR_s, ixR_d, ix_rfS, ixK_s, ix_dctS, ix_dctI, cellL_d, cellD_s, cellD_l, dcO_dct, dcO_rf, rsC_d, rsv_dct, eqR_d, neR_d, bi_lenD, dctR_s, mkDc_t, mkDc_f, bi_dct, lenR_d, bi_srtT, ix_rf, ix_str, strR_s, get_tx, joR_s, bm_joinL, txs_map, joinL_0, flat_sing, len_sing, Nat.mul_zero, at_pos, stL_s, stJ_s, sto_rf, sto_rfS, stG_s, stR_s, stK_s, stL_d, stS_s, gto_rf, gto_rfS, gtL_s, gtL_d, gtS_s, ixN_pos, sl_tup, sl_lst, sl_lsk, lenR_s, bi_lenS, bi_lenT, bi_lenL, bi_lenC, bi_abs, bi_min2, bi_max2, bi_min3, bi_max3, bi_min4, lsC_s, bi_minC, bi_maxC, lsIR_i, lsIR_t, lsIR_d, bi_minL, bi_minT, bi_maxL, bi_maxT, ints_t, tps_map, ints_tps, bi_int, bi_intB, mk_f, mk_t, bi_listT, bi_listL, bi_tupT, bi_tupL, tupR_s, bi_tupC, listR_s, bi_listC, rgR_1, rgR_2, rgL_1, rgL_2,
  fin1_ok, fin1_ex, dzC_d, dfz_dct, dfzk_ints, blwk_ints, finZ_s, fin2_ok, fin2_ex, fin_fk, wf_nil, wf_cons, blw_ins, blw_dc, blw_lst, blws_nil, blws_cons, blw_int, blw_bl, blw_non, blw_str, blw_tup, blw_lst', blw_obj, blw_rf, blws_ints, dzC_i, dzC_l, dfz_rf, dfz_old, dfz_int, dfz_bl, dfz_non, dfz_str, dfz_tup, dfz_lst, dfz_obj, dfzs_nil, dfzs_cons, dfzs_ints, payB,
  at_0, mkR_f, mkR_m, mkR_ex, mkR_fk, mkC_s, mkO_C, putX_d, augR_s, augF_s, augJ_s, augD_rf, forF_nil, forF_cons, seO_ok, seO_fk, cdK_ok, cdK_fk, fkO_t, fkO_f, fkO_not, fkO_and, fkO_or, asK_s, asgN_loc, asgN_tup, asgNs_nil, asN_s, asgNs_cons, wipe_nil, wipe_cons, oK_s, oK_fk, lcR_n, lcR_c, lcN_nil, lcN_cons,
  isNop, List.length_cons, List.length_nil, List.length_append, List.length_map, List.length_set, List.getElem?_cons_succ, List.getElem?_cons_zero, List.map_cons, List.map_nil, List.cons_append, List.nil_append, List.append_assoc, List.set_set, nc2, nc3, nc4, nc5, nc6, nc7, nc8, nc9, nc10, nc11, nc12, nc13, nc14, nc15, nc16, Int.natCast_zero, Int.natCast_one, List.set_cons_succ, List.set_cons_zero, List.take_succ_cons, List.take_zero, List.replicate_succ, List.replicate_zero, Nat.reduceSub, Nat.reduceAdd, Nat.reduceEqDiff, Nat.reduceLT, Nat.reduceLeDiff, Nat.reduceBEq, Nat.zero_add, Nat.add_zero, Int.reduceToNat, Int.reduceLT, Int.reduceLE, Int.reduceAdd, Int.reduceSub, Int.reduceMul, Int.reduceNeg, Int.reduceEq, if_true, if_false, ite_true, ite_false, Bool.and_true, Bool.true_and, Bool.and_self, Bool.and_false, Bool.false_and, Bool.not_true, Bool.not_false, Bool.or_false, Bool.false_or, Bool.or_true, Bool.true_or, decide_true, decide_false, eq_self, List.cons.injEq, and_true, true_and, and_self, and_false, false_and,  Option.toList, beq_self_eq_true, reduceCtorEq, *])

namespace K04
local macro_rules | `(tactic| walk_at "hb") => `(tactic| ((try simp only [decide_eq_true_eq, decide_eq_false_iff_not, Bool.not_eq_true, Bool.not_eq_false] at *); try (exfalso; omega)))
local macro_rules | `(tactic| walk_at "cl") => `(tactic| (repeat' (first | (walk_at "ev") | (refine fkS_eq (fun hb => ?_) (fun hb => ?_) <;> walk_at "hb") | (refine fk_eq (fun hb => ?_) (fun hb => ?_) <;> walk_at "hb") | rfl)))
local macro_rules | `(tactic| walk_at "go") => `(tactic| repeat' first | (walk_at "ev") | (refine Nx.fk (fun hb => ?_) (fun hb => ?_) <;> walk_at "hb"))
local macro_rules | `(tactic| walk_at "s") => `(tactic| ((first | refine Nx.st (δ' := ?dd) (L' := ?ll) ?h1 ?h2 | refine Tr.st (δ' := ?dd) (L' := ?ll) ?h1 ?h2); case h1 => walk_at "cl"))
theorem roll {k i : Nat} {L : Mu} {s : Dc} {m : Int} (hi : L[i]? = some (dcM s)) (hm : 0 < m) (hm' : m < 1073741824) : Ac.run P (k + 1) 26 [.rf i, .int m] L = .ok (.int (rolV s m)) (L.set i (dcM (rolN s m))) := run_roll fn_26 hi hm hm'
abbrev pD (e : Int × Int) : D := .tup [.int e.1, .int e.2]
def sF (rs : List (Int × Int)) : Int := (rs.map Prod.fst).sum
theorem sF_s {rs : List (Int × Int)} {e : Int × Int} : sF (rs ++ [e]) = sF rs + e.1 := by simp [sF]
theorem st_p {rs : List (Int × Int)} {i : Nat} {L : Mu} (h : L[i]? = some (.lst (rs.map pD))) : stands (rs.map pD) (some i) L = true := by
  simp only [stands, h]
  exact D.sames_refl (n := 60) (flats_map fun h _ => by rw [flat_tup]; exact flats_ints (ns := [h.1, h.2]))
theorem filter_T {α : Type} (l : List α) : l.filter (fun _ => true) = l := by simp
theorem at_lastS {xs : List D} {d : D} : L2.atI (xs ++ [d]) (-1) = some d := by
  rw [at_neg (by decide) (by simp; omega)]
  simp
  rw [show (-1 + ((xs.length : Int) + 1)).toNat = xs.length by omega]
  simp
abbrev rnd (t a ap : Int) : MO := .ins 0 [.int t, .int a, .rf 2, .int ap]
def mid (t a : Int) : Int := (max t a + 1) / 2
def spk (t a ap : Int) : Int := if ap = 1 then 4 else min (2 * (t + a)) (4 * ap)
theorem spokes_ok {k : Nat} {t a ap : Int} {X Y : MO} (ht : 2 ≤ t ∧ t ≤ 6) (ha : 2 ≤ a ∧ a ≤ 6) (hp : 1 ≤ ap ∧ ap ≤ 12) : Ac.run P (k + 1) 1 [.rf 1] [X, rnd t a ap, Y] = .ok (.int (spk t a ap)) [X, rnd t a ap, Y] := by
  rw [rn_Round_spokes]
  unfold t_Round_spokes spk
  by_cases h : ap = 1
  · rw [if_pos h]
    walk_at "ev"
  · rw [if_neg h]
    walk_at "ev"
theorem half_ok {k : Nat} {t a ap : Int} {X : MO} {rs : List (Int × Int)} (hr : ∀ e ∈ rs, 1 ≤ e.1 ∧ e.1 ≤ 4 ∧ 1 ≤ e.2 ∧ e.2 ≤ 12) (hl : rs.length ≤ 20) : Ac.run P (k + 1) 4 [.rf 1] [X, rnd t a ap, .lst (rs.map pD)] = .ok (.int (mid t a + sF rs)) [X, rnd t a ap, .lst (rs.map pD)] := by
  rw [rn_Round_half_width]
  unfold t_Round_half_width
  have hst := st_p (rs := rs) (i := 2) (L := [X, rnd t a ap, .lst (rs.map pD)]) rfl
  walk_at "ev"
  rw [gn_sum (f := pD) (p := fun _ => true) (v := Prod.fst) hst (fun z hz => by walk_at "ev") (fun z hz => by have := hr z hz; omega) (by omega) (by omega)]
  walk_at "ev"
  rw [filter_T]
  unfold mid sF
  rw [Int.zero_add]
theorem spk_b {t a ap : Int} (ht : 2 ≤ t ∧ t ≤ 6) (ha : 2 ≤ a ∧ a ≤ 6) (hp : 1 ≤ ap ∧ ap ≤ 12) : 1 ≤ spk t a ap ∧ spk t a ap ≤ 24 := by
  unfold spk
  split <;> omega
theorem gap_ok {k : Nat} {t a ap : Int} {X : MO} {rs : List (Int × Int)} (ht : 2 ≤ t ∧ t ≤ 6) (ha : 2 ≤ a ∧ a ≤ 6) (hp : 1 ≤ ap ∧ ap ≤ 12) (hr : ∀ e ∈ rs, 1 ≤ e.1 ∧ e.1 ≤ 4 ∧ 1 ≤ e.2 ∧ e.2 ≤ 12) (hl : rs.length ≤ 20) : Ac.run P (k + 2) 5 [.rf 1] [X, rnd t a ap, .lst (rs.map pD)] = .ok (.int (710 * (mid t a + sF rs) / (113 * spk t a ap))) [X, rnd t a ap, .lst (rs.map pD)] := by
  rw [rn_Round_gap]
  unfold t_Round_gap
  have h1 := half_ok (k := k) (t := t) (a := a) (ap := ap) (X := X) hr hl
  have h2 := spokes_ok (k := k) (X := X) (Y := .lst (rs.map pD)) ht ha hp
  have h3 := spk_b ht ha hp
  walk_at "ev"
abbrev rsOk (rs : List (Int × Int)) : Prop := ∀ e ∈ rs, 1 ≤ e.1 ∧ e.1 ≤ 4 ∧ 1 ≤ e.2 ∧ e.2 ≤ 12
theorem weave_ok {k : Nat} {t a ap z : Int} {X : MO} {rs : List (Int × Int)} (hp : 1 ≤ ap ∧ ap ≤ 12) (hr : rsOk rs) (hl : rs.length ≤ 19) (h0 : 1 ≤ z) (h1 : z ≤ 4) : Ac.run P (k + 2) 3 [.rf 1, .int z] [X, rnd t a ap, .lst (rs.map pD)] = .ok (.int (mid t a + sF rs + z)) [X, rnd t a ap, .lst ((rs ++ [(z, ap)]).map pD)] := by
  rw [rn_Round_weave]
  unfold t_Round_weave
  have hr2 : rsOk (rs ++ [(z, ap)]) := fun e he => by
    rcases List.mem_append.mp he with he | he
    · exact hr e he
    · rw [List.mem_singleton] at he; subst he; exact ⟨h0, h1, hp.1, hp.2⟩
  have hh := half_ok (k := k) (t := t) (a := a) (ap := ap) (X := X) hr2 (by simp; omega)
  rw [sF_s] at hh
  have hm : (rs ++ [(z, ap)]).map pD = rs.map pD ++ [D.tup [.int z, .int ap]] := by simp
  rw [hm] at hh ⊢
  have hl2 : (rs.map pD).length < 16777216 := by rw [List.length_map]; omega
  walk_at "ev"
  rw [Int.add_assoc]
theorem weave_ex {k : Nat} {L : Mu} {z : Int} {d : D} (h : z < 1) : Ac.run P (k + 1) 3 [d, .int z] L = .ex 1 none L := by
  rw [rn_Round_weave]
  unfold t_Round_weave
  walk_at "ev"
theorem open_ex1 {k : Nat} {t a ap : Int} {X Y : MO} (ht : 2 ≤ t ∧ t ≤ 6) (ha : 2 ≤ a ∧ a ≤ 6) (hp : 1 ≤ ap ∧ ap ≤ 12) (h : 2 * (t + a) ≤ spk t a ap) : Ac.run P (k + 2) 2 [.rf 1] [X, rnd t a ap, Y] = .ex 8 none [X, rnd t a ap, Y] := by
  rw [rn_Round_open_out]
  unfold t_Round_open_out
  have h2 := spokes_ok (k := k) (X := X) (Y := Y) ht ha hp
  walk_at "ev"
theorem open_ex2 {k : Nat} {t a ap : Int} {X : MO} (ht : 2 ≤ t ∧ t ≤ 6) (ha : 2 ≤ a ∧ a ≤ 6) (hp : 1 ≤ ap ∧ ap ≤ 12) : Ac.run P (k + 2) 2 [.rf 1] [X, rnd t a ap, .lst []] = .ex 8 none [X, rnd t a ap, .lst []] := by
  rw [rn_Round_open_out]
  unfold t_Round_open_out
  have h2 := spokes_ok (k := k) (X := X) (Y := .lst []) ht ha hp
  by_cases h : 2 * (t + a) ≤ spk t a ap
  · walk_at "ev"
  · walk_at "ev"
theorem open_ok {k : Nat} {t a ap : Int} {X : MO} {ys : List (Int × Int)} {e : Int × Int} (ht : 2 ≤ t ∧ t ≤ 6) (ha : 2 ≤ a ∧ a ≤ 6) (hp : 1 ≤ ap ∧ ap ≤ 12) (h : ¬ 2 * (t + a) ≤ spk t a ap) : Ac.run P (k + 2) 2 [.rf 1] [X, rnd t a ap, .lst (ys.map pD ++ [pD e])] = if e.2 = ap then .ok .non [X, rnd t a (ap * 2), .lst (ys.map pD ++ [pD e])] else .ex 8 none [X, rnd t a ap, .lst (ys.map pD ++ [pD e])] := by
  rw [rn_Round_open_out]
  unfold t_Round_open_out
  have h2 := spokes_ok (k := k) (X := X) (Y := .lst (ys.map pD ++ [pD e])) ht ha hp
  have hA := at_lastS (xs := ys.map pD) (d := pD e)
  have hne : (D.lst (ys.map pD ++ [pD e])).eq (.lst []) = false := by
    cases ys with
    | nil => rw [deq_lst]; exact deqs_cn
    | cons y ys => rw [deq_lst]; exact deqs_cn
  have hrs : ∀ (L : Mu), rsvs L 59 (ys.map pD ++ [pD e]) = some (ys.map pD ++ [pD e]) := fun L => by
    have := rsvs_mapF (L := L) (n := 59) (f := pD) (l := ys ++ [e]) (fun z _ => by rw [flat_tup]; exact flats_ints (ns := [z.1, z.2]))
    simpa using this
  by_cases h3 : e.2 = ap
  · rw [if_pos h3]
    have h4 : decide (e.2 = ap) = true := decide_eq_true h3
    clear h3
    walk_at "ev"
  · rw [if_neg h3]
    walk_at "ev"
theorem unw_ex {k : Nat} {t a ap : Int} {X : MO} : Ac.run P (k + 1) 6 [.rf 1] [X, rnd t a ap, .lst []] = .ex 8 none [X, rnd t a ap, .lst []] := by
  rw [rn_Round_unweave]
  unfold t_Round_unweave
  walk_at "ev"
theorem unw_ok {k : Nat} {t a ap : Int} {X : MO} {ys : List (Int × Int)} {e : Int × Int} : Ac.run P (k + 1) 6 [.rf 1] [X, rnd t a ap, .lst (ys.map pD ++ [pD e])] = .ok (.int e.1) [X, rnd t a e.2, .lst (ys.map pD)] := by
  rw [rn_Round_unweave]
  unfold t_Round_unweave
  have hne : (D.lst (ys.map pD ++ [pD e])).eq (.lst []) = false := by
    cases ys with
    | nil => rw [deq_lst]; exact deqs_cn
    | cons y ys => rw [deq_lst]; exact deqs_cn
  have hrs : ∀ (L : Mu), rsvs L 59 (ys.map pD ++ [pD e]) = some (ys.map pD ++ [pD e]) := fun L => by
    have := rsvs_mapF (L := L) (n := 59) (f := pD) (l := ys ++ [e]) (fun z _ => by rw [flat_tup]; exact flats_ints (ns := [z.1, z.2]))
    simpa using this
  walk_at "ev"
def I1 (a0 : D) (t a : Int) (j : Int) (δ : Ds) (L : Mu) : Prop := ∃ (σ : Dc) (ap : Int) (rs : List (Int × Int)) (x7 x8 x9 x11 x12 x16 : Option D), δ = [some (a0), some (.rf 0), some (.int t), some (.int a), some (.lst (rs.map pD)), some (.int ap), some (.int (mid t a)), x7, x8, x9, none, x11, x12, none, none, some (.rf 1), x16, none, none] ∧ L = [dcM σ, rnd t a ap, .lst (rs.map pD)] ∧ (rs.length : Int) ≤ j ∧ (1 ≤ ap ∧ ap ≤ 12) ∧ rsOk rs
theorem l1 (a0 : D) {t a : Int} (ht : 2 ≤ t ∧ t ≤ 6) (ha : 2 ≤ a ∧ a ≤ 6) (j : Int) (hj : j ≤ 12) (δ : Ds) (L : Mu) (h : I1 a0 t a j δ L) : Nx (I1 a0 t a (j + 1)) (@zG (asg P (Ac.run P 8) (.loc 7) (.int j) δ L) ⟨fun δ L => sv P (Ac.run P 8) b_law_1 δ L⟩) := by
  obtain ⟨σ, ap, rs, x7, x8, x9, x11, x12, x16, rfl, rfl, hl, hp, hr⟩ := h
  obtain ⟨sort, σ1, n00, n01, e1, f1⟩ := roll_ex σ (m := 5) (by decide)
  obtain ⟨th, τ, n10, n11, e2, f2⟩ := roll_ex σ1 (m := 5) (by decide)
  have R := @roll
  unfold b_law_1
  simp only [asg_loc, zG_ok, List.set_cons_succ, List.set_cons_zero]
  refine Nx.go ?_
  refine Nx.st (δ' := ?d1) (L' := ?l1) ?a1 ?a2
  case a1 => (walk_at "ev") <;> rfl
  clear R e1 e2 f1 f2
  have hlen : rs.length ≤ 19 := by omega
  have hsp : (if ap = 1 then (4 : Int) else min (4 * ap) (2 * t + 2 * a)) = spk t a ap := by
    unfold spk
    split
    · rfl
    · rw [Int.min_comm]; congr 1; omega
  refine Nx.st (δ' := [some (a0), some (.rf 0), some (.int t), some (.int a), some (.lst (rs.map pD)), some (.int ap), some (.int (mid t a)), some (.int j), some (.int sort), some (.int (spk t a ap)), none, x11, x12, none, none, some (.rf 1), some (.int th), none, none]) (L' := [dcM τ, rnd t a ap, .lst (rs.map pD)]) ?b1 ?b2
  case b1 =>
    rw [← hsp]
    by_cases h1 : ap = 1
    · subst h1; walk_at "ev"
    · rw [if_neg h1]; walk_at "ev"
  refine Nx.st (δ' := [some (a0), some (.rf 0), some (.int t), some (.int a), some (.lst (rs.map pD)), some (.int ap), some (.int (mid t a)), some (.int j), some (.int sort), some (.int (spk t a ap)), none, some (.int (mid t a + sF rs)), x12, none, none, some (.rf 1), some (.int th), none, none]) (L' := [dcM τ, rnd t a ap, .lst (rs.map pD)]) ?c1 ?c2
  case c1 =>
    walk_at "ev"
    rw [lc_map (f := pD) (h := fun e => .int e.1) rfl (fun e he => by walk_at "ev")]
    have hm : rs.map (fun e => D.int e.1) = (rs.map Prod.fst).map .int := by rw [List.map_map]; rfl
    rw [hm]
    walk_at "ev"
    rfl
  have H1 := half_ok (k := 7) (t := t) (a := a) (ap := ap) (X := dcM τ) hr (by omega)
  have H2 := spokes_ok (k := 7) (t := t) (a := a) (ap := ap) (X := dcM τ) (Y := .lst (rs.map pD)) ht ha hp
  have H3 := gap_ok (k := 6) (t := t) (a := a) (ap := ap) (X := dcM τ) ht ha hp hr (by omega)
  have H4 := spk_b ht ha hp
  refine Nx.st (δ' := [some (a0), some (.rf 0), some (.int t), some (.int a), some (.lst (rs.map pD)), some (.int ap), some (.int (mid t a)), some (.int j), some (.int sort), some (.int (spk t a ap)), none, some (.int (mid t a + sF rs)), x12, none, none, some (.rf 1), some (.int th), none, none]) (L' := [dcM τ, rnd t a ap, .lst (rs.map pD)]) ?e1 ?e2
  case e1 => walk_at "ev"
  clear H1 H2 H3
  -- the deed, then what is shown
  have key : ∃ ap' rs' x12', sv P (Ac.run P 8) (match b_law_1 with | .seq _ (.seq _ (.seq _ (.seq _ (.seq s _)))) => s | s => s) [some (a0), some (.rf 0), some (.int t), some (.int a), some (.lst (rs.map pD)), some (.int ap), some (.int (mid t a)), some (.int j), some (.int sort), some (.int (spk t a ap)), none, some (.int (mid t a + sF rs)), x12, none, none, some (.rf 1), some (.int th), none, none] [dcM τ, rnd t a ap, .lst (rs.map pD)] = .nx [some (a0), some (.rf 0), some (.int t), some (.int a), some (.lst (rs'.map pD)), some (.int ap'), some (.int (mid t a)), some (.int j), some (.int sort), some (.int (spk t a ap)), none, some (.int (mid t a + sF rs)), x12', none, none, some (.rf 1), some (.int th), none, none] [dcM τ, rnd t a ap', .lst (rs'.map pD)] ∧ (rs'.length : Int) ≤ j + 1 ∧ (1 ≤ ap' ∧ ap' ≤ 12) ∧ rsOk rs' := by
    have m1 : ap * 1 = ap := Int.mul_one ap
    unfold b_law_1
    dsimp only
    by_cases c1 : sort < 3
    · by_cases c2 : 0 < th
      · have hW := weave_ok (k := 6) (t := t) (a := a) (ap := ap) (z := th) (X := dcM τ) hp hr hlen (by omega) (by omega)
        have hm : (rs ++ [(th, ap)]).map pD = rs.map pD ++ [D.tup [.int th, .int ap]] := by simp
        refine ⟨ap, rs ++ [(th, ap)], x12, ?_, by simp; omega, hp, fun e he => ?_⟩
        · rw [hm] at hW ⊢
          walk_at "ev"
        · rcases List.mem_append.mp he with he | he
          · exact hr e he
          · rw [List.mem_singleton] at he; subst he; exact ⟨by omega, by omega, hp.1, hp.2⟩
      · have hW := weave_ex (k := 7) (L := [dcM τ, rnd t a ap, .lst (rs.map pD)]) (z := th) (d := .rf 1) (by omega)
        refine ⟨ap, rs, x12, ?_, by omega, hp, hr⟩
        walk_at "ev"
    · have frs : ∀ (L : Mu) (b : List (Int × Int)), rsvs L 59 (b.map pD) = some (b.map pD) := fun L b => rsvs_mapF (fun z _ => by rw [flat_tup]; exact flats_ints (ns := [z.1, z.2]))
      rcases List.eq_nil_or_concat rs with hnil | ⟨ys, e, hc⟩
      · subst hnil
        by_cases c2 : sort = 3
        · have hO := open_ex2 (k := 6) (t := t) (a := a) (ap := ap) (X := dcM τ) ht ha hp
          refine ⟨ap, [], some (.str [100, 101, 101, 100]), ?_, by simp; omega, hp, hr⟩
          simp only [List.map_nil] at *
          subst c2
          by_cases c3 : 2 * t + 2 * a ≤ spk t a ap
          · walk_at "ev"
          · walk_at "ev"
        · have hU := unw_ex (k := 7) (t := t) (a := a) (ap := ap) (X := dcM τ)
          refine ⟨ap, [], x12, ?_, by simp; omega, hp, hr⟩
          simp only [List.map_nil] at *
          walk_at "ev"
      · rw [List.concat_eq_append] at hc
        subst hc
        have hm : (ys ++ [e]).map pD = ys.map pD ++ [D.tup [.int e.1, .int e.2]] := by simp
        have hne : (D.lst (ys.map pD ++ [D.tup [.int e.1, .int e.2]])).eq (.lst []) = false := by
          cases ys with
          | nil => rw [deq_lst]; exact deqs_cn
          | cons y ys => rw [deq_lst]; exact deqs_cn
        have hrs : ∀ (L : Mu), rsvs L 59 (ys.map pD ++ [D.tup [.int e.1, .int e.2]]) = some (ys.map pD ++ [D.tup [.int e.1, .int e.2]]) := fun L => by rw [← hm]; exact frs L _
        have hG : (ys.map pD ++ [D.tup [.int e.1, .int e.2]])[((((ys.length + 1 : Nat) : Int) - 1).toNat)]? = some (D.tup [.int e.1, .int e.2]) := by
          rw [show (((ys.length + 1 : Nat) : Int) - 1).toNat = (ys.map pD).length by rw [List.length_map]; omega]
          simp
        have hT : (ys.map pD ++ [D.tup [.int e.1, .int e.2]]).take ((((ys.length + 1 : Nat) : Int) - 1).toNat) = ys.map pD := by
          rw [show (((ys.length + 1 : Nat) : Int) - 1).toNat = (ys.map pD).length by rw [List.length_map]; omega]
          exact List.take_left
        have he := hr e (by simp)
        have hys : rsOk ys := fun z hz => hr z (List.mem_append_left _ hz)
        rw [List.length_append, List.length_singleton] at hl hlen
        by_cases c2 : sort = 3
        · subst c2
          by_cases c3 : 2 * (t + a) ≤ spk t a ap
          · have hO := open_ex1 (k := 6) (t := t) (a := a) (ap := ap) (X := dcM τ) (Y := .lst (ys.map pD ++ [D.tup [.int e.1, .int e.2]])) ht ha hp c3
            refine ⟨ap, ys ++ [e], some (.str [100, 101, 101, 100]), ?_, by simp; omega, hp, hr⟩
            rw [hm]
            have c4 : 2 * t + 2 * a ≤ spk t a ap := by omega
            walk_at "ev"
          · have hO := open_ok (k := 6) (t := t) (a := a) (ap := ap) (X := dcM τ) (ys := ys) (e := e) ht ha hp c3
            have c4 : ¬ 2 * t + 2 * a ≤ spk t a ap := by omega
            by_cases c5 : e.2 = ap
            · rw [if_pos c5] at hO
              have hap : ap * 2 ≤ 12 := by
                unfold spk at c3
                split at c3 <;> omega
              refine ⟨ap * 2, ys ++ [e], some .non, ?_, by simp; omega, ⟨by omega, hap⟩, hr⟩
              rw [hm]
              have c6 : decide (e.2 = ap) = true := decide_eq_true c5
              have c7 : (!decide (e.2 = ap)) = false := by rw [c6]; rfl
              clear c5
              walk_at "ev"
            · rw [if_neg c5] at hO
              refine ⟨ap, ys ++ [e], some (.str [100, 101, 101, 100]), ?_, by simp; omega, hp, hr⟩
              rw [hm]
              (walk_at "ev") <;> rfl
        · have hU := unw_ok (k := 7) (t := t) (a := a) (ap := ap) (X := dcM τ) (ys := ys) (e := e)
          refine ⟨e.2, ys, x12, ?_, by omega, ⟨he.2.2.1, he.2.2.2⟩, hys⟩
          rw [hm]
          walk_at "ev"
  unfold b_law_1 at key
  dsimp only at key
  obtain ⟨ap', rs', x12', hk, h5, h6, h7⟩ := key
  refine Nx.st hk ?_
  clear hk
  have frs : ∀ (L : Mu) (b : List (Int × Int)), rsvs L 58 (b.map pD) = some (b.map pD) := fun L b => rsvs_mapF (fun z _ => by rw [flat_tup]; exact flats_ints (ns := [z.1, z.2]))
  have fes : ∀ (b : List (Int × Int)), D.eqs (b.map pD) (b.map pD) = true := fun b => deqs_mapF (fun z _ => by rw [flat_tup]; exact flats_ints (ns := [z.1, z.2]))
  refine Nx.st (δ' := ?d9) (L' := ?l9) ?g1 ?g2
  case g1 => (walk_at "ev") <;> rfl
  exact Nx.end ⟨τ, ap', rs', _, _, _, _, _, _, rfl, rfl, h5, h6, h7⟩
def usd : List (Int × Int) → Int → Int → Int
  | [], _, w => w
  | e :: r, h, w => usd r (h + e.1) (w + (710 * (2 * h + e.1) + 225) / 226)
theorem used_ok {k : Nat} {t a ap : Int} {X : MO} {rs : List (Int × Int)} : Ac.run P (k + 1) 7 [.rf 1] [X, rnd t a ap, .lst (rs.map pD)] = .ok (.int (usd rs (mid t a) 0)) [X, rnd t a ap, .lst (rs.map pD)] := by
  rw [rn_Round_used]
  unfold t_Round_used
  have hst := st_p (rs := rs) (i := 2) (L := [X, rnd t a ap, .lst (rs.map pD)]) rfl
  have h := for_ind (g := stands (rs.map pD) (some 2)) (f := fun d δ L => @zG (asg P (Ac.run P k) (T.tup (T.cons (T.loc 3) (T.cons (T.loc 4) T.nil))) d δ L) ⟨fun δ L => sv P (Ac.run P k) b_Round_used_0 δ L⟩) (e := pD) (fun l δ M => ∃ h w x3 x4, δ = [some (.rf 1), some (.int h), some (.int w), x3, x4] ∧ M = [X, rnd t a ap, .lst (rs.map pD)] ∧ usd l h w = usd rs (mid t a) 0) (fun r => ∃ h x3 x4, r = .nx [some (.rf 1), some (.int h), some (.int (usd rs (mid t a) 0)), x3, x4] [X, rnd t a ap, .lst (rs.map pD)]) (by
      rintro l δ M ⟨h, w, x3, x4, rfl, rfl, _⟩; exact hst) (by
      rintro δ M ⟨h, w, x3, x4, rfl, rfl, e⟩
      exact ⟨h, x3, x4, by rw [← e]; rfl⟩) (by
      rintro z l δ M ⟨h, w, x3, x4, rfl, rfl, e⟩
      left
      refine ⟨[some (.rf 1), some (.int (h + z.1)), some (.int (w + (710 * (2 * h + z.1) + 225) / 226)), some (.int z.1), some (.int z.2)], _, ?_, _, _, _, _, rfl, rfl, by rw [← e]; rfl⟩
      unfold b_Round_used_0
      have hc : 0 - (0 - 710 * (2 * h + z.1)) / 226 = (710 * (2 * h + z.1) + 225) / 226 := by omega
      walk_at "ev") rs [some (.rf 1), some (.int (mid t a)), some (.int 0), none, none] _ ⟨_, _, _, _, rfl, rfl, rfl⟩
  obtain ⟨hh, x3, x4, h⟩ := h
  have hm : (max t a + 1) / 2 = mid t a := rfl
  walk_at "ev"
theorem law_used {a0 x2 x3 x7 x8 x9 x11 x12 x16 : Option D} {x5 x15 : D} {m : Int} {L : Mu} {rs : List (Int × Int)} : ∃ h y16 y10, @forF (stands (rs.map pD) none) ⟨fun d δ L => @zG (asg P (Ac.run P 8) (T.tup (T.cons (T.loc 16) (T.cons (T.loc 10) T.nil))) d δ L) ⟨fun δ L => sv P (Ac.run P 8) b_law_0 δ L⟩⟩ (rs.map pD) [a0, some (.rf 0), x2, x3, some (.lst (rs.map pD)), some (x5), some (.int m), x7, x8, x9, none, x11, x12, some (.int m), some (.int 0), some (x15), x16, none, none] L = .nx [a0, some (.rf 0), x2, x3, some (.lst (rs.map pD)), some (x5), some (.int m), x7, x8, x9, y10, x11, x12, some (.int h), some (.int (usd rs m 0)), some (x15), y16, none, none] L := by
  refine for_ind (g := stands (rs.map pD) none) (f := fun d δ L => @zG (asg P (Ac.run P 8) (T.tup (T.cons (T.loc 16) (T.cons (T.loc 10) T.nil))) d δ L) ⟨fun δ L => sv P (Ac.run P 8) b_law_0 δ L⟩) (e := pD) (fun l δ M => ∃ h w y16 y10, δ = [a0, some (.rf 0), x2, x3, some (.lst (rs.map pD)), some (x5), some (.int m), x7, x8, x9, y10, x11, x12, some (.int h), some (.int w), some (x15), y16, none, none] ∧ M = L ∧ usd l h w = usd rs m 0) (fun r => ∃ h y16 y10, r = .nx [a0, some (.rf 0), x2, x3, some (.lst (rs.map pD)), some (x5), some (.int m), x7, x8, x9, y10, x11, x12, some (.int h), some (.int (usd rs m 0)), some (x15), y16, none, none] L) (fun _ _ _ _ => rfl) (by
      rintro δ M ⟨h, w, y16, y10, rfl, rfl, e⟩
      exact ⟨h, y16, y10, by rw [← e]; rfl⟩) (by
      rintro z l δ M ⟨h, w, y16, y10, rfl, rfl, e⟩
      left
      refine ⟨[a0, some (.rf 0), x2, x3, some (.lst (rs.map pD)), some (x5), some (.int m), x7, x8, x9, some (.int z.2), x11, x12, some (.int (h + z.1)), some (.int (w + (710 * (2 * h + z.1) + 225) / 226)), some (x15), some (.int z.1), none, none], _, ?_, _, _, _, _, rfl, rfl, by rw [← e]; rfl⟩
      unfold b_law_0
      walk_at "ev") rs _ _ ⟨_, _, _, _, rfl, rfl, rfl⟩
/-! ### ovals -/
abbrev ovD (s g h : Int) : D := .obj 1 [.int s, .int g, .int h]
abbrev OvOk (s g h : Int) : Prop := 2 ≤ s ∧ s ≤ 6 ∧ 1 ≤ g ∧ g ≤ 6 ∧ 1 ≤ h ∧ h ≤ 20
theorem ov_init {k i : Nat} {M : Mu} {s g h : Int} (hi : M[i]? = some (.ins 1 [])) (ho : OvOk s g h) : Ac.run P (k + 1) 9 [.rf i, .int s, .int g, .int h] M = .ok .non (M.set i (.ins 1 [.int s, .int g, .int h])) := by
  have g1 : ∀ x, (M.set i x)[i]? = some x := fun x => set_get hi
  have g2 : ∀ x y : MO, (M.set i x).set i y = M.set i y := fun x y => List.set_set ..
  obtain ⟨h1, h2, h3, h4, h5, h6⟩ := ho
  rw [rn_Oval_init]
  unfold t_Oval_init
  walk_at "ev"
theorem mk_ov {k : Nat} {M : Mu} {s g h : Int} (hw : wfM M.length M = true) (ho : OvOk s g h) : mkO P (Ac.run P (k + 1)) 1 [.int s, .int g, .int h] M = .ok (ovD s g h) M := by
  have hh := ov_init (k := k) (i := M.length) (M := M ++ [.ins 1 []]) apg0 ho
  rw [aps0] at hh
  have e1 := fun m => apg0 (L := M) (m := m) (r := [])
  have e2 := fun m => apt (L := M) (r := [m])
  walk_at "ev"
theorem len_ok {k : Nat} {L : Mu} {s g h : Int} (ho : OvOk s g h) : Ac.run P (k + 1) 10 [ovD s g h] L = .ok (.int ((s - 1) * g + 2 * h)) L := by
  obtain ⟨h1, h2, h3, h4, h5, h6⟩ := ho
  rw [rn_Oval_length]
  unfold t_Oval_length
  walk_at "ev"
theorem rim_ok {k : Nat} {L : Mu} {s g h : Int} (ho : OvOk s g h) : Ac.run P (k + 1) 11 [ovD s g h] L = .ok (.int (2 * (s - 1) * g + 710 * h / 113)) L := by
  obtain ⟨h1, h2, h3, h4, h5, h6⟩ := ho
  rw [rn_Oval_rim]
  unfold t_Oval_rim
  walk_at "ev"
theorem grown_ok {k : Nat} {L : Mu} {s g h m : Int} (hw : wfM L.length L = true) (ho : OvOk s g h) (hm : 0 ≤ m) (hm2 : h + m ≤ 20) : Ac.run P (k + 2) 12 [ovD s g h, .int m] L = .ok (ovD s g (h + m)) L := by
  have hk := mk_ov (k := k) (M := L) (s := s) (g := g) (h := h + m) hw (by obtain ⟨h1, h2, h3, h4, h5, h6⟩ := ho; exact ⟨h1, h2, h3, h4, by omega, hm2⟩)
  rw [rn_Oval_grown]
  unfold t_Oval_grown
  walk_at "evm"
theorem grown_ex {k : Nat} {L : Mu} {s g h m : Int} (hm : m < 0) : Ac.run P (k + 1) 12 [ovD s g h, .int m] L = .ex 1 none L := by
  rw [rn_Oval_grown]
  unfold t_Oval_grown
  walk_at "ev"
theorem key_ok {k : Nat} {L : Mu} {s g h : Int} : Ac.run P (k + 1) 15 [ovD s g h] L = .ok (.tup [.int s, .int g, .int h]) L := by
  rw [rn_Oval_key]
  unfold t_Oval_key
  walk_at "ev"
def ceilF (r e : Int) : Int := 0 - (0 - r) / e
theorem stake_ok {k : Nat} {L : Mu} {s g h e : Int} (ho : OvOk s g h) (he : 1 ≤ e) (he2 : e ≤ 9) : Ac.run P (k + 2) 13 [ovD s g h, .int e] L = .ok (.int (ceilF (2 * (s - 1) * g + 710 * h / 113) e + ceilF (2 * (s - 1) * g + 710 * h / 113) e % 2)) L := by
  have hr := rim_ok (k := k) (L := L) ho
  rw [rn_Oval_stake_count]
  unfold t_Oval_stake_count
  walk_at "ev"
  rfl
theorem stake_ex {k : Nat} {L : Mu} {s g h e : Int} (he : e < 1) : Ac.run P (k + 1) 13 [ovD s g h, .int e] L = .ex 1 none L := by
  rw [rn_Oval_stake_count]
  unfold t_Oval_stake_count
  walk_at "ev"
theorem rim_b {s g h : Int} (ho : OvOk s g h) : 8 ≤ 2 * (s - 1) * g + 710 * h / 113 ∧ 2 * (s - 1) * g + 710 * h / 113 ≤ 200 := by
  obtain ⟨h1, h2, h3, h4, h5, h6⟩ := ho
  rcases (show s = 2 ∨ s = 3 ∨ s = 4 ∨ s = 5 ∨ s = 6 by omega) with rfl | rfl | rfl | rfl | rfl <;> omega
theorem ceil_1 {r e k : Int} (he : 1 ≤ e) (h : ceilF r e ≤ k) : r ≤ k * e := by
  unfold ceilF at h
  have h1 := Int.mul_ediv_add_emod (0 - r) e
  have h2 := Int.emod_nonneg (0 - r) (show e ≠ 0 by omega)
  have h3 : (0 - (0 - r) / e) * e ≤ k * e := Int.mul_le_mul_of_nonneg_right h (by omega)
  have h4 : (0 - (0 - r) / e) * e = 0 - e * ((0 - r) / e) := by rw [Int.sub_mul, Int.zero_mul, Int.mul_comm]
  omega
theorem ceil_2 {r e k : Int} (he : 1 ≤ e) (h : k < ceilF r e) : ¬ r ≤ k * e := by
  unfold ceilF at h
  have h1 := Int.mul_ediv_add_emod (0 - r) e
  have h2 := Int.emod_lt_of_pos (0 - r) (show 0 < e by omega)
  have h3 : (k + 1) * e ≤ (0 - (0 - r) / e) * e := Int.mul_le_mul_of_nonneg_right (by omega) (by omega)
  have h4 : (0 - (0 - r) / e) * e = 0 - e * ((0 - r) / e) := by rw [Int.sub_mul, Int.zero_mul, Int.mul_comm]
  have h5 : (k + 1) * e = k * e + e := by rw [Int.add_mul, Int.one_mul]
  omega
theorem ceil_b {r e : Int} (he : 1 ≤ e) (h1 : 8 ≤ r) (h2 : r ≤ 200) : 1 ≤ ceilF r e ∧ ceilF r e ≤ 200 := by
  constructor
  · rcases (show 0 < ceilF r e ∨ ceilF r e ≤ 0 by omega) with h | h
    · exact h
    · have := ceil_1 he h
      omega
  · rcases (show 200 < ceilF r e ∨ ceilF r e ≤ 200 by omega) with h | h
    · have := ceil_2 he h
      have h3 : 200 * 1 ≤ 200 * e := Int.mul_le_mul_of_nonneg_left he (by omega)
      omega
    · exact h
theorem find_sorted {p : Int → Bool} {b : Int} : ∀ {l : List Int}, l.Pairwise (· < ·) → b ∈ l → p b = true → (∀ a ∈ l, a < b → p a = false) → l.find? p = some b
  | [], _, h, _, _ => (List.not_mem_nil h).elim
  | x :: l, hs, hb, hp, hn => by
    rw [List.find?_cons]
    obtain ⟨h1, h2⟩ := List.pairwise_cons.mp hs
    rcases List.mem_cons.mp hb with rfl | hb
    · rw [hp]
    · rw [hn x List.mem_cons_self (h1 b hb)]
      exact find_sorted h2 hb hp fun a ha => hn a (List.mem_cons_of_mem _ ha)
theorem rg_pw {a b : Int} : (rg a b).Pairwise (· < ·) := by
  unfold rg
  rw [List.pairwise_map]
  exact List.pairwise_lt_range.imp fun h => by omega
theorem evens_pw : (rgc 0 2 200).Pairwise (· < ·) := by
  unfold rgc
  rw [List.pairwise_map]
  exact List.pairwise_lt_range.imp fun h => by omega
theorem evens_mem {c : Int} : c ∈ rgc 0 2 200 ↔ 0 ≤ c ∧ c < 400 ∧ c % 2 = 0 := by
  unfold rgc
  rw [List.mem_map]
  constructor
  · rintro ⟨j, hj, rfl⟩
    have := List.mem_range.mp hj
    omega
  · rintro ⟨h0, h1, h2⟩
    exact ⟨(c / 2).toNat, List.mem_range.mpr (by omega), by omega⟩
theorem evens_first {r e : Int} (he : 1 ≤ e) (h1 : 8 ≤ r) (h2 : r ≤ 200) : ∃ t, (rgc 0 2 200).filter (fun k => decide (r ≤ k * e)) = (ceilF r e + ceilF r e % 2) :: t := by
  have hb := ceil_b he h1 h2
  refine find_filter (find_sorted evens_pw (evens_mem.mpr ⟨by omega, by omega, by omega⟩) (decide_eq_true (ceil_1 he (by omega))) fun a ha hlt => decide_eq_false ?_)
  have := evens_mem.mp ha
  exact ceil_2 he (by omega)
def stkF (r e : Int) (odd : Bool) : Int := if odd = true ∧ max 3 (ceilF r e) % 2 = 0 then max 3 (ceilF r e) + 1 else max 3 (ceilF r e)
def stkP (r e : Int) (odd : Bool) (k : Int) : Bool := decide (r ≤ k * e) && (decide (k % 2 = 1) || !odd)
theorem stk_first {r e : Int} {odd : Bool} (he : 1 ≤ e) (h1 : 8 ≤ r) (h2 : r ≤ 200) : ∃ t, (rg 3 400).filter (stkP r e odd) = stkF r e odd :: t := by
  have hb := ceil_b he h1 h2
  refine find_filter (find_sorted rg_pw (mem_rg.mpr ?_) ?_ fun a ha hlt => ?_)
  · unfold stkF; split <;> omega
  · unfold stkP stkF
    rw [Bool.and_eq_true]
    refine ⟨decide_eq_true (ceil_1 he (by split <;> omega)), ?_⟩
    cases odd with
    | false => simp
    | true =>
      rw [Bool.not_true, Bool.or_false]
      refine decide_eq_true ?_
      split
      · omega
      · rename_i h; simp at h; omega
  · have ha := mem_rg.mp ha
    unfold stkP
    rw [Bool.and_eq_false_iff]
    unfold stkF at hlt
    by_cases h : a < ceilF r e
    · exact .inl (decide_eq_false (ceil_2 he h))
    · right
      split at hlt
      · rename_i hc
        rw [hc.1, Bool.not_true, Bool.or_false]
        exact decide_eq_false (by omega)
      · omega
theorem stk_ok {k : Nat} {L : Mu} {r e : Int} {odd : Bool} (he : 1 ≤ e) (he2 : e ≤ 9) (h1 : 8 ≤ r) (h2 : r ≤ 200) : Ac.run P (k + 1) 17 [.int r, .int e, .bl odd] L = .ok (.int (stkF r e odd)) L := by
  rw [rn_stakes_round]
  unfold t_stakes_round stkF
  have hc : 0 - (0 - r) / e = ceilF r e := rfl
  cases odd with
  | false =>
    rw [if_neg (by simp)]
    walk_at "ev"
  | true =>
    by_cases h3 : max 3 (ceilF r e) % 2 = 0
    · rw [if_pos ⟨rfl, h3⟩]
      have h4 : decide (max 3 (ceilF r e) % 2 = 0) = true := decide_eq_true h3
      clear h3
      walk_at "ev"
    · rw [if_neg (fun h => h3 h.2)]
      walk_at "ev"
def chN (r : Int) : Nat := if r = 0 then 122 else 115
theorem word_ok {k : Nat} {M : Mu} {σ : Dc} : ∃ (w : Tx) (τ : Dc), Ac.run P (k + 2) 30 [.rf 0, .str [122, 115], .int 0, .int 6] (dcM σ :: M) = .ok (.str w) (dcM τ :: M) ∧ w.length ≤ 6 ∧ ∀ c ∈ w, c = 122 ∨ c = 115 := by
  have R := @roll
  obtain ⟨n0, σ1, n00, n01, e1, f1⟩ := roll_ex σ (m := 7) (by decide)
  obtain ⟨rs, τ, h1, h2, h3⟩ := lc_rollsD (mm := false) (g := stands ((rg 0 n0).map D.int) none) (F := lcf P (Ac.run P (k + 1)) [4, 5] (T.loc 5) T.nop (T.ix (T.loc 1) (T.call 26 (T.cons (T.loc 0) (T.cons (T.bi Bi.len false (T.cons (T.loc 1) T.nil)) T.nil)))) [some (.rf 0), some (.str [122, 115]), some (.int 0), some (.int 6), none, none]) (m := 2) (h := fun r => D.str [chN r]) (i := 0) (by decide) (fun _ => rfl) (l := (rg 0 n0).map D.int) (L := dcM σ1 :: M) (s := σ1) rfl (fun d hd L s hL => by
    have R2 := @roll
    have b0 := rolV_0 (s := s) (m := 2) (by decide)
    have b1 := rolV_1 (s := s) (m := 2) (by decide)
    unfold chN
    rcases (show rolV s 2 = 0 ∨ rolV s 2 = 1 by omega) with e | e
    · walk_at "ev"
    · walk_at "ev")
  have hl : (rs.length : Int) = n0 := by rw [h2, List.length_map, rg_len]; omega
  have hz : (0 : Int) + n0 = n0 := Int.zero_add _
  rw [rn__law_word]
  unfold t__law_word
  refine ⟨rs.map chN, τ, ?_, by rw [List.length_map]; omega, fun c hc => ?_⟩
  · clear h2 h3
    have e4 : txs (rs.map fun z => D.str [chN z]) = some (rs.map fun z => [chN z]) := txs_map
    walk_at "ev"
  · obtain ⟨r, hr, rfl⟩ := List.mem_map.mp hc
    unfold chN; split
    · exact .inl rfl
    · exact .inr rfl
def liesD (d : Int) : Bool := decide (d = -1 ∨ d = 0 ∨ d = 1)
def liesB (w : Tx) : Bool := liesD (Txt.count (Tx.s w) (Tx.s [122]) - Txt.count (Tx.s w) (Tx.s [115]))
theorem in3 {a x y z : Int} {L : Mu} : oc .In (.int a) (.lst [.int x, .int y, .int z]) L = .ok (.bl (decide (a = x ∨ a = y ∨ a = z))) L := by
  have := in_intsL (a := a) (ns := [x, y, z]) (L := L)
  simpa only [List.mem_cons, List.not_mem_nil, or_false, List.map_cons, List.map_nil] using this
theorem lies_ok {k : Nat} {L : Mu} {s g h : Int} {w : Tx} (hw : ∀ c ∈ w, c = 122 ∨ c = 115) : Ac.run P (k + 1) 14 [ovD s g h, .str w] L = .ok (.bl (liesB w)) L := by
  rw [rn_Oval_lies_flat]
  unfold t_Oval_lies_flat liesB
  walk_at "ev"
  rw [gn_any (p := fun c : Nat => false) rfl (fun c hc => by
    rcases hw c hc with rfl | rfl
    · walk_at "ev"
    · walk_at "ev")]
  have ha : w.any (fun _ => false) = false := by simp
  have hd : ∀ d : Int, liesD d = decide ((if d < 0 then -d else d) ≤ 1) := fun d => by
    unfold liesD
    rw [decide_eq_decide]
    split <;> omega
  rw [hd]
  walk_at "ev"
theorem lies_ex {k : Nat} {L : Mu} {s g h : Int} : Ac.run P (k + 1) 14 [ovD s g h, .str [120]] L = .ex 2 none L := by
  rw [rn_Oval_lies_flat]
  unfold t_Oval_lies_flat
  walk_at "ev"
/-! ### refusals -/
theorem best_ex {k : Nat} {L : Mu} {w : Int} {ks : List (Kt × D)} (h : 10 < ks.length) : Ac.run P (k + 1) 24 [.int w, .dct ks] L = .ex 2 none L := by
  rw [rn_best_boards]
  unfold t_best_boards
  walk_at "ev"
abbrev ks11 : List (Kt × D) := (rg 0 11).map fun z => ((Sum.inr (txI z) : Kt), D.int 1)
theorem keys11 : 10 < (mergeD [] ks11).length := by decide +kernel
theorem cases_ok {k : Nat} {L : Mu} (hw : wfM L.length L = true) : Ac.run P (k + 3) 31 [] L = .ok (.bl true) L := by
  have key : Tr (fun d M => d = .bl true ∧ M = L) (svR (sv P (Ac.run P (k + 2)) t__law_cases1 [none, none] L)) := by
    unfold t__law_cases1
    have r0 := @rn_stakes_round
    have r1 := @rn_Board_init
    have tl := List.take_length (l := L)
    have e2 := fun m => apt (L := L) (r := [m])
    refine Tr.go ?_
    refine Tr.st (δ' := [none, none]) (L' := L) ?a1 ?a2
    case a1 =>
      walk_at "ev"
      simp only [t_stakes_round]
      (walk_at "ev") <;> rfl
    refine Tr.st (δ' := [none, none]) (L' := L) ?b1 ?b2
    case b1 =>
      walk_at "ev"
      simp only [t_Board_init]
      (walk_at "ev") <;> rfl
    have hx := best_ex (k := k + 1) (L := L) (w := 1) keys11
    have hp : prsO ((rg 0 11).map fun z => D.tup [.str (txI z), .int 1]) = some ks11 := rfl
    refine Tr.st (δ' := [none, none]) (L' := L) ?c1 ?c2
    case c1 =>
      walk_at "ev"
      rw [lc_map (h := fun z => .tup [.str (txI z), .int 1]) rfl (fun z hz => by
        have hz := mem_rg.mp hz
        walk_at "ev")]
      walk_at "ev"
    exact Tr.ret (by walk_at "ev") ⟨rfl, rfl⟩
  obtain ⟨d, M, h1, rfl, rfl⟩ := key
  rw [rn__law_cases1]
  rw [fnR_1 (np := 0) (args := []) rfl]
  show fin 1 _ (svR (sv P (Ac.run P (k + 2)) t__law_cases1 [none, none] M)) = _
  rw [h1]
  have tl := List.take_length (l := M)
  walk_at "ev"
theorem rest2_ok {k : Nat} {L : Mu} {s g h : Int} (hw : wfM L.length L = true) : Ac.run P (k + 4) 32 [ovD s g h] L = .ok (.bl true) L := by
  have hc := cases_ok (k := k) hw
  rw [rn__law_rest2]
  unfold t__law_rest2
  have r0 := @rn_Round_init
  have r1 := @rn_Oval_init
  have r2 := fun (k : Nat) (L : Mu) => grown_ex (k := k) (L := L) (s := s) (g := g) (h := h) (m := -1) (by decide)
  have r3 := fun (k : Nat) (L : Mu) => stake_ex (k := k) (L := L) (s := s) (g := g) (h := h) (e := 0) (by decide)
  have r4 := fun (k : Nat) (L : Mu) => lies_ex (k := k) (L := L) (s := s) (g := g) (h := h)
  have tl := List.take_length (l := L)
  have e2 := fun m => apt (L := L) (r := [m])
  iterate 12 (try (walk_at "ev"); try simp only [t_Round_init, t_Oval_init])
/-! ### dishes -/
def I0 (ov : D) (e rim : Int) (M : Mu) (j : Int) (δ : Ds) (L : Mu) : Prop := ∃ (σ : Dc) (ns : List Int) (x4 : Option D), δ = [some (.rf 0), some (ov), some (.int e), some (.int rim), x4, none, none, none, none, none, none, none, none, none, none, none, none, none, none, some (.rf (M.length + 1)), none, none, none, none, none, none] ∧ L = dcM σ :: (M ++ [.lst (ns.map .int)]) ∧ (ns.length : Int) = j + 1
theorem l0 {ov : D} {e rim : Int} {M : Mu} {k : Nat} (j : Int) (h0 : 0 ≤ j) (h1 : j ≤ 10) (δ : Ds) (L : Mu) (h : I0 ov e rim M j δ L) : Nx (I0 ov e rim M (j + 1)) (@zG (asg P (Ac.run P (k + 1)) (.loc 4) (.int j) δ L) ⟨fun δ L => sv P (Ac.run P (k + 1)) b__law_rest1_1 δ L⟩) := by
  obtain ⟨σ, ns, x4, rfl, rfl, hl⟩ := h
  obtain ⟨n, σ1, n0, n1, e1, f1⟩ := roll_ex σ (m := 4) (by decide)
  have R := @roll
  unfold b__law_rest1_1
  have hm : ns.map D.int ++ [.int (ns.getD j.toNat 0 + n - 1)] = (ns ++ [ns.getD j.toNat 0 + n - 1]).map .int := by simp
  walk_at "ev"
  refine Nx.nx ?_
  exact ⟨σ1, ns ++ [ns.getD j.toNat 0 + n - 1], _, rfl, rfl, by simp; omega⟩
def stpD (ns : List Int) (k : Int) : Int := ns.getD k.toNat 0 - ns.getD (k - 1).toNat 0
def stpB (ns : List Int) (k : Int) : Bool := decide (1 < (if stpD ns k < 0 then -stpD ns k else stpD ns k))
def badB (ns : List Int) : Bool := (rg 1 ns.length).any (stpB ns)
theorem any_filter {α : Type} {p : α → Bool} {l : List α} : l.any p = !(l.filter p).isEmpty := by
  induction l with
  | nil => rfl
  | cons x l ih =>
    rw [List.any_cons, List.filter_cons, ih]
    cases p x <;> rfl
theorem dish_ok {k i : Nat} {L : Mu} {ns : List Int} (hi : L[i]? = some (.lst (ns.map .int))) (hn : 1 ≤ ns.length) (hl : ns.length ≤ 20) : Ac.run P (k + 1) 16 [.rf i] L = if badB ns then .ex 2 none L else .ok (.int (maxI ns - minI ns)) L := by
  rw [rn_dish_deep]
  unfold t_dish_deep
  have he : (!ns.isEmpty) = true := by cases ns with | nil => simp at hn | cons _ _ => rfl
  walk_at "ev"
  rw [gn_any (p := stpB ns) rfl (fun z hz => by
    have hz := mem_rg.mp hz
    unfold stpB stpD
    walk_at "ev")]
  rw [show (rg 1 (ns.length : Int)).any (stpB ns) = badB ns from rfl]
  cases hb : badB ns with
  | true => walk_at "ev"
  | false =>
    walk_at "ev"
/-! ### boards -/
abbrev Bd := Tx × Int
abbrev bD (e : Bd) : D := .tup [.str e.1, .int e.2]
def nm (r : Int) : Tx := [112 + r.toNat]
def BdOk (bs : List Bd) : Prop := ∀ e ∈ bs, (∃ r : Int, 0 ≤ r ∧ r < 4 ∧ e.1 = nm r) ∧ 1 ≤ e.2 ∧ e.2 ≤ 8
def sB (bs : List Bd) : Int := (bs.map Prod.snd).sum
abbrev brd (w l : Int) (bs : List Bd) : MO := .ins 2 [.int w, .int l, .tup (bs.map bD)]
theorem tOk_nm {r : Int} (h0 : 0 ≤ r) (h1 : r < 4) : tOk (nm r) = true := tOk_of fun c hc => by
  unfold nm at hc
  rw [List.mem_singleton] at hc
  omega
theorem cov_ok {k i : Nat} {L : Mu} {w l : Int} {bs : List Bd} (hi : L[i]? = some (brd w l bs)) (hb : BdOk bs) (hl : bs.length ≤ 20) : Ac.run P (k + 1) 20 [.rf i] L = .ok (.int (sB bs)) L := by
  rw [rn_Board_covered]
  unfold t_Board_covered
  walk_at "ev"
  rw [gn_sum (f := bD) (p := fun _ => true) (v := Prod.snd) rfl (fun z hz => by walk_at "ev") (fun z hz => by have := hb z hz; omega) (by omega) (by omega)]
  walk_at "ev"
  rw [filter_T]
  unfold sB
  rw [Int.zero_add]
def dueB (w l : Int) (bs : List Bd) (n : Tx) (b z : Int) : Option Nat :=
  if n ∈ bs.map Prod.fst then some 8 else if z < l ∨ b < 1 then some 1 else if w < sB bs + b then some 4 else none
theorem fst_map {bs : List Bd} : bs.map (fun e => D.str e.1) = (bs.map Prod.fst).map .str := by rw [List.map_map]; rfl
theorem snd_map {bs : List Bd} : bs.map (fun e => D.int e.2) = (bs.map Prod.snd).map .int := by rw [List.map_map]; rfl
def layR (i : Nat) (L : Mu) (w l : Int) (bs : List Bd) (n : Tx) (b : Int) : Option Nat → RE → Prop
  | some c, r => ∃ p, r = .ex c p L
  | none, r => r = .ok .non (L.set i (brd w l (bs ++ [(n, b)])))
theorem lay_ok {k i : Nat} {L : Mu} {w l b z r : Int} {bs : List Bd} (hi : L[i]? = some (brd w l bs)) (hb : BdOk bs) (hl : bs.length ≤ 20) (hr0 : 0 ≤ r) (hr1 : r < 4) : layR i L w l bs (nm r) b (dueB w l bs (nm r) b z) (Ac.run P (k + 2) 19 [.rf i, .str (nm r), .int b, .int z] L) := by
  rw [rn_Board_lay]
  unfold t_Board_lay
  have hc := cov_ok (k := k) hi hb hl
  have hn := tOk_nm hr0 hr1
  have hne : (nm r = []) = False := by unfold nm; simp
  have hte : tOk [] = true := by decide +kernel
  have hin := @in_strsL (nm r) (bs.map Prod.fst)
  have hF := @fst_map bs
  have key : ∀ (δ : Ds) (g : Mu → Bool), δ = [some (.rf i), some (.str (nm r)), some (.int b), some (.int z), none, none] → g L = true → lcR false g (lcf P (Ac.run P (k + 1)) [4, 5] (T.loc 5) T.nop ((T.loc 5).ix (T.int 0)) δ) (bs.map bD) L = .ok (.lst ((bs.map Prod.fst).map .str)) L := fun δ g hδ hg => by
    subst hδ
    rw [lc_map (f := bD) (h := fun e => .str e.1) hg (fun e he => by walk_at "ev"), fst_map]
    rfl
  have g1 : ∀ x, (L.set i x)[i]? = some x := fun x => set_get hi
  have g2 : ∀ x y : MO, (L.set i x).set i y = L.set i y := fun x y => List.set_set ..
  unfold dueB
  by_cases c1 : nm r ∈ bs.map Prod.fst
  · rw [if_pos c1]
    refine ⟨none, ?_⟩
    walk_at "ev"
  · rw [if_neg c1]
    by_cases c2 : z < l ∨ b < 1
    · rw [if_pos c2]
      refine ⟨none, ?_⟩
      rcases c2 with c2 | c2
      · walk_at "ev"
      · by_cases c3 : z < l
        · walk_at "ev"
        · walk_at "ev"
    · rw [if_neg c2]
      have c4 : ¬ z < l := fun h => c2 (.inl h)
      have c5 : ¬ b < 1 := fun h => c2 (.inr h)
      by_cases c3 : w < sB bs + b
      · rw [if_pos c3]
        refine ⟨none, ?_⟩
        walk_at "ev"
      · rw [if_neg c3]
        show _ = RE.ok .non (L.set i (.ins 2 [.int w, .int l, .tup ((bs ++ [(nm r, b)]).map bD)]))
        have hm : (bs ++ [(nm r, b)]).map bD = bs.map bD ++ [D.tup [.str (nm r), .int b]] := by simp
        rw [hm]
        walk_at "ev"
def I5 (ov : D) (e rim w l : Int) (bad odd : Bool) (x4 : Option D) (M : Mu) (R : MO) (j : Int) (δ : Ds) (L : Mu) : Prop := ∃ (σ : Dc) (bs : List Bd) (x9 x10 x11 x14 x16 x20 : Option D), δ = [some (.rf 0), some (ov), some (.int e), some (.int rim), x4, some (.bl bad), some (.bl odd), some (.int l), some (.lst (bs.map bD)), x9, x10, x11, none, none, x14, none, x16, some (.rf (M.length + 2)), none, some (.rf (M.length + 1)), x20, none, some (.int w), none, none, none] ∧ L = dcM σ :: (M ++ [R, brd w l bs]) ∧ (bs.length : Int) ≤ j ∧ BdOk bs
theorem bd_app {bs : List Bd} {r b : Int} (h : BdOk bs) (h0 : 0 ≤ r) (h1 : r < 4) (h2 : 1 ≤ b) (h3 : b ≤ 8) : BdOk (bs ++ [(nm r, b)]) := fun e he => by
  rcases List.mem_append.mp he with he | he
  · exact h e he
  · rw [List.mem_singleton] at he; subst he; exact ⟨⟨r, h0, h1, rfl⟩, h2, h3⟩
theorem l5 {ov : D} {e rim w l : Int} {bad odd : Bool} {x4 : Option D} {M : Mu} {R : MO} {k : Nat} (j : Int) (h1 : j ≤ 10) (hw : 1 ≤ w ∧ w ≤ 20) (hl2 : 1 ≤ l ∧ l ≤ 9) (δ : Ds) (L : Mu) (h : I5 ov e rim w l bad odd x4 M R j δ L) : Nx (I5 ov e rim w l bad odd x4 M R (j + 1)) (@zG (asg P (Ac.run P (k + 2)) (.loc 9) (.int j) δ L) ⟨fun δ L => sv P (Ac.run P (k + 2)) b__law_rest1_0 δ L⟩) := by
  obtain ⟨σ, bs, x9, x10, x11, x14, x16, x20, rfl, rfl, hl, hb⟩ := h
  obtain ⟨r, σ1, r0, r1, e1, f1⟩ := roll_ex σ (m := 4) (by decide)
  obtain ⟨b, σ2, b0, b1, e2, f2⟩ := roll_ex σ1 (m := 9) (by decide)
  obtain ⟨n, σ3, n0, n1, e3, f3⟩ := roll_ex σ2 (m := 4) (by decide)
  have RR := @roll
  unfold b__law_rest1_0
  simp only [asg_loc, zG_ok, List.set_cons_succ, List.set_cons_zero]
  refine Nx.go ?_
  refine Nx.st (δ' := [some (.rf 0), some (ov), some (.int e), some (.int rim), x4, some (.bl bad), some (.bl odd), some (.int l), some (.lst (bs.map bD)), some (.int j), x10, x11, none, none, some (.str (nm r)), none, some (.int b), some (.rf (M.length + 2)), none, some (.rf (M.length + 1)), some (.int (l + n - 1)), none, some (.int w), none, none, none]) (L' := dcM σ3 :: (M ++ [R, brd w l bs])) ?a1 ?a2
  case a1 =>
    have q0 : nm 0 = [112] := rfl
    have q1 : nm 1 = [113] := rfl
    have q2 : nm 2 = [114] := rfl
    have q3 : nm 3 = [115] := rfl
    rcases (show r = 0 ∨ r = 1 ∨ r = 2 ∨ r = 3 by omega) with rfl | rfl | rfl | rfl <;> walk_at "ev"
  clear RR e1 e2 e3 f1 f2 f3
  generalize hz : l + n - 1 = z
  have hL := lay_ok (k := k) (i := M.length + 2) (L := dcM σ3 :: (M ++ [R, brd w l bs])) (w := w) (l := l) (b := b) (z := z) (r := r) (bs := bs) (by walk_at "ev") hb (by omega) r0 r1
  have hn := tOk_nm r0 r1
  have hin := @in_strsL (nm r) (bs.map Prod.fst)
  refine Nx.st (δ' := [some (.rf 0), some (ov), some (.int e), some (.int rim), x4, some (.bl bad), some (.bl odd), some (.int l), some (.lst (bs.map bD)), some (.int j), some (.bl (decide (nm r ∈ bs.map Prod.fst))), x11, none, none, some (.str (nm r)), none, some (.int b), some (.rf (M.length + 2)), none, some (.rf (M.length + 1)), some (.int z), none, some (.int w), none, none, none]) (L' := dcM σ3 :: (M ++ [R, brd w l bs])) ?b1 ?b2
  case b1 =>
    walk_at "ev"
    rw [lc_map (f := bD) (h := fun e => .str e.1) rfl (fun e he => by walk_at "ev"), fst_map]
    walk_at "ev"
  have hS : ∀ (g : Mu → Bool) (F : D → Mu → Option (Option D × Mu)), g (dcM σ3 :: (M ++ [R, brd w l bs])) = true → (∀ e ∈ bs, F (bD e) (dcM σ3 :: (M ++ [R, brd w l bs])) = some (some (.int e.2), dcM σ3 :: (M ++ [R, brd w l bs]))) → lcR false g F (bs.map bD) (dcM σ3 :: (M ++ [R, brd w l bs])) = .ok (.lst ((bs.map Prod.snd).map .int)) (dcM σ3 :: (M ++ [R, brd w l bs])) := fun g F hg hF => by
    rw [lc_map (f := bD) (h := fun e => .int e.2) hg hF, snd_map]
    rfl
  unfold dueB at hL
  by_cases c1 : nm r ∈ bs.map Prod.fst
  · rw [if_pos c1] at hL
    obtain ⟨p, hL⟩ := hL
    have c1' : decide (nm r ∈ bs.map Prod.fst) = true := decide_eq_true c1
    refine Nx.st (δ' := ?d1) (L' := ?l1) ?e1 ?e2
    case e1 => (walk_at "ev") <;> rfl
    refine Nx.st (δ' := ?d2) (L' := ?l2) ?f1 ?f2
    case f1 => (walk_at "ev") <;> rfl
    refine Nx.st (δ' := ?d3) (L' := ?l3) ?g1 ?g2
    case g1 => (walk_at "ev") <;> rfl
    exact Nx.end ⟨σ3, bs, _, _, _, _, _, _, rfl, rfl, by omega, hb⟩
  · rw [if_neg c1] at hL
    have c1' : decide (nm r ∈ bs.map Prod.fst) = false := decide_eq_false c1
    by_cases c2 : z < l ∨ b < 1
    · rw [if_pos c2] at hL
      obtain ⟨p, hL⟩ := hL
      refine Nx.st (δ' := [some (.rf 0), some (ov), some (.int e), some (.int rim), x4, some (.bl bad), some (.bl odd), some (.int l), some (.lst (bs.map bD)), some (.int j), some (.bl (decide (nm r ∈ bs.map Prod.fst))), some (.str [115, 105, 122, 101]), none, none, some (.str (nm r)), none, some (.int b), some (.rf (M.length + 2)), none, some (.rf (M.length + 1)), some (.int z), none, some (.int w), none, none, none]) (L' := dcM σ3 :: (M ++ [R, brd w l bs])) ?h1 ?h2
      case h1 =>
        by_cases c3 : z < l
        · walk_at "ev"
        · have c4 : b < 1 := by omega
          walk_at "ev"
      refine Nx.st (δ' := ?d5) (L' := ?l5) ?i1 ?i2
      case i1 => (walk_at "ev") <;> rfl
      refine Nx.st (δ' := ?d6) (L' := ?l6) ?j1 ?j2
      case j1 => (walk_at "ev") <;> rfl
      exact Nx.end ⟨σ3, bs, _, _, _, _, _, _, rfl, rfl, by omega, hb⟩
    · rw [if_neg c2] at hL
      have c4 : ¬ z < l := fun h => c2 (.inl h)
      have c5 : ¬ b < 1 := fun h => c2 (.inr h)
      have hsB : (bs.map Prod.snd).sum = sB bs := rfl
      by_cases c3 : w < sB bs + b
      · rw [if_pos c3] at hL
        obtain ⟨p, hL⟩ := hL
        refine Nx.st (δ' := [some (.rf 0), some (ov), some (.int e), some (.int rim), x4, some (.bl bad), some (.bl odd), some (.int l), some (.lst (bs.map bD)), some (.int j), some (.bl (decide (nm r ∈ bs.map Prod.fst))), some (.str [110, 111, 32, 114, 111, 111, 109]), none, none, some (.str (nm r)), none, some (.int b), some (.rf (M.length + 2)), none, some (.rf (M.length + 1)), some (.int z), none, some (.int w), none, none, none]) (L' := dcM σ3 :: (M ++ [R, brd w l bs])) ?k1 ?k2
        case k1 => walk_at "ev"
        refine Nx.st (δ' := ?d8) (L' := ?l8) ?m1 ?m2
        case m1 => (walk_at "ev") <;> rfl
        refine Nx.st (δ' := ?d9) (L' := ?l9) ?o1 ?o2
        case o1 => (walk_at "ev") <;> rfl
        exact Nx.end ⟨σ3, bs, _, _, _, _, _, _, rfl, rfl, by omega, hb⟩
      · rw [if_neg c3] at hL
        have hL : _ = _ := hL
        refine Nx.st (δ' := [some (.rf 0), some (ov), some (.int e), some (.int rim), x4, some (.bl bad), some (.bl odd), some (.int l), some (.lst (bs.map bD)), some (.int j), some (.bl (decide (nm r ∈ bs.map Prod.fst))), some (.non), none, none, some (.str (nm r)), none, some (.int b), some (.rf (M.length + 2)), none, some (.rf (M.length + 1)), some (.int z), none, some (.int w), none, none, none]) (L' := dcM σ3 :: (M ++ [R, brd w l bs])) ?p1 ?p2
        case p1 => walk_at "ev"
        simp only [List.set_cons_succ, aps1] at hL
        refine Nx.st (δ' := ?d11) (L' := ?l11) ?q1 ?q2
        case q1 => (walk_at "ev") <;> rfl
        refine Nx.st (δ' := ?d12) (L' := ?l12) ?r1 ?r2
        case r1 => (walk_at "ev") <;> rfl
        have hm : (bs ++ [(nm r, b)]).map bD = bs.map bD ++ [D.tup [.str (nm r), .int b]] := by simp
        exact Nx.end ⟨σ3, bs ++ [(nm r, b)], _, _, _, _, _, _, by rw [hm] <;> rfl, rfl, by simp; omega, bd_app hb r0 r1 (by omega) (by omega)⟩
theorem for_end {α : Type} {g : Mu → Bool} {f : D → Ds → Mu → RT} {e : α → D} (I : List α → Ds → Mu → Prop) (Q : RT → Prop) (hg : ∀ l δ L, I l δ L → g L = true) (h0 : ∀ δ L, I [] δ L → Q (.nx δ L)) (hs : ∀ z l δ L, I (z :: l) δ L → (∃ δ' L', f (e z) δ L = .nx δ' L' ∧ I l δ' L') ∨ (∃ d L', f (e z) δ L = .rt d L' ∧ Q (.rt d L'))) : ∀ l δ L, I l δ L → Q (@forF g ⟨f⟩ (l.map e) δ L)
  | [], δ, L, h => by rw [List.map_nil, @forF_nil L δ g ⟨f⟩ (hg _ _ _ h)]; exact h0 δ L h
  | z :: l, δ, L, h => by
    rw [List.map_cons, forF_cons (f := f) (hg _ _ _ h)]
    rcases hs z l δ L h with ⟨δ', L', h1, h2⟩ | ⟨d, L', h1, h2⟩
    · rw [h1, loop_nx]; exact for_end I Q hg h0 hs l δ' L' h2
    · rw [h1]; exact h2
def pre (bs : List Bd) (n : Int) : Int := ((bs.take n.toNat).map Prod.snd).sum
theorem pre_s {bs : List Bd} {j : Nat} {e : Bd} (h : bs[j]? = some e) : pre bs ((j : Int) + 1) = pre bs j + e.2 := by
  unfold pre
  rw [show ((j : Int) + 1).toNat = j + 1 by omega, show ((j : Int)).toNat = j by omega, List.take_add_one, h]
  simp
theorem pre_0 {bs : List Bd} : pre bs 0 = 0 := rfl
theorem snd_lc {g : Mu → Bool} {F : D → Mu → Option (Option D × Mu)} {L : Mu} {bs : List Bd} (hg : g L = true) (hF : ∀ e ∈ bs, F (bD e) L = some (some (.int e.2), L)) : lcR false g F (bs.map bD) L = .ok (.lst ((bs.map Prod.snd).map .int)) L := by
  rw [lc_map (f := bD) (h := fun e => .int e.2) hg hF, snd_map]
  rfl
theorem cut_m1 {α : Type} {zs : List α} : cut zs none (some (-1)) = zs.dropLast := by
  have h : HT.sIx zs.length zs.length (some (-1)) = zs.length - 1 := by
    simp only [HT.sIx]
    rw [if_pos (by decide)]
    omega
  unfold cut
  rw [HT.sIx_none, h, List.drop_zero, List.dropLast_eq_take, Nat.sub_zero]
theorem rg_take {α : Type} {f : Int → α} {n m : Int} (h : m ≤ n) : ((rg 0 n).map f).take m.toNat = (rg 0 m).map f := by
  unfold rg
  rw [← List.map_take, ← List.map_take, List.take_range]
  congr 3
  omega
theorem bd_fl {bs : List Bd} (hb : BdOk bs) : ∀ e ∈ bs, ∀ n, D.flat (n + 1) (bD e) = true := fun e he n => by
  obtain ⟨⟨r, r0, r1, hr⟩, _⟩ := hb e he
  unfold bD
  rw [flat_tup, flats_cons, flats_cons, flats_nil, flat_str, flat_int, hr, tOk_nm r0 r1]; rfl
theorem seams_ok {k i : Nat} {L : Mu} {w l : Int} {bs : List Bd} (hw : wfM L.length L = true) (hi : L[i]? = some (brd w l bs)) (hl : bs.length ≤ 20) : Ac.run P (k + 1) 21 [.rf i] L = .ok (.tup ((rg 0 (max 0 ((bs.length : Int) - 1))).map fun k => .int (pre bs (k + 1)))) L := by
  have hil : i < L.length := (List.getElem?_eq_some_iff.mp hi).1
  have hA : ∀ d, (L ++ [d])[i]? = some (brd w l bs) := fun d => by rw [List.getElem?_append_left hil]; exact hi
  rw [rn_Board_seams, fnR_1 (np := 1) (args := [.rf i]) rfl]
  show fin 1 L.length (svR (sv P (Ac.run P k) t_Board_seams [some (.rf i), none, none, none, none] L)) = _
  unfold t_Board_seams
  obtain ⟨δ', L', h1, x3, x4, h2, h3⟩ := for_inv (g := stands (bs.dropLast.map bD) none) (f := fun d δ L => @zG (asg P (Ac.run P k) (T.tup (T.cons (T.loc 3) (T.cons (T.loc 4) T.nil))) d δ L) ⟨fun δ L => sv P (Ac.run P k) b_Board_seams_0 δ L⟩) (xs := bs.dropLast.map bD) (δ := [some (.rf i), some (.rf L.length), some (.int 0), none, none]) (L := L ++ [.lst []])
    (fun j δ M => ∃ x3 x4, δ = [some (.rf i), some (.rf L.length), some (.int (pre bs j)), x3, x4] ∧ M = L ++ [.lst ((rg 0 j).map fun k => .int (pre bs (k + 1)))]) (fun _ _ _ _ => rfl) ⟨none, none, rfl, rfl⟩ (by
      rintro j d δ M hd ⟨x3, x4, rfl, rfl⟩
      rw [List.getElem?_map] at hd
      obtain ⟨y, hy, rfl⟩ := Option.map_eq_some_iff.mp hd
      have hy2 : bs[j]? = some y := by
        rw [List.getElem?_dropLast] at hy
        split at hy
        · exact hy
        · cases hy
      have hp := pre_s hy2
      have hq := rg_succ (a := 0) (b := (j : Int)) (by omega)
      have hjl := (List.getElem?_eq_some_iff.mp hy2).1
      refine ⟨[some (.rf i), some (.rf L.length), some (.int (pre bs ((j + 1 : Nat) : Int))), some (.str y.1), some (.int y.2)], _, .inl ?_, _, _, rfl, rfl⟩
      unfold b_Board_seams_0
      rw [show ((j + 1 : Nat) : Int) = (j : Int) + 1 by omega, hp, hq, List.map_append]
      simp only [List.map_cons, List.map_nil]
      rw [hp]
      walk_at "ev")
  have hc : cut (bs.map bD) none (some (-1)) = bs.dropLast.map bD := by rw [cut_m1, List.map_dropLast]
  have hlen : ((bs.dropLast.map bD).length : Int) = max 0 ((bs.length : Int) - 1) := by rw [List.length_map, List.length_dropLast]; omega
  rw [h2, h3, hlen] at h1
  have hbw : D.blws L.length ((rg 0 (max 0 ((bs.length : Int) - 1))).map fun k => D.int (pre bs (k + 1))) = true := blws_map fun _ _ => blw_int
  walk_at "ev"
def nmK (bs : List Bd) (k : Int) : Tx := (bs.getD k.toNat ([], 0)).1
def overL (bs : List Bd) (p : Int) : List Int := (rg 0 bs.length).filter fun k => decide (p < pre bs (k + 1))
def holdR (L : Mu) (bs : List Bd) : List Int → RE
  | [] => .ex 3 none L
  | k :: _ => .ok (.str (nmK bs k)) L
theorem hold_ok {k i : Nat} {L : Mu} {w l p : Int} {bs : List Bd} (hi : L[i]? = some (brd w l bs)) (hp : 0 ≤ p) : Ac.run P (k + 1) 22 [.rf i, .int p] L = holdR L bs (overL bs p) := by
  rw [rn_Board_holder]
  unfold t_Board_holder
  have h := for_end (g := stands (bs.map bD) none) (f := fun d δ L => @zG (asg P (Ac.run P k) (T.tup (T.cons (T.loc 3) (T.cons (T.loc 4) T.nil))) d δ L) ⟨fun δ L => sv P (Ac.run P k) b_Board_holder_0 δ L⟩) (e := bD) (fun l δ M => ∃ (j : Nat) (x3 x4 : Option D), bs.drop j = l ∧ j ≤ bs.length ∧ δ = [some (.rf i), some (.int p), some (.int (pre bs j)), x3, x4] ∧ M = L ∧ ∀ q : Int, 0 ≤ q → q < j → ¬ p < pre bs (q + 1)) (fun r => (∃ q t, overL bs p = q :: t ∧ r = .rt (.str (nmK bs q)) L) ∨ (overL bs p = [] ∧ ∃ δ, r = .nx δ L)) (fun _ _ _ _ => rfl) (by
      rintro δ M ⟨j, x3, x4, hd, hj, rfl, rfl, hn⟩
      right
      have hjl : bs.length ≤ j := List.drop_eq_nil_iff.mp hd
      refine ⟨?_, _, rfl⟩
      unfold overL
      rw [List.filter_eq_nil_iff]
      intro q hq
      have hq := mem_rg.mp hq
      have := hn q hq.1 (by omega)
      simpa using this) (by
      rintro z r δ M ⟨j, x3, x4, hd, hj, rfl, rfl, hn⟩
      have hlt : j < bs.length := by
        rcases Nat.lt_or_ge j bs.length with h | h
        · exact h
        · rw [List.drop_eq_nil_iff.mpr h] at hd; cases hd
      have hz : bs[j]? = some z := by rw [← List.head?_drop, hd]; rfl
      have hr : bs.drop (j + 1) = r := by rw [← List.tail_drop, hd]; rfl
      have hs := pre_s hz
      have hge : pre bs j ≤ p := by
        rcases Nat.eq_zero_or_pos j with rfl | h
        · rw [show ((0 : Nat) : Int) = 0 from rfl, pre_0]; exact hp
        · have := hn ((j : Int) - 1) (by omega) (by omega)
          rw [Int.sub_add_cancel] at this
          omega
      unfold b_Board_holder_0
      by_cases c : p < pre bs j + z.2
      · right
        refine ⟨.str z.1, M, by walk_at "ev", .inl ?_⟩
        have hf : overL bs p = _ := rfl
        obtain ⟨t, ht⟩ := find_filter (find_sorted (p := fun q => decide (p < pre bs (q + 1))) rg_pw (mem_rg.mpr ⟨show (0 : Int) ≤ (j : Int) by omega, show (j : Int) < bs.length by omega⟩) (decide_eq_true (by rw [hs]; exact c)) fun a ha hlt => decide_eq_false (hn a (mem_rg.mp ha).1 hlt))
        refine ⟨j, t, ht, ?_⟩
        unfold nmK
        rw [List.getD_eq_getElem?_getD, show ((j : Int)).toNat = j by omega, hz]; rfl
      · left
        refine ⟨[some (.rf i), some (.int p), some (.int (pre bs ((j + 1 : Nat) : Int))), some (.str z.1), some (.int z.2)], M, ?_, j + 1, _, _, hr, hlt, rfl, rfl, fun q h0 h1 => ?_⟩
        · rw [show ((j + 1 : Nat) : Int) = (j : Int) + 1 by omega, hs]
          walk_at "ev"
        · by_cases hq : q < j
          · exact hn q h0 hq
          · rw [show q = (j : Int) by omega, hs]; exact c) bs [some (.rf i), some (.int p), some (.int 0), none, none] L ⟨0, none, none, rfl, Nat.zero_le _, rfl, rfl, fun q h0 h1 => by omega⟩
  rcases h with ⟨q, t, h1, h2⟩ | ⟨h1, δ, h2⟩
  · rw [h1]
    walk_at "ev"
    rfl
  · rw [h1]
    walk_at "ev"
    rfl
/-! ### the best boards -/
def setsG : List (List Tx) → List Tx → List (List Tx)
  | acc, [] => acc
  | acc, x :: xs => setsG (acc ++ acc.map (· ++ [x])) xs
abbrev sD (s : List Tx) : D := .tup (s.map .str)
abbrev gD (s : List Tx) : D := .tup [.int s.length, .tup (s.map .str)]
theorem sets_mem : ∀ {xs : List Tx} {acc : List (List Tx)} {Q : Tx → Prop}, (∀ s ∈ acc, ∀ x ∈ s, Q x) → (∀ x ∈ xs, Q x) → ∀ s ∈ setsG acc xs, ∀ x ∈ s, Q x
  | [], _, _, h, _ => h
  | y :: ys, acc, Q, h, hx => by
    unfold setsG
    refine sets_mem ?_ fun x hx2 => hx x (List.mem_cons_of_mem _ hx2)
    intro s hs x hxs
    rcases List.mem_append.mp hs with hs | hs
    · exact h s hs x hxs
    · obtain ⟨t, ht, rfl⟩ := List.mem_map.mp hs
      rcases List.mem_append.mp hxs with hxs | hxs
      · exact h t ht x hxs
      · rw [List.mem_singleton] at hxs
        subst hxs
        exact hx _ List.mem_cons_self
theorem sets_len : ∀ {xs : List Tx} {acc : List (List Tx)}, (setsG acc xs).length = acc.length * 2 ^ xs.length
  | [], acc => by simp [setsG]
  | y :: ys, acc => by
    unfold setsG
    rw [sets_len, List.length_append, List.length_map, List.length_cons, Nat.pow_succ, Nat.mul_comm (2 ^ ys.length) 2, ← Nat.mul_assoc]
    congr 1
    omega
theorem sets_sz : ∀ {xs : List Tx} {acc : List (List Tx)} {n : Nat}, (∀ s ∈ acc, s.length ≤ n) → ∀ s ∈ setsG acc xs, s.length ≤ n + xs.length
  | [], _, _, h => h
  | y :: ys, acc, n, h => by
    unfold setsG
    intro s hs
    have := sets_sz (n := n + 1) (acc := acc ++ acc.map (· ++ [y])) (xs := ys) (fun s hs => by
      rcases List.mem_append.mp hs with hs | hs
      · have := h s hs; omega
      · obtain ⟨t, ht, rfl⟩ := List.mem_map.mp hs
        have := h t ht
        simp; omega) s hs
    rw [List.length_cons]; omega
def SI (l : List Tx) (R acc : List (List Tx)) : Prop := setsG acc l = R ∧ (∀ s ∈ acc, s.length + l.length ≤ 10) ∧ acc.length * 2 ^ l.length ≤ 1024
theorem SI.next {x : Tx} {l : List Tx} {R acc : List (List Tx)} (h : SI (x :: l) R acc) : SI l R (acc ++ acc.map (· ++ [x])) := by
  obtain ⟨h1, h2, h3⟩ := h
  refine ⟨h1, fun s hs => ?_, ?_⟩
  · rcases List.mem_append.mp hs with hs | hs
    · have := h2 s hs; rw [List.length_cons] at this; omega
    · obtain ⟨t, ht, rfl⟩ := List.mem_map.mp hs
      have := h2 t ht
      rw [List.length_cons] at this
      simp; omega
  · rw [List.length_cons, Nat.pow_succ] at h3
    rw [List.length_append, List.length_map, Nat.add_mul]
    have : acc.length * (2 ^ l.length * 2) = acc.length * 2 ^ l.length + acc.length * 2 ^ l.length := by rw [← Nat.mul_assoc]; omega
    omega
theorem SI.sz {x : Tx} {l : List Tx} {R acc : List (List Tx)} (h : SI (x :: l) R acc) : acc.length ≤ 1024 ∧ ∀ s ∈ acc, s.length ≤ 10 := by
  obtain ⟨h1, h2, h3⟩ := h
  refine ⟨?_, fun s hs => by have := h2 s hs; omega⟩
  have : 1 ≤ 2 ^ (x :: l).length := Nat.one_le_two_pow
  have := Nat.mul_le_mul_left acc.length this
  omega
theorem app_sD {s : List Tx} {x : Tx} : sD (s ++ [x]) = .tup (s.map .str ++ [.str x]) := by simp [sD]
theorem app_sDs {acc : List (List Tx)} {x : Tx} : (acc ++ acc.map (· ++ [x])).map sD = acc.map sD ++ acc.map (fun s => sD (s ++ [x])) := by
  rw [List.map_append, List.map_map]; rfl
theorem sets_ok {k : Nat} {L : Mu} {xs : List Tx} (hl : xs.length ≤ 10) : Ac.run P (k + 1) 29 [.lst (xs.map .str)] L = .ok (.lst ((setsG [[]] xs).map sD)) L := by
  rw [rn__law_sets]
  unfold t__law_sets
  have h := for_ind (g := stands (xs.map D.str) none) (f := fun d δ L => @zG (asg P (Ac.run P k) (T.loc 2) d δ L) ⟨fun δ L => sv P (Ac.run P k) b__law_sets_0 δ L⟩) (e := D.str) (fun l δ M => ∃ acc x2, δ = [some (.lst (xs.map .str)), some (.lst (acc.map sD)), x2, none, none] ∧ M = L ∧ SI l (setsG [[]] xs) acc) (fun r => ∃ x2, r = .nx [some (.lst (xs.map .str)), some (.lst ((setsG [[]] xs).map sD)), x2, none, none] L) (fun _ _ _ _ => rfl) (by
      rintro δ M ⟨acc, x2, rfl, rfl, e, _⟩
      exact ⟨x2, by rw [← e]; rfl⟩) (by
      rintro z l δ M ⟨acc, x2, rfl, rfl, hS⟩
      left
      obtain ⟨z1, z2⟩ := hS.sz
      refine ⟨[some (.lst (xs.map .str)), some (.lst ((acc ++ acc.map (· ++ [z])).map sD)), some (.str z), none, none], M, ?_, _, _, rfl, rfl, hS.next⟩
      unfold b__law_sets_0
      walk_at "ev"
      rw [lc_map (f := sD) (h := fun s => sD (s ++ [z])) rfl (fun s hs => by
        have := z2 s hs
        rw [app_sD]
        walk_at "ev")]
      rw [app_sDs]
      walk_at "ev") xs [some (.lst (xs.map .str)), some (.lst [.tup []]), none, none, none] L ⟨[[]], none, rfl, rfl, rfl, fun s hs => by
        rw [List.mem_singleton] at hs; subst hs; simpa using hl, by
        rw [List.length_singleton, Nat.one_mul]
        exact Nat.pow_le_pow_right (n := 2) (by decide) hl⟩
  obtain ⟨x2, h⟩ := h
  walk_at "ev"
structure SkOk (ks : List (Kt × D)) (ns : List Tx) (f : Tx → Int) : Prop where
  keys : keysI ks = none ∧ keysS ks = some ns ∨ ks = [] ∧ ns = []
  val : ∀ x ∈ ns, valD ks (.inr x) = some (.int (f x)) ∧ 0 ≤ f x ∧ f x ≤ 100 ∧ tOk x = true
  len : ns.length ≤ 10 ∧ ks.length ≤ 10
def fitS (f : Tx → Int) (w : Int) (s : List Tx) : Bool := decide ((s.map f).sum = w)
def goodG (f : Tx → Int) (w : Int) (ns : List Tx) : List (List Tx) := (setsG [[]] (sortT ns)).filter (fitS f w)
def bestV (l : List (List Tx)) : D := match l with
  | [] => .non
  | s :: r => match leastD (gD s) (r.map gD) with
    | .tup [_, d] => d
    | _ => .non
def bestR (L : Mu) (l : List (List Tx)) : RE := match l with
  | [] => .ex 5 none L
  | s :: r => .ok (bestV (s :: r)) L
theorem gD_flat {s : List Tx} {n : Nat} (h : ∀ x ∈ s, tOk x = true) : D.flat (n + 2) (gD s) = true := by
  rw [flat_tup, flats_cons, flats_cons, flats_nil, flat_int, flat_tup, Bool.true_and, Bool.and_true]
  exact flats_map fun x hx => by rw [flat_str]; exact h x hx
theorem al_strs : ∀ (a b : List Tx), PySem.W.alikeAll (pds (a.map .str)) (pds (b.map .str)) = true
  | [], _ => by simp [pds, PySem.W.alikeAll]
  | _ :: _, [] => by simp [pds, PySem.W.alikeAll]
  | x :: a, y :: b => by
    simp only [List.map_cons, pds, D.pd, PySem.W.alikeAll, PySem.W.alike, Bool.true_and]
    exact al_strs a b
theorem gD_al (a b : List Tx) : alD (gD a) (gD b) = true := by
  unfold alD gD
  simp only [D.pd, pds, PySem.W.alike, PySem.W.alikeAll, Bool.true_and, Bool.and_true]
  exact al_strs a b
theorem gD_ok {l : List (List Tx)} (h : ∀ s ∈ l, ∀ x ∈ s, tOk x = true) : okAl (l.map gD) = true := by
  unfold okAl
  rw [Bool.and_eq_true]
  refine ⟨flats_map fun s hs => gD_flat (n := 56) (h s hs), ?_⟩
  rw [List.all_map, List.all_eq_true]
  intro a _
  show (!isNone (gD a) && (l.map gD).all fun b => alD (gD a) b) = true
  rw [List.all_map, Bool.and_eq_true]
  refine ⟨rfl, ?_⟩
  rw [List.all_eq_true]
  intro b _
  exact gD_al a b
theorem least_gD {s : List Tx} {r : List (List Tx)} : ∃ t ∈ s :: r, leastD (gD s) (r.map gD) = gD t ∧ bestV (s :: r) = sD t := by
  have h := leastD_mem (gD s) (r.map gD)
  rw [← List.map_cons] at h
  obtain ⟨t, ht, e⟩ := List.mem_map.mp h
  exact ⟨t, ht, e.symm, by simp only [bestV, ← e]⟩
theorem good_tok {ks : List (Kt × D)} {ns : List Tx} {f : Tx → Int} {w : Int} (h : SkOk ks ns f) : ∀ s ∈ setsG [[]] (sortT ns), ∀ x ∈ s, x ∈ ns := by
  refine sets_mem (fun s hs x hx => ?_) fun x hx => (sortT_perm ns).mem_iff.mp hx
  rw [List.mem_singleton] at hs
  subst hs
  cases hx
theorem srt_val {ks : List (Kt × D)} {ns : List Tx} {f : Tx → Int} {m : Bool} {L : Mu} (h : SkOk ks ns f) : biO .srt false [.dct ks] L = .ok (.lst ((sortT ns).map .str)) L := by
  rw [bi_srtD]
  rcases h.keys with ⟨h1, h2⟩ | ⟨rfl, rfl⟩
  · rw [h1, h2]; rfl
  · rfl
theorem sets_b {ns : List Tx} (h : ns.length ≤ 10) : (setsG [[]] (sortT ns)).length ≤ 1024 := by
  rw [sets_len, List.length_singleton, Nat.one_mul, (sortT_perm ns).length_eq]
  exact Nat.pow_le_pow_right (n := 2) (by decide) h
theorem sz_ns {ns : List Tx} (h : ns.length ≤ 10) : (sortT ns).length ≤ 10 := by rw [(sortT_perm ns).length_eq]; exact h
theorem best_ok {k : Nat} {L : Mu} {ks : List (Kt × D)} {ns : List Tx} {f : Tx → Int} {w : Int} (h : SkOk ks ns f) : Ac.run P (k + 1) 24 [.int w, .dct ks] L = bestR L (goodG f w ns) := by
  rw [rn_best_boards]
  unfold t_best_boards
  have hs := @srt_val ks ns f false L h
  have hl := h.len
  have hsz := sz_ns hl.1
  have hh := for_ind (g := stands ((sortT ns).map D.str) none) (f := fun d δ L => @zG (asg P (Ac.run P k) (T.loc 3) d δ L) ⟨fun δ L => sv P (Ac.run P k) b_best_boards_0 δ L⟩) (e := D.str) (fun l δ M => ∃ acc x3, δ = [some (.int w), some (.dct ks), some (.lst (acc.map sD)), x3, none, none, none] ∧ M = L ∧ SI l (setsG [[]] (sortT ns)) acc) (fun r => ∃ x3, r = .nx [some (.int w), some (.dct ks), some (.lst ((setsG [[]] (sortT ns)).map sD)), x3, none, none, none] L) (fun _ _ _ _ => rfl) (by
      rintro δ M ⟨acc, x2, rfl, rfl, e, _⟩
      exact ⟨x2, by rw [← e]; rfl⟩) (by
      rintro z l δ M ⟨acc, x2, rfl, rfl, hS⟩
      left
      obtain ⟨z1, z2⟩ := hS.sz
      refine ⟨[some (.int w), some (.dct ks), some (.lst ((acc ++ acc.map (· ++ [z])).map sD)), some (.str z), none, none, none], M, ?_, _, _, rfl, rfl, hS.next⟩
      unfold b_best_boards_0
      walk_at "ev"
      rw [lc_map (f := sD) (h := fun s => sD (s ++ [z])) rfl (fun s hs => by
        have := z2 s hs
        rw [app_sD]
        walk_at "ev")]
      rw [app_sDs]
      walk_at "ev") (sortT ns) [some (.int w), some (.dct ks), some (.lst [.tup []]), none, none, none, none] L ⟨[[]], none, rfl, rfl, rfl, fun s hs => by
        rw [List.mem_singleton] at hs; subst hs; simpa using hsz, by
        rw [List.length_singleton, Nat.one_mul]
        exact Nat.pow_le_pow_right (n := 2) (by decide) hsz⟩
  obtain ⟨x3, hh⟩ := hh
  have hmem := @good_tok ks ns f w h
  have hsb := sets_b hl.1
  have hsl := sets_sz (xs := sortT ns) (acc := [[]]) (n := 0) (fun s hs => by rw [List.mem_singleton] at hs; subst hs; exact Nat.le_refl _)
  walk_at "ev"
  rw [lc_filter (f := sD) (h := gD) (p := fitS f w) rfl (fun s hs => by
    have hm := hmem s hs
    have hz := hsl s hs
    walk_at "ev"
    rw [gn_sum (f := D.str) (p := fun _ => true) (v := f) rfl (fun x hx => by
      have hv := (h.val x (hm x hx)).1
      walk_at "ev") (fun x hx => by have := h.val x (hm x hx); omega) (by omega) (by omega)]
    rw [filter_T, Int.zero_add]
    unfold fitS
    by_cases hc : (s.map f).sum = w
    · have hc2 : decide ((s.map f).sum = w) = true := decide_eq_true hc
      clear hc
      walk_at "ev"
    · walk_at "ev")]
  have hgd : (setsG [[]] (sortT ns)).filter (fitS f w) = goodG f w ns := rfl
  rw [hgd]
  have htk : ∀ s ∈ goodG f w ns, ∀ x ∈ s, tOk x = true := fun s hs x hx => (h.val x (hmem s (List.mem_filter.mp hs).1 x hx)).2.2.2
  cases hG : goodG f w ns with
  | nil =>
    walk_at "ev"
    rfl
  | cons s r =>
    rw [hG] at htk
    obtain ⟨t, ht, e1, e2⟩ := @least_gD s r
    have ho := gD_ok htk
    rw [List.map_cons] at ho
    have hI : intsO (gD s :: r.map gD) = none := rfl
    have hT : tpsO (gD s :: r.map gD) = none := rfl
    have hfl : ∀ (L : Mu), rsvs L 59 (gD s :: r.map gD) = some (gD s :: r.map gD) := fun L => rsvs_mapF (f := gD) (l := s :: r) fun z hz => gD_flat (n := 57) (htk z hz)
    have hbR : bestR L (s :: r) = .ok (sD t) L := by simp only [bestR, e2]
    rw [hbR]
    walk_at "ev"
theorem stock_ok {k : Nat} {σ : Dc} {N : Mu} {a1 a2 a3 a4 a5 a6 a7 a8 a9 a10 a11 a12 a13 a14 a15 a16 a17 a18 a19 a20 a22 : Option D} : ∃ τ ks ns f, SkOk ks ns f ∧ sv P (Ac.run P (k + 1)) (S.asg (.loc 21) (.bi .dct false (.cons (.lc false [23, 14] (.loc 14) (.sl (.lst false (.cons (.str [102]) (.cons (.str [103]) (.cons (.str [104]) (.cons (.str [105]) (.cons (.str [106]) .nil)))))) .nop (.call 26 (.cons (.loc 0) (.cons (.int 6) .nil)))) .nop (.tup (.cons (.loc 14) (.cons (.bin .Add (.int 1) (.call 26 (.cons (.loc 0) (.cons (.int 9) .nil)))) .nil)))) .nil))) [some (.rf 0), a1, a2, a3, a4, a5, a6, a7, a8, a9, a10, a11, a12, a13, a14, a15, a16, a17, a18, a19, a20, none, a22, none, none, none] (dcM σ :: N) = .nx [some (.rf 0), a1, a2, a3, a4, a5, a6, a7, a8, a9, a10, a11, a12, a13, a14, a15, a16, a17, a18, a19, a20, some (.dct ks), a22, none, none, none] (dcM τ :: N) := by
  obtain ⟨n, σ0, n0, n1, e0, f0⟩ := roll_ex σ (m := 6) (by decide)
  obtain ⟨v0, σ1, v00, v01, e1, f1⟩ := roll_ex σ0 (m := 9) (by decide)
  obtain ⟨v1, σ2, v10, v11, e2, f2⟩ := roll_ex σ1 (m := 9) (by decide)
  obtain ⟨v2, σ3, v20, v21, e3, f3⟩ := roll_ex σ2 (m := 9) (by decide)
  obtain ⟨v3, σ4, v30, v31, e4, f4⟩ := roll_ex σ3 (m := 9) (by decide)
  obtain ⟨v4, σ5, v40, v41, e5, f5⟩ := roll_ex σ4 (m := 9) (by decide)
  have R := @roll
  rcases (show n = 0 ∨ n = 1 ∨ n = 2 ∨ n = 3 ∨ n = 4 ∨ n = 5 by omega) with rfl | rfl | rfl | rfl | rfl | rfl
  · refine ⟨σ0, [], [], fun (x : Tx) => 0, ⟨.inr ⟨rfl, rfl⟩, ?_, by decide, by simp⟩, ?_⟩
    · intro x hx; cases hx
    · have hp : prsO [] = some [] := rfl
      have hm : mergeD [] [] = [] := rfl
      walk_at "ev"
  · refine ⟨σ1, [((Sum.inr [102] : Kt), D.int (1 + v0))], [[102]], fun (x : Tx) => if x = [102] then 1 + v0 else 0, ⟨.inl ⟨rfl, rfl⟩, ?_, by decide, by simp⟩, ?_⟩
    · simp only [List.forall_mem_cons, List.not_mem_nil, false_implies, implies_true, and_true]
      exact ⟨rfl, show (0 : Int) ≤ 1 + v0 by omega, show 1 + v0 ≤ (100 : Int) by omega, by decide +kernel⟩
    · have hp : prsO [D.tup [.str [102], .int (1 + v0)]] = some [((Sum.inr [102] : Kt), D.int (1 + v0))] := rfl
      have hm : mergeD [] [((Sum.inr [102] : Kt), D.int (1 + v0))] = [((Sum.inr [102] : Kt), D.int (1 + v0))] := rfl
      walk_at "ev"
  · refine ⟨σ2, [((Sum.inr [102] : Kt), D.int (1 + v0)), ((Sum.inr [103] : Kt), D.int (1 + v1))], [[102], [103]], fun (x : Tx) => if x = [102] then 1 + v0 else if x = [103] then 1 + v1 else 0, ⟨.inl ⟨rfl, rfl⟩, ?_, by decide, by simp⟩, ?_⟩
    · simp only [List.forall_mem_cons, List.not_mem_nil, false_implies, implies_true, and_true]
      exact ⟨⟨rfl, show (0 : Int) ≤ 1 + v0 by omega, show 1 + v0 ≤ (100 : Int) by omega, by decide +kernel⟩, ⟨rfl, show (0 : Int) ≤ 1 + v1 by omega, show 1 + v1 ≤ (100 : Int) by omega, by decide +kernel⟩⟩
    · have hp : prsO [D.tup [.str [102], .int (1 + v0)], D.tup [.str [103], .int (1 + v1)]] = some [((Sum.inr [102] : Kt), D.int (1 + v0)), ((Sum.inr [103] : Kt), D.int (1 + v1))] := rfl
      have hm : mergeD [] [((Sum.inr [102] : Kt), D.int (1 + v0)), ((Sum.inr [103] : Kt), D.int (1 + v1))] = [((Sum.inr [102] : Kt), D.int (1 + v0)), ((Sum.inr [103] : Kt), D.int (1 + v1))] := rfl
      walk_at "ev"
  · refine ⟨σ3, [((Sum.inr [102] : Kt), D.int (1 + v0)), ((Sum.inr [103] : Kt), D.int (1 + v1)), ((Sum.inr [104] : Kt), D.int (1 + v2))], [[102], [103], [104]], fun (x : Tx) => if x = [102] then 1 + v0 else if x = [103] then 1 + v1 else if x = [104] then 1 + v2 else 0, ⟨.inl ⟨rfl, rfl⟩, ?_, by decide, by simp⟩, ?_⟩
    · simp only [List.forall_mem_cons, List.not_mem_nil, false_implies, implies_true, and_true]
      exact ⟨⟨rfl, show (0 : Int) ≤ 1 + v0 by omega, show 1 + v0 ≤ (100 : Int) by omega, by decide +kernel⟩, ⟨rfl, show (0 : Int) ≤ 1 + v1 by omega, show 1 + v1 ≤ (100 : Int) by omega, by decide +kernel⟩, ⟨rfl, show (0 : Int) ≤ 1 + v2 by omega, show 1 + v2 ≤ (100 : Int) by omega, by decide +kernel⟩⟩
    · have hp : prsO [D.tup [.str [102], .int (1 + v0)], D.tup [.str [103], .int (1 + v1)], D.tup [.str [104], .int (1 + v2)]] = some [((Sum.inr [102] : Kt), D.int (1 + v0)), ((Sum.inr [103] : Kt), D.int (1 + v1)), ((Sum.inr [104] : Kt), D.int (1 + v2))] := rfl
      have hm : mergeD [] [((Sum.inr [102] : Kt), D.int (1 + v0)), ((Sum.inr [103] : Kt), D.int (1 + v1)), ((Sum.inr [104] : Kt), D.int (1 + v2))] = [((Sum.inr [102] : Kt), D.int (1 + v0)), ((Sum.inr [103] : Kt), D.int (1 + v1)), ((Sum.inr [104] : Kt), D.int (1 + v2))] := rfl
      walk_at "ev"
  · refine ⟨σ4, [((Sum.inr [102] : Kt), D.int (1 + v0)), ((Sum.inr [103] : Kt), D.int (1 + v1)), ((Sum.inr [104] : Kt), D.int (1 + v2)), ((Sum.inr [105] : Kt), D.int (1 + v3))], [[102], [103], [104], [105]], fun (x : Tx) => if x = [102] then 1 + v0 else if x = [103] then 1 + v1 else if x = [104] then 1 + v2 else if x = [105] then 1 + v3 else 0, ⟨.inl ⟨rfl, rfl⟩, ?_, by decide, by simp⟩, ?_⟩
    · simp only [List.forall_mem_cons, List.not_mem_nil, false_implies, implies_true, and_true]
      exact ⟨⟨rfl, show (0 : Int) ≤ 1 + v0 by omega, show 1 + v0 ≤ (100 : Int) by omega, by decide +kernel⟩, ⟨rfl, show (0 : Int) ≤ 1 + v1 by omega, show 1 + v1 ≤ (100 : Int) by omega, by decide +kernel⟩, ⟨rfl, show (0 : Int) ≤ 1 + v2 by omega, show 1 + v2 ≤ (100 : Int) by omega, by decide +kernel⟩, ⟨rfl, show (0 : Int) ≤ 1 + v3 by omega, show 1 + v3 ≤ (100 : Int) by omega, by decide +kernel⟩⟩
    · have hp : prsO [D.tup [.str [102], .int (1 + v0)], D.tup [.str [103], .int (1 + v1)], D.tup [.str [104], .int (1 + v2)], D.tup [.str [105], .int (1 + v3)]] = some [((Sum.inr [102] : Kt), D.int (1 + v0)), ((Sum.inr [103] : Kt), D.int (1 + v1)), ((Sum.inr [104] : Kt), D.int (1 + v2)), ((Sum.inr [105] : Kt), D.int (1 + v3))] := rfl
      have hm : mergeD [] [((Sum.inr [102] : Kt), D.int (1 + v0)), ((Sum.inr [103] : Kt), D.int (1 + v1)), ((Sum.inr [104] : Kt), D.int (1 + v2)), ((Sum.inr [105] : Kt), D.int (1 + v3))] = [((Sum.inr [102] : Kt), D.int (1 + v0)), ((Sum.inr [103] : Kt), D.int (1 + v1)), ((Sum.inr [104] : Kt), D.int (1 + v2)), ((Sum.inr [105] : Kt), D.int (1 + v3))] := rfl
      walk_at "ev"
  · refine ⟨σ5, [((Sum.inr [102] : Kt), D.int (1 + v0)), ((Sum.inr [103] : Kt), D.int (1 + v1)), ((Sum.inr [104] : Kt), D.int (1 + v2)), ((Sum.inr [105] : Kt), D.int (1 + v3)), ((Sum.inr [106] : Kt), D.int (1 + v4))], [[102], [103], [104], [105], [106]], fun (x : Tx) => if x = [102] then 1 + v0 else if x = [103] then 1 + v1 else if x = [104] then 1 + v2 else if x = [105] then 1 + v3 else if x = [106] then 1 + v4 else 0, ⟨.inl ⟨rfl, rfl⟩, ?_, by decide, by simp⟩, ?_⟩
    · simp only [List.forall_mem_cons, List.not_mem_nil, false_implies, implies_true, and_true]
      exact ⟨⟨rfl, show (0 : Int) ≤ 1 + v0 by omega, show 1 + v0 ≤ (100 : Int) by omega, by decide +kernel⟩, ⟨rfl, show (0 : Int) ≤ 1 + v1 by omega, show 1 + v1 ≤ (100 : Int) by omega, by decide +kernel⟩, ⟨rfl, show (0 : Int) ≤ 1 + v2 by omega, show 1 + v2 ≤ (100 : Int) by omega, by decide +kernel⟩, ⟨rfl, show (0 : Int) ≤ 1 + v3 by omega, show 1 + v3 ≤ (100 : Int) by omega, by decide +kernel⟩, ⟨rfl, show (0 : Int) ≤ 1 + v4 by omega, show 1 + v4 ≤ (100 : Int) by omega, by decide +kernel⟩⟩
    · have hp : prsO [D.tup [.str [102], .int (1 + v0)], D.tup [.str [103], .int (1 + v1)], D.tup [.str [104], .int (1 + v2)], D.tup [.str [105], .int (1 + v3)], D.tup [.str [106], .int (1 + v4)]] = some [((Sum.inr [102] : Kt), D.int (1 + v0)), ((Sum.inr [103] : Kt), D.int (1 + v1)), ((Sum.inr [104] : Kt), D.int (1 + v2)), ((Sum.inr [105] : Kt), D.int (1 + v3)), ((Sum.inr [106] : Kt), D.int (1 + v4))] := rfl
      have hm : mergeD [] [((Sum.inr [102] : Kt), D.int (1 + v0)), ((Sum.inr [103] : Kt), D.int (1 + v1)), ((Sum.inr [104] : Kt), D.int (1 + v2)), ((Sum.inr [105] : Kt), D.int (1 + v3)), ((Sum.inr [106] : Kt), D.int (1 + v4))] = [((Sum.inr [102] : Kt), D.int (1 + v0)), ((Sum.inr [103] : Kt), D.int (1 + v1)), ((Sum.inr [104] : Kt), D.int (1 + v2)), ((Sum.inr [105] : Kt), D.int (1 + v3)), ((Sum.inr [106] : Kt), D.int (1 + v4))] := rfl
      walk_at "ev"
theorem rest1_ok {k : Nat} {σ : Dc} {M : Mu} {s g h e rim : Int} (hM : wfM (M.length + 1) M = true) (he1 : 1 ≤ e) (he2 : e ≤ 9) (hr1 : 8 ≤ rim) (hr2 : rim ≤ 200) : ∃ τ, Ac.run P (k + 6) 33 [.rf 0, ovD s g h, .int e, .int rim] (dcM σ :: M) = .ok (.bl true) (dcM τ :: M) := by
  have key : Tr (fun d L => d = .bl true ∧ ∃ τ c1 c2, L = dcM τ :: (M ++ [c1, c2])) (svR (sv P (Ac.run P (k + 5)) t__law_rest1 [some (.rf 0), some (ovD s g h), some (.int e), some (.int rim), none, none, none, none, none, none, none, none, none, none, none, none, none, none, none, none, none, none, none, none, none, none] (dcM σ :: M))) := by
    unfold t__law_rest1
    have R := @roll
    obtain ⟨r0, σ1, r00, r01, q1, p1⟩ := roll_ex σ (m := 4) (by decide)
    obtain ⟨m0, σ2, m00, m01, q2, p2⟩ := roll_ex σ1 (m := 6) (by decide)
    refine Tr.go ?_
    refine Tr.st (δ' := [some (.rf 0), some (ovD s g h), some (.int e), some (.int rim), none, none, none, none, none, none, none, none, none, none, none, none, none, none, none, some (.rf (M.length + 1)), none, none, none, none, none, none]) (L' := dcM σ1 :: (M ++ [.lst [.int r0]])) ?a1 ?a2
    case a1 => (walk_at "ev") <;> rfl
    obtain ⟨δ', L', hf, σ3, ns, x4, rfl, rfl, hns⟩ := for_rgN (g := stands ((rg 0 m0).map D.int) none) (f := fun d δ L => @zG (asg P (Ac.run P (k + 5)) (T.loc 4) d δ L) ⟨fun δ L => sv P (Ac.run P (k + 5)) b__law_rest1_1 δ L⟩) (a := 0) (b := m0) (δ := [some (.rf 0), some (ovD s g h), some (.int e), some (.int rim), none, none, none, none, none, none, none, none, none, none, none, none, none, none, none, some (.rf (M.length + 1)), none, none, none, none, none, none]) (L := dcM σ2 :: (M ++ [.lst [.int r0]])) (I0 (ovD s g h) e rim M) m00 (fun _ _ _ _ => rfl) ⟨σ2, [r0], none, rfl, rfl, rfl⟩ (fun j δ L h0 h1 hh => l0 (k := k + 4) j h0 (by omega) δ L hh)
    refine Tr.st (δ' := ?d2) (L' := ?l2) ?b1 ?b2
    case b1 => (walk_at "ev") <;> rfl
    clear hf q1 q2 p1 p2
    have hn1 : 1 ≤ ns.length := by omega
    have hn2 : ns.length ≤ 20 := by omega
    clear hns
    refine Tr.st (δ' := [some (.rf 0), some (ovD s g h), some (.int e), some (.int rim), x4, some (.bl (badB ns)), none, none, none, none, none, none, none, none, none, none, none, none, none, some (.rf (M.length + 1)), none, none, none, none, none, none]) (L' := dcM σ3 :: (M ++ [.lst (ns.map .int)])) ?c1 ?c2
    case c1 =>
      walk_at "ev"
      rw [lc_filter (h := D.int) (p := stpB ns) rfl (fun z hz => by
        have hz := mem_rg.mp hz
        unfold stpB stpD
        by_cases c : 1 < (if ns.getD z.toNat 0 - ns.getD (z - 1).toNat 0 < 0 then -(ns.getD z.toNat 0 - ns.getD (z - 1).toNat 0) else ns.getD z.toNat 0 - ns.getD (z - 1).toNat 0)
        · walk_at "ev"
        · walk_at "ev")]
      unfold badB
      rw [any_filter]
      cases (rg 1 (ns.length : Int)).filter (stpB ns) with
      | nil =>
        have hx : (!([] : List Int).isEmpty) = false := rfl
        walk_at "ev"
      | cons x r =>
        have hx : (!(x :: r).isEmpty) = true := rfl
        walk_at "ev"
    have hD := dish_ok (k := k + 4) (i := M.length + 1) (L := dcM σ3 :: (M ++ [.lst (ns.map .int)])) (ns := ns) (by walk_at "ev") hn1 hn2
    have hne : (!ns.isEmpty) = true := by cases ns with | nil => simp at hn1 | cons _ _ => rfl
    refine Tr.st (δ' := [some (.rf 0), some (ovD s g h), some (.int e), some (.int rim), x4, some (.bl (badB ns)), none, none, none, none, none, none, none, none, none, none, none, none, none, some (.rf (M.length + 1)), none, none, none, none, none, none]) (L' := dcM σ3 :: (M ++ [.lst (ns.map .int)])) ?e1 ?e2
    case e1 =>
      cases hb : badB ns with
      | true => rw [hb] at hD; walk_at "ev"
      | false => rw [hb] at hD; walk_at "ev"
    clear hD
    obtain ⟨o0, σ4, o00, o01, q1, p1⟩ := roll_ex σ3 (m := 2) (by decide)
    refine Tr.st (δ' := ?d5) (L' := ?l5) ?f1 ?f2
    case f1 => (walk_at "ev") <;> rfl
    clear q1 p1
    generalize hodd : decide (o0 = 0) = odd
    clear hodd
    have hS := stk_ok (k := k + 4) (L := dcM σ4 :: (M ++ [.lst (ns.map .int)])) (r := rim) (e := e) (odd := odd) he1 he2 hr1 hr2
    obtain ⟨t, ht⟩ := stk_first (r := rim) (e := e) (odd := odd) he1 hr1 hr2
    refine Tr.st (δ' := [some (.rf 0), some (ovD s g h), some (.int e), some (.int rim), x4, some (.bl (badB ns)), some (.bl odd), none, none, none, none, none, none, none, none, none, none, none, none, some (.rf (M.length + 1)), none, none, none, none, none, none]) (L' := dcM σ4 :: (M ++ [.lst (ns.map .int)])) ?g1 ?g2
    case g1 =>
      walk_at "ev"
      rw [lc_filter (h := D.int) (p := stkP rim e odd) rfl (fun z hz => by
        have hz := mem_rg.mp hz
        unfold stkP
        by_cases c1 : rim ≤ z * e
        · by_cases c2 : z % 2 = 1
          · have c3 : decide (z % 2 = 1) = true := decide_eq_true c2
            clear c2
            walk_at "ev"
          · cases odd with
            | true => walk_at "ev"
            | false => walk_at "ev"
        · walk_at "ev")]
      rw [ht]
      walk_at "ev"
    clear hS ht
    obtain ⟨w0, σ5, w00, w01, q1, p1⟩ := roll_ex σ4 (m := 20) (by decide)
    obtain ⟨l0, σ6, l00, l01, q2, p2⟩ := roll_ex σ5 (m := 9) (by decide)
    refine Tr.st (δ' := ?d7) (L' := ?l7) ?h1 ?h2
    case h1 => (walk_at "ev") <;> rfl
    clear q1 p1 q2 p2
    generalize hw : 1 + w0 = w
    generalize hl : 1 + l0 = l
    have hw1 : 1 ≤ w ∧ w ≤ 20 := by omega
    have hl1 : 1 ≤ l ∧ l ≤ 9 := by omega
    clear hw hl w00 w01 l00 l01
    refine Tr.st (δ' := [some (.rf 0), some (ovD s g h), some (.int e), some (.int rim), x4, some (.bl (badB ns)), some (.bl odd), some (.int l), some (.lst []), none, none, none, none, none, none, none, none, some (.rf (M.length + 2)), none, some (.rf (M.length + 1)), none, none, some (.int w), none, none, none]) (L' := dcM σ6 :: (M ++ [.lst (ns.map .int), brd w l []])) ?i1 ?i2
    case i1 =>
      have RB := @rn_Board_init
      have hmin : ¬ min w l < 1 := by omega
      walk_at "ev"
      simp only [t_Board_init]
      (walk_at "ev") <;> rfl
    obtain ⟨n7, σ7, n70, n71, q1, p1⟩ := roll_ex σ6 (m := 7) (by decide)
    obtain ⟨δ', L', hf, σ8, bs, x9, x10, x11, x14, x16, x20, rfl, rfl, hbl, hbo⟩ := for_rgN (g := stands ((rg 0 n7).map D.int) none) (f := fun d δ L => @zG (asg P (Ac.run P (k + 5)) (T.loc 9) d δ L) ⟨fun δ L => sv P (Ac.run P (k + 5)) b__law_rest1_0 δ L⟩) (a := 0) (b := n7) (δ := [some (.rf 0), some (ovD s g h), some (.int e), some (.int rim), x4, some (.bl (badB ns)), some (.bl odd), some (.int l), some (.lst []), none, none, none, none, none, none, none, none, some (.rf (M.length + 2)), none, some (.rf (M.length + 1)), none, none, some (.int w), none, none, none]) (L := dcM σ7 :: (M ++ [.lst (ns.map .int), brd w l []])) (I5 (ovD s g h) e rim w l (badB ns) odd x4 M (.lst (ns.map .int))) n70 (fun _ _ _ _ => rfl) ⟨σ7, [], none, none, none, none, none, none, rfl, rfl, by simp, fun _ hx => (List.not_mem_nil hx).elim⟩ (fun j δ L h0 h1 hh => l5 (k := k + 3) j (by omega) hw1 hl1 δ L hh)
    refine Tr.st (δ' := ?d9) (L' := ?l9) ?j1 ?j2
    case j1 => (walk_at "ev") <;> rfl
    clear hf q1 p1
    have hbl2 : bs.length ≤ 20 := by omega
    have hfl := bd_fl hbo
    have hT : ∀ m : Nat, (bs.map bD).take m = (bs.take m).map bD := fun m => List.map_take.symm
    refine Tr.st (δ' := ?d10) (L' := ?l10) ?k1 ?k2
    case k1 =>
      walk_at "ev"
      rw [lc_map (h := fun k => .int (pre bs (k + 1))) rfl (fun z hz => by
        have hz := mem_rg.mp hz
        have ht2 : (bs.take (z + 1).toNat).length ≤ 20 := by rw [List.length_take]; omega
        walk_at "ev"
        rw [lc_map (f := bD) (h := fun e => .int e.2) rfl (fun e he => by walk_at "ev"), snd_map]
        walk_at "ev"
        rfl)]
      (walk_at "ev") <;> rfl
    have hcv := cov_ok (k := k + 4) (i := M.length + 2) (L := dcM σ8 :: (M ++ [.lst (ns.map .int), brd w l bs])) (w := w) (l := l) (bs := bs) (by walk_at "ev") hbo hbl2
    have hwf : wfM (dcM σ8 :: (M ++ [.lst (ns.map .int), brd w l bs])).length (dcM σ8 :: (M ++ [.lst (ns.map .int), brd w l bs])) = true := by
      have hb1 : D.blws (M.length + 2 + 1) (bs.map bD) = true := blws_map fun e he => blw_flat (hfl e he 0)
      have hM2 : wfM (M.length + 2 + 1) M = true := wf_mono (by omega) hM
      rw [wf_cons, wf_app, wf_cons, wf_cons, wf_nil, blw_dc]
      simp only [List.length_cons, List.length_append, List.length_nil]
      rw [hM2, blw_lst, blws_ints, blw_ins, blws_cons, blws_cons, blws_cons, blws_nil, blw_int, blw_int, blw_tup, hb1]; rfl
    have hse := seams_ok (k := k + 4) (i := M.length + 2) (L := dcM σ8 :: (M ++ [.lst (ns.map .int), brd w l bs])) (w := w) (l := l) (bs := bs) hwf (by walk_at "ev") hbl2
    have frs : ∀ (L : Mu) (n : Nat), n = 59 ∨ n = 58 → rsvs L n (bs.map bD) = some (bs.map bD) := fun L n hn => rsvs_mapF fun e he => by rcases hn with rfl | rfl <;> exact hfl e he _
    have frs1 := fun L => frs L 59 (.inl rfl)
    have frs2 := fun L => frs L 58 (.inr rfl)
    have fes : D.eqs (bs.map bD) (bs.map bD) = true := deqs_mapF fun e he => hfl e he 59
    have hsB : (bs.map Prod.snd).sum = sB bs := rfl
    have hnn : ((bs.length : Int) - 0).toNat = bs.length := by omega
    have htk : ((rg 0 (bs.length : Int)).map fun k => D.int (pre bs (k + 1))).take (max 0 ((bs.length : Int) - 1)).toNat = (rg 0 (max 0 ((bs.length : Int) - 1))).map fun k => D.int (pre bs (k + 1)) := rg_take (by omega)
    have fr3 : ∀ (L : Mu) (a b : Int), rsvs L 59 ((rg a b).map fun k => D.int (pre bs (k + 1))) = some ((rg a b).map fun k => D.int (pre bs (k + 1))) := fun L a b => rsvs_mapF fun _ _ => flat_int
    have fe3 : ∀ (a b : Int), D.eqs ((rg a b).map fun k => D.int (pre bs (k + 1))) ((rg a b).map fun k => D.int (pre bs (k + 1))) = true := fun a b => deqs_mapF fun _ _ => flat_int
    refine Tr.st (δ' := [some (.rf 0), some (ovD s g h), some (.int e), some (.int rim), x4, some (.bl (badB ns)), some (.bl odd), some (.int l), some (.lst (bs.map bD)), x9, x10, x11, some (.lst ((rg 0 (bs.length : Int)).map fun k => D.int (pre bs (k + 1)))), none, x14, none, x16, some (.rf (M.length + 2)), none, some (.rf (M.length + 1)), x20, none, some (.int w), none, none, none]) (L' := dcM σ8 :: (M ++ [.lst (ns.map .int), brd w l bs])) ?m1 ?m2
    case m1 =>
      have RS := @rn_Board_shown
      clear frs
      walk_at "ev"
      simp only [t_Board_shown]
      walk_at "ev"
      rw [lc_map (f := bD) (h := fun e => .int e.2) rfl (fun e he => by walk_at "ev"), snd_map]
      walk_at "ev"
    clear hse hcv htk fr3 fe3
    obtain ⟨pl, σ9, pl0, pl1, q1, p1⟩ := roll_ex σ8 (m := 20) (by decide)
    refine Tr.st (δ' := ?d12) (L' := ?l12) ?n1 ?n2
    case n1 => (walk_at "ev") <;> rfl
    clear q1 p1 hwf
    have hnk : ∀ z : Int, 0 ≤ z → z < bs.length → (bs.map bD)[z.toNat]? = some (D.tup [.str (nmK bs z), .int (bs.getD z.toNat ([], 0)).2]) := fun z h0 h1 => by
      rw [List.getElem?_map, List.getElem?_eq_getElem (show z.toNat < bs.length by omega)]
      simp [nmK, List.getD_eq_getElem?_getD, List.getElem?_eq_getElem (show z.toNat < bs.length by omega)]
    refine Tr.st (δ' := [some (.rf 0), some (ovD s g h), some (.int e), some (.int rim), x4, some (.bl (badB ns)), some (.bl odd), some (.int l), some (.lst (bs.map bD)), x9, x10, x11, some (.lst ((rg 0 (bs.length : Int)).map fun k => D.int (pre bs (k + 1)))), some (.lst ((overL bs pl).map fun k => .str (nmK bs k))), x14, none, x16, some (.rf (M.length + 2)), some (.int pl), some (.rf (M.length + 1)), x20, none, some (.int w), none, none, none]) (L' := dcM σ9 :: (M ++ [.lst (ns.map .int), brd w l bs])) ?o1 ?o2
    case o1 =>
      walk_at "ev"
      rw [lc_filter (f := D.int) (h := fun k => .str (nmK bs k)) (p := fun k => decide (pl < pre bs (k + 1))) rfl (fun z hz => by
        have hz := mem_rg.mp hz
        have hk := hnk z hz.1 (by omega)
        by_cases c : pl < pre bs (z + 1)
        · walk_at "ev"
        · walk_at "ev")]
      have ho : (rg 0 (bs.length : Int)).filter (fun k => decide (pl < pre bs (k + 1))) = overL bs pl := rfl
      walk_at "ev"
    have hH := hold_ok (k := k + 4) (i := M.length + 2) (L := dcM σ9 :: (M ++ [.lst (ns.map .int), brd w l bs])) (w := w) (l := l) (bs := bs) (p := pl) (by walk_at "ev") pl0
    have hov : ∀ q ∈ overL bs pl, tOk (nmK bs q) = true := fun q hq => by
      have hq := mem_rg.mp (List.mem_filter.mp hq).1
      unfold nmK
      rw [List.getD_eq_getElem?_getD, List.getElem?_eq_getElem (show q.toNat < bs.length by omega)]
      obtain ⟨⟨r, r0, r1, hr⟩, _⟩ := hbo _ (List.getElem_mem (show q.toNat < bs.length by omega))
      simp only [Option.getD_some]
      rw [hr]
      exact tOk_nm r0 r1
    refine Tr.st (δ' := [some (.rf 0), some (ovD s g h), some (.int e), some (.int rim), x4, some (.bl (badB ns)), some (.bl odd), some (.int l), some (.lst (bs.map bD)), x9, x10, x11, some (.lst ((rg 0 (bs.length : Int)).map fun k => D.int (pre bs (k + 1)))), some (.lst ((overL bs pl).map fun k => .str (nmK bs k))), x14, none, x16, some (.rf (M.length + 2)), some (.int pl), some (.rf (M.length + 1)), x20, none, some (.int w), none, none, none]) (L' := dcM σ9 :: (M ++ [.lst (ns.map .int), brd w l bs])) ?r1 ?r2
    case r1 =>
      cases hO : overL bs pl with
      | nil =>
        rw [hO] at hH
        have hR : ∀ L, holdR L bs [] = .ex 3 none L := fun _ => rfl
        rw [hR] at hH
        walk_at "ev"
      | cons q t =>
        rw [hO] at hH hov
        have hR : ∀ L, holdR L bs (q :: t) = .ok (.str (nmK bs q)) L := fun _ => rfl
        rw [hR] at hH
        have hq := hov q List.mem_cons_self
        have frt : ∀ L, rsvs L 59 (t.map fun k => D.str (nmK bs k)) = some (t.map fun k => D.str (nmK bs k)) := fun L => rsvs_mapF fun z hz => by rw [flat_str]; exact hov z (List.mem_cons_of_mem _ hz)
        walk_at "ev"
    clear hH
    obtain ⟨σ10, ks, kn, kf, hSk, hst⟩ := stock_ok (k := k + 4) (σ := σ9) (N := M ++ [.lst (ns.map .int), brd w l bs]) (a1 := some (ovD s g h)) (a2 := some (.int e)) (a3 := some (.int rim)) (a4 := x4) (a5 := some (.bl (badB ns))) (a6 := some (.bl odd)) (a7 := some (.int l)) (a8 := some (.lst (bs.map bD))) (a9 := x9) (a10 := x10) (a11 := x11) (a12 := some (.lst ((rg 0 (bs.length : Int)).map fun k => D.int (pre bs (k + 1))))) (a13 := some (.lst ((overL bs pl).map fun k => .str (nmK bs k)))) (a14 := x14) (a15 := none) (a16 := x16) (a17 := some (.rf (M.length + 2))) (a18 := some (.int pl)) (a19 := some (.rf (M.length + 1))) (a20 := x20) (a22 := some (.int w))
    refine Tr.st hst ?_
    clear hst
    have hkl := hSk.len
    have hsv := @srt_val ks kn kf false (dcM σ10 :: (M ++ [.lst (ns.map .int), brd w l bs])) hSk
    have hse := sets_ok (k := k + 4) (L := dcM σ10 :: (M ++ [.lst (ns.map .int), brd w l bs])) (sz_ns hkl.1)
    have hsb := sets_b hkl.1
    have hmem := @good_tok ks kn kf w hSk
    have hsl := sets_sz (xs := sortT kn) (acc := [[]]) (n := 0) (fun s hs => by rw [List.mem_singleton] at hs; subst hs; exact Nat.le_refl _)
    have hszn := sz_ns hkl.1
    refine Tr.st (δ' := [some (.rf 0), some (ovD s g h), some (.int e), some (.int rim), x4, some (.bl (badB ns)), some (.bl odd), some (.int l), some (.lst (bs.map bD)), x9, x10, x11, some (.lst ((rg 0 (bs.length : Int)).map fun k => D.int (pre bs (k + 1)))), some (.lst ((overL bs pl).map fun k => .str (nmK bs k))), x14, some (.lst ((goodG kf w kn).map gD)), x16, some (.rf (M.length + 2)), some (.int pl), some (.rf (M.length + 1)), x20, some (.dct ks), some (.int w), none, none, none]) (L' := dcM σ10 :: (M ++ [.lst (ns.map .int), brd w l bs])) ?s1 ?s2
    case s1 =>
      walk_at "ev"
      rw [lc_filter (f := sD) (h := gD) (p := fitS kf w) rfl (fun s hs => by
        have hm := hmem s hs
        have hz := hsl s hs
        walk_at "ev"
        rw [lc_map (f := D.str) (h := fun x => .int (kf x)) rfl (fun x hx => by
          have hv := (hSk.val x (hm x hx)).1
          walk_at "ev")]
        rw [show s.map (fun x => D.int (kf x)) = (s.map kf).map .int from by rw [List.map_map]; rfl]
        unfold fitS
        by_cases hc : (s.map kf).sum = w
        · have hc2 : decide ((s.map kf).sum = w) = true := decide_eq_true hc
          clear hc
          walk_at "ev"
        · walk_at "ev")]
      have hgd : (setsG [[]] (sortT kn)).filter (fitS kf w) = goodG kf w kn := rfl
      walk_at "ev"
    have hB := best_ok (k := k + 4) (L := dcM σ10 :: (M ++ [.lst (ns.map .int), brd w l bs])) (w := w) hSk
    have htk : ∀ s ∈ goodG kf w kn, ∀ x ∈ s, tOk x = true := fun s hs x hx => (hSk.val x (hmem s (List.mem_filter.mp hs).1 x hx)).2.2.2
    clear hse hsv
    refine Tr.st (δ' := [some (.rf 0), some (ovD s g h), some (.int e), some (.int rim), x4, some (.bl (badB ns)), some (.bl odd), some (.int l), some (.lst (bs.map bD)), x9, x10, x11, some (.lst ((rg 0 (bs.length : Int)).map fun k => D.int (pre bs (k + 1)))), some (.lst ((overL bs pl).map fun k => .str (nmK bs k))), x14, some (.lst ((goodG kf w kn).map gD)), x16, some (.rf (M.length + 2)), some (.int pl), some (.rf (M.length + 1)), x20, some (.dct ks), some (.int w), none, none, none]) (L' := dcM σ10 :: (M ++ [.lst (ns.map .int), brd w l bs])) ?t1 ?t2
    case t1 =>
      cases hG : goodG kf w kn with
      | nil =>
        rw [hG] at hB
        have hR : ∀ L, bestR L [] = .ex 5 none L := fun _ => rfl
        rw [hR] at hB
        walk_at "ev"
      | cons s r =>
        rw [hG] at htk hB
        obtain ⟨t, ht, e1, e2⟩ := @least_gD s r
        have ho := gD_ok htk
        rw [List.map_cons] at ho
        have hI : intsO (gD s :: r.map gD) = none := rfl
        have hT : tpsO (gD s :: r.map gD) = none := rfl
        have hfl : ∀ (L : Mu), rsvs L 59 (gD s :: r.map gD) = some (gD s :: r.map gD) := fun L => rsvs_mapF (f := gD) (l := s :: r) fun z hz => gD_flat (n := 57) (htk z hz)
        have hbR : ∀ L, bestR L (s :: r) = .ok (sD t) L := fun L => by simp only [bestR, e2]
        rw [hbR] at hB
        have htt := htk t ht
        have hft : ∀ (L : Mu), rsvs L 59 (t.map D.str) = some (t.map D.str) := fun L => rsvs_mapF fun z hz => by rw [flat_str]; exact htt z hz
        have hfe : D.eqs (t.map D.str) (t.map D.str) = true := deqs_mapF fun z hz => by rw [flat_str]; exact htt z hz
        walk_at "ev"
    clear hB
    have hwf : wfM (dcM σ10 :: (M ++ [.lst (ns.map .int), brd w l bs])).length (dcM σ10 :: (M ++ [.lst (ns.map .int), brd w l bs])) = true := by
      have hb1 : D.blws (M.length + 2 + 1) (bs.map bD) = true := blws_map fun e he => blw_flat (hfl e he 0)
      have hM2 : wfM (M.length + 2 + 1) M = true := wf_mono (by omega) hM
      rw [wf_cons, wf_app, wf_cons, wf_cons, wf_nil, blw_dc]
      simp only [List.length_cons, List.length_append, List.length_nil]
      rw [hM2, blw_lst, blws_ints, blw_ins, blws_cons, blws_cons, blws_cons, blws_nil, blw_int, blw_int, blw_tup, hb1]; rfl
    have hr2 := rest2_ok (k := k + 1) (L := dcM σ10 :: (M ++ [.lst (ns.map .int), brd w l bs])) (s := s) (g := g) (h := h) hwf
    exact Tr.ret (L' := dcM σ10 :: (M ++ [.lst (ns.map .int), brd w l bs])) (d := .bl true) (by walk_at "ev") ⟨rfl, _, _, _, rfl⟩
  obtain ⟨d, L, hk, rfl, τ, c1, c2, rfl⟩ := key
  refine ⟨τ, ?_⟩
  have tk : (M ++ [c1, c2]).take M.length = M := List.take_left
  rw [rn__law_rest1, fnR_1 (np := 4) (args := [.rf 0, ovD s g h, .int e, .int rim]) rfl]
  show fin 1 _ (svR (sv P (Ac.run P (k + 5)) t__law_rest1 [some (.rf 0), some (ovD s g h), some (.int e), some (.int rim), none, none, none, none, none, none, none, none, none, none, none, none, none, none, none, none, none, none, none, none, none, none] (dcM σ :: M))) = _
  rw [hk]
  walk_at "ev"
theorem rest3_ok {k : Nat} {σ : Dc} {M : Mu} (hM : wfM (M.length + 1) M = true) : ∃ τ, Ac.run P (k + 7) 34 [.rf 0] (dcM σ :: M) = .ok (.bl true) (dcM τ :: M) := by
  have key : Tr (fun d L => d = .bl true ∧ ∃ τ, L = dcM τ :: M) (svR (sv P (Ac.run P (k + 6)) t__law_rest3 [some (.rf 0), none, none, none, none, none, none, none, none, none, none] (dcM σ :: M))) := by
    unfold t__law_rest3
    have R := @roll
    obtain ⟨s0, σ1, s00, s01, q1, p1⟩ := roll_ex σ (m := 5) (by decide)
    obtain ⟨g0, σ2, g00, g01, q2, p2⟩ := roll_ex σ1 (m := 6) (by decide)
    obtain ⟨h0, σ3, h00, h01, q3, p3⟩ := roll_ex σ2 (m := 9) (by decide)
    obtain ⟨m, σ4, m00, m01, q4, p4⟩ := roll_ex σ3 (m := 6) (by decide)
    obtain ⟨e0, σ5, e00, e01, q5, p5⟩ := roll_ex σ4 (m := 9) (by decide)
    refine Tr.go ?_
    refine Tr.st (δ' := ?d1) (L' := ?l1) ?a1 ?a2
    case a1 => (walk_at "ev") <;> rfl
    generalize hs : 2 + s0 = s
    generalize hg : 1 + g0 = g
    generalize hh : 1 + h0 = h
    have ho : OvOk s g h := ⟨by omega, by omega, by omega, by omega, by omega, by omega⟩
    have hhm : h + m ≤ 20 := by omega
    have hwf : ∀ τ, wfM (dcM τ :: M).length (dcM τ :: M) = true := fun τ => by
      rw [wf_cons, blw_dc]
      simp only [List.length_cons]
      rw [hM]; rfl
    have hmk := mk_ov (k := k + 5) (M := dcM σ4 :: M) (s := s) (g := g) (h := h) (hwf σ4) ho
    refine Tr.st (δ' := ?d2) (L' := ?l2) ?b1 ?b2
    case b1 => (walk_at "evm") <;> rfl
    clear hmk q1 q2 q3 q4 q5 p1 p2 p3 p4 p5 hs hg hh
    generalize he : 1 + e0 = e
    have he1 : 1 ≤ e := by omega
    have he2 : e ≤ 9 := by omega
    clear he
    have hrb := rim_b ho
    have hrim : 2 * g * (s - 1) + 710 * h / 113 = 2 * (s - 1) * g + 710 * h / 113 := by
      rw [Int.mul_assoc, Int.mul_comm g, ← Int.mul_assoc]
    have ho2 := ho
    obtain ⟨k1, k2, k3, k4, k5, k6⟩ := ho
    refine Tr.st (δ' := ?d3) (L' := ?l3) ?c1 ?c2
    case c1 => (walk_at "ev") <;> rfl
    have hlen := len_ok (k := k + 5) (L := dcM σ5 :: M) ho2
    have hri := rim_ok (k := k + 5) (L := dcM σ5 :: M) ho2
    have hle : g * (s - 1) + h + h = (s - 1) * g + 2 * h := by rw [Int.mul_comm g]; omega
    generalize hrv : 2 * (s - 1) * g + 710 * h / 113 = rim at *
    refine Tr.st (δ' := ?d4) (L' := ?l4) ?e1 ?e2
    case e1 => (walk_at "ev") <;> rfl
    clear hlen hri hle
    have hgr := grown_ok (k := k + 4) (L := dcM σ5 :: M) (m := m) (hwf σ5) ho2 m00 hhm
    have hky := key_ok (k := k + 5) (L := dcM σ5 :: M) (s := s) (g := g) (h := h + m)
    refine Tr.st (δ' := ?d5) (L' := ?l5) ?f1 ?f2
    case f1 => (walk_at "ev") <;> rfl
    clear hgr hky
    have hst := stake_ok (k := k + 4) (L := dcM σ5 :: M) ho2 he1 he2
    rw [hrv] at hst
    obtain ⟨t, ht⟩ := evens_first (r := rim) (e := e) he1 hrb.1 hrb.2
    have hr4 : ∀ L, rgR [.int 0, .int 400, .int 2] L = .ok (.tup ((rgc 0 2 200).map .int)) L := fun L => by
      have : rgO [.int 0, .int 400, .int 2] = some (rgc 0 2 200) := rfl
      unfold rgR
      rw [this]
    have hrl : (rgc 0 2 200).length ≤ 16777216 := by simp [rgc]
    refine Tr.st (δ' := [some (.rf 0), some (.int s), some (.int g), some (.int h), some (.int m), some (ovD s g h), some (.int e), some (.int rim), none, none, none]) (L' := dcM σ5 :: M) ?g1 ?g2
    case g1 =>
      walk_at "ev"
      rw [lc_filter (f := D.int) (h := D.int) (p := fun z => decide (rim ≤ z * e)) rfl (fun z hz => by
        have hz := evens_mem.mp hz
        by_cases c : rim ≤ z * e
        · walk_at "ev"
        · walk_at "ev")]
      rw [ht]
      walk_at "ev"
    clear hst ht hr4
    obtain ⟨w, σ6, hw, hw6, hwc⟩ := word_ok (k := k + 4) (M := M) (σ := σ5)
    refine Tr.st (δ' := ?d7) (L' := ?l7) ?h1 ?h2
    case h1 => (walk_at "ev") <;> rfl
    clear hw
    have hli := lies_ok (k := k + 5) (L := dcM σ6 :: M) (s := s) (g := g) (h := h) hwc
    have hi3 := @in3
    have hlb : liesB w = decide (Txt.count (Tx.s w) (Tx.s [122]) - Txt.count (Tx.s w) (Tx.s [115]) = -1 ∨ Txt.count (Tx.s w) (Tx.s [122]) - Txt.count (Tx.s w) (Tx.s [115]) = 0 ∨ Txt.count (Tx.s w) (Tx.s [122]) - Txt.count (Tx.s w) (Tx.s [115]) = 1) := rfl
    refine Tr.st (δ' := [some (.rf 0), some (.int s), some (.int g), some (.int h), some (.int m), some (ovD s g h), some (.int e), some (.int rim), some (.str w), none, none]) (L' := dcM σ6 :: M) ?i1 ?i2
    case i1 =>
      walk_at "ev"
    clear hli hi3 hlb
    obtain ⟨σ7, hr1⟩ := rest1_ok (k := k) (σ := σ6) (M := M) (s := s) (g := g) (h := h) (e := e) (rim := rim) hM he1 he2 hrb.1 hrb.2
    refine Tr.st (δ' := ?d9) (L' := ?l9) ?j1 ?j2
    case j1 => (walk_at "ev") <;> rfl
    exact Tr.ret (L' := dcM σ7 :: M) (d := .bl true) (by walk_at "ev") ⟨rfl, _, rfl⟩
  obtain ⟨d, L, hk, rfl, τ, rfl⟩ := key
  refine ⟨τ, ?_⟩
  have tk : M.take M.length = M := List.take_length
  rw [rn__law_rest3]
  have e : ∀ b, fnR P (k + 6) (some ⟨1, 11, b, 0⟩) [.rf 0] (dcM σ :: M) = svR (sv P (Ac.run P (k + 6)) b [some (.rf 0), none, none, none, none, none, none, none, none, none, none] (dcM σ :: M)) := fun _ => rfl
  rw [e, hk]
theorem body (a0 : D) (σ : Dc) : Nx (fun _ _ => True) (sv P (Ac.run P 8) b_law_2 [some (a0), some (.rf 0), none, none, none, none, none, none, none, none, none, none, none, none, none, none, none, none, none] [dcM σ]) := by
  have R := @roll
  obtain ⟨t0, σ1, t00, t01, q1, p1⟩ := roll_ex σ (m := 5) (by decide)
  obtain ⟨c0, σ2, c00, c01, q2, p2⟩ := roll_ex σ1 (m := 5) (by decide)
  obtain ⟨n, σ3, n0, n1, q3, p3⟩ := roll_ex σ2 (m := 10) (by decide)
  unfold b_law_2
  refine Nx.go ?_
  refine Nx.st (δ' := ?d1) (L' := ?l1) ?a1 ?a2
  case a1 => (walk_at "ev") <;> rfl
  generalize ht : 2 + t0 = t
  generalize hc : 2 + c0 = a
  have ht2 : 2 ≤ t ∧ t ≤ 6 := by omega
  have ha2 : 2 ≤ a ∧ a ≤ 6 := by omega
  clear ht hc q1 q2 p1 p2
  have RI := @rn_Round_init
  have hmin : ¬ min t a < 2 := by omega
  have hmid : (max t a + 1) / 2 = mid t a := rfl
  refine Nx.st (δ' := [some (a0), some (.rf 0), some (.int t), some (.int a), some (.lst []), some (.int 1), some (.int (mid t a)), none, none, none, none, none, none, none, none, some (.rf 1), none, none, none]) (L' := [dcM σ2, rnd t a 1, .lst []]) ?b1 ?b2
  case b1 =>
    walk_at "ev"
    simp only [t_Round_init]
    (walk_at "ev") <;> rfl
  clear RI
  obtain ⟨δ', L', hf, σ4, ap, rs, x7, x8, x9, x11, x12, x16, rfl, rfl, hl, hp, hr⟩ := for_rgN (g := stands ((rg 0 n).map D.int) none) (f := fun d δ L => @zG (asg P (Ac.run P 8) (T.loc 7) d δ L) ⟨fun δ L => sv P (Ac.run P 8) b_law_1 δ L⟩) (a := 0) (b := n) (δ := [some (a0), some (.rf 0), some (.int t), some (.int a), some (.lst []), some (.int 1), some (.int (mid t a)), none, none, none, none, none, none, none, none, some (.rf 1), none, none, none]) (L := [dcM σ3, rnd t a 1, .lst []]) (I1 a0 t a) n0 (fun _ _ _ _ => rfl) ⟨σ3, 1, [], none, none, none, none, none, none, rfl, rfl, by simp, ⟨by omega, by omega⟩, fun _ hx => (List.not_mem_nil hx).elim⟩ (fun j δ L h0 h1 hh => l1 a0 ht2 ha2 j (by omega) δ L hh)
  refine Nx.st (δ' := ?d3) (L' := ?l3) ?c1 ?c2
  case c1 => (walk_at "ev") <;> rfl
  clear hf R q3 p3
  refine Nx.st (δ' := ?d4) (L' := ?l4) ?e1 ?e2
  case e1 => (walk_at "ev") <;> rfl
  obtain ⟨hv, y16, y10, hu⟩ := law_used (a0 := some a0) (x2 := some (.int t)) (x3 := some (.int a)) (x7 := x7) (x8 := x8) (x9 := x9) (x11 := x11) (x12 := x12) (x16 := x16) (x5 := .int ap) (x15 := .rf 1) (m := mid t a) (L := [dcM σ4, rnd t a ap, .lst (rs.map pD)]) (rs := rs)
  refine Nx.st (δ' := ?d5) (L' := ?l5) ?f1 ?f2
  case f1 => (walk_at "ev") <;> rfl
  clear hu
  have hU := used_ok (k := 7) (t := t) (a := a) (ap := ap) (X := dcM σ4) (rs := rs)
  refine Nx.st (δ' := ?d6) (L' := ?l6) ?g1 ?g2
  case g1 => (walk_at "ev") <;> rfl
  clear hU
  obtain ⟨τ, hr3⟩ := rest3_ok (k := 1) (σ := σ4) (M := [rnd t a ap, .lst (rs.map pD)]) (by
    have hb : D.blws 3 (rs.map pD) = true := blws_map fun e _ => blws_ints (ns := [e.1, e.2])
    show wfM 3 [rnd t a ap, .lst (rs.map pD)] = true
    have h2 : D.blw 3 (.rf 2) = true := blw_rf (by decide)
    simp only [wf_cons, wf_nil, blw_lst, blw_ins, blws_cons, blws_nil, blw_int, hb, h2, Bool.and_self])
  refine Nx.st (δ' := ?d7) (L' := ?l7) ?h1 ?h2
  case h1 => (walk_at "ev") <;> rfl
  exact Nx.end trivial
abbrev lev : Nat := 8
theorem law_true : ∀ ns : List Int, ns.length ≤ 63 → ∃ L, Ac.run P (lev + 1) f_law [.lsk (ns.map .int)] [] = .ok (.bl true) L := by
  intro ns _
  obtain ⟨σ, hr⟩ := run_rounds (P := P) (k := 6) fn_27 fn_25 ns
  obtain ⟨δ, L, hb, _⟩ := body (.lsk (ns.map .int)) σ
  refine ⟨[], ?_⟩
  show Ac.run P (8 + 1) 35 _ _ = _
  rw [rn_law]
  unfold t_law
  walk_at "ev"
  rcases hb with hb | hb
  · walk_at "ev"
  · walk_at "ev"
end K04
end
end
section
set_option maxHeartbeats 0
open PySem PySem.W PySem.Calls PyProof.Rows
theorem PySem.Challenge.cw_baskethall_k04_bases_holds : PySem.Challenge.rw_baskethall_k04_bases.Holds := by
  w_on; o_law
  refine HandSHeadRun.head_any (r := OpenLaw.row PySem.Challenge.rw_baskethall_k04_bases) (q := view (OpenLaw.row PySem.Challenge.rw_baskethall_k04_bases).prog [28]) (H := K04.hk) (ob := K04.ob) (M := 20000) (loose := K04.loose) (d := HandSHeadRun.topDef (OpenLaw.row PySem.Challenge.rw_baskethall_k04_bases).prog 28) (kwd := []) K04.ob_eq
    (by kernel_rfl) (fun s => by kernel_rfl) K04.run (by kernel_rfl) (by kernel_rfl) (by kernel_rfl) (by rfl) (by first | assumption | decide +kernel) (by decide +kernel) ⟨rfl, rfl, rfl, rfl, rfl, by decide +kernel⟩ ?hw ?hc
  case hw => w_witness2
  case hc =>
    refine Ac.law_walk (l := PySem.Challenge.rw_baskethall_k04_bases) (k := 8 * K04.lev + 9) (ld := K04.d_law) (cls := K04.hd.cl) rfl (by kernel_rfl) ⟨rfl, by decide, by decide⟩ (fun K h => K04.ex_tq K h) (by simp [K04.fn]) rfl (by kernel_rfl) (List.mem_append.mpr (.inl (List.mem_map.mpr ⟨"law", List.contains_iff_mem.mp (by decide +kernel), rfl⟩))) ?_ (fun W E fd F => (Ac.law_ok E (K04.sk E) K04.fr_law K04.law_true F).1)
    intro K fd F s v
    exact F.bindsA (ps := ["script"]) (fun _ _ _ _ _ _ us hl => match us, hl with | [_], _ => rfl) s [v] rfl
end
