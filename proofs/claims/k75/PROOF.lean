import PyProof.Rows.All
import Wide.All
import OpenK.AllK
import Wide.FinOn
import HandS.ForMost
import HandS.ForExc
import HandS.TupAny
import HandS.Nested
import HandS.CallLocal
import HandS.Style
import HandS.Flow
import HandS.IsInst
import HandS.Star
import HandS.Walk
import KE.GoesEnum
import KE.GoesMore
import HandS.TupMul
import KE.DataEq
import HandS.SortInts
import KE.DataMinMax
import PyProof.SumAny
import KE.SortData
import HandS.TupSets
import KE.KeyNested
import HandS.EndTab
import HandS.Defaults
import PySem.Challenge.RW_changegiven_k75_whole_counts_of_one_wort
set_option Elab.async false
set_option linter.all false
set_option maxRecDepth 100000
set_option maxHeartbeats 4000000
/-! L3: a layer over HandS in which tuples are plain values and the heap is seen in part (views). -/
namespace L3
open PySem PySem.Spec PyProof.Rows L2

/-- a value together with its tuples -/
inductive Dv where
  | non | bl (b : Bool) | int (i : Int) | str (x : Str) | tup (ws : List Dv) | ref (a : Addr) | ty (n : String)

/-- what a view says of an address -/
inductive Ho where
  | lst (ws : List Dv) | rol (ws : List Dv) | ins (C : Addr) (fs : List (Str × Dv)) | tab (q : Str) | cod (q : Str)
abbrev Hq := Addr → Option Ho
def put (G : Hq) (a : Addr) (o : Ho) : Hq := fun b => if b = a then some o else G b
theorem put_same {G : Hq} {a : Addr} {o : Ho} : put G a o a = some o := if_pos rfl
theorem put_ne {G : Hq} {a b : Addr} {o : Ho} (h : b ≠ a) : put G a o b = G b := if_neg h
theorem put_put {G : Hq} {a : Addr} {o u : Ho} : put (put G a o) a u = put G a u := by
  funext b; unfold put; split <;> rfl
theorem put_none {G : Hq} {a b : Addr} {o : Ho} : put G a o b = none ↔ b ≠ a ∧ G b = none := by
  unfold put; split <;> simp_all
def Le (G G' : Hq) : Prop := ∀ a o, G a = some o → G' a = some o
theorem Le.refl {G : Hq} : Le G G := fun _ _ h => h
theorem Le.trans {G G' G'' : Hq} (h : Le G G') (h' : Le G' G'') : Le G G'' := fun a o e => h' a o (h a o e)
theorem Le.put {G G' : Hq} {p : Addr} {o : Ho} (h : Le G G') (n : G p = none) : Le G (L3.put G' p o) := fun a u e => by
  rw [put_ne]
  · exact h a u e
  · rintro rfl; rw [n] at e; cases e
theorem Le.put2 {G G' : Hq} {p : Addr} {o : Ho} (h : Le G G') : Le (L3.put G p o) (L3.put G' p o) := fun a u e => by
  by_cases ha : a = p
  · subst ha; rw [put_same] at e ⊢; exact e
  · rw [put_ne ha] at e ⊢; exact h a u e
theorem Le.back {G G' : Hq} {p : Addr} (h : Le G G') (n : G' p = none) : G p = none := by
  cases e : G p with
  | none => rfl
  | some o => rw [h p o e] at n; cases n

/-! ### values of the view and values of the layer beneath -/
structure Ax where
  P : Program
  w : World
  K : PySem.W.Frag
  sz : Nat
variable {B : Ax} {K : PySem.W.Frag} {H H1 H2 : Hp} {G G1 G2 : Hq}

mutual
inductive Rp (K : PySem.W.Frag) (H : Hp) : Dv → V → Prop
  | non : Rp K H .non .non
  | bl {b} : Rp K H (.bl b) (.bl b)
  | int {i} : Rp K H (.int i) (.int i)
  | str {x} : Rp K H (.str x) (.str x)
  | ref {a} : Rp K H (.ref a) (.ref a)
  | ty {n} : Rp K H (.ty n) (.ty n)
  | tup {ws a vs} : SqT K H a vs → Rps K H ws vs → Rp K H (.tup ws) (.ref a)
inductive Rps (K : PySem.W.Frag) (H : Hp) : List Dv → List V → Prop
  | nil : Rps K H [] []
  | cons {w v ws vs} : Rp K H w v → Rps K H ws vs → Rps K H (w :: ws) (v :: vs)
end

/-- what stays for good: tuples, code objects -/
structure TK (K : PySem.W.Frag) (H H1 : Hp) : Prop where
  tu : ∀ a vs, SqT K H a vs → SqT K H1 a vs
  co : ∀ c q, H c = some (LamX.CodeO c q) → H1 c = some (LamX.CodeO c q)
structure Mu (u : Option HO) : Prop where
  m : Mut u
  n : ∀ c q, u ≠ some (LamX.CodeO c q)
theorem Mu.lst {vs : List V} : Mu (some (.lst vs)) := ⟨True.intro, fun c q z => by unfold LamX.CodeO at z; cases z⟩
theorem Mu.ins {C d : Addr} {vs : List (Str × V)} : Mu (some (.ins C d vs)) := ⟨True.intro, fun c q z => by unfold LamX.CodeO at z; cases z⟩
theorem TK.refl : TK K H H := ⟨fun _ _ h => h, fun _ _ h => h⟩
theorem TK.trans (a : TK K H H1) (b : TK K H1 H2) : TK K H H2 := ⟨fun x vs h => b.tu x vs (a.tu x vs h), fun c q h => b.co c q (a.co c q h)⟩
theorem TK.laid {p : Addr} {o : HO} (n : H p = none) : TK K H (upd H p o) := ⟨fun a vs h => by
  rcases h with h | h
  · left
    rcases h with h | ⟨ob, h⟩
    · exact .inl (by rw [upd_ne (ne_of_none h n)]; exact h)
    · exact .inr ⟨ob, by rw [upd_ne (ne_of_none h n)]; exact h⟩
  · exact .inr h, fun c q h => by rw [upd_ne (ne_of_none h n)]; exact h⟩
theorem TK.write {x : Addr} {o : HO} (mu : Mu (H x)) : TK K H (upd H x o) := ⟨fun a vs h => by
  have mu := mu.m
  rcases h with h | h
  · left
    rcases h with h | ⟨ob, h⟩
    · refine .inl ?_
      rw [upd_ne]; exact h
      rintro rfl; rw [h] at mu; exact mu
    · refine .inr ⟨ob, ?_⟩
      rw [upd_ne]; exact h
      rintro rfl; rw [h] at mu; exact mu
  · exact .inr h, fun c q h => by
  rw [upd_ne]; exact h
  rintro rfl; exact mu.n _ _ h⟩

mutual
theorem Rp.monoT (k : ∀ a vs, SqT K H a vs → SqT K H1 a vs) : ∀ {w : Dv} {v : V}, Rp K H w v → Rp K H1 w v
  | _, _, .non => .non
  | _, _, .bl => .bl
  | _, _, .int => .int
  | _, _, .str => .str
  | _, _, .ref => .ref
  | _, _, .ty => .ty
  | _, _, .tup h r => .tup (k _ _ h) (Rps.monoT k r)
theorem Rps.monoT (k : ∀ a vs, SqT K H a vs → SqT K H1 a vs) : ∀ {ws : List Dv} {vs : List V}, Rps K H ws vs → Rps K H1 ws vs
  | _, _, .nil => .nil
  | _, _, .cons h r => .cons (Rp.monoT k h) (Rps.monoT k r)
end
theorem Rp.mono (k : TK K H H1) {w : Dv} {v : V} (r : Rp K H w v) : Rp K H1 w v := r.monoT k.tu
theorem Rps.mono (k : TK K H H1) {ws : List Dv} {vs : List V} (r : Rps K H ws vs) : Rps K H1 ws vs := r.monoT k.tu

section
variable {ws us : List Dv} {vs xs : List V}
theorem Rps.length : ∀ {ws : List Dv} {vs : List V}, Rps K H ws vs → ws.length = vs.length
  | _, _, .nil => rfl
  | _, _, .cons _ r => by simp [Rps.length r]
theorem Rps.append : ∀ {ws : List Dv} {vs : List V}, Rps K H ws vs → Rps K H us xs → Rps K H (ws ++ us) (vs ++ xs)
  | _, _, .nil, s => s
  | _, _, .cons h r, s => .cons h (Rps.append r s)
theorem Rps.get : ∀ {ws : List Dv} {vs : List V} {i : Nat} {w : Dv}, Rps K H ws vs → ws[i]? = some w → ∃ v, vs[i]? = some v ∧ Rp K H w v
  | _, _, _, _, .nil, e => by simp at e
  | _, _, 0, _, .cons h _, e => by simp at e; subst e; exact ⟨_, rfl, h⟩
  | _, _, i + 1, _, .cons _ r, e => by
    obtain ⟨v, h1, h2⟩ := Rps.get (i := i) r (by simpa using e)
    exact ⟨v, by simpa using h1, h2⟩
theorem Rps.get' : ∀ {ws : List Dv} {vs : List V} {i : Nat} {v : V}, Rps K H ws vs → vs[i]? = some v → ∃ w, ws[i]? = some w ∧ Rp K H w v
  | _, _, _, _, .nil, e => by simp at e
  | _, _, 0, _, .cons h _, e => by simp at e; subst e; exact ⟨_, rfl, h⟩
  | _, _, i + 1, _, .cons _ r, e => by
    obtain ⟨v, h1, h2⟩ := Rps.get' (i := i) r (by simpa using e)
    exact ⟨v, by simpa using h1, h2⟩
theorem Rps.set {w : Dv} {v : V} (q : Rp K H w v) : ∀ {ws : List Dv} {vs : List V} (i : Nat), Rps K H ws vs → Rps K H (ws.set i w) (vs.set i v)
  | _, _, _, .nil => .nil
  | _, _, 0, .cons _ r => .cons q r
  | _, _, i + 1, .cons h r => .cons h (Rps.set q i r)
theorem Rps.take : ∀ {ws : List Dv} {vs : List V} (n : Nat), Rps K H ws vs → Rps K H (ws.take n) (vs.take n)
  | _, _, 0, _ => by simp; exact .nil
  | _, _, _ + 1, .nil => .nil
  | _, _, n + 1, .cons h r => .cons h (Rps.take n r)
theorem Rps.drop : ∀ {ws : List Dv} {vs : List V} (n : Nat), Rps K H ws vs → Rps K H (ws.drop n) (vs.drop n)
  | _, _, 0, r => r
  | _, _, _ + 1, .nil => .nil
  | _, _, n + 1, .cons _ r => Rps.drop n r
theorem Rps.dropLast : ∀ {ws : List Dv} {vs : List V}, Rps K H ws vs → Rps K H ws.dropLast vs.dropLast := fun {ws vs} r => by
  rw [List.dropLast_eq_take, List.dropLast_eq_take, r.length]; exact r.take _
theorem Rps.eraseIdx : ∀ {ws : List Dv} {vs : List V} (i : Nat), Rps K H ws vs → Rps K H (ws.eraseIdx i) (vs.eraseIdx i)
  | _, _, _, .nil => .nil
  | _, _, 0, .cons _ r => r
  | _, _, i + 1, .cons h r => .cons h (Rps.eraseIdx i r)
theorem Rps.reverse {ws : List Dv} {vs : List V} (r : Rps K H ws vs) : Rps K H ws.reverse vs.reverse := by
  induction ws generalizing vs with
  | nil => cases r; exact .nil
  | cons w ws ih =>
    cases r with
    | cons h r => rw [List.reverse_cons, List.reverse_cons]; exact (ih r).append (.cons h .nil)
theorem Rps.rep {ws : List Dv} {vs : List V} (r : Rps K H ws vs) : ∀ k : Nat, Rps K H (List.replicate k ws).flatten (List.replicate k vs).flatten
  | 0 => .nil
  | k + 1 => by rw [List.replicate_succ, List.replicate_succ, List.flatten_cons, List.flatten_cons]; exact r.append (Rps.rep r k)
theorem Rps.ints : ∀ {ns : List Int} {vs : List V}, Rps K H (ns.map Dv.int) vs → vs = ns.map V.int
  | [], _, .nil => rfl
  | _ :: _, _, .cons .int r => by rw [Rps.ints r]; rfl
theorem Rps.of_ints : ∀ {ns : List Int}, Rps K H (ns.map Dv.int) (ns.map V.int)
  | [] => .nil
  | _ :: _ => .cons .int Rps.of_ints
theorem Rps.bls : ∀ {ns : List Bool} {vs : List V}, Rps K H (ns.map Dv.bl) vs → vs = ns.map V.bl
  | [], _, .nil => rfl
  | _ :: _, _, .cons .bl r => by rw [Rps.bls r]; rfl
theorem Rps.one {w : Dv} {v : V} (h : Rp K H w v) : Rps K H [w] [v] := .cons h .nil
end

/-- fields of an instance -/
inductive Rpf (K : PySem.W.Frag) (H : Hp) : List (Str × Dv) → List (Str × V) → Prop
  | nil : Rpf K H [] []
  | cons {f w v fs gs} : Rp K H w v → Rpf K H fs gs → Rpf K H ((f, w) :: fs) ((f, v) :: gs)
theorem Rpf.mono (k : TK K H H1) : ∀ {fs : List (Str × Dv)} {gs : List (Str × V)}, Rpf K H fs gs → Rpf K H1 fs gs
  | _, _, .nil => .nil
  | _, _, .cons h r => .cons (h.mono k) (Rpf.mono k r)
theorem Rpf.lookup {f : Str} : ∀ {fs : List (Str × Dv)} {gs : List (Str × V)}, Rpf K H fs gs → ∀ {w}, fs.lookup f = some w → ∃ v, gs.lookup f = some v ∧ Rp K H w v
  | _, _, .nil, _, e => by simp at e
  | _, _, .cons (f := g) h r, w, e => by
    rw [List.lookup_cons] at e ⊢
    cases hb : f == g with
    | true => rw [hb] at e; simp at e; subst e; exact ⟨_, rfl, h⟩
    | false => rw [hb] at e; simp at e; obtain ⟨v, e1, e2⟩ := Rpf.lookup r e; exact ⟨v, by simpa using e1, e2⟩
theorem Rpf.none_of {f : Str} : ∀ {fs : List (Str × Dv)} {gs : List (Str × V)}, Rpf K H fs gs → fs.lookup f = none → gs.lookup f = none
  | _, _, .nil, _ => rfl
  | _, _, .cons (f := g) h r, e => by
    rw [List.lookup_cons] at e ⊢
    cases hb : f == g with
    | true => rw [hb] at e; simp at e
    | false => rw [hb] at e; simpa using Rpf.none_of r (by simpa using e)
theorem Rpf.length : ∀ {fs : List (Str × Dv)} {gs : List (Str × V)}, Rpf K H fs gs → fs.length = gs.length
  | _, _, .nil => rfl
  | _, _, .cons _ r => by simp [Rpf.length r]

/-- the tables that K's code objects name -/
def tabsK (K : PySem.W.Frag) : List Addr := K.filterMap fun p => match p.2.data with
  | .fields vs => (match (vs[11]? : Option Value) with | some (.ref P) => some P | _ => none)
  | _ => none
/-- the view's word of an address is true -/
def AbO (B : Ax) (H : Hp) (a : Addr) : Ho → Prop
  | .lst ws => ∃ vs, H a = some (.lst vs) ∧ Rps B.K H ws vs
  | .rol ws => ∃ o vs, H a = some (.frz o (.lst vs)) ∧ Rps B.K H ws vs
  | .ins C fs => ∃ dx vs, H a = some (.ins C dx vs) ∧ Rpf B.K H fs vs
  | .tab q => a ∈ tabsK B.K ∧ LamX.TabS H a q
  | .cod q => H a = some (LamX.CodeO a q)
def AbH (B : Ax) (G : Hq) (H : Hp) : Prop := ∀ a o, G a = some o → AbO B H a o
theorem AbO.mono {a : Addr} {o : Ho} (h : AbO B H a o) (k : TK B.K H H1) (e : ∀ u, H a = some u → H1 a = some u) : AbO B H1 a o := by
  cases o with
  | lst ws => obtain ⟨vs, h, r⟩ := h; exact ⟨vs, e _ h, r.mono k⟩
  | rol ws => obtain ⟨o, vs, h, r⟩ := h; exact ⟨o, vs, e _ h, r.mono k⟩
  | ins C fs => obtain ⟨dx, vs, h, r⟩ := h; exact ⟨dx, vs, e _ h, r.mono k⟩
  | tab q => obtain ⟨l, ps, h1, h2, h3⟩ := h; exact ⟨l, ps, e _ h1, h2, fun pos cv hc => let ⟨c, x1, x2⟩ := h3 pos cv hc; ⟨c, x1, k.co _ _ x2⟩⟩
  | cod q => exact k.co _ _ h
theorem AbO.ex {a : Addr} {o : Ho} (h : AbO B H a o) : ∃ u, H a = some u := by
  cases o with
  | lst ws => obtain ⟨vs, h, r⟩ := h; exact ⟨_, h⟩
  | rol ws => obtain ⟨o, vs, h, r⟩ := h; exact ⟨_, h⟩
  | ins C fs => obtain ⟨dx, vs, h, r⟩ := h; exact ⟨_, h⟩
  | tab q => obtain ⟨l, ps, h1, h2, h3⟩ := h; exact ⟨_, h1⟩
  | cod q => exact ⟨_, h⟩
theorem AbH.fresh (h : AbH B G H) {p : Addr} (n : H p = none) : G p = none := by
  cases e : G p with
  | none => rfl
  | some o => obtain ⟨u, q⟩ := (h p o e).ex; rw [n] at q; cases q
theorem AbH.le (h : AbH B G1 H) (l : Le G G1) : AbH B G H := fun a o e => h a o (l a o e)
theorem AbH.laid (h : AbH B G H) {p : Addr} {o : HO} (n : H p = none) : AbH B G (upd H p o) := fun a u e =>
  (h a u e).mono (TK.laid n) fun v q => by rw [upd_ne (ne_of_none q n)]; exact q
theorem AbH.new (h : AbH B G H) {p : Addr} {o : HO} {o' : Ho} (n : H p = none) (q : AbO B (upd H p o) p o') : AbH B (put G p o') (upd H p o) := fun a u e => by
  by_cases ha : a = p
  · subst ha; rw [put_same] at e; cases e; exact q
  · rw [put_ne ha] at e; exact h.laid n a u e
theorem AbH.write (h : AbH B G H) {x : Addr} {o : HO} {o' : Ho} (mu : Mu (H x)) (q : AbO B (upd H x o) x o') : AbH B (put G x o') (upd H x o) := fun a u e => by
  by_cases ha : a = x
  · subst ha; rw [put_same] at e; cases e; exact q
  · rw [put_ne ha] at e
    exact (h a u e).mono (TK.write mu) fun v q => by rw [upd_ne ha]; exact q

/-! ### slots -/
abbrev Sl := List (Option Dv)
def sget : Sl → Nat → Option Dv
  | [], _ => none
  | x :: _, 0 => x
  | _ :: r, n + 1 => sget r n
def sset : Sl → Nat → Option Dv → Sl
  | [], _, _ => []
  | _ :: r, 0, w => w :: r
  | x :: r, n + 1, w => x :: sset r n w
inductive AbS (K : PySem.W.Frag) (H : Hp) : Sl → L2.St → Prop
  | nil : AbS K H [] []
  | non {v τ σ} : AbS K H τ σ → AbS K H (none :: τ) (v :: σ)
  | som {w v τ σ} : Rp K H w v → AbS K H τ σ → AbS K H (some w :: τ) (some v :: σ)
theorem AbS.monoT (k : ∀ a vs, SqT K H a vs → SqT K H1 a vs) : ∀ {τ : Sl} {σ : L2.St}, AbS K H τ σ → AbS K H1 τ σ
  | _, _, .nil => .nil
  | _, _, .non r => .non (AbS.monoT k r)
  | _, _, .som h r => .som (h.monoT k) (AbS.monoT k r)
theorem AbS.mono (k : TK K H H1) {τ : Sl} {σ : L2.St} (s : AbS K H τ σ) : AbS K H1 τ σ := s.monoT k.tu
theorem AbS.get : ∀ {τ : Sl} {σ : L2.St} {i : Nat} {w : Dv}, AbS K H τ σ → sget τ i = some w → ∃ v, σ[i]? = some (some v) ∧ Rp K H w v
  | _, _, _, _, .nil, e => by simp [sget] at e
  | _, _, 0, _, .non _, e => by simp [sget] at e
  | _, _, 0, _, .som h _, e => by simp [sget] at e; subst e; exact ⟨_, rfl, h⟩
  | _, _, i + 1, _, .non r, e => by
    obtain ⟨v, h1, h2⟩ := AbS.get (i := i) r (by simpa [sget] using e)
    exact ⟨v, by simpa using h1, h2⟩
  | _, _, i + 1, _, .som _ r, e => by
    obtain ⟨v, h1, h2⟩ := AbS.get (i := i) r (by simpa [sget] using e)
    exact ⟨v, by simpa using h1, h2⟩
theorem AbS.set {w : Dv} {v : V} (q : Rp K H w v) : ∀ {τ : Sl} {σ : L2.St} (i : Nat), AbS K H τ σ → AbS K H (sset τ i (some w)) (σ.set i (some v))
  | _, _, _, .nil => .nil
  | _, _, 0, .non r => .som q r
  | _, _, 0, .som _ r => .som q r
  | _, _, i + 1, .non r => .non (AbS.set q i r)
  | _, _, i + 1, .som h r => .som h (AbS.set q i r)
theorem AbS.setN {v : Option V} : ∀ {τ : Sl} {σ : L2.St} (i : Nat), AbS K H τ σ → AbS K H (sset τ i none) (σ.set i v)
  | _, _, _, .nil => .nil
  | _, _, 0, .non r => .non r
  | _, _, 0, .som _ r => .non r
  | _, _, i + 1, .non r => .non (AbS.setN i r)
  | _, _, i + 1, .som h r => .som h (AbS.setN i r)
inductive LeS : Sl → Sl → Prop
  | nil : LeS [] []
  | non {v τ σ} : LeS τ σ → LeS (none :: τ) (v :: σ)
  | same {w τ σ} : LeS τ σ → LeS (w :: τ) (w :: σ)
theorem LeS.refl : ∀ {τ : Sl}, LeS τ τ
  | [] => .nil
  | _ :: _ => .same LeS.refl
theorem AbS.le : ∀ {τ τ' : Sl} {σ : L2.St}, AbS K H τ' σ → LeS τ τ' → AbS K H τ σ
  | _, _, _, .nil, .nil => .nil
  | _, _, _, .non r, .non l => .non (r.le l)
  | _, _, _, .non r, .same l => .non (r.le l)
  | _, _, _, .som h r, .non l => .non (r.le l)
  | _, _, _, .som h r, .same l => .som h (r.le l)
theorem AbS.length : ∀ {τ : Sl} {σ : L2.St}, AbS K H τ σ → τ.length = σ.length
  | _, _, .nil => rfl
  | _, _, .non r => by simp [r.length]
  | _, _, .som _ r => by simp [r.length]
theorem AbS.start {ws : List Dv} {vs : List V} (r : Rps K H ws vs) : ∀ n : Nat, AbS K H (ws.map some ++ List.replicate n none) (vs.map some ++ List.replicate n none) := fun n => by
  have hn : ∀ n : Nat, AbS K H (List.replicate n none) (List.replicate n none) := fun n => by
    induction n with
    | zero => exact .nil
    | succ n ih => exact .non ih
  induction ws generalizing vs with
  | nil => cases r; exact hn n
  | cons w ws ih => cases r with | cons h r => exact .som h (ih r)

/-! ### readings over views -/
abbrev Qv := Dv → Hq → Prop
abbrev Te := Sl → Hq → Qv → Prop
abbrev Tt := Sl → Hq → (Bool → Hq → Prop) → Prop
abbrev Ta := Sl → Hq → (List Dv → Hq → Prop) → Prop
structure En where
  nx : Sl → Hq → Prop
  rt : Qv
  bk : Sl → Hq → Prop := fun _ _ => False
  ct : Sl → Hq → Prop := fun _ _ => False
abbrev Ts := En → Sl → Hq → Prop

def Cn (B : Ax) (H : Hp) (Q' : Qv) (Q : VK) : Prop := ∀ v H1 w G1, TK B.K H H1 → Rp B.K H1 w v → AbH B G1 H1 → Q' w G1 → Q v H1
def CnT (B : Ax) (H : Hp) (Q' : Bool → Hq → Prop) (Q : Bool → Hp → Prop) : Prop := ∀ b H1 G1, TK B.K H H1 → AbH B G1 H1 → Q' b G1 → Q b H1
def CnA (B : Ax) (H : Hp) (Q' : List Dv → Hq → Prop) (Q : List V → Hp → Prop) : Prop := ∀ vs H1 ws G1, TK B.K H H1 → Rps B.K H1 ws vs → AbH B G1 H1 → Q' ws G1 → Q vs H1
def CnS (B : Ax) (H : Hp) (N' : Sl → Hq → Prop) (N : L2.St → Hp → Prop) : Prop := ∀ σ1 H1 τ1 G1, TK B.K H H1 → AbS B.K H1 τ1 σ1 → AbH B G1 H1 → N' τ1 G1 → N σ1 H1
structure CnE (B : Ax) (H : Hp) (D' : En) (D : Ends) : Prop where
  nx : CnS B H D'.nx D.nx
  rt : Cn B H D'.rt D.rt
  bk : CnS B H D'.bk D.bk
  ct : CnS B H D'.ct D.ct
theorem Cn.mono {Q' : Qv} {Q : VK} (k : Cn B H Q' Q) (t : TK B.K H H1) : Cn B H1 Q' Q := fun v H2 w G1 t' => k v H2 w G1 (t.trans t')
theorem CnT.mono {Q' : Bool → Hq → Prop} {Q : Bool → Hp → Prop} (k : CnT B H Q' Q) (t : TK B.K H H1) : CnT B H1 Q' Q := fun v H2 G1 t' => k v H2 G1 (t.trans t')
theorem CnA.mono {Q' : List Dv → Hq → Prop} {Q : List V → Hp → Prop} (k : CnA B H Q' Q) (t : TK B.K H H1) : CnA B H1 Q' Q := fun v H2 w G1 t' => k v H2 w G1 (t.trans t')
theorem CnS.mono {N' : Sl → Hq → Prop} {N : L2.St → Hp → Prop} (k : CnS B H N' N) (t : TK B.K H H1) : CnS B H1 N' N := fun v H2 w G1 t' => k v H2 w G1 (t.trans t')
theorem CnE.mono {D' : En} {D : Ends} (k : CnE B H D' D) (t : TK B.K H H1) : CnE B H1 D' D := ⟨k.nx.mono t, k.rt.mono t, k.bk.mono t, k.ct.mono t⟩

def up (B : Ax) (t : Te) : TE := fun σ H Q => ∃ τ G Q', AbS B.K H τ σ ∧ AbH B G H ∧ t τ G Q' ∧ Cn B H Q' Q
def upT (B : Ax) (t : Tt) : TT := fun σ H Q => ∃ τ G Q', AbS B.K H τ σ ∧ AbH B G H ∧ t τ G Q' ∧ CnT B H Q' Q
def upA (B : Ax) (t : Ta) : TA := fun σ H Q => ∃ τ G Q', AbS B.K H τ σ ∧ AbH B G H ∧ t τ G Q' ∧ CnA B H Q' Q
def upS (B : Ax) (t : Ts) : TS := fun D σ H => ∃ τ G D', AbS B.K H τ σ ∧ AbH B G H ∧ t D' τ G ∧ CnE B H D' D
abbrev ax (X : Cx) : Ax := ⟨X.prog, X.w, X.K, X.base.objs.size⟩
structure Pe (X : Cx) (e : Expr) (t : Te) : Prop where pe : PE X e (up (ax X) t)
structure Pt (X : Cx) (e : Expr) (t : Tt) : Prop where pt : PT X e (upT (ax X) t)
structure Pw (X : Cx) (e : Expr) (t : Tt) : Prop where pw : PW X e (upT (ax X) t)
structure Pa (X : Cx) (es : List Expr) (t : Ta) : Prop where pa : PA X es (upA (ax X) t)
structure Ps (X : Cx) (st : Stmt) (t : Ts) : Prop where ps : PS X st (upS (ax X) t)
structure Pss (X : Cx) (st : List Stmt) (t : Ts) : Prop where pss : PSs X st (upS (ax X) t)
theorem PE.imp {X : Cx} {e : Expr} {t u : TE} (h : PE X e t) (f : ∀ σ H Q, u σ H Q → t σ H Q) : PE X e u := ⟨fun pins s σ H Q I q => h.run pins s σ H Q I (f σ H Q q)⟩
theorem PT.imp {X : Cx} {e : Expr} {t u : TT} (h : PT X e t) (f : ∀ σ H Q, u σ H Q → t σ H Q) : PT X e u := ⟨fun pins s σ H Q I q => h.run pins s σ H Q I (f σ H Q q)⟩
theorem PW.imp {X : Cx} {e : Expr} {t u : TT} (h : PW X e t) (f : ∀ σ H Q, u σ H Q → t σ H Q) : PW X e u := ⟨fun wh pins s σ H Q I q => h.run wh pins s σ H Q I (f σ H Q q)⟩
theorem PA.imp {X : Cx} {e : List Expr} {t u : TA} (h : PA X e t) (f : ∀ σ H Q, u σ H Q → t σ H Q) : PA X e u := ⟨fun p pins s σ H Q I q => h.run p pins s σ H Q I (f σ H Q q)⟩
theorem PS.imp {X : Cx} {e : Stmt} {t u : TS} (h : PS X e t) (f : ∀ D σ H, u D σ H → t D σ H) : PS X e u := ⟨fun pins s σ H Q I q => h.run pins s σ H Q I (f Q σ H q)⟩
theorem PSs.imp {X : Cx} {e : List Stmt} {t u : TS} (h : PSs X e t) (f : ∀ D σ H, u D σ H → t D σ H) : PSs X e u := ⟨fun pins s σ H Q I q => h.run pins s σ H Q I (f Q σ H q)⟩

section
variable {X : Cx} {a b c : Expr} {ta tb tc : Te} {pos : Pos}
/-! ### names, constants -/
def vr (i : Nat) : Te := fun τ G Q => match sget τ i with | some w => Q w G | none => False
def cs (w : Dv) : Te := fun _ G Q => Q w G
theorem v_ (i : Nat) {x : Str} {pos : Pos} (hN : X.N[i]? = some x := by rfl) (hv : Vis X.env.scope x := by first | exact Or.inl rfl | exact Or.inr (Or.inl rfl) | exact Or.inr (Or.inr rfl)) (hd : (x == ("__debug__" : Str)) = false := by decide)
    (hcd : (x == ("__classdict__" : Str)) = false := by decide) : Pe X (.Name x pos) (vr i) := ⟨PE.imp (pe_var hN hv hd hcd) fun σ H Q ⟨τ, G, Q', s, g, h, k⟩ => by
  unfold vr at h
  cases e : sget τ i with
  | none => rw [e] at h; exact h.elim
  | some w =>
    rw [e] at h
    obtain ⟨v, hv, r⟩ := s.get e
    exact ⟨v, hv, k v H w G TK.refl r g h⟩⟩
theorem e_cs {w : Dv} {v : V} (h : PE X a (tC v)) (r : ∀ H, Rp X.K H w v) : Pe X a (cs w) := ⟨PE.imp h fun σ H Q ⟨τ, G, Q', s, g, h, k⟩ => k v H w G TK.refl (r H) g h⟩
theorem e_int {i j pos} : Pe X (.Constant (.int i) j pos) (cs (.int i)) := e_cs pe_int fun _ => .int
theorem e_bl {b j pos} : Pe X (.Constant (.bool b) j pos) (cs (.bl b)) := e_cs pe_bl fun _ => .bl
theorem e_non {j pos} : Pe X (.Constant .none j pos) (cs .non) := e_cs pe_non fun _ => .non
theorem e_str {x j pos} : Pe X (.Constant (.str x) j pos) (cs (.str x)) := e_cs pe_str fun _ => .str
theorem e_glob {x : Str} {v : V} {w : Dv} {u : Value} {pos : Pos} (hg : Gl X x) (hm : X.mg x = some u) (r : RelV v u) (q : ∀ H, Rp X.K H w v) (hd : (x == ("__debug__" : Str)) = false := by decide) : Pe X (.Name x pos) (cs w) := e_cs (pe_glob hg hm r hd) q
theorem e_gint {x : Str} {i : Int} {t : Tok} {pos : Pos} (hg : Gl X x) (hm : X.mg x = some (.int i t)) (hd : (x == ("__debug__" : Str)) = false := by decide) : Pe X (.Name x pos) (cs (.int i)) := e_glob (v := .int i) hg hm ⟨t, rfl⟩ (fun _ => .int) hd
theorem e_gref {x : Str} {a : Addr} {pos : Pos} (hg : Gl X x) (hm : X.mg x = some (.ref a)) (hd : (x == ("__debug__" : Str)) = false := by decide) : Pe X (.Name x pos) (cs (.ref a)) := e_glob (v := .ref a) hg hm rfl (fun _ => .ref) hd

/-! ### operators -/
abbrev R2q := Dv → Dv → Hq → Qv → Prop
def up1 (B : Ax) (r : Dv → Hq → Qv → Prop) : V → Hp → VK → Prop := fun x H Q => ∃ wx G Q', Rp B.K H wx x ∧ AbH B G H ∧ r wx G Q' ∧ Cn B H Q' Q
def up2 (B : Ax) (r : R2q) : R2 := fun x y H Q => ∃ wx wy G Q', Rp B.K H wx x ∧ Rp B.K H wy y ∧ AbH B G H ∧ r wx wy G Q' ∧ Cn B H Q' Q
def upN (B : Ax) (r : List Dv → Hq → Qv → Prop) : List V → Hp → VK → Prop := fun xs H Q => ∃ ws G Q', Rps B.K H ws xs ∧ AbH B G H ∧ r ws G Q' ∧ Cn B H Q' Q
def Or (X : Cx) (f : Value → Value → Sem Value) (r : R2q) : Prop := OpR X f (up2 (ax X) r)
def Ur (X : Cx) (f : Value → Sem Value) (r : Dv → Hq → Qv → Prop) : Prop := UnR X f (up1 (ax X) r)
def Cr (X : Cx) (f : Value) (r : List Dv → Hq → Qv → Prop) : Prop := CallR X f (upN (ax X) r)
theorem or_by {f : Value → Value → Sem Value} {r : R2q} (h : ∀ wx wy x y H G Q' Q, Rp X.K H wx x → Rp X.K H wy y → AbH (ax X) G H → r wx wy G Q' → Cn (ax X) H Q' Q → ∃ r0, OpR X f r0 ∧ r0 x y H Q) : Or X f r :=
  fun pins s σ H x y v u Q I rx ry ⟨wx, wy, G, Q', px, py, g, q, k⟩ => by
    obtain ⟨r0, h1, h2⟩ := h wx wy x y H G Q' Q px py g q k
    exact h1 pins s σ H x y v u Q I rx ry h2
theorem ur_by {f : Value → Sem Value} {r : Dv → Hq → Qv → Prop} (h : ∀ wx x H G Q' Q, Rp X.K H wx x → AbH (ax X) G H → r wx G Q' → Cn (ax X) H Q' Q → ∃ r0, UnR X f r0 ∧ r0 x H Q) : Ur X f r :=
  fun pins s σ H x v Q I rx ⟨wx, G, Q', px, g, q, k⟩ => by
    obtain ⟨r0, h1, h2⟩ := h wx x H G Q' Q px g q k
    exact h1 pins s σ H x v Q I rx h2
theorem cr_by {f : Value} {r : List Dv → Hq → Qv → Prop} (h : ∀ ws xs H G Q' Q, Rps X.K H ws xs → AbH (ax X) G H → r ws G Q' → Cn (ax X) H Q' Q → ∃ r0, CallR X f r0 ∧ r0 xs H Q) : Cr X f r :=
  fun pins s σ H xs us Q I rx ⟨ws, G, Q', px, g, q, k⟩ => by
    obtain ⟨r0, h1, h2⟩ := h ws xs H G Q' Q px g q k
    exact h1 pins s σ H xs us Q I rx h2
def op2 (r : R2q) (ta tb : Te) : Te := fun τ G Q => ta τ G fun x G1 => tb τ G1 fun y G2 => r x y G2 Q
def op1 (r : Dv → Hq → Qv → Prop) (ta : Te) : Te := fun τ G Q => ta τ G fun x G1 => r x G1 Q
theorem op2_up {r : R2q} {σ : L2.St} {H : Hp} {Q : VK} : up B (op2 r ta tb) σ H Q → tOp (up2 B r) (up B ta) (up B tb) σ H Q := fun ⟨τ, G, Q', s, g, h, k⟩ =>
  ⟨τ, G, _, s, g, h, fun x H1 wx G1 t1 r1 g1 h1 => ⟨τ, G1, _, s.mono t1, g1, h1, fun y H2 wy G2 t2 r2 g2 h2 => ⟨wx, wy, G2, Q', r1.mono t2, r2, g2, h2, k.mono (t1.trans t2)⟩⟩⟩
theorem op1_up {r : Dv → Hq → Qv → Prop} {σ : L2.St} {H : Hp} {Q : VK} : up B (op1 r ta) σ H Q → tUn (up1 B r) (up B ta) σ H Q := fun ⟨τ, G, Q', s, g, h, k⟩ =>
  ⟨τ, G, _, s, g, h, fun x H1 wx G1 t1 r1 g1 h1 => ⟨wx, G1, Q', r1, g1, h1, k.mono t1⟩⟩
theorem e_op {op : Operator} {r : R2q} (ho : Or X (binaryOp op) r) (ha : Pe X a ta) (hb : Pe X b tb) : Pe X (.BinOp a op b pos) (op2 r ta tb) := ⟨PE.imp (pe_op ho ha.pe hb.pe) fun _ _ _ => op2_up⟩
theorem e_un {op : UnaryOp} {r : Dv → Hq → Qv → Prop} (ho : Ur X (unaryOp op) r) (ha : Pe X a ta) : Pe X (.UnaryOp op a pos) (op1 r ta) := ⟨PE.imp (pe_un ho ha.pe) fun _ _ _ => op1_up⟩
theorem e_cmp {op : CmpOp} {r : R2q} (ho : Or X (compareOp op) r) (ha : Pe X a ta) (hb : Pe X b tb) (hm : behindInMarks op b = false) : Pe X (.Compare a [op] [b] pos) (op2 r ta tb) := ⟨PE.imp (pe_cmpR ho ha.pe hb.pe hm) fun _ _ _ => op2_up⟩
end
end L3
namespace L3
open PySem PySem.Spec PyProof.Rows L2
variable {B : Ax} {K : PySem.W.Frag} {H H1 H2 : Hp} {G G1 G2 : Hq}

/-! ### closed wishes; promises -/
structure Clo (Q : Qv) (w : Dv) (G : Hq) : Prop where
  in_ ::
  ex : ∃ G0, Le G0 G ∧ Q w G0
theorem Clo.mk {Q : Qv} {w : Dv} (h : Q w G) : Clo Q w G := ⟨G, Le.refl, h⟩
def Mono (Q : Qv) : Prop := ∀ w G G', Le G G' → Q w G → Q w G'
theorem Clo.mono {Q : Qv} : Mono (Clo Q) := fun _ _ _ l ⟨G0, l0, q⟩ => ⟨G0, l0.trans l, q⟩
abbrev Xk := Addr → List (Str × Dv) → Hq → Prop
abbrev Sq := List Dv → Hq → Qv → Xk → Prop
def CloX (E : Xk) : Xk := fun C fs G => ∃ G0, Le G0 G ∧ E C fs G0
def MonoX (E : Xk) : Prop := ∀ C fs G G', Le G G' → E C fs G → E C fs G'
theorem CloX.mono {E : Xk} : MonoX (CloX E) := fun _ _ _ _ l ⟨G0, l0, q⟩ => ⟨G0, l0.trans l, q⟩
/-- an exception of an own class: its class, its own dict's fields -/
def ExR (K : PySem.W.Frag) (H : Hp) (cls : Value) (d : Option Addr) (C : Addr) (fs : List (Str × Dv)) : Prop :=
  cls = .ref C ∧ ((d = none ∧ fs = []) ∨ ∃ dx vs, d = some dx ∧ H dx = some (.xd vs) ∧ Rpf K H fs vs)
def CnX (B : Ax) (H : Hp) (E' : Xk) (E : XK) : Prop := ∀ cls d H1 C fs G1, TK B.K H H1 → AbH B G1 H1 → ExR B.K H1 cls d C fs → E' C fs G1 → E cls d H1
theorem CnX.mono {E' : Xk} {E : XK} (k : CnX B H E' E) (t : TK B.K H H1) : CnX B H1 E' E := fun cls d H2 C fs G1 t' => k cls d H2 C fs G1 (t.trans t')
abbrev X0 : Xk := fun _ _ _ => False
theorem CnX.zero {E : XK} : CnX B H X0 E := fun _ _ _ _ _ _ _ _ _ h => h.elim
theorem Cn.clo {Q' : Qv} {Q : VK} (k : Cn B H Q' Q) : Cn B H (Clo Q') Q := fun v H1 w G1 t r g ⟨G0, l, q⟩ => k v H1 w G0 t r (g.le l) q
theorem CnX.clo {E' : Xk} {E : XK} (k : CnX B H E' E) : CnX B H (CloX E') E := fun cls d H1 C fs G1 t g r ⟨G0, l, q⟩ => k cls d H1 C fs G0 t (g.le l) r q
def upP (B : Ax) (sp : Sq) : Sp := fun vs H Q E => ∃ ws G Q' E', Rps B.K H ws vs ∧ AbH B G H ∧ sp ws G (Clo Q') (CloX E') ∧ Cn B H Q' Q ∧ CnX B H E' E
structure Fn (P : Program) (w : World) (K : PySem.W.Frag) (mg : Str → Option Value) (base : Heap) (CX : CXT) (k : Nat) (f : Addr) (fd : FuncData) (ps : List Str) (sp : Sq) : Prop where
  fn : FnOk P w K mg base CX k f fd ps (upP ⟨P, w, K, base.objs.size⟩ sp)
theorem Fn.up {P : Program} {w : World} {K : PySem.W.Frag} {mg : Str → Option Value} {base : Heap} {CX : CXT} {j k : Nat} {f : Addr} {fd : FuncData} {ps : List Str} {sp : Sq} (F : Fn P w K mg base CX j f fd ps sp) (h : j ≤ k) : Fn P w K mg base CX k f fd ps sp := ⟨F.fn.mono h⟩
/-- a weaker promise -/
theorem Fn.imp {P : Program} {w : World} {K : PySem.W.Frag} {mg : Str → Option Value} {base : Heap} {CX : CXT} {k : Nat} {f : Addr} {fd : FuncData} {ps : List Str} {sp sp' : Sq} (F : Fn P w K mg base CX k f fd ps sp)
    (h : ∀ ws G Q E, Mono Q → MonoX E → sp' ws G Q E → sp ws G Q E) : Fn P w K mg base CX k f fd ps sp' :=
  ⟨F.fn.imp fun vs H Q E ⟨ws, G, Q', E', r, g, q, k, x⟩ => ⟨ws, G, Q', E', r, g, h _ _ _ _ Clo.mono CloX.mono q, k, x⟩⟩

section
variable {X : Cx} {a b c e o : Expr} {es : List Expr} {ta tb tc te : Te} {t tr : Ta} {pos p apos : Pos} {st : Stmt} {rest : List Stmt} {u s1 s2 : Ts}

/-! ### arguments, displays -/
def an : Ta := fun _ G Q => Q [] G
def ac (ta : Te) (tr : Ta) : Ta := fun τ G Q => ta τ G fun x G1 => tr τ G1 fun xs G2 => Q (x :: xs) G2
theorem a_nil : Pa X [] an := ⟨PA.imp pa_nil fun σ H Q ⟨τ, G, Q', s, g, h, k⟩ => k [] H [] G TK.refl .nil g h⟩
theorem ac_up {σ : L2.St} {H : Hp} {Q : List V → Hp → Prop} : upA B (ac te t) σ H Q → tCons (up B te) (upA B t) σ H Q := fun ⟨τ, G, Q', s, g, h, k⟩ =>
  ⟨τ, G, _, s, g, h, fun x H1 wx G1 t1 r1 g1 h1 => ⟨τ, G1, _, s.mono t1, g1, h1, fun xs H2 wxs G2 t2 r2 g2 h2 => k _ H2 _ G2 (t1.trans t2) (.cons (r1.mono t2) r2) g2 h2⟩⟩
theorem a_cons (ha : Pe X e te) (hr : Pa X es t) (hs : starEach (e :: es) X.env = (false, eval e X.env) :: starEach es X.env := by rfl) : Pa X (e :: es) (ac te t) := ⟨PA.imp (pa_cons ha.pe hr.pa hs) fun _ _ _ => ac_up⟩
/-- few enough -/
def few (n : Nat) (P : Prop) : Prop := match Nat.ble n 1000 with | true => P | false => False
theorem few_of {n : Nat} {P : Prop} (h : few n P) : n ≤ sizeLine ∧ P := by
  unfold few at h
  cases e : Nat.ble n 1000 with
  | true => rw [e] at h; exact ⟨Nat.le_of_lt (small1000 (Nat.le_of_ble_eq_true e)), h⟩
  | false => rw [e] at h; exact h.elim
theorem few_mk {n : Nat} {P : Prop} (h : n ≤ 1000) (q : P) : few n P := by
  unfold few
  rw [Nat.ble_eq_true_of_le h]; exact q
def tu (t : Ta) : Te := fun τ G Q => t τ G fun ws G1 => few ws.length (Q (.tup ws) G1)
def li (t : Ta) : Te := fun τ G Q => t τ G fun ws G1 => few ws.length (∀ p, G1 p = none → Q (.ref p) (put G1 p (.lst ws)))
theorem e_tup {x1} (h : Pa X es t) : Pe X (.Tuple es x1 pos) (tu t) := ⟨PE.imp (pe_tup h.pa) fun σ H Q ⟨τ, G, Q', s, g, h, k⟩ =>
  ⟨τ, G, _, s, g, h, fun vs H1 ws G1 t1 r1 g1 h1 => by
    obtain ⟨h2, h3⟩ := few_of h1
    exact ⟨by rw [← r1.length]; exact h2, fun p np => k _ _ (.tup ws) G1 (t1.trans (TK.laid np)) (.tup (SqT.of upd_same) (r1.mono (TK.laid np))) (g1.laid np) h3⟩⟩⟩
theorem e_lst (h : Pa X es t) : Pe X (.List es pos) (li t) := ⟨PE.imp (pe_lst h.pa) fun σ H Q ⟨τ, G, Q', s, g, h, k⟩ =>
  ⟨τ, G, _, s, g, h, fun vs H1 ws G1 t1 r1 g1 h1 => by
    obtain ⟨h2, h3⟩ := few_of h1
    exact ⟨by rw [← r1.length]; exact h2, fun p np => k _ _ (.ref p) _ (t1.trans (TK.laid np)) .ref (g1.new (o' := .lst ws) np ⟨vs, upd_same, r1.mono (TK.laid np)⟩) (h3 p (g1.fresh np))⟩⟩⟩

/-! ### tests -/
def truth (w : Dv) (G : Hq) (Q : Bool → Hq → Prop) : Prop := match w with
  | .bl b => Q b G
  | .int i => Q (i != 0) G
  | .non => Q false G
  | .str x => x.length ≤ sizeLine ∧ Q ((x.length : Int) != 0) G
  | .tup ws => Q (!ws.isEmpty) G
  | .ref a => ∃ ws, (G a = some (.lst ws) ∨ G a = some (.rol ws)) ∧ Q (!ws.isEmpty) G
  | .ty _ => False
def tt (te : Te) : Tt := fun τ G Q => te τ G fun w G1 => truth w G1 Q
def tv (te : Te) : Tt := fun τ G Q => te τ G fun w G1 => match w with | .bl b => Q b G1 | _ => False
theorem Rps.isEmpty {ws : List Dv} {vs : List V} (r : Rps K H ws vs) : ws.isEmpty = vs.isEmpty := by cases r <;> rfl
theorem truth_up {w : Dv} {v : V} {Q' : Bool → Hq → Prop} {Q : Bool → Hp → Prop} (r : Rp B.K H w v) (g : AbH B G H) (h : truth w G Q') (k : CnT B H Q' Q) : ∃ b, TruV B.K v H b ∧ Q b H := by
  cases r with
  | non => exact ⟨false, rfl, k _ _ _ TK.refl g h⟩
  | bl => exact ⟨_, rfl, k _ _ _ TK.refl g h⟩
  | int => exact ⟨_, rfl, k _ _ _ TK.refl g h⟩
  | str => exact ⟨_, ⟨h.1, rfl⟩, k _ _ _ TK.refl g h.2⟩
  | ref =>
    obtain ⟨ws, h, q⟩ := h
    rcases h with h | h
    · obtain ⟨vs, h, r⟩ := g _ _ h
      exact ⟨_, .inl ⟨vs, SqL.of h, rfl⟩, by rw [← r.isEmpty]; exact k _ _ _ TK.refl g q⟩
    · obtain ⟨o, vs, h, r⟩ := g _ _ h
      exact ⟨_, .inl ⟨vs, .inl (.inr ⟨o, h⟩), rfl⟩, by rw [← r.isEmpty]; exact k _ _ _ TK.refl g q⟩
  | ty => exact h.elim
  | tup h1 r => exact ⟨_, .inr (.inl ⟨_, h1, rfl⟩), by rw [← r.isEmpty]; exact k _ _ _ TK.refl g h⟩
theorem t_tru (ha : Pe X a ta) (he : ∀ whole, isTrue a X.env whole = (do let v ← whole; standAt a.pos; holding [v] (truthy v)) := by intro _; rfl) : Pt X a (tt ta) := ⟨PT.imp (pt_truth ha.pe he) fun σ H Q ⟨τ, G, Q', s, g, h, k⟩ =>
  ⟨τ, G, _, s, g, h, fun v H1 w G1 t1 r1 g1 h1 => truth_up r1 g1 h1 (k.mono t1)⟩⟩
theorem t_cmp {op : CmpOp} {r : R2q} (ho : Or X (compareOp op) r) (ha : Pe X a ta) (hb : Pe X b tb) (hm : behindInMarks op b = false) : Pt X (.Compare a [op] [b] pos) (tv (op2 r ta tb)) := ⟨PT.imp (pt_cmpR ho ha.pe hb.pe hm) fun σ H Q ⟨τ, G, Q', s, g, h, k⟩ => by
  refine op2_up ⟨τ, G, _, s, g, h, fun v H1 w G1 t1 r1 g1 h1 => ?_⟩
  cases r1 with
  | bl => exact ⟨_, rfl, k _ _ _ t1 g1 h1⟩
  | non => exact h1.elim
  | int => exact h1.elim
  | str => exact h1.elim
  | ref => exact h1.elim
  | ty => exact h1.elim
  | tup _ _ => exact h1.elim⟩
def tAnd' (t u : Tt) : Tt := fun τ G Q => t τ G fun c G1 => match c with | true => u τ G1 Q | false => Q false G1
def tOr' (t u : Tt) : Tt := fun τ G Q => t τ G fun c G1 => match c with | true => Q true G1 | false => u τ G1 Q
def tNot' (t : Tt) : Tt := fun τ G Q => t τ G fun c G1 => Q (!c) G1
variable {tA tB' : Tt} {rs : List Expr}
theorem w_and1 (ha : Pt X a tA) : Pw X (.BoolOp .And [a] pos) tA := ⟨pw_and1 ha.pt⟩
theorem w_or1 (ha : Pt X a tA) : Pw X (.BoolOp .Or [a] pos) tA := ⟨pw_or1 ha.pt⟩
theorem w_and (ha : Pt X a tA) (hb : Pw X (.BoolOp .And (b :: rs) pos) tB') : Pw X (.BoolOp .And (a :: b :: rs) pos) (tAnd' tA tB') := ⟨PW.imp (pw_and ha.pt hb.pw) fun σ H Q ⟨τ, G, Q', s, g, h, k⟩ =>
  ⟨τ, G, _, s, g, h, fun c H1 G1 t1 g1 h1 => by
    cases c with
    | true => rw [if_pos rfl]; exact ⟨τ, G1, Q', s.mono t1, g1, h1, k.mono t1⟩
    | false => rw [if_neg Bool.false_ne_true]; exact k _ _ _ t1 g1 h1⟩⟩
theorem w_or (ha : Pt X a tA) (hb : Pw X (.BoolOp .Or (b :: rs) pos) tB') : Pw X (.BoolOp .Or (a :: b :: rs) pos) (tOr' tA tB') := ⟨PW.imp (pw_or ha.pt hb.pw) fun σ H Q ⟨τ, G, Q', s, g, h, k⟩ =>
  ⟨τ, G, _, s, g, h, fun c H1 G1 t1 g1 h1 => by
    cases c with
    | true => rw [if_pos rfl]; exact k _ _ _ t1 g1 h1
    | false => rw [if_neg Bool.false_ne_true]; exact ⟨τ, G1, Q', s.mono t1, g1, h1, k.mono t1⟩⟩⟩
theorem Pw.toT (h : Pw X e tA) : Pt X e tA := ⟨h.pw.pt⟩
theorem t_not (ha : Pt X a tA) : Pt X (.UnaryOp .Not a pos) (tNot' tA) := ⟨PT.imp (pt_not ha.pt) fun σ H Q ⟨τ, G, Q', s, g, h, k⟩ =>
  ⟨τ, G, _, s, g, h, fun c H1 G1 t1 g1 h1 => k _ _ _ t1 g1 h1⟩⟩
/-- and, or, not of bools, as values -/
def vAnd (ta tb : Te) : Te := fun τ G Q => ta τ G fun x G1 => match x with | .bl true => tb τ G1 Q | .bl false => Q (.bl false) G1 | _ => False
def vOr (ta tb : Te) : Te := fun τ G Q => ta τ G fun x G1 => match x with | .bl true => Q (.bl true) G1 | .bl false => tb τ G1 Q | _ => False
def vNot (ta : Te) : Te := fun τ G Q => ta τ G fun x G1 => match x with | .bl c => Q (.bl (!c)) G1 | _ => False
theorem e_one {op} (h : Pe X a ta) : Pe X (.BoolOp op [a] pos) ta := ⟨pe_one h.pe⟩
theorem e_and (ha : Pe X a ta) (hb : Pe X (.BoolOp .And (b :: rs) pos) tb) : Pe X (.BoolOp .And (a :: b :: rs) pos) (vAnd ta tb) := ⟨PE.imp (pe_and ha.pe hb.pe) fun σ H Q ⟨τ, G, Q', s, g, h, k⟩ =>
  ⟨τ, G, _, s, g, h, fun v H1 w G1 t1 r1 g1 h1 => by
    cases r1 with
    | bl =>
      rename_i c
      cases c with
      | true => exact ⟨true, rfl, by rw [if_pos rfl]; exact ⟨τ, G1, Q', s.mono t1, g1, h1, k.mono t1⟩⟩
      | false => exact ⟨false, rfl, by rw [if_neg Bool.false_ne_true]; exact k _ _ _ _ t1 .bl g1 h1⟩
    | non => exact h1.elim
    | int => exact h1.elim
    | str => exact h1.elim
    | ref => exact h1.elim
    | ty => exact h1.elim
    | tup _ _ => exact h1.elim⟩⟩
theorem e_or (ha : Pe X a ta) (hb : Pe X (.BoolOp .Or (b :: rs) pos) tb) : Pe X (.BoolOp .Or (a :: b :: rs) pos) (vOr ta tb) := ⟨PE.imp (pe_or ha.pe hb.pe) fun σ H Q ⟨τ, G, Q', s, g, h, k⟩ =>
  ⟨τ, G, _, s, g, h, fun v H1 w G1 t1 r1 g1 h1 => by
    cases r1 with
    | bl =>
      rename_i c
      cases c with
      | false => exact ⟨false, rfl, by rw [if_neg Bool.false_ne_true]; exact ⟨τ, G1, Q', s.mono t1, g1, h1, k.mono t1⟩⟩
      | true => exact ⟨true, rfl, by rw [if_pos rfl]; exact k _ _ _ _ t1 .bl g1 h1⟩
    | non => exact h1.elim
    | int => exact h1.elim
    | str => exact h1.elim
    | ref => exact h1.elim
    | ty => exact h1.elim
    | tup _ _ => exact h1.elim⟩⟩
theorem e_not (ha : Pe X a ta) : Pe X (.UnaryOp .Not a pos) (vNot ta) := ⟨PE.imp (pe_not ha.pe) fun σ H Q ⟨τ, G, Q', s, g, h, k⟩ =>
  ⟨τ, G, _, s, g, h, fun v H1 w G1 t1 r1 g1 h1 => by
    cases r1 with
    | bl => exact ⟨_, rfl, k _ _ _ _ t1 .bl g1 h1⟩
    | non => exact h1.elim
    | int => exact h1.elim
    | str => exact h1.elim
    | ref => exact h1.elim
    | ty => exact h1.elim
    | tup _ _ => exact h1.elim⟩⟩
def eIf (t : Tt) (ta tb : Te) : Te := fun τ G Q => t τ G fun c G1 => match c with | true => ta τ G1 Q | false => tb τ G1 Q
theorem e_if (hc : Pt X c tA) (ha : Pe X a ta) (hb : Pe X b tb) : Pe X (.IfExp c a b pos) (eIf tA ta tb) := ⟨PE.imp (pe_ifExp hc.pt ha.pe hb.pe) fun σ H Q ⟨τ, G, Q', s, g, h, k⟩ =>
  ⟨τ, G, _, s, g, h, fun c H1 G1 t1 g1 h1 => by
    cases c with
    | true => rw [if_pos rfl]; exact ⟨τ, G1, Q', s.mono t1, g1, h1, k.mono t1⟩
    | false => rw [if_neg Bool.false_ne_true]; exact ⟨τ, G1, Q', s.mono t1, g1, h1, k.mono t1⟩⟩⟩
/-- a < b < c -/
def chn (r r' : R2q) (ta tb tc : Te) : Te := fun τ G Q => ta τ G fun x G1 => tb τ G1 fun y G2 => r x y G2 fun z G3 => match z with | .bl true => tc τ G3 fun w G4 => r' y w G4 Q | .bl false => Q (.bl false) G3 | _ => False

/-! ### statements -/
def sq (t u : Ts) : Ts := fun D τ G => t { D with nx := u D } τ G
def nxt : Ts := fun D τ G => D.nx τ G
theorem ss_nil : Pss X [] nxt := ⟨PSs.imp pss_nil fun D σ H ⟨τ, G, D', s, g, h, k⟩ => k.nx σ H τ G TK.refl s g h⟩
theorem ss_cons (h1 : Ps X st s1) (h2 : Pss X rest s2) : Pss X (st :: rest) (sq s1 s2) := ⟨PSs.imp (pss_cons h1.ps h2.pss) fun D σ H ⟨τ, G, D', s, g, h, k⟩ =>
  ⟨τ, G, _, s, g, h, ⟨fun σ1 H1 τ1 G1 t1 s1 g1 q1 => ⟨τ1, G1, D', s1, g1, q1, k.mono t1⟩, k.rt, k.bk, k.ct⟩⟩⟩
theorem ss_one (h1 : Ps X st s1) : Pss X [st] s1 := ⟨pss_one h1.ps⟩
def brk : Ts := fun D τ G => D.bk τ G
def cnt : Ts := fun D τ G => D.ct τ G
theorem s_pass : Ps X (.Pass pos) nxt := ⟨PS.imp ps_pass fun D σ H ⟨τ, G, D', s, g, h, k⟩ => k.nx σ H τ G TK.refl s g h⟩
theorem s_break : Ps X (.Break pos) brk := ⟨PS.imp ps_break fun D σ H ⟨τ, G, D', s, g, h, k⟩ => k.bk σ H τ G TK.refl s g h⟩
theorem s_continue : Ps X (.Continue pos) cnt := ⟨PS.imp ps_continue fun D σ H ⟨τ, G, D', s, g, h, k⟩ => k.ct σ H τ G TK.refl s g h⟩
def dr (te : Te) : Ts := fun D τ G => te τ G fun _ G1 => D.nx τ G1
theorem s_expr (he : Pe X e te) (hs : swapsWith e none pos.line X.env = pure false := by rfl) : Ps X (.Expr e pos) (dr te) := ⟨PS.imp (ps_expr he.pe hs) fun D σ H ⟨τ, G, D', s, g, h, k⟩ =>
  ⟨τ, G, _, s, g, h, fun v H1 w G1 t1 r1 g1 q => k.nx σ H1 τ G1 t1 (s.mono t1) g1 q⟩⟩
def ret (te : Te) : Ts := fun D τ G => te τ G D.rt
theorem s_ret (he : Pe X e te) : Ps X (.Return (some e) pos) (ret te) := ⟨PS.imp (ps_ret he.pe) fun D σ H ⟨τ, G, D', s, g, h, k⟩ => ⟨τ, G, _, s, g, h, k.rt⟩⟩
def retN : Ts := fun D _ G => D.rt .non G
theorem s_retN : Ps X (.Return none pos) retN := ⟨PS.imp ps_retN fun D σ H ⟨τ, G, D', s, g, h, k⟩ => k.rt .non H .non G TK.refl .non g h⟩
def sif (c : Tt) (t u : Ts) : Ts := fun D τ G => c τ G fun b G1 => match b with | true => t D τ G1 | false => u D τ G1
theorem s_if {xs ys : List Stmt} (hc : Pt X c tA) (ha : Pss X xs s1) (hb : Pss X ys s2) : Ps X (.If c xs ys pos) (sif tA s1 s2) := ⟨PS.imp (ps_if hc.pt ha.pss hb.pss) fun D σ H ⟨τ, G, D', s, g, h, k⟩ =>
  ⟨τ, G, _, s, g, h, fun b H1 G1 t1 g1 h1 => by
    cases b with
    | true => rw [if_pos rfl]; exact ⟨τ, G1, D', s.mono t1, g1, h1, k.mono t1⟩
    | false => rw [if_neg Bool.false_ne_true]; exact ⟨τ, G1, D', s.mono t1, g1, h1, k.mono t1⟩⟩⟩
def nev : Ts := fun _ _ _ => False
theorem s_never : Ps X st nev := ⟨PS.imp ps_never fun D σ H ⟨τ, G, D', s, g, h, k⟩ => h⟩
theorem ss_never : Pss X rest nev := ⟨PSs.imp pss_never fun D σ H ⟨τ, G, D', s, g, h, k⟩ => h⟩
/-- a cut: what holds between two statements -/
def ct (t u : Ts) : Ts := fun D τ G => ∃ M : Sl → Hq → Prop, t { D with nx := M } τ G ∧ ∀ τ' G', M τ' G' → u D τ' G'

/-! ### targets -/
abbrev Tg := Dv → Sl → Hq → (Sl → Hq → Prop) → Prop
abbrev Tgs := List Dv → Sl → Hq → (Sl → Hq → Prop) → Prop
def upG (B : Ax) (g : Tg) : TG := fun v σ H Q => ∃ w τ G Q', Rp B.K H w v ∧ AbS B.K H τ σ ∧ AbH B G H ∧ g w τ G Q' ∧ CnS B H Q' Q
def upGs (B : Ax) (g : Tgs) : TGs := fun vs σ H Q => ∃ ws τ G Q', Rps B.K H ws vs ∧ AbS B.K H τ σ ∧ AbH B G H ∧ g ws τ G Q' ∧ CnS B H Q' Q
structure Pg (X : Cx) (tg : Expr) (g : Tg) : Prop where pg : PG X tg (upG (ax X) g)
structure Pgs (X : Cx) (tgs : List Expr) (g : Tgs) : Prop where pgs : PGs X tgs (upGs (ax X) g)
theorem PG.imp {e : Expr} {t u : TG} (h : PG X e t) (f : ∀ v σ H Q, u v σ H Q → t v σ H Q) : PG X e u := ⟨fun pins s σ H v w Q I r q => h.run pins s σ H v w Q I r (f v σ H Q q)⟩
theorem PGs.imp {e : List Expr} {t u : TGs} (h : PGs X e t) (f : ∀ v σ H Q, u v σ H Q → t v σ H Q) : PGs X e u := ⟨fun pins s σ H v w Q I r q => h.run pins s σ H v w Q I r (f v σ H Q q)⟩
def gn (i : Nat) : Tg := fun w τ G Q => Q (sset τ i (some w)) G
theorem g_name {i : Nat} {x : Str} (hN : X.N.Nodup) (hi : X.N[i]? = some x := by rfl) (hx : Loc X.env.scope x := by first | exact Or.inl rfl | exact Or.inr rfl) (hf : X.fn x = true ∨ X.env.scope.names.lookup x = some .local := by first | exact .inl rfl | exact .inr rfl | assumption) : Pg X (.Name x pos) (gn i) :=
  ⟨PG.imp (pg_name hN hi hx hf) fun v σ H Q ⟨w, τ, G, Q', r, s, g, h, k⟩ => k _ _ _ _ TK.refl (s.set r i) g h⟩
def gnil : Tgs := fun ws τ G Q => match ws with | [] => Q τ G | _ => False
def gcons (t : Tg) (u : Tgs) : Tgs := fun ws τ G Q => match ws with | w :: r => t w τ G fun τ' G' => u r τ' G' Q | [] => False
theorem gs_nil : Pgs X [] gnil := ⟨PGs.imp pgs_nil fun vs σ H Q ⟨ws, τ, G, Q', r, s, g, h, k⟩ => by
  cases r with
  | nil => exact ⟨rfl, k _ _ _ _ TK.refl s g h⟩
  | cons _ _ => exact h.elim⟩
end
end L3
namespace L3
open PySem PySem.Spec PyProof.Rows L2
variable {B : Ax} {K : PySem.W.Frag} {H H1 H2 : Hp} {G G1 G2 : Hq}
section
variable {X : Cx} {a b c e o i : Expr} {es : List Expr} {ta tb tc te to ti : Te} {t tr : Ta} {pos p apos tpos p2 : Pos} {st : Stmt} {rest : List Stmt} {u s1 s2 tb' : Ts} {g : Tg} {gs : Tgs}

theorem gcons_up {g : Tg} {gs : Tgs} {vs : List V} {σ : L2.St} {H : Hp} {Q : L2.St → Hp → Prop} : upGs B (gcons g gs) vs σ H Q → gCons (upG B g) (upGs B gs) vs σ H Q := fun ⟨ws, τ, G, Q', r, s, ga, h, k⟩ => by
  cases r with
  | nil => exact h.elim
  | cons r rr =>
    exact ⟨_, _, rfl, _, τ, G, _, r, s, ga, h, fun σ1 H1 τ1 G1 t1 s1 g1 q1 => ⟨_, τ1, G1, Q', rr.mono t1, s1, g1, q1, k.mono t1⟩⟩
theorem gs_cons (h1 : Pg X e g) (h2 : Pgs X es gs) (hs : (assignEach (e :: es) X.env).map (·.2) = assign e X.env :: (assignEach es X.env).map (·.2) := by rfl) : Pgs X (e :: es) (gcons g gs) := ⟨PGs.imp (pgs_cons h1.pg h2.pgs hs) fun _ _ _ _ => gcons_up⟩
def gtup (n : Nat) (t : Tgs) : Tg := fun w τ G Q => match w with
  | .tup ws => match decide (ws.length = n) with | true => t ws τ G Q | false => False
  | _ => False
theorem g_tup {k n : Nat} (hc : X.calm = true) (h : Pgs X es gs)
    (hn : (assignEach es X.env).length = n := by rfl) (hst : (assignEach es X.env).findIdx? (·.1) = none := by rfl) : Pg X (.Tuple es k pos) (gtup n gs) := by
  refine ⟨PG.imp (pg_tup hc h.pgs hn hst) fun v σ H Q ⟨w, τ, G, Q', r, s, g, h, k⟩ => ?_⟩
  cases r with
  | @tup ws a vs hq r =>
    unfold gtup at h
    simp only at h
    cases e : decide (ws.length = n) with
    | true =>
      rw [e] at h
      exact ⟨_, _, rfl, hq, by rw [← r.length]; exact of_decide_eq_true e, _, τ, G, Q', r, s, g, h, k⟩
    | false => rw [e] at h; exact h.elim
  | non => exact h.elim
  | int => exact h.elim
  | str => exact h.elim
  | ref => exact h.elim
  | ty => exact h.elim
  | bl => exact h.elim

/-! ### calls of defs -/
variable {CX : CXT} {k : Nat} {f C : Addr} {fd : FuncData} {ps : List Str} {sp : Sq} {dws : List Dv} {dvs : List V} {ds : List Value} {x m : Str}
def call (sp : Sq) (dws : List Dv) (t : Ta) : Te := fun τ G Q => t τ G fun ws G1 => sp (ws ++ dws) G1 (Clo Q) (CloX X0)
theorem call_up {σ : L2.St} {H : Hp} {Q : VK} (hd : ∀ H, Rps B.K H dws dvs) : up B (call sp dws t) σ H Q → tCall (upP B sp) dvs E0 (upA B t) σ H Q := fun ⟨τ, G, Q', s, g, h, k⟩ =>
  ⟨τ, G, _, s, g, h, fun vs H1 ws G1 t1 r1 g1 h1 => ⟨ws ++ dws, G1, Q', X0, r1.append (hd _), g1, h1, k.mono t1, CnX.zero⟩⟩
theorem e_call (F : Fn X.prog X.w X.K X.mg X.base CX k f fd ps sp) (hr : Room k X.A) (hg : Gl X x) (hm : X.mg x = some (.ref f)) (hk : PySem.W.keepIn X.K (.ref f) = true) (hb : Binds X.K fd ps ds) (hd : Vals dvs ds) (hd' : ∀ H, Rps X.K H dws dvs) (hx : Passes CX X E0) (ha : Pa X (e :: es) t)
    (hdb : (x == ("__debug__" : Str)) = false := by decide) (he : starEach (e :: es) X.env = (false, eval e X.env) :: starEach es X.env := by rfl) (hpl : (backTo pos (starEach es X.env)).any (·.1) = false := by rfl) :
    Pe X (.Call (.Name x p) (e :: es) [] pos) (call sp dws t) := ⟨PE.imp (pe_call F.fn hr hg hm hk hb hd hx ha.pa hdb he hpl) fun _ _ _ => call_up hd'⟩
/-- of a name that holds a def -/
def callL (i : Nat) (f : Addr) (sp : Sq) (t : Ta) : Te := fun τ G Q => sget τ i = some (.ref f) ∧ t τ G fun ws G1 => sp ws G1 (Clo Q) (CloX X0)
theorem e_callL {i : Nat} (F : Fn X.prog X.w X.K X.mg X.base CX k f fd ps sp) (hr : Room k X.A) (hN : X.N[i]? = some x) (hv : Vis X.env.scope x) (hk : PySem.W.keepIn X.K (.ref f) = true) (hb : Binds X.K fd ps []) (hx : Passes CX X E0) (ha : Pa X (e :: es) t)
    (hdb : (x == ("__debug__" : Str)) = false := by decide) (hcd : (x == ("__classdict__" : Str)) = false := by decide) (he : starEach (e :: es) X.env = (false, eval e X.env) :: starEach es X.env := by rfl) (hpl : (backTo pos (starEach es X.env)).any (·.1) = false := by rfl) :
    Pe X (.Call (.Name x p) (e :: es) [] pos) (callL i f sp t) := ⟨PE.imp (pe_callL (i := i) (dvs := []) F.fn hr hN hv hk hb .nil hx ha.pa hdb hcd he hpl) fun σ H Q ⟨τ, G, Q', s, g, ⟨hi, h⟩, k⟩ => by
  obtain ⟨v, hv, r⟩ := s.get hi
  cases r
  exact ⟨hv, τ, G, _, s, g, h, fun vs H1 ws G1 t1 r1 g1 h1 => ⟨ws, G1, Q', X0, by rw [List.append_nil]; exact r1, g1, h1, k.mono t1, CnX.zero⟩⟩⟩
/-! ### calls of built-ins -/
def callB (r : List Dv → Hq → Qv → Prop) (t : Ta) : Te := fun τ G Q => t τ G fun ws G1 => r ws G1 Q
theorem callB_up {r : List Dv → Hq → Qv → Prop} {σ : L2.St} {H : Hp} {Q : VK} : up B (callB r t) σ H Q → tCB (upN B r) (upA B t) σ H Q := fun ⟨τ, G, Q', s, g, h, k⟩ =>
  ⟨τ, G, _, s, g, h, fun vs H1 ws G1 t1 r1 g1 h1 => ⟨ws, G1, Q', r1, g1, h1, k.mono t1⟩⟩
theorem e_callB {id : String} {r : List Dv → Hq → Qv → Prop} (hc : Cr X (.builtin id) r) (hg : Gl X x) (hm : X.mg x = none) (hv : bootBuiltins x = some (.builtin id)) (ha : Pa X (e :: es) t) (hn : x ≠ "__name__" := by decide) (hdb : (x == ("__debug__" : Str)) = false := by decide)
    (he : starEach (e :: es) X.env = (false, eval e X.env) :: starEach es X.env := by rfl) (hpl : (backTo pos (starEach es X.env)).any (·.1) = false := by rfl) : Pe X (.Call (.Name x p) (e :: es) [] pos) (callB r t) := ⟨PE.imp (pe_callB hc hg hm hv ha.pa hn hdb he hpl) fun _ _ _ => callB_up⟩
theorem e_callTy {T : String} {r : List Dv → Hq → Qv → Prop} (hc : Cr X (.type T) r) (hg : Gl X x) (hm : X.mg x = none) (hv : bootBuiltins x = some (.type T)) (ha : Pa X (e :: es) t) (hn : x ≠ "__name__" := by decide) (hdb : (x == ("__debug__" : Str)) = false := by decide)
    (he : starEach (e :: es) X.env = (false, eval e X.env) :: starEach es X.env := by rfl) (hpl : (backTo pos (starEach es X.env)).any (·.1) = false := by rfl) : Pe X (.Call (.Name x p) (e :: es) [] pos) (callB r t) := ⟨PE.imp (pe_callTy hc hg hm hv ha.pa hn hdb he hpl) fun _ _ _ => callB_up⟩

/-! ### subscripts -/
def Ixr (X : Cx) (r : R2q) : Prop := IxR X (up2 (ax X) r)
theorem ix_by {r : R2q} (h : ∀ wx wy x y H G Q' Q, Rp X.K H wx x → Rp X.K H wy y → AbH (ax X) G H → r wx wy G Q' → Cn (ax X) H Q' Q → ∃ r0, IxR X r0 ∧ r0 x y H Q) : Ixr X r :=
  fun va sl pins s σ H x y v u Q I rx ry ⟨wx, wy, G, Q', px, py, g, q, k⟩ hs => by
    obtain ⟨r0, h1, h2⟩ := h wx wy x y H G Q' Q px py g q k
    exact h1 va sl pins s σ H x y v u Q I rx ry h2 hs
theorem e_ix {r : R2q} (hr : Ixr X r) (ha : Pe X a ta) (hb : Pe X b tb) (hs : PlainIx b := by exact fun _ _ => rfl) : Pe X (.Subscript a b pos) (op2 r ta tb) := ⟨PE.imp (pe_ix hr ha.pe hb.pe hs) fun _ _ _ => op2_up⟩
abbrev To := Sl → Hq → (Option Int → Hq → Prop) → Prop
def upO (B : Ax) (t : To) : TO := fun σ H Q => ∃ τ G Q', AbS B.K H τ σ ∧ AbH B G H ∧ t τ G Q' ∧ ∀ oi H1 G1, TK B.K H H1 → AbH B G1 H1 → Q' oi G1 → Q oi H1
structure Po (X : Cx) (e : Option Expr) (t : To) : Prop where po : PO X e (upO (ax X) t)
theorem PO.imp {e : Option Expr} {t u : TO} (h : PO X e t) (f : ∀ σ H Q, u σ H Q → t σ H Q) : PO X e u := ⟨fun pins s σ H Q I q => h.run pins s σ H Q I (f σ H Q q)⟩
def onone : To := fun _ G Q => Q none G
def osome (t : Te) : To := fun τ G Q => t τ G fun w G1 => match w with | .int i => Q (some i) G1 | _ => False
theorem o_none : Po X none onone := ⟨PO.imp po_none fun σ H Q ⟨τ, G, Q', s, g, h, k⟩ => k _ _ _ TK.refl g h⟩
theorem o_some (h : Pe X e te) : Po X (some e) (osome te) := ⟨PO.imp (po_some h.pe) fun σ H Q ⟨τ, G, Q', s, g, h, k⟩ =>
  ⟨τ, G, _, s, g, h, fun v H1 w G1 t1 r1 g1 h1 => by
    cases r1 with
    | int => exact ⟨_, rfl, k _ _ _ t1 g1 h1⟩
    | non => exact h1.elim
    | bl => exact h1.elim
    | str => exact h1.elim
    | ref => exact h1.elim
    | ty => exact h1.elim
    | tup _ _ => exact h1.elim⟩⟩
abbrev Rsl := Dv → Option Int → Option Int → Hq → Qv → Prop
def upSl (B : Ax) (r : Rsl) : V → Option Int → Option Int → Hp → VK → Prop := fun x lo hi H Q => ∃ w G Q', Rp B.K H w x ∧ AbH B G H ∧ r w lo hi G Q' ∧ Cn B H Q' Q
def Slr (X : Cx) (r : Rsl) : Prop := SlR X (upSl (ax X) r)
theorem sl_by {r : Rsl} (h : ∀ w x lo hi H G Q' Q, Rp X.K H w x → AbH (ax X) G H → r w lo hi G Q' → Cn (ax X) H Q' Q → ∃ r0, SlR X r0 ∧ r0 x lo hi H Q) : Slr X r := by
  intro pins s σ H x v lo hi sl vl vu Q I rx
  intro h1 h2 h3 ⟨w, G, Q', px, g, q, k⟩
  obtain ⟨r0, e1, e2⟩ := h w x _ _ H G Q' Q px g q k
  exact e1 pins s σ H x v lo hi sl vl vu Q I rx h1 h2 h3 e2
def slc (r : Rsl) (te : Te) (tl th : To) : Te := fun τ G Q => te τ G fun w G1 => tl τ G1 fun l G2 => th τ G2 fun h G3 => r w l h G3 Q
theorem e_slice {r : Rsl} {lo hi : Option Expr} {tl th : To} (hr : Slr X r) (he : Pe X e te) (hl : Po X lo tl) (hu : Po X hi th) : Pe X (.Subscript e (.Slice lo hi none p2) pos) (slc r te tl th) := ⟨PE.imp (pe_slice hr he.pe hl.po hu.po) fun σ H Q ⟨τ, G, Q', s, g, h, k⟩ =>
  ⟨τ, G, _, s, g, h, fun v H1 w G1 t1 r1 g1 h1 => ⟨τ, G1, _, s.mono t1, g1, h1, fun l H2 G2 t2 g2 h2 => ⟨τ, G2, _, s.mono (t1.trans t2), g2, h2, fun hh H3 G3 t3 g3 h3 => ⟨w, G3, Q', r1.mono (t2.trans t3), g3, h3, k.mono (t1.trans (t2.trans t3))⟩⟩⟩⟩⟩

/-! ### stores -/
abbrev Tst := Dv → Dv → Dv → Hq → (Hq → Prop) → Prop
def upSet (B : Ax) (r : Tst) : TSet := fun o i v H Q => ∃ wo wi wv G Q', Rp B.K H wo o ∧ Rp B.K H wi i ∧ Rp B.K H wv v ∧ AbH B G H ∧ r wo wi wv G Q' ∧ ∀ H1 G1, TK B.K H H1 → AbH B G1 H1 → Q' G1 → Q H1
def Pst (X : Cx) (r : Tst) : Prop := PSet X (upSet (ax X) r)
theorem st_by {r : Tst} (h : ∀ wo wi wv o i v H G Q' Q, Rp X.K H wo o → Rp X.K H wi i → Rp X.K H wv v → AbH (ax X) G H → r wo wi wv G Q' → (∀ H1 G1, TK X.K H H1 → AbH (ax X) G1 H1 → Q' G1 → Q H1) → ∃ r0, PSet X r0 ∧ r0 o i v H Q) : Pst X r :=
  fun pins s σ H o i v ov iv u Q I ro ri rv ⟨wo, wi, wv, G, Q', po, pi, pv, g, q, k⟩ => by
    obtain ⟨r0, h1, h2⟩ := h wo wi wv o i v H G Q' Q po pi pv g q k
    exact h1 pins s σ H o i v ov iv u Q I ro ri rv h2
def gsub (to ti : Te) (t : Tst) : Tg := fun w τ G Q => to τ G fun o G1 => ti τ G1 fun i G2 => t o i w G2 fun G3 => Q τ G3
theorem g_sub {r : Tst} (ho : Pe X o to) (hi : Pe X i ti) (hs : Pst X r)
    (ha : ∀ v, assign (.Subscript o i pos) X.env v = (do
      let ov ← holding [v] (eval o X.env)
      let iv ← holding [v, ov] (eval i X.env)
      standAt pos
      holding [v, ov, iv] (setItem ov iv v)
      release [v, ov, iv] []) := by intro _; rfl) : Pg X (.Subscript o i pos) (gsub to ti r) := ⟨PG.imp (pg_sub ho.pe hi.pe hs ha) fun v σ H Q ⟨w, τ, G, Q', r, s, g, h, k⟩ =>
  ⟨τ, G, _, s, g, h, fun x H1 wx G1 t1 r1 g1 h1 => ⟨τ, G1, _, s.mono t1, g1, h1, fun y H2 wy G2 t2 r2 g2 h2 => ⟨wx, wy, w, G2, _, r1.mono t2, r2, r.mono (t1.trans t2), g2, h2, fun H3 G3 t3 g3 h3 => k _ _ _ _ (t1.trans (t2.trans t3)) (s.mono (t1.trans (t2.trans t3))) g3 h3⟩⟩⟩⟩
def asg (te : Te) (g : Tg) : Ts := fun D τ G => te τ G fun w G1 => g w τ G1 D.nx
theorem asg_up {σ : L2.St} {H : Hp} {D : Ends} : upS B (asg te g) D σ H → tAsg (up B te) (upG B g) D σ H := fun ⟨τ, G, D', s, ga, h, k⟩ =>
  ⟨τ, G, _, s, ga, h, fun v H1 w G1 t1 r1 g1 h1 => ⟨w, τ, G1, D'.nx, r1, s.mono t1, g1, h1, k.nx.mono t1⟩⟩
theorem s_asg {tg : Expr} (he : Pe X e te) (hg : Pg X tg g) (hs : swapsWithSole [tg] e pos.line X.env = pure false := by rfl) (hw : swappedStores [tg] e X.env = pure none := by rfl)
    (h1 : (assignEach [tg] X.env).map (·.2) = [assign tg X.env] := by rfl) : Ps X (.Assign [tg] e pos) (asg te g) := ⟨PS.imp (ps_asg he.pe hg.pg hs hw h1) fun _ _ _ => asg_up⟩
theorem s_set {i : Nat} {pos' : Pos} (hN : X.N.Nodup) (he : Pe X e te) (hi : X.N[i]? = some x := by rfl) (hx : Loc X.env.scope x := by first | exact Or.inl rfl | exact Or.inr rfl) (hs : swapsWith e (some (.Name x pos')) pos.line X.env = pure false := by rfl) (hf : X.fn x = true ∨ X.env.scope.names.lookup x = some .local := by first | exact .inl rfl | exact .inr rfl | assumption) :
    Ps X (.Assign [.Name x pos'] e pos) (asg te (gn i)) := ⟨PS.imp (ps_set hN hi hx he.pe hs hf) fun D σ H ⟨τ, G, D', s, ga, h, k⟩ =>
  ⟨τ, G, _, s, ga, h, fun v H1 w G1 t1 r1 g1 h1 => k.nx _ _ _ _ t1 ((s.mono t1).set r1 i) g1 h1⟩⟩
/-- a, b = x, y -/
def par (i j : Nat) (t : Ta) : Ts := fun D τ G => t τ G fun ws G1 => match ws with | [v, w] => D.nx (sset (sset τ i (some v)) j (some w)) G1 | _ => False
theorem s_par {i j : Nat} {x y : Str} {px py pt : Pos} {kt k2 pt2} (hc : X.calm = true) (hN : X.N.Nodup) (hij : i ≠ j) (ha : Pa X [a, b] t)
    (hw : swappedStores [.Tuple [.Name x px, .Name y py] kt pt] (.Tuple [a, b] k2 pt2) X.env = pure (some [x, y]))
    (hi : X.N[i]? = some x := by rfl) (hj : X.N[j]? = some y := by rfl)
    (hx : X.env.scope.names.lookup x = some .local := by rfl) (hy : X.env.scope.names.lookup y = some .local := by rfl)
    (hs : swapsWithSole [.Tuple [.Name x px, .Name y py] kt pt] (.Tuple [a, b] k2 pt2) pos.line X.env = pure false := by rfl) :
    Ps X (.Assign [.Tuple [.Name x px, .Name y py] kt pt] (.Tuple [a, b] k2 pt2) pos) (par i j t) := ⟨PS.imp (ps_par hc hN hi hj hij hx hy ha.pa hw hs) fun D σ H ⟨τ, G, D', s, ga, h, k⟩ =>
  ⟨τ, G, _, s, ga, h, fun vs H1 ws G1 t1 r1 g1 h1 => by
    cases r1 with
    | nil => exact h1.elim
    | cons p q =>
      cases q with
      | nil => exact h1.elim
      | cons p' q' =>
        cases q' with
        | nil => exact ⟨_, _, rfl, k.nx _ _ _ _ t1 (((s.mono t1).set p i).set p' j) g1 h1⟩
        | cons _ _ => exact h1.elim⟩⟩
def par3 (i j l : Nat) (t : Ta) : Ts := fun D τ G => t τ G fun ws G1 => match ws with | [v, w, z] => D.nx (sset (sset (sset τ i (some v)) j (some w)) l (some z)) G1 | _ => False

/-! ### fields -/
def fld (C : Addr) (ta : Te) (f : Str) : Te := fun τ G Q => ta τ G fun w G1 => match w with
  | .ref a => ∃ fs v, G1 a = some (.ins C fs) ∧ fs.lookup f = some v ∧ Q v G1
  | _ => False
theorem e_fld {f : Str} (ha : Pe X e ta) (hC : Cls X.K C) (hn : NoAttr X.K C f) (hb : attributeBase e f X.env (eval e X.env) = eval e X.env := by rfl) : Pe X (.Attribute e f pos) (fld C ta f) := ⟨PE.imp (pe_fld ha.pe hb) fun σ H Q ⟨τ, G, Q', s, g, h, k⟩ =>
  ⟨τ, G, _, s, g, h, fun v H1 w G1 t1 r1 g1 h1 => by
    cases r1 with
    | ref =>
      obtain ⟨fs, v, h1, h2, h3⟩ := h1
      obtain ⟨dx, gs, e1, e2⟩ := g1 _ _ h1
      obtain ⟨v', e3, e4⟩ := e2.lookup h2
      exact ⟨_, C, dx, gs, v', rfl, e1, hC, hn, e3, k _ _ _ _ t1 e4 g1 h3⟩
    | int => exact h1.elim
    | non => exact h1.elim
    | bl => exact h1.elim
    | str => exact h1.elim
    | ty => exact h1.elim
    | tup _ _ => exact h1.elim⟩⟩
end
end L3
namespace L3
open PySem PySem.Spec PyProof.Rows L2
variable {B : Ax} {K : PySem.W.Frag} {H H1 H2 : Hp} {G G1 G2 : Hq}

/-! ### what is walked -/
abbrev Ti := Sl → Hq → (List Dv → (Hq → Prop) → Hq → Prop) → Prop
/-- from H1 on, while Sg holds of the view, J hands out ws one by one -/
structure ItR (B : Ax) (H1 : Hp) (J : It) (ws : List Dv) (Sg : Hq → Prop) : Prop where
  go : ∀ i H G, TK B.K H1 H → AbH B G H → Sg G → i < ws.length → J.go i H
  yl : ∀ i H G x H', TK B.K H1 H → AbH B G H → Sg G → i < ws.length → J.yld i H x H' → ∃ w, ws[i]? = some w ∧ TK B.K H H' ∧ Rp B.K H' w x ∧ ∀ G', AbH B G' H → AbH B G' H'
  st : ∀ H G, TK B.K H1 H → AbH B G H → Sg G → J.stop ws.length H
def upI (B : Ax) (wi : Ti) : TI := fun σ H R => ∃ τ G R', AbS B.K H τ σ ∧ AbH B G H ∧ wi τ G R' ∧ ∀ J H1 ws Sg G1, TK B.K H H1 → AbH B G1 H1 → ItR B H1 J ws Sg → R' ws Sg G1 → R J H1
structure Pi (X : Cx) (tg iter : Expr) (wi : Ti) : Prop where pi : PI X tg iter (upI (ax X) wi)
theorem PI.imp {X : Cx} {tg e : Expr} {t u : TI} (h : PI X tg e t) (f : ∀ σ H Q, u σ H Q → t σ H Q) : PI X tg e u := ⟨fun pins s σ H Q I q => h.run pins s σ H Q I (f σ H Q q)⟩
abbrev St0 : Hq → Prop := fun _ => True
/-- of a walk over what stands in a tuple -/
theorem itr_tup {a : Addr} {vs : List V} {ws : List Dv} (h : SqT B.K H1 a vs) (r : Rps B.K H1 ws vs) : ItR B H1 (Itt B.K a) ws St0 where
  go := fun i H G t g _ hi => by
    have e := r.length
    exact ⟨vs, vs[i]'(by omega), t.tu _ _ h, by simp⟩
  yl := fun i H G x H' t g _ hi ⟨e, y⟩ => by
    subst e
    obtain ⟨w, e1, e2⟩ := (r.mono t).get' (y _ (t.tu _ _ h))
    exact ⟨w, e1, TK.refl, e2, fun _ g => g⟩
  st := fun H G t g _ => ⟨vs, t.tu _ _ h, by rw [r.length]; exact Nat.le_refl _⟩
theorem itr_lst {a : Addr} {ws : List Dv} : ItR B H1 (Itl B.K a) ws (fun G => G a = some (.lst ws)) where
  go := fun i H G t g s hi => by
    obtain ⟨vs, e, r⟩ := g _ _ s
    have el := r.length
    exact ⟨vs, vs[i]'(by omega), SqL.of e, by simp⟩
  yl := fun i H G x H' t g s hi ⟨e, y⟩ => by
    subst e
    obtain ⟨vs, e, r⟩ := g _ _ s
    obtain ⟨w, e1, e2⟩ := r.get' (y _ (SqL.of e))
    exact ⟨w, e1, TK.refl, e2, fun _ g => g⟩
  st := fun H G t g s => by
    obtain ⟨vs, e, r⟩ := g _ _ s
    exact ⟨vs, SqL.of e, by rw [r.length]; exact Nat.le_refl _⟩
theorem itr_rol {a : Addr} {ws : List Dv} : ItR B H1 (Itl B.K a) ws (fun G => G a = some (.rol ws)) where
  go := fun i H G t g s hi => by
    obtain ⟨o, vs, e, r⟩ := g _ _ s
    have el := r.length
    exact ⟨vs, vs[i]'(by omega), .inl (.inr ⟨o, e⟩), by simp⟩
  yl := fun i H G x H' t g s hi ⟨e, y⟩ => by
    subst e
    obtain ⟨o, vs, e, r⟩ := g _ _ s
    obtain ⟨w, e1, e2⟩ := r.get' (y _ (.inl (.inr ⟨o, e⟩)))
    exact ⟨w, e1, TK.refl, e2, fun _ g => g⟩
  st := fun H G t g s => by
    obtain ⟨o, vs, e, r⟩ := g _ _ s
    exact ⟨vs, .inl (.inr ⟨o, e⟩), by rw [r.length]; exact Nat.le_refl _⟩
def rng (lo : Int) (n : Nat) : List Dv := (List.range n).map fun i => .int (lo + (i : Nat))
theorem rng_length {lo : Int} {n : Nat} : (rng lo n).length = n := by simp [rng]
theorem rng_get {lo : Int} {n i : Nat} (h : i < n) : (rng lo n)[i]? = some (.int (lo + i)) := by simp [rng, h]
theorem itr_rng {lo : Int} {n : Nat} : ItR B H1 (Itr lo n) (rng lo n) St0 where
  go := fun i H G t g _ hi => by rw [rng_length] at hi; exact hi
  yl := fun i H G x H' t g _ hi ⟨e, y⟩ => by
    subst e; subst y
    rw [rng_length] at hi
    exact ⟨_, rng_get hi, TK.refl, .int, fun _ g => g⟩
  st := fun H G t g _ => by rw [rng_length]; exact Nat.le_refl _

/-- a list or a tuple -/
def wseq (te : Te) : Ti := fun τ G R => te τ G fun w G1 => match w with
  | .tup ws => R ws St0 G1
  | .ref a => ∃ ws, (G1 a = some (.lst ws) ∧ R ws (fun G => G a = some (.lst ws)) G1) ∨ (G1 a = some (.rol ws) ∧ R ws (fun G => G a = some (.rol ws)) G1)
  | _ => False


/-! ### enumerate of a list or a tuple -/
theorem meets_enumerate_new1 {v : Value} {o : Obj} {H : Heap → Prop} (B : Begins v o H) :
    Meets (Builtin.«enumerate.__new__» ⟨[.type "enumerate", v], []⟩) (fun _ R s => H s.heap ∧
      R (.ok (.ret (.ref (s.heap.push o).objs.size))) { s with heap := (s.heap.push o).push { cls := .type "enumerate", data := .fields #[.none, .bool false, .ref s.heap.objs.size, rawInt 0, .none, .none] } }) :=
  .of_wp fun prog w A R s h => by
    obtain ⟨hp, g, d, tk, os⟩ := s; obtain ⟨h1, h⟩ := h
    have hsub := sub_enumerate
    have q1 : ∀ {A' : Around} {E : Value → Shared → Prop} {Q : Value → Shared → Prop}, Q (.ref hp.objs.size) ⟨hp.push o, g, d, tk, os⟩ → wpAny (model prog w) A' (pyIter v) Q E ⟨hp, g, d, tk, os⟩ :=
      fun q => B.iter prog w _ _ ⟨hp, g, d, tk, os⟩ _ h1 q
    wp_walk using q1
    refine wpAny_stack_any fun st => wpAny_pure ?_
    split
    · rename_i c _ _ _ _ _
      cases (c == Value.type "enumerate")
      · wp_walk using q1
        exact ⟨_, rfl, h⟩
      · wp_walk using q1
        exact ⟨_, rfl, h⟩
    · wp_walk using q1
      exact ⟨_, rfl, h⟩
theorem enum_begins1 {prog : Program} {w : World} {A : Around} {E : Value → Shared → Prop} {s : Shared} {v : Value} {o : Obj} {H : Heap → Prop} {Q : Value → Shared → Prop} (B : Begins v o H) (h1 : H s.heap)
    (h : ∀ h', IsEnum h' (s.heap.objs.size + 1) s.heap.objs.size 0 .none → h'.get? s.heap.objs.size = some o → h'.objs.size = s.heap.objs.size + 2 →
      (∀ b o, s.heap.get? b = some o → h'.get? b = some o) → Q (.ref (s.heap.objs.size + 1)) { s with heap := h' }) :
    wpAny (model prog w) A (PySem.call (.type "enumerate") [v]) Q E s := by
  refine callType_new F.called_enumerate (by decide) (F.typeCall_enumerate_1 _) (F.newCall_enumerate_1 _) (fun obj => F.args_object_init_2 obj _) F.entry_enumerate_new
    (meets_enumerate_new1 B) ⟨h1, ?_⟩
  have hz : (s.heap.push o).objs.size = s.heap.objs.size + 1 := Heap.size_push ..
  show _ ∧ _
  rw [hz]
  have he : IsEnum ((s.heap.push o).push { cls := .type "enumerate", data := .fields #[.none, .bool false, .ref s.heap.objs.size, rawInt 0, .none, .none] }) (s.heap.objs.size + 1) s.heap.objs.size 0 .none := by
    have := Heap.get?_push_size (s.heap.push o) (o := { cls := .type "enumerate", data := .fields #[.none, .bool false, .ref s.heap.objs.size, rawInt 0, .none, .none] }) rfl
    rw [hz] at this; exact this
  refine ⟨⟨_, he, rfl⟩, h _ he (Heap.get?_push_of_some _ (Heap.get?_push_size _ B.free)) (by rw [Heap.size_push, hz]) fun b o x => Heap.get?_push_of_some _ (Heap.get?_push_of_some _ x)⟩
/-- the tuple at a, each item in a new pair with its place -/
def IteT (K : PySem.W.Frag) (a : Addr) : It :=
  ⟨fun i H => ∃ (xs : List V) (x : V), SqT K H a xs ∧ xs[i]? = some x, fun i H v H' => ∃ T x, v = .ref T ∧ H T = none ∧ H' = upd H T (.tup [.int (i : Nat), x]) ∧ ∀ xs, SqT K H a xs → xs[i]? = some x, fun i H => ∃ xs : List V, SqT K H a xs ∧ xs.length = i⟩
theorem turn_enumT {P : Program} {w : World} {K : PySem.W.Frag} {elts : List Expr} {kk : Nat} {tpos : Pos} (a e it : Addr) (hae : a ≠ e) (hai : a ≠ it) :
    Turn P w K (.Tuple elts kk tpos) (IteT K a) [e, it] e (fun i h => (∃ old, IsEnum h e it ((i : Nat) : Int) old) ∧ h.IsTupleIter it a i ∧ e ≠ it) where
  mem := by simp
  obj := fun i h st b hb => by
    obtain ⟨⟨old, he⟩, ⟨o, ho, hc, hd⟩, _⟩ := st
    have e' : b = e ∨ b = it := by simpa using hb
    rcases e' with z | z
    · rw [z]; exact ⟨_, he, fun v q => nomatch q⟩
    · rw [z]; exact ⟨o, ho, fun v q => by rw [hd] at q; cases q⟩
  keep := fun i h h' st k => let ⟨⟨old, he⟩, hi, hne⟩ := st; ⟨⟨old, k e (by simp) _ he⟩, hi.at fun o q => k it (by simp) o q, hne⟩
  item := by
    intro X hP hw hK hc i pins s σ H E I hf st hg
    subst hP hw hK
    obtain ⟨⟨old, he⟩, hit, hne⟩ := st
    obtain ⟨xs, x, hq, hx⟩ := hg
    obtain ⟨its, rv, p, hz⟩ := I.tuple hq
    obtain ⟨u, hu, ru⟩ := rv.get hx
    have hel : e < s.heap.objs.size := Heap.lt_size he
    have hil : it < s.heap.objs.size := by obtain ⟨_, q, _⟩ := hit; exact Heap.lt_size q
    have D := Draws.tuple (prog := X.prog) (w := X.w) (A := X.A.in1) (I.ok.hd hc) it a hai its.toArray
    have hlt : i < its.toArray.size := by
      have := (List.getElem?_eq_some_iff.mp hu).1
      simpa using this
    refine wpAny_pyNext_enum_itemD D he ⟨hit, show s.heap.IsTuple a its.toArray from p⟩ hlt hne (by simp [hne, Ne.symm hae]) fun y h' tk hy ho hit' hT hsz hk => ?_
    have ey : y = u := by
      have : its.toArray[i]? = some u := by simpa using hu
      rw [this] at hy
      exact (Option.some.inj hy).symm
    subst ey
    refine ⟨_, rfl, wpAny_letOwnedTupleGo_enum (s := { s with heap := h', toks := tk + 1 }) ho fun h'' he' sb => ?_⟩
    have hT2 : h''.get? s.heap.objs.size = some { cls := .type "tuple", data := .seq #[.int i tk, y] } := (sb.2 _ (Nat.ne_of_gt hel)).trans hT
    have new : ObjOk X.prog X.w (upd H s.heap.objs.size (.tup [.int (i : Nat), x])) h'' s.heap.objs.size (.tup [.int (i : Nat), x]) :=
      ⟨by show 2 ≤ sizeLine; decide, [.int i tk, y], .cons ⟨_, rfl⟩ (.cons ru .nil), ⟨_, hT2, rfl, _, rfl⟩⟩
    have I1 : Inv X pins σ (upd H s.heap.objs.size (.tup [.int (i : Nat), x])) { s with heap := h'', toks := tk + 1 } :=
      I.turnedNew (ch := [e, it]) (fun b ob hb q => (sb.2 b (fun z => hb (by simp [z]))).trans (hk b ob (fun z => hb (by simp [z])) (fun z => hb (by simp [z])) q)) hf (Nat.le_refl _) new
    refine ⟨.ref s.heap.objs.size, _, I1, rfl, ⟨_, x, rfl, I.hok.fresh (Nat.le_refl _), rfl, fun ys hy => by rw [I.tuple_inj hy hq]; exact hx⟩, ⟨⟨y, ?_⟩, hit'.1.at fun o q => (sb.2 it (Ne.symm hne)).trans q, hne⟩, fun b hb => ?_⟩
    · have e1 : ((i + 1 : Nat) : Int) = (i : Int) + 1 := by omega
      rw [e1]; exact he'
    · have hb' : b < s.heap.objs.size := by
        have e' : b = e ∨ b = it := by simpa using hb
        rcases e' with z | z
        · rw [z]; exact hel
        · rw [z]; exact hil
      rw [upd_ne (Nat.ne_of_lt hb')]
      exact (hf b hb).1
  done := by
    intro X hP hw hK hc i pins s σ H E I hf st hg
    subst hP hw hK
    obtain ⟨⟨old, he⟩, hit, hne⟩ := st
    obtain ⟨xs, hq, hx⟩ := hg
    obtain ⟨its, rv, p, hz⟩ := I.tuple hq
    obtain ⟨f0, f1, f2, f3, f4, f5⟩ := hf it (by simp)
    have hl := rv.length
    have D := Draws.tuple (prog := X.prog) (w := X.w) (A := X.A.in1) (I.ok.hd hc) it a hai its.toArray
    have es : its.toArray.size = i := by simp; omega
    exact wpAny_pyNext_enum_endD D he ⟨by rw [es]; exact hit, show s.heap.IsTuple a its.toArray from p⟩ fun h' eb => ⟨rfl, I.turned (t' := s.toks) (fun b o hb q => eb b o hb q) f0 f1 f3 f4 f5⟩
  self := fun A i s Q E st h => let ⟨⟨_, he⟩, _⟩ := st; wpAny_pyIter_enum he h
section
variable {X : Cx} {tg e iter a b : Expr} {es : List Expr} {te ta tb : Te} {t : Ta} {pos p tpos : Pos} {wi : Ti} {g : Tg} {c : Tt} {sb s1 : Ts} {st : Stmt} {body : List Stmt} {x : Str}
/-- a rule for each form of what a value may be -/
def iSq (K : PySem.W.Frag) (tl : TE) : TI := fun σ H R => tl σ H fun x H1 => ∃ a, x = .ref a ∧ (((∃ xs, SqL K H1 a xs) ∧ R (Itl K a) H1) ∨ ((∃ xs, SqT K H1 a xs) ∧ R (Itt K a) H1))
theorem pi_sq {l : Expr} {tl : TE} (hl : PE X l tl) : PI X tg l (iSq X.K tl) := ⟨fun pins s σ H R I h => by
  refine thn (hl.run pins s σ H _ I h) fun v s1 ⟨x, H1, I1, r1, a, e1, q⟩ => ?_
  subst e1
  cases r1
  have hf : ∀ b ∈ [s1.heap.objs.size], FpOk X pins H1 b := fun b hb => by
    have e : b = s1.heap.objs.size := by simpa using hb
    subst e
    exact I1.fpOk (Nat.le_refl _) (I1.hok.fresh (Nat.le_refl _))
  rcases q with ⟨⟨xs, hq⟩, q⟩ | ⟨⟨xs, hq⟩, q⟩
  · obtain ⟨its, rv, p, hz⟩ := I1.list hq
    refine wpAny_pyIter_list p.isList ?_
    exact ⟨s1.heap.objs.size, [s1.heap.objs.size], _, _, H1, rfl, I1.kept (t' := s1.toks) fun b o e => Heap.get?_push_of_some _ e, turn_list a _, ⟨_, Heap.get?_push_size _ rfl, rfl, rfl⟩, hf, q⟩
  · obtain ⟨its, rv, p, hz⟩ := I1.tuple hq
    refine wpAny_pyIter_tuple (show s1.heap.IsTuple a its.toArray from p) ?_
    exact ⟨s1.heap.objs.size, [s1.heap.objs.size], _, _, H1, rfl, I1.kept (t' := s1.toks) fun b o e => Heap.get?_push_of_some _ e, turn_tuple a _, ⟨_, Heap.get?_push_size _ rfl, rfl, rfl⟩, hf, q⟩⟩
theorem i_seq (he : Pe X e te) : Pi X tg e (wseq te) := ⟨PI.imp (pi_sq he.pe) fun σ H R ⟨τ, G, R', s, g, h, k⟩ =>
  ⟨τ, G, _, s, g, h, fun v H1 w G1 t1 r1 g1 h1 => by
    cases r1 with
    | tup hq r => exact ⟨_, rfl, .inr ⟨⟨_, hq⟩, k _ _ _ _ _ t1 g1 (itr_tup hq r) h1⟩⟩
    | ref =>
      obtain ⟨ws, ⟨h1, h2⟩ | ⟨h1, h2⟩⟩ := h1
      · obtain ⟨vs, e, r⟩ := g1 _ _ h1
        exact ⟨_, rfl, .inl ⟨⟨_, SqL.of e⟩, k _ _ _ _ _ t1 g1 itr_lst h2⟩⟩
      · obtain ⟨o, vs, e, r⟩ := g1 _ _ h1
        exact ⟨_, rfl, .inl ⟨⟨_, .inl (.inr ⟨o, e⟩)⟩, k _ _ _ _ _ t1 g1 itr_rol h2⟩⟩
    | int => exact h1.elim
    | non => exact h1.elim
    | bl => exact h1.elim
    | str => exact h1.elim
    | ty => exact h1.elim⟩⟩
/-- range(n), range(m, n) -/
def wr1 (t : Ta) : Ti := fun τ G R => t τ G fun ws G1 => match ws with | [.int j] => (-(2 ^ 62) ≤ j ∧ j < 2 ^ 62) ∧ R (rng 0 j.toNat) St0 G1 | _ => False
def wr2 (t : Ta) : Ti := fun τ G R => t τ G fun ws G1 => match ws with | [.int i, .int j] => (-(2 ^ 62) ≤ i ∧ i < 2 ^ 62 ∧ -(2 ^ 62) ≤ j ∧ j < 2 ^ 62) ∧ R (rng i (j - i).toNat) St0 G1 | _ => False
theorem i_range1 (hg : Gl X "range") (hm : X.mg "range" = none) (ha : Pa X [a] t) (hs : starEach [a] X.env = [(false, eval a X.env)] := by rfl) : Pi X tg (.Call (.Name "range" p) [a] [] pos) (wr1 t) := ⟨PI.imp (pi_range1 hg hm ha.pa hs) fun σ H R ⟨τ, G, R', s, g, h, k⟩ =>
  ⟨τ, G, _, s, g, h, fun vs H1 ws G1 t1 r1 g1 h1 => by
    match ws, h1, r1 with
    | [.int j], h1, .cons .int .nil => exact ⟨j, rfl, h1.1.1, h1.1.2, k _ _ _ _ _ t1 g1 itr_rng h1.2⟩⟩⟩
theorem i_range2 (hg : Gl X "range") (hm : X.mg "range" = none) (ha : Pa X [a, b] t) (hs : starEach [a, b] X.env = [(false, eval a X.env), (false, eval b X.env)] := by rfl) (hs2 : starEach [b] X.env = [(false, eval b X.env)] := by rfl) : Pi X tg (.Call (.Name "range" p) [a, b] [] pos) (wr2 t) := ⟨PI.imp (pi_range2 hg hm ha.pa hs hs2) fun σ H R ⟨τ, G, R', s, g, h, k⟩ =>
  ⟨τ, G, _, s, g, h, fun vs H1 ws G1 t1 r1 g1 h1 => by
    match ws, h1, r1 with
    | [.int i, .int j], h1, .cons .int (.cons .int .nil) => exact ⟨i, j, rfl, h1.1, k _ _ _ _ _ t1 g1 itr_rng h1.2⟩⟩⟩
/-- enumerate(tuple) -/
def iEnumT (K : PySem.W.Frag) (ta : TA) : TI := fun σ H R => ta σ H fun vs H1 => ∃ a xs, vs = [.ref a] ∧ SqT K H1 a xs ∧ R (IteT K a) H1
theorem pi_enumT {ta : TA} {elts : List Expr} {kk : Nat} (hg : Gl X "enumerate") (hm : X.mg "enumerate" = none) (ha : PA X [e] ta) (hs : starEach [e] X.env = [(false, eval e X.env)] := by rfl) :
    PI X (.Tuple elts kk tpos) (.Call (.Name "enumerate" p) [e] [] pos) (iEnumT X.K ta) := by
  refine ⟨fun pins s σ H R I h => ?_⟩
  refine Call_ (ld_blt I hg hm boot_enumerate (PyProof.Rows.callWith_type1 (thn (ha.run pos pins s σ H _ I h) fun us s1 ⟨vs, H1, I1, r1, q1⟩ => ?_) hs rfl))
  obtain ⟨a, xs, ex, hq, q⟩ := q1
  subst ex
  cases r1 with
  | cons r rr =>
    cases rr
    cases r
    obtain ⟨its, rv, p', hz⟩ := I1.tuple hq
    have hla : a < s1.heap.objs.size := p'.lt
    refine enum_begins1 (begins_tuple a its.toArray) (show s1.heap.IsTuple a its.toArray from p') fun h' he hit hsz hk => wpAny_pyIter_enum he ?_
    have I2 : Inv X pins σ H1 { s1 with heap := h' } := I1.kept (t' := s1.toks) hk
    refine ⟨s1.heap.objs.size + 1, [s1.heap.objs.size + 1, s1.heap.objs.size], _, _, H1, rfl, I2, turn_enumT a (s1.heap.objs.size + 1) s1.heap.objs.size (Nat.ne_of_lt (Nat.lt_succ_of_lt hla)) (Nat.ne_of_lt hla), ⟨⟨.none, he⟩, ⟨_, hit, rfl, rfl⟩, Nat.succ_ne_self _⟩, fun b hb => ?_, q⟩
    have e' : b = s1.heap.objs.size + 1 ∨ b = s1.heap.objs.size := by simpa using hb
    have hle : s1.heap.objs.size ≤ b := by
      rcases e' with z | z
      · rw [z]; exact Nat.le_add_right _ _
      · rw [z]; exact Nat.le_refl _
    exact I1.fpOk hle (I1.hok.fresh hle)
def enm (ws : List Dv) : List Dv := (List.range ws.length).map fun i => .tup [.int (i : Nat), ws.getD i .non]
theorem enm_length {ws : List Dv} : (enm ws).length = ws.length := by simp [enm]
theorem enm_get {ws : List Dv} {i : Nat} {w : Dv} (h : ws[i]? = some w) : (enm ws)[i]? = some (.tup [.int (i : Nat), w]) := by
  obtain ⟨hl, e⟩ := List.getElem?_eq_some_iff.mp h
  simp [enm, hl, e]
theorem itr_enumT {a : Addr} {vs : List V} {ws : List Dv} (h : SqT B.K H1 a vs) (r : Rps B.K H1 ws vs) : ItR B H1 (IteT B.K a) (enm ws) St0 where
  go := fun i H G t g _ hi => by
    have e := r.length
    rw [enm_length] at hi
    exact ⟨vs, vs[i]'(by omega), t.tu _ _ h, by simp⟩
  yl := fun i H G x H' t g _ hi ⟨T, y, e1, n, e2, z⟩ => by
    subst e1; subst e2
    obtain ⟨w, e3, e4⟩ := (r.mono t).get' (z _ (t.tu _ _ h))
    exact ⟨_, enm_get e3, TK.laid n, .tup (SqT.of upd_same) (.cons .int (.cons (e4.mono (TK.laid n)) .nil)), fun _ g => g.laid n⟩
  st := fun H G t g _ => ⟨vs, t.tu _ _ h, by rw [enm_length, r.length]⟩
def wen (t : Ta) : Ti := fun τ G R => t τ G fun ws G1 => match ws with | [.tup us] => R (enm us) St0 G1 | _ => False
theorem i_enum {elts : List Expr} {kk : Nat} (hg : Gl X "enumerate") (hm : X.mg "enumerate" = none) (ha : Pa X [e] t) (hs : starEach [e] X.env = [(false, eval e X.env)] := by rfl) :
    Pi X (.Tuple elts kk tpos) (.Call (.Name "enumerate" p) [e] [] pos) (wen t) := ⟨PI.imp (pi_enumT hg hm ha.pa hs) fun σ H R ⟨τ, G, R', s, g, h, k⟩ =>
  ⟨τ, G, _, s, g, h, fun vs H1 ws G1 t1 r1 g1 h1 => by
    match ws, h1, r1 with
    | [.tup us], h1, .cons (.tup hq r) .nil => exact ⟨_, _, rfl, hq, k _ _ _ _ _ t1 g1 (itr_enumT hq r) h1⟩⟩⟩

/-! ### loops -/
structure Wk (P : Sl → Hq → Prop) (τ : Sl) (G : Hq) : Prop where
  in_ ::
  ex : ∃ τ' G', LeS τ' τ ∧ Le G' G ∧ P τ' G'
theorem Wk.mk {P : Sl → Hq → Prop} {τ : Sl} {G : Hq} (h : P τ G) : Wk P τ G := ⟨τ, G, LeS.refl, Le.refl, h⟩
def ReW (B : Ax) (H1 : Hp) (P : Sl → Hq → Prop) : L2.St → Hp → Prop := fun σ H => TK B.K H1 H ∧ ∃ τ G, AbS B.K H τ σ ∧ AbH B G H ∧ P τ G
theorem ReW.wk {H0 : Hp} {P : Sl → Hq → Prop} {σ : L2.St} {H : Hp} (h : ReW B H0 (Wk P) σ H) : ReW B H0 P σ H := by
  obtain ⟨t, τ, G, s, g, τ', G', l, l', q⟩ := h
  exact ⟨t, τ', G', s.le l, g.le l', q⟩
def forL (ws : List Dv) (Sg : Hq → Prop) (g : Tg) (tb : Ts) : Ts := fun D τ G => ∃ Pv : Nat → Sl → Hq → Prop, Wk (Pv 0) τ G ∧ (∀ i τ G, i ≤ ws.length → Pv i τ G → Sg G) ∧
  (∀ i w τ G, ws[i]? = some w → Pv i τ G → g w τ G fun τ2 G2 => tb { D with nx := Wk (Pv (i + 1)), ct := Wk (Pv (i + 1)), bk := D.nx } τ2 G2) ∧ ∀ τ G, Pv ws.length τ G → D.nx τ G
def fo (wi : Ti) (g : Tg) (tb : Ts) : Ts := fun D τ G => wi τ G fun ws Sg G1 => forL ws Sg g tb D τ G1
theorem s_for (hp : PassesOwn (model X.prog X.w) X.A X.env X.xe) (hc : X.calm = true) (hi : Pi X tg iter wi) (hg : Pg X tg g) (hb : Pss X body sb)
    (hs : ∀ x, foldedSetIterable iter X.env x = pure x := by intro _; rfl) : Ps X (.For tg iter body [] pos) (fo wi g sb) := ⟨PS.imp (ps_for hp hc hi.pi hg.pg hb.pss hs) fun D σ H ⟨τ, G, D', s, ga, h, k⟩ => by
  refine ⟨τ, G, _, s, ga, h, fun J H1 ws Sg G1 t1 g1 it h1 => ?_⟩
  obtain ⟨Pv, h0, hS, hT, hE⟩ := h1
  refine ⟨fun i m σ H => m = ws.length - i ∧ i ≤ ws.length ∧ ReW (ax X) H1 (Pv i) σ H, ⟨_, rfl, Nat.zero_le _, ReW.wk ⟨TK.refl, τ, G1, s.mono t1, g1, h0⟩⟩, ?_⟩
  rintro i m σ2 H2 ⟨rfl, hi, t2, τ2, G2, s2, g2, p2⟩
  have sg := hS i τ2 G2 hi p2
  by_cases hlt : i < ws.length
  · refine .inr ⟨it.go i H2 G2 t2 g2 sg hlt, ReW (ax X) H1 (Pv (i + 1)), fun σ' H' r => ⟨ws.length - (i + 1), by omega, rfl, hlt, r⟩, fun x H3 y => ?_⟩
    obtain ⟨w, ew, t3, r3, g3⟩ := it.yl i H2 G2 x H3 t2 g2 sg hlt y
    refine ⟨w, τ2, G2, _, r3, s2.mono t3, g3 _ g2, hT i w τ2 G2 ew p2, fun σ4 H4 τ4 G4 t4 s4 g4 q4 => ?_⟩
    have tt : TK X.K H1 H4 := t2.trans (t3.trans t4)
    refine ⟨τ4, G4, _, s4, g4, q4, ⟨fun σ5 H5 τ5 G5 t5 s5 g5 q5 => ReW.wk ⟨tt.trans t5, τ5, G5, s5, g5, q5⟩, k.rt.mono (t1.trans tt), k.nx.mono (t1.trans tt), fun σ5 H5 τ5 G5 t5 s5 g5 q5 => ReW.wk ⟨tt.trans t5, τ5, G5, s5, g5, q5⟩⟩⟩
  · have e : i = ws.length := by omega
    subst e
    exact .inl ⟨it.st H2 G2 t2 g2 sg, k.nx _ _ _ _ (t1.trans t2) s2 g2 (hE τ2 G2 p2)⟩⟩
def wh (c : Tt) (tb : Ts) : Ts := fun D τ G => ∃ W : Nat → Sl → Hq → Prop, (∃ m, Wk (W m) τ G) ∧ ∀ m τ G, W m τ G →
  c τ G fun b G1 => match b with | true => tb { D with nx := fun τ' G' => ∃ m', m' < m ∧ Wk (W m') τ' G', ct := fun τ' G' => ∃ m', m' < m ∧ Wk (W m') τ' G', bk := D.nx } τ G1 | false => D.nx τ G1
theorem s_while {ce : Expr} (hp : PassesOwn (model X.prog X.w) X.A X.env X.xe) (hc : Pt X ce c) (hb : Pss X body sb) : Ps X (.While ce body [] pos) (wh c sb) := ⟨PS.imp (ps_while hp hc.pt hb.pss) fun D σ H ⟨τ, G, D', s, ga, h, k⟩ => by
  obtain ⟨W, ⟨m0, h0⟩, hT⟩ := h
  refine ⟨fun m σ H' => ReW (ax X) H (W m) σ H', ⟨m0, ReW.wk ⟨TK.refl, τ, G, s, ga, h0⟩⟩, ?_⟩
  rintro m σ2 H2 ⟨t2, τ2, G2, s2, g2, p2⟩
  refine ⟨τ2, G2, _, s2, g2, hT m τ2 G2 p2, fun b H3 G3 t3 g3 q3 => ?_⟩
  cases b with
  | true =>
    rw [if_pos rfl]
    refine ⟨fun σ' H' => ∃ m', m' < m ∧ ReW (ax X) H (W m') σ' H', fun σ' H' q => q, ?_⟩
    have tt : TK X.K H H3 := t2.trans t3
    refine ⟨τ2, G3, _, s2.mono t3, g3, q3, ⟨fun σ5 H5 τ5 G5 t5 s5 g5 ⟨m', hm, q5⟩ => ⟨m', hm, ReW.wk ⟨tt.trans t5, τ5, G5, s5, g5, q5⟩⟩, k.rt.mono tt, k.nx.mono tt, fun σ5 H5 τ5 G5 t5 s5 g5 ⟨m', hm, q5⟩ => ⟨m', hm, ReW.wk ⟨tt.trans t5, τ5, G5, s5, g5, q5⟩⟩⟩⟩
  | false =>
    rw [if_neg Bool.false_ne_true]
    exact k.nx _ _ _ _ (t2.trans t3) (s2.mono t3) g3 q3⟩

/-! ### comprehensions -/
def wip (τ : Sl) : List Nat → Sl
  | [] => τ
  | v :: vs => sset (wip τ vs) v none
theorem AbS.wipe {τ : Sl} {σ : L2.St} (s : AbS K H τ σ) : ∀ vs : List Nat, AbS K H (wip τ vs) (wipe σ vs)
  | [] => s
  | v :: vs => (AbS.wipe s vs).setN v
theorem wipe_get {σ : L2.St} {i : Nat} : ∀ {vs : List Nat}, i ∉ vs → (wipe σ vs)[i]? = σ[i]?
  | [], _ => rfl
  | v :: vs, h => by
    unfold wipe
    rw [List.getElem?_set_ne (fun e => h (by simp [e]))]
    exact wipe_get fun e => h (by simp [e])
theorem wipe_at {σ : L2.St} {i : Nat} (hl : i < σ.length) : ∀ {vs : List Nat}, i ∈ vs → (wipe σ vs)[i]? = some none
  | v :: vs, h => by
    unfold wipe
    by_cases e : v = i
    · subst e; rw [List.getElem?_set_self (by rw [wipe_length]; exact hl)]
    · rw [List.getElem?_set_ne e]
      rcases List.mem_cons.mp h with z | z
      · exact absurd z.symm e
      · exact wipe_at hl z
theorem wipe_eq {σ σ' : L2.St} {vs : List Nat} (hl : σ.length = σ'.length) (h : ∀ i, i ∉ vs → σ[i]? = σ'[i]?) : wipe σ vs = wipe σ' vs := by
  refine List.ext_getElem? fun i => ?_
  by_cases hi : i ∈ vs
  · by_cases hb : i < σ.length
    · rw [wipe_at hb hi, wipe_at (by omega) hi]
    · rw [List.getElem?_eq_none (by rw [wipe_length]; omega), List.getElem?_eq_none (by rw [wipe_length]; omega)]
  · rw [wipe_get hi, wipe_get hi]; exact h i hi
mutual
inductive Nm where
  | one (i : Nat) | many (l : Nms)
inductive Nms where
  | nil | cons (m : Nm) (l : Nms)
end
mutual
def slots : Nm → List Nat
  | .one i => [i]
  | .many l => slotsS l
def slotsS : Nms → List Nat
  | .nil => []
  | .cons m l => slots m ++ slotsS l
end
def Nms.len : Nms → Nat
  | .nil => 0
  | .cons _ l => l.len + 1
mutual
def bnd (m : Nm) (w : Dv) (τ : Sl) (Q : Sl → Prop) : Prop := match m, w with
  | .one i, w => Q (sset τ i (some w))
  | .many l, .tup ws => (match decide (ws.length = l.len) with | true => bnds l ws τ Q | false => False)
  | .many _, _ => False
def bnds (l : Nms) (ws : List Dv) (τ : Sl) (Q : Sl → Prop) : Prop := match l, ws with
  | .nil, [] => Q τ
  | .cons m l, w :: ws => bnd m w τ fun τ2 => bnds l ws τ2 Q
  | _, _ => False
end
mutual
def gB (K : PySem.W.Frag) : Nm → TG
  | .one i => gName i
  | .many l => gTup K l.len (gBs K l)
def gBs (K : PySem.W.Frag) : Nms → TGs
  | .nil => gNil
  | .cons m l => gCons (gB K m) (gBs K l)
end
mutual
theorem gB_ok {vs : List Nat} {H : Hp} {σ0 : L2.St} : ∀ (m : Nm) (hm : ∀ i ∈ slots m, i ∈ vs) {w : Dv} {v : V} {τ : Sl} {σ : L2.St} {Q' : Sl → Prop} {Q : L2.St → Hp → Prop}, Rp K H w v → AbS K H τ σ → wipe σ vs = wipe σ0 vs → bnd m w τ Q' →
    (∀ τ' σ', AbS K H τ' σ' → wipe σ' vs = wipe σ0 vs → Q' τ' → Q σ' H) → gB K m v σ H Q
  | .one i, hm, w, v, τ, σ, Q', Q, r, s, ew, h, k => by
    have hi : i ∈ vs := hm i (by simp [slots])
    refine k _ _ (s.set r i) ?_ (by unfold bnd at h; exact h)
    rw [← ew]
    exact wipe_eq (by simp) fun j hj => by rw [List.getElem?_set_ne]; rintro rfl; exact hj hi
  | .many l, hm, w, v, τ, σ, Q', Q, r, s, ew, h, k => by
    cases r with
    | @tup us a xs hq rr =>
      unfold bnd at h
      cases ed : decide (us.length = l.len) with
      | false => rw [ed] at h; exact h.elim
      | true =>
        rw [ed] at h
        unfold gB
        exact ⟨a, xs, rfl, hq, by rw [← rr.length]; exact of_decide_eq_true ed, gBs_ok l (fun i hi => hm i (by unfold slots; exact hi)) rr s ew h k⟩
    | _ => unfold bnd at h; exact h.elim
theorem gBs_ok {vs : List Nat} {H : Hp} {σ0 : L2.St} : ∀ (l : Nms) (hm : ∀ i ∈ slotsS l, i ∈ vs) {ws : List Dv} {xs : List V} {τ : Sl} {σ : L2.St} {Q' : Sl → Prop} {Q : L2.St → Hp → Prop}, Rps K H ws xs → AbS K H τ σ → wipe σ vs = wipe σ0 vs → bnds l ws τ Q' →
    (∀ τ' σ', AbS K H τ' σ' → wipe σ' vs = wipe σ0 vs → Q' τ' → Q σ' H) → gBs K l xs σ H Q
  | .nil, hm, ws, xs, τ, σ, Q', Q, r, s, ew, h, k => by
    cases r with
    | nil => unfold bnds at h; exact ⟨rfl, k _ _ s ew h⟩
    | cons a r => unfold bnds at h; exact h.elim
  | .cons m l, hm, ws, xs, τ, σ, Q', Q, r, s, ew, h, k => by
    cases r with
    | nil => unfold bnds at h; exact h.elim
    | cons a r =>
      unfold bnds at h
      refine ⟨_, _, rfl, ?_⟩
      exact gB_ok m (fun i hi => hm i (by unfold slotsS; simp [hi])) a s ew h fun τ' σ' s' ew' h' => gBs_ok l (fun i hi => hm i (by unfold slotsS; simp [hi])) r s' ew' h' k
end
/-- over ws: each kept item's value in a new list -/
@[irreducible] def lcL (ws : List Dv) (Sg : Hq → Prop) (m : Nm) (tt : Tt) (te : Te) (vs : List Nat) : Te := fun τ G Q => ws.length ≤ sizeLine ∧ ∀ D, G D = none → ∃ Pv : Nat → List Dv → Hq → Prop, Pv 0 [] G ∧ (∀ i acc G, Pv i acc G → Sg G ∧ G D = none) ∧
  (∀ i w acc G, ws[i]? = some w → Pv i acc G → bnd m w (wip τ vs) fun τ2 => tt τ2 (put G D (.lst acc)) fun b G3 => match b with
    | true => te τ2 G3 fun v G4 => ∃ G5, G5 D = none ∧ Le (put G5 D (.lst acc)) G4 ∧ Pv (i + 1) (acc ++ [v]) G5
    | false => ∃ G5, G5 D = none ∧ Le (put G5 D (.lst acc)) G3 ∧ Pv (i + 1) acc G5) ∧ ∀ acc G, Pv ws.length acc G → Q (.ref D) (put G D (.lst acc))
def lc (wi : Ti) (m : Nm) (tt : Tt) (te : Te) (vs : List Nat) : Te := fun τ G Q => wi τ G fun ws Sg G1 => lcL ws Sg m tt te vs τ G1 Q
/-- the source does not speak of the new list -/
def Out (Sg : Hq → Prop) : Prop := ∀ G D acc, G D = none → Sg G → Sg (put G D (.lst acc))
theorem lc_up {vs : List Nat} {m : Nm} {tt : Tt} (hv : ∀ i ∈ slots m, i ∈ vs) {σ : L2.St} {H : Hp} {Q : VK} (hk : up B (lc wi m tt te vs) σ H Q) : tLc (upI B wi) (gB B.K m) (upT B tt) (up B te) vs σ H Q := by
  obtain ⟨τ, G, Q', s, ga, h, k⟩ := hk
  refine ⟨τ, G, _, s, ga, h, fun J H1 ws Sg G1 t1 g1 it h1 => ?_⟩
  unfold lcL at h1
  obtain ⟨hz, h1⟩ := h1
  intro D nD
  obtain ⟨Pv, h0, hS, hT, hE⟩ := h1 D (g1.fresh nD)
  refine ⟨fun i m H2 => m = ws.length - i ∧ i ≤ ws.length ∧ TK B.K H1 H2 ∧ ∃ acc G2, acc.length ≤ i ∧ AbH B (put G2 D (.lst acc)) H2 ∧ Pv i acc G2, ⟨_, rfl, Nat.zero_le _, TK.laid nD, [], G1, Nat.zero_le _, g1.new nD ⟨[], upd_same, .nil⟩, h0⟩, ?_⟩
  rintro i m' H2 ⟨rfl, hi, t2, acc, G2, ha, g2, p2⟩
  obtain ⟨sg, nD2⟩ := hS i acc G2 p2
  have g2' : AbH B G2 H2 := g2.le (Le.refl.put nD2)
  by_cases hlt : i < ws.length
  · refine .inr ⟨it.go i H2 G2 t2 g2' sg hlt, fun H' => TK B.K H1 H' ∧ ∃ acc G2, acc.length ≤ i + 1 ∧ AbH B (put G2 D (.lst acc)) H' ∧ Pv (i + 1) acc G2, fun H' r => ⟨ws.length - (i + 1), by omega, rfl, hlt, r⟩, fun x H3 y => ?_⟩
    obtain ⟨w, ew, t3, r3, g3'⟩ := it.yl i H2 G2 x H3 t2 g2' sg hlt y
    have g3 : AbH B (put G2 D (.lst acc)) H3 := g3' _ g2
    have hb := hT i w acc G2 ew p2
    have sw : AbS B.K H3 (wip τ vs) (wipe σ vs) := (s.mono (t1.trans (t2.trans t3))).wipe vs
    have go : ∀ τ2 σ2, AbS B.K H3 τ2 σ2 → (tt τ2 (put G2 D (.lst acc)) fun b G3 => match b with
        | true => te τ2 G3 fun v G4 => ∃ G5, G5 D = none ∧ Le (put G5 D (.lst acc)) G4 ∧ Pv (i + 1) (acc ++ [v]) G5
        | false => ∃ G5, G5 D = none ∧ Le (put G5 D (.lst acc)) G3 ∧ Pv (i + 1) acc G5) →
        upT B tt σ2 H3 fun b H3 => if b = true then up B te σ2 H3 fun y H4 => ∃ acc, H4 D = some (.lst acc) ∧ acc.length < sizeLine ∧ (TK B.K H1 (upd H4 D (.lst (acc ++ [y]))) ∧ ∃ acc' G2, acc'.length ≤ i + 1 ∧ AbH B (put G2 D (.lst acc')) (upd H4 D (.lst (acc ++ [y]))) ∧ Pv (i + 1) acc' G2)
          else (TK B.K H1 H3 ∧ ∃ acc G2, acc.length ≤ i + 1 ∧ AbH B (put G2 D (.lst acc)) H3 ∧ Pv (i + 1) acc G2) := fun τ2 σ2 s2 hq => by
      refine ⟨τ2, _, _, s2, g3, hq, fun b H4 G4 t4 g4 q4 => ?_⟩
      cases b with
      | true =>
        rw [if_pos rfl]
        refine ⟨τ2, G4, _, s2.mono t4, g4, q4, fun v H5 wv G5 t5 r5 g5 ⟨G6, n6, l6, p6⟩ => ?_⟩
        have g6 := g5.le l6
        obtain ⟨xs, e6, r6⟩ := g6 D _ put_same
        have mu : Mu (H5 D) := by rw [e6]; first | exact Mu.lst | exact Mu.ins
        refine ⟨xs, e6, ?_, (t2.trans (t3.trans (t4.trans t5))).trans (TK.write mu), acc ++ [wv], G6, by simp; omega, ?_, p6⟩
        · rw [← r6.length]; omega
        · have := g6.write (x := D) (o := .lst (xs ++ [v])) (o' := .lst (acc ++ [wv])) mu ⟨_, upd_same, (r6.append (.cons r5 .nil)).mono (TK.write mu)⟩
          rw [put_put] at this
          exact this
      | false =>
        rw [if_neg Bool.false_ne_true]
        obtain ⟨G5, n5, l5, p5⟩ := q4
        exact ⟨t2.trans (t3.trans t4), acc, G5, by omega, g4.le l5, p5⟩
    have e1 : wipe (wipe σ vs) vs = wipe σ vs := wipe_eq (wipe_length _ _) fun i hi => wipe_get hi
    exact gB_ok m hv (σ0 := σ) r3 sw e1 hb fun τ' σ' s' ew' hq => ⟨ew', go _ _ s' hq⟩
  · have e : i = ws.length := by omega
    subst e
    exact .inl ⟨it.st H2 G2 t2 g2' sg, k _ _ _ _ (t1.trans t2) .ref g2 (hE acc G2 p2)⟩
/-- two fors, one list -/
@[irreducible] def lc2L (ws : List Dv) (Sg : Hq → Prop) (m : Nm) (tt : Tt) (wi1 : Ti) (m1 : Nm) (tt1 : Tt) (te : Te) (vs vs1 : List Nat) : Te := fun τ G Q => ∀ D, G D = none → ∃ Pv : Nat → List Dv → Hq → Prop, Pv 0 [] G ∧ (∀ i acc G, Pv i acc G → Sg G ∧ G D = none) ∧
  (∀ i w acc G, ws[i]? = some w → Pv i acc G → bnd m w (wip τ vs) fun τ2 => tt τ2 (put G D (.lst acc)) fun b G3 => match b with
    | true => wi1 τ2 G3 fun ws1 Sg1 G4 => ∃ Pw : Nat → List Dv → Hq → Prop, (∃ G5, G5 D = none ∧ Le (put G5 D (.lst acc)) G4 ∧ Pw 0 acc G5) ∧ (∀ j acc G, Pw j acc G → Sg1 G ∧ G D = none) ∧
      (∀ j w1 acc G, ws1[j]? = some w1 → Pw j acc G → bnd m1 w1 (wip τ2 vs1) fun τ3 => tt1 τ3 (put G D (.lst acc)) fun b G6 => match b with
        | true => te τ3 G6 fun v G7 => ∃ G8, acc.length < sizeLine ∧ G8 D = none ∧ Le (put G8 D (.lst acc)) G7 ∧ Pw (j + 1) (acc ++ [v]) G8
        | false => ∃ G8, G8 D = none ∧ Le (put G8 D (.lst acc)) G6 ∧ Pw (j + 1) acc G8) ∧ ∀ acc G, Pw ws1.length acc G → Pv (i + 1) acc G
    | false => ∃ G5, G5 D = none ∧ Le (put G5 D (.lst acc)) G3 ∧ Pv (i + 1) acc G5) ∧ ∀ acc G, Pv ws.length acc G → Q (.ref D) (put G D (.lst acc))
def lc2 (wi : Ti) (m : Nm) (tt : Tt) (wi1 : Ti) (m1 : Nm) (tt1 : Tt) (te : Te) (vs vs1 : List Nat) : Te := fun τ G Q => wi τ G fun ws Sg G1 => lc2L ws Sg m tt wi1 m1 tt1 te vs vs1 τ G1 Q
theorem lc2_up {vs vs1 : List Nat} {m m1 : Nm} {tt tt1 : Tt} {wi1 : Ti} (hv : ∀ i ∈ slots m, i ∈ vs) (hv1 : ∀ i ∈ slots m1, i ∈ vs1) {σ : L2.St} {H : Hp} {Q : VK} (hk : up B (lc2 wi m tt wi1 m1 tt1 te vs vs1) σ H Q) :
    tLc2 (upI B wi) (gB B.K m) (upT B tt) (upI B wi1) (gB B.K m1) (upT B tt1) (up B te) vs vs1 σ H Q := by
  obtain ⟨τ, G, Q', s, ga, h, k⟩ := hk
  refine ⟨τ, G, _, s, ga, h, fun J H1 ws Sg G1 t1 g1 it h1 => ?_⟩
  intro D nD
  unfold lc2L at h1
  obtain ⟨Pv, h0, hS, hT, hE⟩ := h1 D (g1.fresh nD)
  refine ⟨fun i m H2 => m = ws.length - i ∧ i ≤ ws.length ∧ TK B.K H1 H2 ∧ ∃ acc G2, AbH B (put G2 D (.lst acc)) H2 ∧ Pv i acc G2, ⟨_, rfl, Nat.zero_le _, TK.laid nD, [], G1, g1.new nD ⟨[], upd_same, .nil⟩, h0⟩, ?_⟩
  rintro i m' H2 ⟨rfl, hi, t2, acc, G2, g2, p2⟩
  obtain ⟨sg, nD2⟩ := hS i acc G2 p2
  have g2' : AbH B G2 H2 := g2.le (Le.refl.put nD2)
  by_cases hlt : i < ws.length
  · refine .inr ⟨it.go i H2 G2 t2 g2' sg hlt, fun H' => TK B.K H1 H' ∧ ∃ acc G2, AbH B (put G2 D (.lst acc)) H' ∧ Pv (i + 1) acc G2, fun H' r => ⟨ws.length - (i + 1), by omega, rfl, hlt, r⟩, fun x H3 y => ?_⟩
    obtain ⟨w, ew, t3, r3, g3'⟩ := it.yl i H2 G2 x H3 t2 g2' sg hlt y
    have g3 : AbH B (put G2 D (.lst acc)) H3 := g3' _ g2
    have hb := hT i w acc G2 ew p2
    have sw : AbS B.K H3 (wip τ vs) (wipe σ vs) := (s.mono (t1.trans (t2.trans t3))).wipe vs
    have e1 : wipe (wipe σ vs) vs = wipe σ vs := wipe_eq (wipe_length _ _) fun i hi => wipe_get hi
    refine gB_ok m hv (σ0 := σ) r3 sw e1 hb fun τ2 σ2 s2 ew' hq => ⟨ew', τ2, _, _, s2, g3, hq, fun b H4 G4 t4 g4 q4 => ?_⟩
    cases b with
    | false =>
      rw [if_neg Bool.false_ne_true]
      obtain ⟨G5, n5, l5, p5⟩ := q4
      exact ⟨t2.trans (t3.trans t4), acc, G5, g4.le l5, p5⟩
    | true =>
      rw [if_pos rfl]
      refine ⟨τ2, G4, _, s2.mono t4, g4, q4, fun J1 H5 ws1 Sg1 G5 t5 g5 it1 q5 => ?_⟩
      obtain ⟨Pw, ⟨G6, n6, l6, p6⟩, hS1, hT1, hE1⟩ := q5
      refine ⟨fun j k H6 => k = ws1.length - j ∧ j ≤ ws1.length ∧ TK B.K H5 H6 ∧ ∃ acc G6, AbH B (put G6 D (.lst acc)) H6 ∧ Pw j acc G6, ⟨_, rfl, Nat.zero_le _, TK.refl, acc, G6, g5.le l6, p6⟩, ?_⟩
      rintro j k' H6 ⟨rfl, hj, t6, acc1, G7, g7, p7⟩
      obtain ⟨sg1, nD7⟩ := hS1 j acc1 G7 p7
      have g7' : AbH B G7 H6 := g7.le (Le.refl.put nD7)
      have tt6 : TK B.K H1 H6 := t2.trans (t3.trans (t4.trans (t5.trans t6)))
      by_cases hlt1 : j < ws1.length
      · refine .inr ⟨it1.go j H6 G7 t6 g7' sg1 hlt1, fun H' => TK B.K H5 H' ∧ ∃ acc G6, AbH B (put G6 D (.lst acc)) H' ∧ Pw (j + 1) acc G6, fun H' r => ⟨ws1.length - (j + 1), by omega, rfl, hlt1, r⟩, fun x1 H7 y1 => ?_⟩
        obtain ⟨w1, ew1, t7, r7, g8'⟩ := it1.yl j H6 G7 x1 H7 t6 g7' sg1 hlt1 y1
        have g8 : AbH B (put G7 D (.lst acc1)) H7 := g8' _ g7
        have hb1 := hT1 j w1 acc1 G7 ew1 p7
        have sw1 : AbS B.K H7 (wip τ2 vs1) (wipe σ2 vs1) := (s2.mono (t4.trans (t5.trans (t6.trans t7)))).wipe vs1
        have e2 : wipe (wipe σ2 vs1) vs1 = wipe σ2 vs1 := wipe_eq (wipe_length _ _) fun i hi => wipe_get hi
        refine gB_ok m1 hv1 (σ0 := σ2) r7 sw1 e2 hb1 fun τ3 σ3 s3 ew3 hq3 => ⟨ew3, τ3, _, _, s3, g8, hq3, fun b H8 G9 t8 g9 q9 => ?_⟩
        cases b with
        | false =>
          rw [if_neg Bool.false_ne_true]
          obtain ⟨G10, n10, l10, p10⟩ := q9
          exact ⟨t6.trans (t7.trans t8), acc1, G10, g9.le l10, p10⟩
        | true =>
          rw [if_pos rfl]
          refine ⟨τ3, G9, _, s3.mono t8, g9, q9, fun v H9 wv G10 t9 r9 g10 ⟨G11, hl, n11, l11, p11⟩ => ?_⟩
          have g11 := g10.le l11
          obtain ⟨xs, e6, r6⟩ := g11 D _ put_same
          have mu : Mu (H9 D) := by rw [e6]; exact Mu.lst
          refine ⟨xs, e6, by rw [← r6.length]; exact hl, (t6.trans (t7.trans (t8.trans t9))).trans (TK.write mu), acc1 ++ [wv], G11, ?_, p11⟩
          have := g11.write (x := D) (o := .lst (xs ++ [v])) (o' := .lst (acc1 ++ [wv])) mu ⟨_, upd_same, (r6.append (.cons r9 .nil)).mono (TK.write mu)⟩
          rw [put_put] at this
          exact this
      · have e : j = ws1.length := by omega
        subst e
        exact .inl ⟨it1.st H6 G7 t6 g7' sg1, tt6, acc1, G7, g7, hE1 acc1 G7 p7⟩
  · have e : i = ws.length := by omega
    subst e
    exact .inl ⟨it.st H2 G2 t2 g2' sg, k _ _ _ _ (t1.trans t2) .ref g2 (hE acc G2 p2)⟩
end
end L3
namespace L3
open PySem PySem.Spec PyProof.Rows L2
variable {B : Ax} {K : PySem.W.Frag} {H H1 H2 : Hp} {G G1 G2 : Hq}
section
variable {X : Cx} {tg e elt iter a b : Expr} {es ifs : List Expr} {te ta tb : Te} {t : Ta} {pos p spos tpos py : Pos} {wi : Ti} {g : Tg} {tA tc : Tt} {sb s1 : Ts} {st : Stmt} {body : List Stmt} {x y : Str} {scope : Scope} {own : List (Str × Nat)} {m : Nm}
/-! ### comprehensions, as expressions and given to a name -/
structure Pts (X : Cx) (ifs : List Expr) (t : Tt) : Prop where pts : PTs X ifs (upT (ax X) t)
theorem PTs.imp {t u : TT} (h : PTs X ifs t) (f : ∀ σ H Q, u σ H Q → t σ H Q) : PTs X ifs u := ⟨fun pins s σ H Q I q => h.run pins s σ H Q I (f σ H Q q)⟩
def yes : Tt := fun _ G Q => Q true G
theorem ts_nil : Pts X [] yes := ⟨PTs.imp pts_nil fun σ H Q ⟨τ, G, Q', s, g, h, k⟩ => k _ _ _ TK.refl g h⟩
theorem ts_one (h : Pt X e tc) : Pts X [e] tc := ⟨pts_one h.pt⟩
theorem e_lc (hc : X.calm = true) (hN : X.N.Nodup) (hi : Pi X tg iter wi) (ok : BlkOk X.N X.env.scope scope own) (hv : ∀ i ∈ slots m, i ∈ own.map (·.2))
    (hg : ∀ (s : Shared) (H : Hp) (C : Addr) (cl : List (Str × Addr)) (fp : List Addr), PG (X.blk s H scope (compEnvC scope cl C X.env) fp) tg (gB X.K m))
    (ht : ∀ (s : Shared) (H : Hp) (C : Addr) (cl : List (Str × Addr)) (fp : List Addr), Pts (X.blk s H scope (compEnvC scope cl C X.env) fp) ifs tc)
    (he : ∀ (s : Shared) (H : Hp) (C : Addr) (cl : List (Str × Addr)) (fp : List Addr), Pe (X.blk s H scope (compEnvC scope cl C X.env) fp) elt te) (hs : ∀ x, foldedSetIterable iter X.env x = pure x := by intro _; rfl) :
    Pe X (.ListComp elt [⟨tg, iter, ifs, 0⟩] scope pos) (lc wi m tc te (own.map (·.2))) :=
  ⟨PE.imp (pe_lc hc hN hi.pi ok hg (fun s H C cl fp => (ht s H C cl fp).pts) (fun s H C cl fp => (he s H C cl fp).pe) hs) fun _ _ _ q => lc_up hv q⟩
theorem s_setLc {i : Nat} (hc : X.calm = true) (hN : X.N.Nodup) (hsw : swapsWith (.ListComp elt [⟨tg, iter, ifs, 0⟩] scope pos) (some (.Name y py)) spos.line X.env = pure true) (hi : Pi X tg iter wi) (ok : BlkOk X.N X.env.scope scope own) (hv : ∀ i ∈ slots m, i ∈ own.map (·.2))
    (hg : ∀ (s : Shared) (H : Hp) (C : Addr) (cl : List (Str × Addr)) (fp : List Addr), PG (X.blk s H scope (compEnvC scope cl C X.env) fp) tg (gB X.K m))
    (ht : ∀ (s : Shared) (H : Hp) (C : Addr) (cl : List (Str × Addr)) (fp : List Addr), Pts (X.blk s H scope (compEnvC scope cl C X.env) fp) ifs tc)
    (he : ∀ (s : Shared) (H : Hp) (C : Addr) (cl : List (Str × Addr)) (fp : List Addr), Pe (X.blk s H scope (compEnvC scope cl C X.env) fp) elt te)
    (hy : X.N[i]? = some y := by rfl) (hyl : X.env.scope.names.lookup y = some .local := by rfl) (hs : ∀ x, foldedSetIterable iter X.env x = pure x := by intro _; rfl) :
    Ps X (.Assign [.Name y py] (.ListComp elt [⟨tg, iter, ifs, 0⟩] scope pos) spos) (asg (lc wi m tc te (own.map (·.2))) (gn i)) :=
  ⟨PS.imp (ps_setLc hc hN hy hyl hsw hi.pi ok hg (fun s H C cl fp => (ht s H C cl fp).pts) (fun s H C cl fp => (he s H C cl fp).pe) hs) fun D σ H ⟨τ, G, D', s, ga, h, k⟩ => by
    have h' : tLc (upI (ax X) wi) (gB X.K m) (upT (ax X) tc) (up (ax X) te) (own.map (·.2)) σ H (fun v H1 => D.nx (σ.set i (some v)) H1) := lc_up hv ⟨τ, G, _, s, ga, h, fun v H1 w G1 t1 r1 g1 q1 => k.nx _ _ _ _ t1 ((s.mono t1).set r1 i) g1 q1⟩
    exact h'⟩
end

/-! ### a def keeps its promise -/
abbrev Rm := Room
def strt (N : List Str) (ws : List Dv) : Sl := ws.map some ++ List.replicate (N.length - ws.length) none
theorem fn_ok {P : Program} {w : World} {K : PySem.W.Frag} {mg : Str → Option Value} {base : Heap} {x qual : Str} {st : Stmt} {f : Addr} {fd : FuncData} {N ps : List Str} {k : Nat} {sp : Sq} {t : Ts}
    (F : Fun K x qual st f fd) (S : FnScope N ps (defScope st)) (len : ∀ ws G Q E, sp ws G Q E → ws.length = ps.length)
    (hb : ∀ (cdv : Value) (A : Around) (outer : List Env) (s : Shared) (H : Hp) (E : XK), Rm k (A.deeper (envOfC qual (defScope st) s.heap.objs.size f cdv)) → Pss (cxOf CX0 P w K mg base N qual (defScope st) f cdv A outer s H E).nox (defBody st) t)
    (hr : ∀ ws G Q E, Mono Q → MonoX E → sp ws G Q E → t { nx := fun _ G' => Q .non G', rt := Q } (strt N ws) G) : Fn P w K mg base CX0 (k + 1) f fd ps sp :=
  ⟨F.ok S (fun vs H Q E ⟨ws, G, Q', E', r, g, h, k, kx⟩ => by rw [← r.length]; exact len _ _ _ _ h) fun cdv A outer s H vs Q E rm ⟨ws, G, Q', E', r, g, h, k, kx⟩ =>
    ⟨_, (hb cdv A outer s H E rm).pss, strt N ws, G, ⟨fun _ G' => Clo Q' .non G', Clo Q', fun _ _ => False, fun _ _ => False⟩, by
      have := AbS.start r (N.length - ws.length)
      unfold strt L2.start
      rw [← r.length]
      exact this, g, hr ws G (Clo Q') (CloX E') Clo.mono CloX.mono h,
      ⟨fun σ1 H1 τ1 G1 t1 s1 g1 q1 => k.clo _ _ _ _ t1 .non g1 q1, k.clo, fun _ _ _ _ _ _ _ q => q.elim, fun _ _ _ _ _ _ _ q => q.elim⟩⟩⟩




/-! ### data without bools -/
mutual
def Dv.deq : (x y : Dv) → Decidable (x = y)
  | .non, y => match y with | .non => Decidable.isTrue rfl | .bl _ | .int _ | .str _ | .tup _ | .ref _ | .ty _ => Decidable.isFalse (fun h => nomatch h)
  | .bl a, y => match y with
    | .bl b => if h : a = b then Decidable.isTrue (by rw [h]) else Decidable.isFalse (fun e => h (by injection e))
    | .non | .int _ | .str _ | .tup _ | .ref _ | .ty _ => Decidable.isFalse (fun h => nomatch h)
  | .int a, y => match y with
    | .int b => if h : a = b then Decidable.isTrue (by rw [h]) else Decidable.isFalse (fun e => h (by injection e))
    | .non | .bl _ | .str _ | .tup _ | .ref _ | .ty _ => Decidable.isFalse (fun h => nomatch h)
  | .str a, y => match y with
    | .str b => if h : a = b then Decidable.isTrue (by rw [h]) else Decidable.isFalse (fun e => h (by injection e))
    | .non | .bl _ | .int _ | .tup _ | .ref _ | .ty _ => Decidable.isFalse (fun h => nomatch h)
  | .tup a, y => match y with
    | .tup b => match Dv.deqs a b with | Decidable.isTrue h => Decidable.isTrue (by rw [h]) | Decidable.isFalse h => Decidable.isFalse (fun e => h (by injection e))
    | .non | .bl _ | .int _ | .str _ | .ref _ | .ty _ => Decidable.isFalse (fun h => nomatch h)
  | .ref a, y => match y with
    | .ref b => if h : a = b then Decidable.isTrue (by rw [h]) else Decidable.isFalse (fun e => h (by injection e))
    | .non | .bl _ | .int _ | .str _ | .tup _ | .ty _ => Decidable.isFalse (fun h => nomatch h)
  | .ty a, y => match y with
    | .ty b => if h : a = b then Decidable.isTrue (by rw [h]) else Decidable.isFalse (fun e => h (by injection e))
    | .non | .bl _ | .int _ | .str _ | .tup _ | .ref _ => Decidable.isFalse (fun h => nomatch h)
def Dv.deqs : (x y : List Dv) → Decidable (x = y)
  | [], y => match y with | [] => Decidable.isTrue rfl | _ :: _ => Decidable.isFalse (fun h => nomatch h)
  | a :: r, y => match y with
    | [] => Decidable.isFalse (fun h => nomatch h)
    | b :: q => match Dv.deq a b, Dv.deqs r q with
      | Decidable.isTrue h, Decidable.isTrue h' => Decidable.isTrue (by rw [h, h'])
      | Decidable.isFalse h, _ => Decidable.isFalse (fun e => h (by injection e))
      | _, Decidable.isFalse h => Decidable.isFalse (fun e => h (by injection e))
end
instance : DecidableEq Dv := Dv.deq
/-- no bool, no object within; so deep at most -/
def nb : Nat → Dv → Bool
  | _, .int _ => true
  | _, .non => true
  | _, .str _ => true
  | n + 1, .tup ws => ws.all (nb n)
  | _, _ => false
theorem nb.mono : ∀ {n m : Nat} {w : Dv}, n ≤ m → nb n w = true → nb m w = true := by
  intro n
  induction n with
  | zero => intro m w h e; cases w <;> cases m <;> simp_all [nb]
  | succ n ih =>
    intro m w h e
    cases m with
    | zero => omega
    | succ m =>
      cases w with
      | tup ws =>
        simp only [nb, List.all_eq_true] at e ⊢
        exact fun x hx => ih (by omega) (e x hx)
      | _ => simp_all [nb]
mutual
def py : Dv → PyData
  | .non => .none
  | .bl b => .bool b
  | .int i => .int i
  | .str x => .str x
  | .tup ws => .tuple (pys ws)
  | .ref _ => .none
  | .ty _ => .none
def pys : List Dv → List PyData
  | [] => []
  | w :: ws => py w :: pys ws
end
theorem pys_map : ∀ ws : List Dv, pys ws = ws.map py
  | [] => rfl
  | w :: ws => by simp [pys, pys_map ws]
theorem py_dp : ∀ (n : Nat) (w : Dv) (v : V), nb n w = true → Rp K H w v → Dp K H v (py w)
  | _, .bl _, _, h, _ => by simp [nb] at h
  | _, .ref _, _, h, _ => by simp [nb] at h
  | _, .ty _, _, h, _ => by simp [nb] at h
  | 0, .tup _, _, h, _ => by simp [nb] at h
  | _, .int i, _, _, .int => .int i
  | _, .non, _, _, .non => .non
  | _, .str x, _, _, .str => .str x
  | n + 1, .tup ws, _, h, .tup (vs := vs) hs r => by
    simp only [nb, List.all_eq_true] at h
    refine .tup hs ?_
    clear hs
    induction ws generalizing vs with
    | nil => cases r; exact .nil
    | cons w ws ih =>
      cases r with
      | cons q r => exact .cons (py_dp n w _ (h w (by simp)) q) (ih _ r (fun x hx => h x (by simp [hx])))
theorem pys_dp {n : Nat} : ∀ {ws : List Dv} {vs : List V}, ws.all (nb n) = true → Rps K H ws vs → DpAll K H vs (pys ws)
  | [], _, _, .nil => .nil
  | w :: ws, _, h, .cons q r => by
    simp only [List.all_cons, Bool.and_eq_true] at h
    exact .cons (py_dp n w _ h.1 q) (pys_dp h.2 r)
theorem py_plain : ∀ (n : Nat) (w : Dv), nb n w = true → (py w).plain = true
  | _, .bl _, h => by simp [nb] at h
  | _, .ref _, h => by simp [nb] at h
  | _, .ty _, h => by simp [nb] at h
  | 0, .tup _, h => by simp [nb] at h
  | _, .int i, _ => rfl
  | _, .non, _ => rfl
  | _, .str x, _ => rfl
  | n + 1, .tup ws, h => by
    simp only [nb, List.all_eq_true] at h
    simp only [py, PyData.plain]
    induction ws with
    | nil => rfl
    | cons w ws ih =>
      simp only [pys, PyData.plainAll, Bool.and_eq_true]
      exact ⟨py_plain n w (h w (by simp)), ih fun x hx => h x (by simp [hx])⟩
theorem pys_plain {n : Nat} {ws : List Dv} (h : ws.all (nb n) = true) : PyData.plainAll (pys ws) = true := by
  have := py_plain (n + 1) (.tup ws) h
  simpa [py, PyData.plain] using this
theorem py_depth : ∀ (n : Nat) (w : Dv), nb n w = true → (py w).depth ≤ n
  | _, .bl _, h => by simp [nb] at h
  | _, .ref _, h => by simp [nb] at h
  | _, .ty _, h => by simp [nb] at h
  | 0, .tup _, h => by simp [nb] at h
  | _, .int i, _ => Nat.zero_le _
  | _, .non, _ => Nat.zero_le _
  | _, .str x, _ => Nat.zero_le _
  | n + 1, .tup ws, h => by
    simp only [nb, List.all_eq_true] at h
    simp only [py, PyData.depth]
    have : PyData.depthAll (pys ws) ≤ n := by
      induction ws with
      | nil => exact Nat.zero_le _
      | cons w ws ih =>
        simp only [pys, PyData.depthAll]
        have h1 := py_depth n w (h w (by simp))
        have h2 := ih fun x hx => h x (by simp [hx])
        omega
    omega
theorem pys_depth {n : Nat} {ws : List Dv} (h : ws.all (nb n) = true) : PyData.depthAll (pys ws) ≤ n := by
  have := py_depth (n + 1) (.tup ws) h
  simp only [py, PyData.depth] at this
  omega
theorem eqv_nb : ∀ (n : Nat) (x y : Dv), nb n x = true → nb n y = true → PyData.eqv (py x) (py y) = decide (x = y)
  | _, .bl _, _, h, _ => by simp [nb] at h
  | _, .ref _, _, h, _ => by simp [nb] at h
  | _, .ty _, _, h, _ => by simp [nb] at h
  | 0, .tup _, _, h, _ => by simp [nb] at h
  | n, .int i, y, _, hy => by
    cases y <;> simp_all [py, PyData.eqv, nb]
    rfl
  | n, .non, y, _, hy => by
    cases y <;> simp_all [py, PyData.eqv, nb]
  | n, .str x, y, _, hy => by
    cases y <;> simp_all [py, PyData.eqv, nb]
    rfl
  | n + 1, .tup ws, y, hx, hy => by
    cases y with
    | tup us =>
      simp only [nb, List.all_eq_true] at hx hy
      simp only [py, PyData.eqv, Dv.tup.injEq]
      induction ws generalizing us with
      | nil => cases us <;> simp [pys, PyData.eqvAll]
      | cons w ws ih =>
        cases us with
        | nil => simp [pys, PyData.eqvAll]
        | cons u us =>
          simp only [pys, PyData.eqvAll, List.cons.injEq]
          rw [eqv_nb n w u (hx w (by simp)) (hy u (by simp)), ih us (fun z hz => hx z (by simp [hz])) (fun z hz => hy z (by simp [hz]))]
          by_cases h1 : w = u <;> by_cases h2 : ws = us <;> simp [h1, h2]
    | int i => simp [py, PyData.eqv]
    | non => simp [py, PyData.eqv]
    | str x => simp [py, PyData.eqv]
    | bl b => simp [nb] at hy
    | ref a => simp [nb] at hy
    | ty a => simp [nb] at hy
theorem eqvAll_nb {n : Nat} {xs ys : List Dv} (hx : xs.all (nb n) = true) (hy : ys.all (nb n) = true) : PyData.eqvAll (pys xs) (pys ys) = decide (xs = ys) := by
  have := eqv_nb (n + 1) (.tup xs) (.tup ys) hx hy
  simpa [py, PyData.eqv] using this
theorem any_nb {n : Nat} {x : Dv} (hx : nb n x = true) : ∀ {ws : List Dv}, ws.all (nb n) = true → ((pys ws).any fun y => PyData.eqv y (py x)) = decide (x ∈ ws)
  | [], _ => by simp [pys]
  | w :: ws, h => by
    simp only [List.all_cons, Bool.and_eq_true] at h
    simp only [pys, List.any_cons, List.mem_cons]
    rw [eqv_nb n w x h.1 hx, any_nb hx h.2]
    by_cases h1 : x = w <;> by_cases h2 : x ∈ ws <;> simp [h1, h2, eq_comm]
/-- == of such, at the level of the heap -/
def rEqP (K : PySem.W.Frag) (neg : Bool) : R2 := fun x y H Q => ∃ d e, Dp K H x d ∧ Dp K H y e ∧ d.plain = true ∧ e.plain = true ∧ d.depth ≤ 60 ∧ Q (.bl (neg ^^ PyData.eqv d e)) H
def rInP (K : PySem.W.Frag) (neg : Bool) : R2 := fun x y H Q => ∃ d xs, Dp K H x d ∧ (Dp K H y (.list xs) ∨ Dp K H y (.tuple xs)) ∧ d.plain = true ∧ PyData.plainAll xs = true ∧ d.depth ≤ 60 ∧ Q (.bl (neg ^^ (xs.any fun y => PyData.eqv y d))) H
section
variable {X : Cx}
theorem op_eqP (hu : X.A.units + 64 < cLine) : OpR X (compareOp .Eq) (rEqP X.K false) := by
  intro pins s σ H x y v u Q I rx ry ⟨d, e, hd, he, sd, se, dd, q⟩
  obtain ⟨as, r1⟩ := Dp.reads I d x v hd rx
  obtain ⟨bs, r2⟩ := Dp.reads I e y u he ry
  exact SeqAt.eq_plain r1 r2 sd se (by omega) ⟨.bl _, H, I, by simp [L2.RelV], q⟩
theorem op_neP (hu : X.A.units + 64 < cLine) : OpR X (compareOp .NotEq) (rEqP X.K true) := by
  intro pins s σ H x y v u Q I rx ry ⟨d, e, hd, he, sd, se, dd, q⟩
  obtain ⟨as, r1⟩ := Dp.reads I d x v hd rx
  obtain ⟨bs, r2⟩ := Dp.reads I e y u he ry
  exact SeqAt.ne_plain r1 r2 sd se (by omega) ⟨.bl _, H, I, by simp [L2.RelV], q⟩
theorem op_inP (hu : X.A.units + 64 < cLine) : OpR X (compareOp .In) (rInP X.K false) := by
  intro pins s σ H x y v u Q I rx ry ⟨d, e, hd, he, sd, se, dd, q⟩
  obtain ⟨as, r1⟩ := Dp.reads I d x v hd rx
  rcases he with he | he
  · obtain ⟨bs, r2⟩ := Dp.reads I _ y u he ry
    exact SeqAt.in_list_data r2 r1 se sd (by omega) ⟨.bl _, H, I, by simp [L2.RelV], q⟩
  · obtain ⟨bs, r2⟩ := Dp.reads I _ y u he ry
    exact SeqAt.in_tuple_data r2 r1 se sd (by omega) ⟨.bl _, H, I, by simp [L2.RelV], q⟩
theorem op_ninP (hu : X.A.units + 64 < cLine) : OpR X (compareOp .NotIn) (rInP X.K true) := by
  intro pins s σ H x y v u Q I rx ry ⟨d, e, hd, he, sd, se, dd, q⟩
  obtain ⟨as, r1⟩ := Dp.reads I d x v hd rx
  rcases he with he | he
  · obtain ⟨bs, r2⟩ := Dp.reads I _ y u he ry
    exact SeqAt.notIn_list_data r2 r1 se sd (by omega) ⟨.bl _, H, I, by simp [L2.RelV], q⟩
  · obtain ⟨bs, r2⟩ := Dp.reads I _ y u he ry
    exact SeqAt.notIn_tuple_data r2 r1 se sd (by omega) ⟨.bl _, H, I, by simp [L2.RelV], q⟩
end

/-! ### operators -/
section
variable {X : Cx}
def oAdd : R2q := fun x y G Q => match x, y with
  | .int i, .int j => Q (.int (i + j)) G
  | .tup a, .tup b => a.length + b.length ≤ sizeLine ∧ Q (.tup (a ++ b)) G
  | .str a, .str b => a.length + b.length ≤ sizeLine ∧ Q (.str (a ++ b)) G
  | .ref a, .ref b => ∃ xs ys, G a = some (.lst xs) ∧ G b = some (.lst ys) ∧ xs.length + ys.length ≤ sizeLine ∧ ∀ p, G p = none → Q (.ref p) (put G p (.lst (xs ++ ys)))
  | _, _ => False
theorem or_add : Or X (binaryOp .Add) oAdd := or_by fun wx wy x y H G Q' Q px py g q k => by
  cases px with
  | int => cases py with
    | int => exact ⟨_, op_add, _, _, rfl, rfl, k _ _ _ _ TK.refl .int g q⟩
    | _ => exact q.elim
  | str => cases py with
    | str => exact ⟨_, op_add_str, _, _, rfl, rfl, q.1, k _ _ _ _ TK.refl .str g q.2⟩
    | _ => exact q.elim
  | @tup ws a vs hx rx => cases py with
    | @tup us b xs hy ry =>
      refine ⟨_, op_catA, a, b, vs, xs, rfl, rfl, hx, hy, by rw [← rx.length, ← ry.length]; exact q.1, fun e => ?_, fun _ e => ?_, fun _ _ p np => ?_⟩
      · subst e
        cases rx
        exact k _ _ _ _ TK.refl (.tup hy ry) g q.2
      · subst e
        cases ry
        have q2 := q.2
        rw [List.append_nil] at q2
        exact k _ _ _ _ TK.refl (.tup hx rx) g q2
      · exact k _ _ _ _ (TK.laid np) (.tup (SqT.of upd_same) ((rx.append ry).mono (TK.laid np))) (g.laid np) q.2
    | _ => exact q.elim
  | ref => cases py with
    | ref =>
      obtain ⟨xs, ys, h1, h2, h3, q⟩ := q
      obtain ⟨vs, e1, r1⟩ := g _ _ h1
      obtain ⟨us, e2, r2⟩ := g _ _ h2
      exact ⟨_, op_cat, _, _, vs, us, rfl, rfl, e1, e2, by rw [← r1.length, ← r2.length]; exact h3, fun p np => k _ _ (.ref p) _ (TK.laid np) .ref (g.new (o' := .lst (xs ++ ys)) np ⟨_, upd_same, (r1.append r2).mono (TK.laid np)⟩) (q p (g.fresh np))⟩
    | _ => exact q.elim
  | _ => exact q.elim
/-- two ints in, a value out -/
def oI (C : Int → Int → Prop) (f : Int → Int → Dv) : R2q := fun x y G Q => match x, y with
  | .int i, .int j => C i j ∧ Q (f i j) G
  | _, _ => False
def oI0 (f : Int → Int → Dv) : R2q := fun x y G Q => match x, y with
  | .int i, .int j => Q (f i j) G
  | _, _ => False
theorem or_I {f : Value → Value → Sem Value} {C : Int → Int → Prop} {g : Int → Int → V} {d : Int → Int → Dv} (h : OpR X f (rI C g)) (hd : ∀ i j H, Rp X.K H (d i j) (g i j)) : Or X f (oI C d) := or_by fun wx wy x y H G Q' Q px py ga q k => by
  cases px with
  | int => cases py with
    | int => exact ⟨_, h, _, _, rfl, rfl, q.1, k _ _ _ _ TK.refl (hd _ _ _) ga q.2⟩
    | _ => exact q.elim
  | _ => cases py <;> exact q.elim
theorem or_I0 {f : Value → Value → Sem Value} {g : Int → Int → V} {d : Int → Int → Dv} (h : OpR X f (rI0 g)) (hd : ∀ i j H, Rp X.K H (d i j) (g i j)) : Or X f (oI0 d) := or_by fun wx wy x y H G Q' Q px py ga q k => by
  cases px with
  | int => cases py with
    | int => exact ⟨_, h, _, _, rfl, rfl, k _ _ _ _ TK.refl (hd _ _ _) ga q⟩
    | _ => exact q.elim
  | _ => cases py <;> exact q.elim
abbrev oSub : R2q := oI0 fun i j => .int (i - j)
theorem or_sub : Or X (binaryOp .Sub) oSub := or_I0 op_sub fun _ _ _ => .int
abbrev oFdiv : R2q := oI CDiv fun i j => .int (i / j)
theorem or_fdiv : Or X (binaryOp .FloorDiv) oFdiv := or_I op_fdiv fun _ _ _ => .int
abbrev oMod : R2q := oI (fun _ j => 0 < j) fun i j => .int (i % j)
theorem or_mod : Or X (binaryOp .Mod) oMod := or_I op_mod fun _ _ _ => .int
abbrev oPow : R2q := oI CPow fun i j => .int (i ^ j.toNat)
theorem or_pow : Or X (binaryOp .Pow) oPow := or_I op_pow fun _ _ _ => .int
abbrev oLt : R2q := oI0 fun i j => .bl (decide (i < j))
abbrev oLe : R2q := oI0 fun i j => .bl (decide (i ≤ j))
abbrev oGt : R2q := oI0 fun i j => .bl (decide (j < i))
abbrev oGe : R2q := oI0 fun i j => .bl (decide (j ≤ i))
theorem or_lt : Or X (compareOp .Lt) oLt := or_I0 op_lt fun _ _ _ => .bl
theorem or_le : Or X (compareOp .LtE) oLe := or_I0 op_le fun _ _ _ => .bl
theorem or_gt : Or X (compareOp .Gt) oGt := or_I0 op_gt fun _ _ _ => .bl
theorem or_ge : Or X (compareOp .GtE) oGe := or_I0 op_ge fun _ _ _ => .bl
/-- products: of ints; of a list and an int -/
def oMul : R2q := fun x y G Q => match x, y with
  | .int i, .int j => CMul i j ∧ Q (.int (i * j)) G
  | .ref a, .int k => ∃ xs, G a = some (.lst xs) ∧ -(2 ^ 63) ≤ k ∧ k < 2 ^ 63 ∧ xs.length * k.toNat ≤ sizeLine ∧ ∀ p, G p = none → Q (.ref p) (put G p (.lst (List.replicate k.toNat xs).flatten))
  | .tup xs, .int k => (xs ≠ [] ∧ 2 ≤ k ∧ k ≤ 1000 ∧ xs.length ≤ 1000) ∧ Q (.tup (List.replicate k.toNat xs).flatten) G
  | _, _ => False
theorem or_mul : Or X (binaryOp .Mult) oMul := or_by fun wx wy x y H G Q' Q px py g q k => by
  cases px with
  | int => cases py with
    | int => exact ⟨_, op_mul, _, _, rfl, rfl, q.1, k _ _ _ _ TK.refl .int g q.2⟩
    | _ => exact q.elim
  | ref => cases py with
    | int =>
      obtain ⟨xs, h1, h2, h3, h4, q⟩ := q
      obtain ⟨vs, e1, r1⟩ := g _ _ h1
      exact ⟨_, op_rep, _, _, vs, rfl, rfl, e1, h2, h3, by rw [← r1.length]; exact h4, fun p np => k _ _ (.ref p) _ (TK.laid np) .ref (g.new (o' := .lst (List.replicate _ xs).flatten) np ⟨_, upd_same, (r1.rep _).mono (TK.laid np)⟩) (q p (g.fresh np))⟩
    | _ => exact q.elim
  | @tup ws a vs hx rx => cases py with
    | int =>
      obtain ⟨⟨h1, h2, h3, h4⟩, q⟩ := q
      exact ⟨_, op_repT, _, _, vs, rfl, rfl, hx, fun e => h1 (by subst e; cases rx; rfl), h2, h3, by rw [← rx.length]; exact h4, fun p np => k _ _ _ _ (TK.laid np) (.tup (SqT.of upd_same) ((rx.rep _).mono (TK.laid np))) (g.laid np) q⟩
    | _ => exact q.elim
  | _ => cases py <;> exact q.elim
/-- is None, is not None -/
def isNo : Dv → Bool | .non => true | _ => false
def oIs : R2q := fun x y G Q => match y with | .non => Q (.bl (isNo x)) G | _ => False
def oIsn : R2q := fun x y G Q => match y with | .non => Q (.bl (!isNo x)) G | _ => False
theorem Rp.isn {w : Dv} {v : V} (r : Rp K H w v) : decide (v = V.non) = isNo w := by cases r <;> simp [isNo]
theorem Rp.isnn {w : Dv} {v : V} (r : Rp K H w v) : (!decide (v = V.non)) = (!isNo w) := by rw [r.isn]
theorem or_is : Or X (compareOp .Is) oIs := or_by fun wx wy x y H G Q' Q px py g q k => by
  cases py with
  | non => exact ⟨_, op_isN, rfl, by rw [px.isn]; exact k _ _ _ _ TK.refl .bl g q⟩
  | _ => exact q.elim
theorem or_isn : Or X (compareOp .IsNot) oIsn := or_by fun wx wy x y H G Q' Q px py g q k => by
  cases py with
  | non => exact ⟨_, op_notN, rfl, by rw [px.isnn]; exact k _ _ _ _ TK.refl .bl g q⟩
  | _ => exact q.elim
/-- ==, != of data without bools; of lists of such -/
def oEqN (neg : Bool) : R2q := fun x y G Q => match x, y with
  | .int i, .int j => Q (.bl (neg ^^ decide (i = j))) G
  | .non, .non => Q (.bl (neg ^^ true)) G
  | .int _, .non => Q (.bl (neg ^^ false)) G
  | .non, .int _ => Q (.bl (neg ^^ false)) G
  | .tup a, .tup b => (a.all (nb 8) = true ∧ b.all (nb 8) = true) ∧ Q (.bl (neg ^^ decide (a = b))) G
  | .tup a, .non => a.all (nb 8) = true ∧ Q (.bl (neg ^^ false)) G
  | .non, .tup b => b.all (nb 8) = true ∧ Q (.bl (neg ^^ false)) G
  | .str i, .str j => Q (.bl (neg ^^ decide (i = j))) G
  | .bl i, .bl j => Q (.bl (neg ^^ decide (i = j))) G
  | .ref a, .ref b => ∃ xs ys, (G a = some (.lst xs) ∧ G b = some (.lst ys)) ∧ (xs.all (nb 8) = true ∧ ys.all (nb 8) = true) ∧ Q (.bl (neg ^^ decide (xs = ys))) G
  | _, _ => False
abbrev oEq : R2q := oEqN false
abbrev oNe : R2q := oEqN true
theorem nb9 {ws : List Dv} (h : ws.all (nb 8) = true) : nb 9 (.tup ws) = true := h
theorem or_eqN {neg : Bool} {f : Value → Value → Sem Value} (hP : OpR X f (rEqP X.K neg)) : Or X f (oEqN neg) := or_by fun wx wy x y H G Q' Q px py g q k => by
  refine ⟨_, hP, ?_⟩
  have go : ∀ (b : Bool), nb 9 wx = true → nb 9 wy = true → b = decide (wx = wy) → Q' (.bl (neg ^^ b)) G → rEqP X.K neg x y H Q := fun b h1 h2 e q =>
    ⟨_, _, py_dp 9 _ _ h1 px, py_dp 9 _ _ h2 py, py_plain 9 _ h1, py_plain 9 _ h2, Nat.le_trans (py_depth 9 _ h1) (by decide), by
      rw [eqv_nb 9 _ _ h1 h2, ← e]; exact k _ _ _ _ TK.refl .bl g q⟩
  cases px with
  | int => cases py with
    | int => exact go _ rfl rfl (by simp) q
    | non => exact go _ rfl rfl (by simp) q
    | _ => exact q.elim
  | non => cases py with
    | int => exact go _ rfl rfl (by simp) q
    | non => exact go _ rfl rfl (by simp) q
    | tup h r => exact go _ rfl (nb9 q.1) (by simp) q.2
    | _ => exact q.elim
  | str => cases py with
    | str => exact go _ rfl rfl (by simp) q
    | _ => exact q.elim
  | @bl i => cases py with
    | @bl j => exact ⟨.bool i, .bool j, .bl _, .bl _, rfl, rfl, by simp [PyData.depth], by simp only [PyData.eqv]; rw [show (i == j) = decide (i = j) from rfl]; exact k _ _ _ _ TK.refl .bl g q⟩
    | _ => exact q.elim
  | tup h r => cases py with
    | non => exact go _ (nb9 q.1) rfl (by simp) q.2
    | tup h' r' => exact go _ (nb9 q.1.1) (nb9 q.1.2) (by simp) q.2
    | _ => exact q.elim
  | ref => cases py with
    | ref =>
      obtain ⟨xs, ys, ⟨h1, h2⟩, ⟨n1, n2⟩, q⟩ := q
      obtain ⟨vs, e1, r1⟩ := g _ _ h1
      obtain ⟨us, e2, r2⟩ := g _ _ h2
      exact ⟨_, _, .lst (SqL.of e1) (pys_dp n1 r1), .lst (SqL.of e2) (pys_dp n2 r2), by simpa [PyData.plain] using pys_plain n1, by simpa [PyData.plain] using pys_plain n2, by
        have := pys_depth n1
        simp only [PyData.depth]; omega, by
        simp only [PyData.eqv]
        rw [eqvAll_nb n1 n2]; exact k _ _ _ _ TK.refl .bl g q⟩
    | _ => exact q.elim
  | ty => cases py <;> exact q.elim
theorem or_eq (hu : X.A.units + 64 < cLine) : Or X (compareOp .Eq) oEq := or_eqN (op_eqP hu)
theorem or_ne (hu : X.A.units + 64 < cLine) : Or X (compareOp .NotEq) oNe := or_eqN (op_neP hu)
/-- in, not in: of a tuple, a list -/
def oInN (neg : Bool) : R2q := fun x y G Q => match y with
  | .tup ws => (nb 8 x = true ∧ ws.all (nb 8) = true) ∧ Q (.bl (neg ^^ decide (x ∈ ws))) G
  | .ref a => ∃ ws, G a = some (.lst ws) ∧ (nb 8 x = true ∧ ws.all (nb 8) = true) ∧ Q (.bl (neg ^^ decide (x ∈ ws))) G
  | _ => False
abbrev oIn : R2q := oInN false
abbrev oNin : R2q := oInN true
theorem or_inN {neg : Bool} {f : Value → Value → Sem Value} (hP : OpR X f (rInP X.K neg)) : Or X f (oInN neg) := or_by fun wx wy x y H G Q' Q px py g q k => by
  refine ⟨_, hP, ?_⟩
  cases py with
  | tup h r =>
    obtain ⟨⟨n1, n2⟩, q⟩ := q
    exact ⟨_, _, py_dp 8 _ _ n1 px, .inr (.tup h (pys_dp n2 r)), py_plain 8 _ n1, pys_plain n2, Nat.le_trans (py_depth 8 _ n1) (by decide), by rw [any_nb n1 n2]; exact k _ _ _ _ TK.refl .bl g q⟩
  | ref =>
    obtain ⟨ws, h, ⟨n1, n2⟩, q⟩ := q
    obtain ⟨vs, e1, r1⟩ := g _ _ h
    exact ⟨_, _, py_dp 8 _ _ n1 px, .inl (.lst (SqL.of e1) (pys_dp n2 r1)), py_plain 8 _ n1, pys_plain n2, Nat.le_trans (py_depth 8 _ n1) (by decide), by rw [any_nb n1 n2]; exact k _ _ _ _ TK.refl .bl g q⟩
  | _ => exact q.elim
theorem or_in (hu : X.A.units + 64 < cLine) : Or X (compareOp .In) oIn := or_inN (op_inP hu)
theorem or_nin (hu : X.A.units + 64 < cLine) : Or X (compareOp .NotIn) oNin := or_inN (op_ninP hu)
abbrev uNeg : Dv → Hq → Qv → Prop := fun x G Q => match x with | .int i => Q (.int (-i)) G | _ => False
theorem ur_neg : Ur X (unaryOp .USub) uNeg := ur_by fun wx x H G Q' Q px g q k => by
  cases px with
  | int => exact ⟨_, un_neg, _, rfl, k _ _ _ _ TK.refl .int g q⟩
  | _ => exact q.elim

/-! ### items, slices, stores -/
def ixg : R2q := fun x y G Q => match x, y with
  | .tup ws, .int i => ∃ w, atI ws i = some w ∧ Q w G
  | .ref a, .int i => ∃ ws w, (G a = some (.lst ws) ∨ G a = some (.rol ws)) ∧ atI ws i = some w ∧ Q w G
  | _, _ => False
theorem Rps.atI {ws : List Dv} {vs : List V} (r : Rps K H ws vs) {i : Int} {w : Dv} (h : L2.atI ws i = some w) : ∃ v, L2.atI vs i = some v ∧ Rp K H w v := by
  unfold L2.atI at h ⊢
  rw [← r.length]
  cases e : ixN ws.length i with
  | none => rw [e] at h; cases h
  | some j =>
    rw [e] at h
    exact r.get h
theorem ix_any : Ixr X ixg := ix_by fun wx wy x y H G Q' Q px py g q k => by
  cases px with
  | tup h r => cases py with
    | int =>
      obtain ⟨w, h1, q⟩ := q
      obtain ⟨v, e1, r1⟩ := r.atI h1
      exact ⟨_, ix_tup, _, _, _, v, rfl, rfl, h, e1, k _ _ _ _ TK.refl r1 g q⟩
    | _ => exact q.elim
  | ref => cases py with
    | int =>
      obtain ⟨ws, w, h | h, h1, q⟩ := q
      · obtain ⟨vs, e, r⟩ := g _ _ h
        obtain ⟨v, e1, r1⟩ := r.atI h1
        exact ⟨_, ix_list, _, _, _, v, rfl, rfl, SqL.of e, e1, k _ _ _ _ TK.refl r1 g q⟩
      · obtain ⟨o, vs, e, r⟩ := g _ _ h
        obtain ⟨v, e1, r1⟩ := r.atI h1
        exact ⟨_, ix_list, _, _, _, v, rfl, rfl, .inl (.inr ⟨o, e⟩), e1, k _ _ _ _ TK.refl r1 g q⟩
    | _ => exact q.elim
  | _ => cases py <;> exact q.elim
/-- ws[lo:hi] -/
def cut (ws : List Dv) (lo hi : Option Int) : List Dv := (ws.drop (HT.sIx ws.length 0 lo)).take (HT.sIx ws.length ws.length hi - HT.sIx ws.length 0 lo)
theorem Rps.cut {ws : List Dv} {vs : List V} (r : Rps K H ws vs) (lo hi : Option Int) : Rps K H (L3.cut ws lo hi) (cutV vs lo hi) := by
  unfold L3.cut cutV
  rw [← r.length]
  exact (r.drop _).take _
def slg : Rsl := fun x lo hi G Q => match x with
  | .tup ws => Q (.tup (cut ws lo hi)) G
  | .ref a => ∃ ws, (G a = some (.lst ws) ∨ G a = some (.rol ws)) ∧ ∀ p, G p = none → Q (.ref p) (put G p (.lst (cut ws lo hi)))
  | _ => False
theorem sl_any : Slr X slg := sl_by fun w x lo hi H G Q' Q px g q k => by
  cases px with
  | @tup ws a vs h r =>
    refine ⟨_, sl_tupA, _, _, rfl, h, fun ⟨e1, e2⟩ => ?_, fun _ p np => k _ _ _ _ (TK.laid np) (.tup (SqT.of upd_same) ((r.cut lo hi).mono (TK.laid np))) (g.laid np) q⟩
    have e3 : L3.cut ws lo hi = ws := by
      unfold L3.cut
      rw [r.length, e1, e2]
      simp [← r.length]
    have q2 : Q' (.tup (cut ws lo hi)) G := q
    rw [e3] at q2
    exact k _ _ _ _ TK.refl (.tup h r) g q2
  | ref =>
    obtain ⟨ws, h | h, q⟩ := q
    · obtain ⟨vs, e, r⟩ := g _ _ h
      exact ⟨_, sl_list, _, _, rfl, SqL.of e, fun p np => k _ _ (.ref p) _ (TK.laid np) .ref (g.new (o' := .lst (cut ws lo hi)) np ⟨_, upd_same, (r.cut lo hi).mono (TK.laid np)⟩) (q p (g.fresh np))⟩
    · obtain ⟨o, vs, e, r⟩ := g _ _ h
      exact ⟨_, sl_list, _, _, rfl, .inl (.inr ⟨o, e⟩), fun p np => k _ _ (.ref p) _ (TK.laid np) .ref (g.new (o' := .lst (cut ws lo hi)) np ⟨_, upd_same, (r.cut lo hi).mono (TK.laid np)⟩) (q p (g.fresh np))⟩
  | _ => exact q.elim
def stg : Tst := fun o i w G Q => match o, i with
  | .ref a, .int k => ∃ ws j, G a = some (.lst ws) ∧ ixN ws.length k = some j ∧ Q (put G a (.lst (ws.set j w)))
  | _, _ => False
theorem st_any : Pst X stg := st_by fun wo wi wv o i v H G Q' Q po pi pv g q k => by
  refine ⟨_, set_list, ?_⟩
  cases po with
  | @ref a => cases pi with
    | @int kk =>
      obtain ⟨ws, j, h, h1, q⟩ := q
      obtain ⟨vs, e, r⟩ := g _ _ h
      have mu : Mu (H a) := by rw [e]; first | exact Mu.lst | exact Mu.ins
      exact ⟨a, vs, kk, j, rfl, rfl, e, by rw [← r.length]; exact h1, k _ _ (TK.write mu) (g.write (o' := .lst (ws.set j wv)) mu ⟨_, upd_same, (r.set pv j).mono (TK.write mu)⟩) q⟩
    | _ => exact q.elim
  | _ => cases pi <;> exact q.elim
end
end L3
namespace L3
open PySem PySem.Spec PyProof.Rows L2
variable {B : Ax} {K : PySem.W.Frag} {H H1 H2 : Hp} {G G1 G2 : Hq}
/-! ### built-ins -/
abbrev Bq := List Dv → Hq → Qv → Prop
section
variable {X : Cx}
def bLen : Bq := fun ws G Q => match ws with
  | [.tup us] => Q (.int us.length) G
  | [.ref a] => ∃ us, (G a = some (.lst us) ∨ G a = some (.rol us)) ∧ Q (.int us.length) G
  | [.str z] => z.length ≤ sizeLine ∧ Q (.int z.length) G
  | _ => False
theorem cr_len : Cr X (.builtin "len") bLen := cr_by fun ws xs H G Q' Q r g q k => by
  match ws, q, r with
  | [.tup us], q, .cons (.tup h r) .nil => exact ⟨_, call_len_seq, _, _, rfl, .inr h, by rw [← r.length]; exact k _ _ _ _ TK.refl .int g q⟩
  | [.str z], q, .cons .str .nil => exact ⟨_, call_len_str, z, rfl, q.1, k _ _ _ _ TK.refl .int g q.2⟩
  | [.ref a], ⟨us, h, q⟩, .cons .ref .nil =>
    rcases h with h | h
    · obtain ⟨vs, e, r⟩ := g _ _ h
      exact ⟨_, call_len_seq, _, _, rfl, .inl (SqL.of e), by rw [← r.length]; exact k _ _ _ _ TK.refl .int g q⟩
    · obtain ⟨o, vs, e, r⟩ := g _ _ h
      exact ⟨_, call_len_seq, _, _, rfl, .inl (.inl (.inr ⟨o, e⟩)), by rw [← r.length]; exact k _ _ _ _ TK.refl .int g q⟩
/-- sum of ints, of a tuple or a list -/
theorem preSum_ints (ns : List Int) : ∀ n, n ≤ ns.length → preSum (fun i => ns.getD i 0) n = (ns.take n).sum
  | 0, _ => by simp [preSum]
  | n + 1, h => by
    have e : ns.take (n + 1) = ns.take n ++ [ns[n]] := by rw [List.take_add_one]; simp [List.getElem?_eq_getElem (show n < ns.length by omega)]
    show preSum _ n + ns.getD n 0 = _
    rw [preSum_ints ns n (by omega), e, List.sum_append]
    simp [List.getElem?_eq_getElem (show n < ns.length by omega)]
theorem intsAt {us : List Value} {ns : List Int} (h : IntsAre us ns) (i : Nat) (v : Value) (e : us.toArray[i]? = some v) : ∃ t, v = .int (ns.getD i 0) t := by
  have e : us[i]? = some v := by simpa using e
  induction h generalizing i with
  | nil => simp at e
  | cons _ _ _ ih =>
    cases i with
    | zero => simp at e; subst e; exact ⟨_, rfl⟩
    | succ i =>
      obtain ⟨t, et⟩ := ih i (by simpa using e) (by simpa using e)
      exact ⟨t, by simpa using et⟩
def rSumT (K : PySem.W.Frag) : List V → Hp → VK → Prop := fun vs H Q => ∃ (a : Addr) (ns : List Int), vs = [V.ref a] ∧ SqT K H a (ns.map V.int) ∧ Q (.int ns.sum) H
theorem cr_sumT (hc : X.calm = true) : CallR X (.builtin "sum") (rSumT X.K) := by
  intro pins s σ H vs us Q I r ⟨a, ns, e, hS, q⟩
  subst e
  cases vals1 r with
  | intro u h =>
    obtain ⟨rfl, rv⟩ := h
    cases rv
    obtain ⟨its, ri, p, hz⟩ := I.tuple hS
    have hi := Vals.ints ri
    have hl := hi.length
    refine call_sum_walkAnyS (PySem.W.iter_tupleW (A := X.A.in1) (I.ok.hd hc) (show s.heap.IsTuple a its.toArray from p) fun s₂ e W st hfp hw hk => ?_)
    refine ⟨_, _, _, _, _, _, _, fun i => ns.getD i 0, rfl, W, st, hfp, fun i v hv => intsAt hi i v hv, fun s' t' m => ?_⟩
    obtain ⟨h', tk, rfl, hk'⟩ := PySem.W.moved_old e rfl m
    have es : its.toArray.size = ns.length := by simp; omega
    rw [es, preSum_ints ns _ (Nat.le_refl _), List.take_length]
    exact ⟨.int ns.sum, H, I.kept hk', ⟨_, rfl⟩, q⟩
def bSum : Bq := fun ws G Q => match ws with
  | [.tup us] => ∃ ns : List Int, us = ns.map .int ∧ Q (.int ns.sum) G
  | [.ref a] => ∃ ns : List Int, G a = some (.lst (ns.map .int)) ∧ Q (.int ns.sum) G
  | _ => False
theorem cr_sumA (hc : X.calm = true) : Cr X (.builtin "sum") bSum := cr_by fun ws xs H G Q' Q r g q k => by
  match ws, q, r with
  | [.tup us], ⟨ns, e, q⟩, .cons (.tup h r) .nil =>
    subst e
    have := r.ints; subst this
    exact ⟨_, cr_sumT hc, _, ns, rfl, h, k _ _ _ _ TK.refl .int g q⟩
  | [.ref a], ⟨ns, h, q⟩, .cons .ref .nil =>
    obtain ⟨vs, e, r⟩ := g _ _ h
    have := r.ints; subst this
    exact ⟨_, cr_sum hc, _, ns, rfl, SqL.of e, k _ _ _ _ TK.refl .int g q⟩
/-- the least, the greatest of ints -/
def minI : List Int → Int
  | [] => 0
  | n :: ns => ns.foldl min n
def maxI : List Int → Int
  | [] => 0
  | n :: ns => ns.foldl max n
theorem foldl_min_le : ∀ (ns : List Int) (n : Int), ns.foldl min n ≤ n ∧ ∀ x ∈ ns, ns.foldl min n ≤ x
  | [], n => ⟨Int.le_refl _, fun _ h => by simp at h⟩
  | y :: ns, n => by
    obtain ⟨h1, h2⟩ := foldl_min_le ns (min n y)
    refine ⟨by simp only [List.foldl_cons]; omega, fun x hx => ?_⟩
    simp only [List.foldl_cons]
    rcases List.mem_cons.mp hx with rfl | hx
    · omega
    · exact h2 x hx
theorem foldl_min_mem : ∀ (ns : List Int) (n : Int), ns.foldl min n = n ∨ ns.foldl min n ∈ ns
  | [], n => .inl rfl
  | y :: ns, n => by
    simp only [List.foldl_cons]
    rcases foldl_min_mem ns (min n y) with h | h
    · rw [h]
      by_cases hc : n ≤ y
      · rw [Int.min_eq_left hc]; exact .inl rfl
      · rw [Int.min_eq_right (by omega)]; exact .inr (by simp)
    · exact .inr (by simp [h])
theorem minI_mem {ns : List Int} (h : ns ≠ []) : minI ns ∈ ns := by
  cases ns with
  | nil => exact absurd rfl h
  | cons n ns =>
    rcases foldl_min_mem ns n with e | e
    · show ns.foldl min n ∈ _; rw [e]; simp
    · exact List.mem_cons_of_mem _ e
theorem minI_le {ns : List Int} {x : Int} (h : x ∈ ns) : minI ns ≤ x := by
  cases ns with
  | nil => simp at h
  | cons n ns =>
    rcases List.mem_cons.mp h with rfl | h
    · exact (foldl_min_le ns x).1
    · exact (foldl_min_le ns n).2 x h
theorem foldl_max_le : ∀ (ns : List Int) (n : Int), n ≤ ns.foldl max n ∧ ∀ x ∈ ns, x ≤ ns.foldl max n
  | [], n => ⟨Int.le_refl _, fun _ h => by simp at h⟩
  | y :: ns, n => by
    obtain ⟨h1, h2⟩ := foldl_max_le ns (max n y)
    refine ⟨by simp only [List.foldl_cons]; omega, fun x hx => ?_⟩
    simp only [List.foldl_cons]
    rcases List.mem_cons.mp hx with rfl | hx
    · omega
    · exact h2 x hx
theorem foldl_max_mem : ∀ (ns : List Int) (n : Int), ns.foldl max n = n ∨ ns.foldl max n ∈ ns
  | [], n => .inl rfl
  | y :: ns, n => by
    simp only [List.foldl_cons]
    rcases foldl_max_mem ns (max n y) with h | h
    · rw [h]
      by_cases hc : y ≤ n
      · rw [Int.max_eq_left hc]; exact .inl rfl
      · rw [Int.max_eq_right (by omega)]; exact .inr (by simp)
    · exact .inr (by simp [h])
theorem maxI_mem {ns : List Int} (h : ns ≠ []) : maxI ns ∈ ns := by
  cases ns with
  | nil => exact absurd rfl h
  | cons n ns =>
    rcases foldl_max_mem ns n with e | e
    · show ns.foldl max n ∈ _; rw [e]; simp
    · exact List.mem_cons_of_mem _ e
theorem le_maxI {ns : List Int} {x : Int} (h : x ∈ ns) : x ≤ maxI ns := by
  cases ns with
  | nil => simp at h
  | cons n ns =>
    rcases List.mem_cons.mp h with rfl | h
    · exact (foldl_max_le ns x).1
    · exact (foldl_max_le ns n).2 x h
def bMin : Bq := fun ws G Q => match ws with
  | [.ref a] => ∃ ns : List Int, G a = some (.lst (ns.map .int)) ∧ ns ≠ [] ∧ Q (.int (minI ns)) G
  | [.int i, .int j] => Q (.int (min i j)) G
  | _ => False
def bMax : Bq := fun ws G Q => match ws with
  | [.ref a] => ∃ ns : List Int, G a = some (.lst (ns.map .int)) ∧ ns ≠ [] ∧ Q (.int (maxI ns)) G
  | [.int i, .int j] => Q (.int (max i j)) G
  | _ => False
theorem cr_minA (hc : X.calm = true) : Cr X (.builtin "min") bMin := cr_by fun ws xs H G Q' Q r g q k => by
  match ws, q, r with
  | [.int i, .int j], q, .cons .int (.cons .int .nil) =>
    refine ⟨_, call_min2 hc, i, j, rfl, ?_⟩
    have e : (if j < i then j else i) = min i j := by split <;> omega
    rw [e]; exact k _ _ _ _ TK.refl .int g q
  | [.ref a], ⟨ns, h, hne, q⟩, .cons .ref .nil =>
    obtain ⟨vs, e, r⟩ := g _ _ h
    have := r.ints; subst this
    refine ⟨_, cr_min hc, _, ns, rfl, SqL.of e, List.length_pos_iff.mpr hne, fun m hm hle => ?_⟩
    have : m = minI ns := Int.le_antisymm (hle _ (minI_mem hne)) (minI_le hm)
    rw [this]; exact k _ _ _ _ TK.refl .int g q
theorem cr_maxA (hc : X.calm = true) : Cr X (.builtin "max") bMax := cr_by fun ws xs H G Q' Q r g q k => by
  match ws, q, r with
  | [.int i, .int j], q, .cons .int (.cons .int .nil) =>
    refine ⟨_, call_max2 hc, i, j, rfl, ?_⟩
    have e : (if j > i then j else i) = max i j := by split <;> omega
    rw [e]; exact k _ _ _ _ TK.refl .int g q
  | [.ref a], ⟨ns, h, hne, q⟩, .cons .ref .nil =>
    obtain ⟨vs, e, r⟩ := g _ _ h
    have := r.ints; subst this
    refine ⟨_, cr_max hc, _, ns, rfl, SqL.of e, List.length_pos_iff.mpr hne, fun m hm hle => ?_⟩
    have : m = maxI ns := Int.le_antisymm (le_maxI hm) (hle _ (maxI_mem hne))
    rw [this]; exact k _ _ _ _ TK.refl .int g q
def bInt : Bq := fun ws G Q => match ws with
  | [.int i] => Q (.int i) G
  | [.bl b] => Q (.int (if b then 1 else 0)) G
  | _ => False
theorem cr_int : Cr X (.type "int") bInt := cr_by fun ws xs H G Q' Q r g q k => by
  match ws, q, r with
  | [.int i], q, .cons .int .nil => exact ⟨_, call_int1, .inl ⟨i, rfl, k _ _ _ _ TK.refl .int g q⟩⟩
  | [.bl b], q, .cons .bl .nil => exact ⟨_, call_int1, .inr ⟨b, rfl, k _ _ _ _ TK.refl .int g q⟩⟩
def bAbs : Bq := fun ws G Q => match ws with
  | [.int i] => Q (.int (if i < 0 then -i else i)) G
  | _ => False
theorem cr_abs : Cr X (.builtin "abs") bAbs := cr_by fun ws xs H G Q' Q r g q k => by
  match ws, q, r with
  | [.int i], q, .cons .int .nil => exact ⟨_, call_abs, i, rfl, k _ _ _ _ TK.refl .int g q⟩
def bDivmod : Bq := fun ws G Q => match ws with
  | [.int i, .int j] => CDiv i j ∧ Q (.tup [.int (i / j), .int (i % j)]) G
  | _ => False
theorem cr_divmod : Cr X (.builtin "divmod") bDivmod := cr_by fun ws xs H G Q' Q r g q k => by
  match ws, q, r with
  | [.int i, .int j], q, .cons .int (.cons .int .nil) => exact ⟨_, call_divmod, i, j, rfl, q.1, fun p np => k _ _ _ _ (TK.laid np) (.tup (SqT.of upd_same) (.cons .int (.cons .int .nil))) (g.laid np) q.2⟩
def bTuple : Bq := fun ws G Q => match ws with
  | [.tup us] => Q (.tup us) G
  | [.ref a] => ∃ us, G a = some (.lst us) ∧ Q (.tup us) G
  | _ => False
theorem cr_tuple : Cr X (.type "tuple") bTuple := cr_by fun ws xs H G Q' Q r g q k => by
  match ws, q, r with
  | [.tup us], q, .cons (.tup h r) .nil => exact ⟨_, call_tuple_of, _, _, rfl, .inr ⟨h, k _ _ _ _ TK.refl (.tup h r) g q⟩⟩
  | [.ref a], ⟨us, h, q⟩, .cons .ref .nil =>
    obtain ⟨vs, e, r⟩ := g _ _ h
    exact ⟨_, call_tuple_of, _, _, rfl, .inl ⟨SqL.of e, fun p np => k _ _ _ _ (TK.laid np) (.tup (SqT.of upd_same) (r.mono (TK.laid np))) (g.laid np) q⟩⟩
def bList : Bq := fun ws G Q => match ws with
  | [.tup us] => ∀ p, G p = none → Q (.ref p) (put G p (.lst us))
  | [.ref a] => ∃ us, G a = some (.lst us) ∧ ∀ p, G p = none → Q (.ref p) (put G p (.lst us))
  | _ => False
theorem cr_list : Cr X (.type "list") bList := cr_by fun ws xs H G Q' Q r g q k => by
  match ws, q, r with
  | [.tup us], q, .cons (.tup h r) .nil => exact ⟨_, call_list_of, _, _, rfl, .inr h, fun p np => k _ _ (.ref p) _ (TK.laid np) .ref (g.new (o' := .lst us) np ⟨_, upd_same, r.mono (TK.laid np)⟩) (q p (g.fresh np))⟩
  | [.ref a], ⟨us, h, q⟩, .cons .ref .nil =>
    obtain ⟨vs, e, r⟩ := g _ _ h
    exact ⟨_, call_list_of, _, _, rfl, .inl (SqL.of e), fun p np => k _ _ (.ref p) _ (TK.laid np) .ref (g.new (o' := .lst us) np ⟨_, upd_same, r.mono (TK.laid np)⟩) (q p (g.fresh np))⟩
def bAll : Bq := fun ws G Q => match ws with
  | [.ref a] => ∃ bs : List Bool, G a = some (.lst (bs.map .bl)) ∧ Q (.bl (bs.all id)) G
  | _ => False
theorem cr_allA (hc : X.calm = true) : Cr X (.builtin "all") bAll := cr_by fun ws xs H G Q' Q r g q k => by
  match ws, q, r with
  | [.ref a], ⟨bs, h, q⟩, .cons .ref .nil =>
    obtain ⟨vs, e, r⟩ := g _ _ h
    have := r.bls; subst this
    exact ⟨_, cr_all hc, _, bs, rfl, SqL.of e, k _ _ _ _ TK.refl .bl g q⟩
/-- sorted(ints): the sorted list -/
def bSorted : Bq := fun ws G Q => match ws with
  | [.ref a] => ∃ ns : List Int, G a = some (.lst (ns.map .int)) ∧ ∀ (ns' : List Int) (p : Addr), ns'.Perm ns → ns'.Pairwise (· ≤ ·) → G p = none → Q (.ref p) (put G p (.lst (ns'.map .int)))
  | _ => False
theorem cr_sortedA : Cr X (.builtin "sorted") bSorted := cr_by fun ws xs H G Q' Q r g q k => by
  match ws, q, r with
  | [.ref a], ⟨ns, h, q⟩, .cons .ref .nil =>
    obtain ⟨vs, e, r⟩ := g _ _ h
    have := r.ints; subst this
    exact ⟨_, cr_sortedI, _, ns, rfl, SqL.of e, fun ns' p h1 h2 np => k _ _ (.ref p) _ (TK.laid np) .ref (g.new (o' := .lst (ns'.map .int)) np ⟨_, upd_same, Rps.of_ints⟩) (q ns' p h1 h2 (g.fresh np))⟩
/-- isinstance with a built-in type -/
def isT (w : Dv) (T : String) : Option Bool := match w with
  | .int _ => kitB "int" T
  | .bl _ => kitB "bool" T
  | .str _ => kitB "str" T
  | .non => kitB "NoneType" T
  | .tup _ => kitB "tuple" T
  | _ => none
theorem SqT.ty {K : PySem.W.Frag} {H : Hp} {a : Addr} {vs : List V} (h : SqT K H a vs) : TyX K H (.ref a) (.type "tuple") := by
  rcases h with (h | ⟨o, h⟩) | ⟨o, its, n, h, hc, _⟩
  · exact .base (.tup h)
  · exact .fTuple h
  · exact .kTuple h hc
def bIsi : Bq := fun ws G Q => match ws with
  | [w, .ty T] => match isT w T with
    | some b => Q (.bl b) G
    | none => False
  | _ => False
theorem isT_int : isT (.int i) "int" = some true := by show kitB "int" "int" = _; decide +kernel
theorem isT_bl_int : isT (.bl i) "int" = some true := by show kitB "bool" "int" = _; decide +kernel
theorem isT_non_int : isT .non "int" = some false := by show kitB "NoneType" "int" = _; decide +kernel
theorem isT_str_int : isT (.str i) "int" = some false := by show kitB "str" "int" = _; decide +kernel
theorem isT_tup_int : isT (.tup i) "int" = some false := by show kitB "tuple" "int" = _; decide +kernel
theorem isT_int_bool : isT (.int i) "bool" = some false := by show kitB "int" "bool" = _; decide +kernel
theorem isT_bl_bool : isT (.bl i) "bool" = some true := by show kitB "bool" "bool" = _; decide +kernel
theorem isT_int_tup : isT (.int i) "tuple" = some false := by show kitB "int" "tuple" = _; decide +kernel
theorem isT_bl_tup : isT (.bl i) "tuple" = some false := by show kitB "bool" "tuple" = _; decide +kernel
theorem isT_non_tup : isT .non "tuple" = some false := by show kitB "NoneType" "tuple" = _; decide +kernel
theorem isT_str_tup : isT (.str i) "tuple" = some false := by show kitB "str" "tuple" = _; decide +kernel
theorem isT_tup : isT (.tup i) "tuple" = some true := by show kitB "tuple" "tuple" = _; decide +kernel
theorem cr_isi : Cr X (.builtin "isinstance") bIsi := cr_by fun ws xs H G Q' Q r g q k => by
  match ws, q, r with
  | [w, .ty T], q, .cons (v := x) r (.cons .ty .nil) =>
    unfold bIsi at q
    simp only at q
    cases e : isT w T with
    | none => rw [e] at q; exact q.elim
    | some b =>
      rw [e] at q
      have fin : ∀ t, TyX X.K H x (.type t) → kitB t T = some b → ∃ r0, CallR X (.builtin "isinstance") r0 ∧ r0 [x, .ty T] H Q := fun t ht hb =>
        ⟨_, call_isi, x, .ty T, _, _, b, rfl, .ty T, ht, kit_ty hb, k _ _ _ _ TK.refl .bl g q⟩
      cases r with
      | int => exact fin _ (.base (.int _)) e
      | bl => exact fin _ (.base (.bl _)) e
      | str => exact fin _ (.base (.str _)) e
      | non => exact fin _ (.base .non) e
      | tup h r => exact fin _ (SqT.ty h) e
      | ref => cases e
      | ty => cases e

/-! ### methods of lists -/
abbrev Mq := Dv → List Dv → Hq → Qv → Prop
def upM (B : Ax) (r : Mq) : V → List V → Hp → VK → Prop := fun x xs H Q => ∃ w ws G Q', Rp B.K H w x ∧ Rps B.K H ws xs ∧ AbH B G H ∧ r w ws G Q' ∧ Cn B H Q' Q
def Mr (X : Cx) (id : String) (r : Mq) : Prop := MtR X id (upM (ax X) r)
theorem mr_by {id : String} {r : Mq} (h : ∀ w ws x xs H G Q' Q, Rp X.K H w x → Rps X.K H ws xs → AbH (ax X) G H → r w ws G Q' → Cn (ax X) H Q' Q → ∃ r0, MtR X id r0 ∧ r0 x xs H Q) : Mr X id r :=
  fun pins s σ H x xs v us Q I rx rs ⟨w, ws, G, Q', pw, pws, g, q, k⟩ => by
    obtain ⟨r0, h1, h2⟩ := h w ws x xs H G Q' Q pw pws g q k
    exact h1 pins s σ H x xs v us Q I rx rs h2
def isL (w : Dv) (G : Hq) : Prop := match w with | .ref a => ∃ ws, G a = some (.lst ws) | _ => False
def mth (r : Mq) (to : Te) (t : Ta) : Te := fun τ G Q => to τ G fun w G1 => isL w G1 ∧ t τ G1 fun ws G2 => r w ws G2 Q
def mth0 (r : Mq) (to : Te) : Te := fun τ G Q => to τ G fun w G1 => isL w G1 ∧ r w [] G1 Q
variable {o e : Expr} {es : List Expr} {to : Te} {t : Ta} {name : Str} {apos cpos : Pos} {id : String} {r : Mq}
theorem isL_ty {w : Dv} {x : V} (h : isL w G) (r : Rp B.K H w x) (g : AbH B G H) : tyV B.K "list" x H := by
  cases r with
  | ref => obtain ⟨ws, h⟩ := h; obtain ⟨vs, e, r⟩ := g _ _ h; exact .inl ⟨rfl, _, SqL.of e⟩
  | _ => exact h.elim
theorem e_mth (slot : Slot "list" name id) (hty : typeOf (.builtin id) = pure (.type "method_descriptor")) (hm : Mr X id r) (ho : Pe X o to) (ha : Pa X (e :: es) t)
    (hbase : attributeBase o name X.env (eval o X.env) = eval o X.env := by rfl)
    (hfew : ((backTo cpos (starEach (e :: es) X.env)).all (fun x => !x.1) && (backToKw cpos (keywordEach [] X.env)).all (fun x => x.1.isSome) && decide ((e :: es).length + ([] : List Keyword).length + (if ([] : List Keyword).isEmpty then 0 else 1) < 30)) = true := by rfl)
    (hline : (apos.endLine == cpos.line) = true := by rfl) (hs : starEach (e :: es) X.env = (false, eval e X.env) :: starEach es X.env := by rfl) (hplain : (backTo cpos (starEach es X.env)).any (·.1) = false := by rfl) :
    Pe X (.Call (.Attribute o name apos) (e :: es) [] cpos) (mth r to t) := ⟨PE.imp (pe_bm PySem.F.plainAttrs_list slot hty hm ho.pe ha.pa hbase hfew hline hs hplain) fun σ H Q ⟨τ, G, Q', s, g, h, k⟩ =>
  ⟨τ, G, _, s, g, h, fun x H1 w G1 t1 r1 g1 ⟨hl, h1⟩ => ⟨isL_ty hl r1 g1, τ, G1, _, s.mono t1, g1, h1, fun xs H2 ws G2 t2 r2 g2 h2 => ⟨w, ws, G2, Q', r1.mono t2, r2, g2, h2, k.mono (t1.trans t2)⟩⟩⟩⟩
theorem e_mth0 (slot : Slot "list" name id) (hty : typeOf (.builtin id) = pure (.type "method_descriptor")) (hm : Mr X id r) (ho : Pe X o to)
    (hbase : attributeBase o name X.env (eval o X.env) = eval o X.env := by rfl) (hline : (apos.endLine == cpos.line) = true := by rfl) : Pe X (.Call (.Attribute o name apos) [] [] cpos) (mth0 r to) := ⟨PE.imp (pe_bm0 PySem.F.plainAttrs_list slot hty hm ho.pe hbase hline) fun σ H Q ⟨τ, G, Q', s, g, h, k⟩ =>
  ⟨τ, G, _, s, g, h, fun x H1 w G1 t1 r1 g1 ⟨hl, h1⟩ => ⟨isL_ty hl r1 g1, w, [], G1, Q', r1, .nil, g1, h1, k.mono t1⟩⟩⟩
def mApp : Mq := fun w ws G Q => match w, ws with
  | .ref a, [u] => ∃ us, G a = some (.lst us) ∧ us.length < sizeLine ∧ Q .non (put G a (.lst (us ++ [u])))
  | _, _ => False
theorem mr_app : Mr X "list.append" mApp := mr_by fun w ws x xs H G Q' Q px pxs g q k => by
  match w, ws, q, px, pxs with
  | .ref a, [u], ⟨us, h, hl, q⟩, .ref, .cons (v := y) r .nil =>
    obtain ⟨vs, e, rv⟩ := g _ _ h
    have mu : Mu (H a) := by rw [e]; first | exact Mu.lst | exact Mu.ins
    exact ⟨_, mt_append, a, vs, y, rfl, rfl, e, by rw [← rv.length]; exact hl, k _ _ _ _ (TK.write mu) .non (g.write (o' := .lst (us ++ [u])) mu ⟨_, upd_same, (rv.append (.cons r .nil)).mono (TK.write mu)⟩) q⟩
def mPop : Mq := fun w ws G Q => match w, ws with
  | .ref a, [] => ∃ us u, G a = some (.lst (us ++ [u])) ∧ Q u (put G a (.lst us))
  | _, _ => False
theorem mr_pop : Mr X "list.pop" mPop := mr_by fun w ws x xs H G Q' Q px pxs g q k => by
  match w, ws, q, px, pxs with
  | .ref a, [], ⟨us, u, h, q⟩, .ref, .nil =>
    obtain ⟨vs, e, rv⟩ := g _ _ h
    have mu : Mu (H a) := by rw [e]; first | exact Mu.lst | exact Mu.ins
    have hl := rv.length
    simp only [List.length_append, List.length_singleton] at hl
    obtain ⟨y, ey, ry⟩ := rv.get (i := vs.length - 1) (w := u) (by rw [← hl]; simp)
    have rd := rv.dropLast
    rw [List.dropLast_concat] at rd
    exact ⟨_, mt_pop, a, vs, y, rfl, rfl, e, ey, k _ _ _ _ (TK.write mu) (ry.mono (TK.write mu)) (g.write (o' := .lst us) mu ⟨_, upd_same, rd.mono (TK.write mu)⟩) q⟩
end
end L3
namespace L3
open PySem PySem.Spec PyProof.Rows L2
variable {B : Ax} {K : PySem.W.Frag} {H H1 H2 : Hp} {G G1 G2 : Hq}
/-! ### zip of two or three, each a list or a tuple -/
def SrcOk (K : PySem.W.Frag) (H : Hp) (l : Bool) (a : Addr) (xs : List V) : Prop := match l with | true => SqL K H a xs | false => SqT K H a xs
def SrcIt (h : Heap) (l : Bool) (it a : Addr) (i : Nat) : Prop := match l with | true => h.IsListIter it a i | false => h.IsTupleIter it a i
def SrcIs (h : Heap) (l : Bool) (a : Addr) (items : Array Value) : Prop := match l with | true => h.IsList a items | false => h.IsTuple a items
def SrcO (l : Bool) (a : Addr) : Obj := { cls := .type (match l with | true => "list_iterator" | false => "tuple_iterator"), data := .fields #[.ref a, .int 0 0] }
theorem srcDraws {prog : Program} {w : World} {A : Around} (hh : A.handled = none) (l : Bool) (it a : Addr) (hne : a ≠ it) (items : Array Value) :
    Draws prog w A it [it, a] items.size (fun i v => items[i]? = some v) (fun i h => SrcIt h l it a i ∧ SrcIs h l a items) := by
  cases l with
  | true => exact Draws.list hh it a hne items
  | false => exact Draws.tuple hh it a hne items
theorem srcBegins (l : Bool) (a : Addr) (items : Array Value) : Begins (.ref a) (SrcO l a) fun h => SrcIs h l a items := by
  cases l with
  | true => exact begins_list a items
  | false => exact begins_tuple a items
theorem srcIt0 {h : Heap} {l : Bool} {it a : Addr} (e : h.get? it = some (SrcO l a)) : SrcIt h l it a 0 := by
  cases l with
  | true => exact ⟨_, e, rfl, rfl⟩
  | false => exact ⟨_, e, rfl, rfl⟩
theorem SrcIt.at {h h' : Heap} {l : Bool} {it a : Addr} {i : Nat} (x : SrcIt h l it a i) (k : ∀ o, h.get? it = some o → h'.get? it = some o) : SrcIt h' l it a i := by
  cases l with
  | true => exact Heap.IsListIter.at x k
  | false => exact Heap.IsTupleIter.at x k
theorem SrcIt.ob {h : Heap} {l : Bool} {it a : Addr} {i : Nat} (x : SrcIt h l it a i) : ∃ o, h.get? it = some o ∧ ∀ v, o.data ≠ .cell v := by
  cases l with
  | true => obtain ⟨o, e, _, d⟩ := x; exact ⟨o, e, fun v q => by rw [d] at q; cases q⟩
  | false => obtain ⟨o, e, _, d⟩ := x; exact ⟨o, e, fun v q => by rw [d] at q; cases q⟩
theorem srcIs {X : Cx} {pins : List (Addr × Obj)} {σ : L2.St} {H : Hp} {s : Shared} {l : Bool} {a : Addr} {xs : List V} (I : Inv X pins σ H s) (h : SrcOk X.K H l a xs) : ∃ its : List Value, Vals xs its ∧ SrcIs s.heap l a its.toArray ∧ a < s.heap.objs.size := by
  cases l with
  | true => obtain ⟨its, r, p, _⟩ := I.list h; exact ⟨its, r, p.isList, p.lt⟩
  | false => obtain ⟨its, r, p, _⟩ := I.tuple h; exact ⟨its, r, p, p.lt⟩
theorem srcInj {X : Cx} {pins : List (Addr × Obj)} {σ : L2.St} {H : Hp} {s : Shared} {l : Bool} {a : Addr} {xs ys : List V} (I : Inv X pins σ H s) (h : SrcOk X.K H l a xs) (h' : SrcOk X.K H l a ys) : xs = ys := by
  cases l with
  | true => exact I.list_inj h h'
  | false => exact I.tuple_inj h h'
theorem valsAt {xs : List V} {its : List Value} (r : Vals xs its) {i : Nat} {x : V} {u : Value} (hx : xs[i]? = some x) (hu : its.toArray[i]? = some u) : RelV x u := by
  obtain ⟨u', h1, h2⟩ := r.get hx
  have : its.toArray[i]? = some u' := by simpa using h1
  rw [this] at hu; cases hu; exact h2
/-- two -/
def Iz2 (K : PySem.W.Frag) (l1 : Bool) (a : Addr) (l2 : Bool) (b : Addr) : It :=
  ⟨fun i H => ∃ (xs ys : List V) (x y : V), SrcOk K H l1 a xs ∧ SrcOk K H l2 b ys ∧ xs[i]? = some x ∧ ys[i]? = some y,
    fun i H v H' => ∃ T x y, v = .ref T ∧ H T = none ∧ H' = upd H T (.tup [x, y]) ∧ (∀ xs, SrcOk K H l1 a xs → xs[i]? = some x) ∧ ∀ ys, SrcOk K H l2 b ys → ys[i]? = some y,
    fun i H => ∃ xs ys : List V, SrcOk K H l1 a xs ∧ SrcOk K H l2 b ys ∧ i ≤ xs.length ∧ i ≤ ys.length ∧ (i = xs.length ∨ i = ys.length)⟩
theorem turn_z2 {P : Program} {w : World} {K : PySem.W.Frag} {elts : List Expr} {kk : Nat} {tpos : Pos} {l1 l2 : Bool} {a b z TI TO i1 i2 : Addr} (S : ZipSep2 z TI TO i1 i2 [i1, a] [i2, b]) (na : a ≠ i1) (nb : b ≠ i2) :
    Turn P w K (.Tuple elts kk tpos) (Iz2 K l1 a l2 b) [z, TI, TO, i1, i2] z (fun i h => IsZip h z TI TO .none ∧ IsTupOf2 h TI (.ref i1) (.ref i2) ∧ (∃ x y, IsTupOf2 h TO x y) ∧ SrcIt h l1 i1 a i ∧ SrcIt h l2 i2 b i) where
  mem := by simp
  obj := fun i h st c hc => by
    obtain ⟨hz, hTI, ⟨x, y, hTO⟩, h1, h2⟩ := st
    have e' : c = z ∨ c = TI ∨ c = TO ∨ c = i1 ∨ c = i2 := by simpa using hc
    rcases e' with q | q | q | q | q
    · rw [q]; exact ⟨_, hz, fun v q => nomatch q⟩
    · rw [q]; exact ⟨_, hTI, fun v q => nomatch q⟩
    · rw [q]; exact ⟨_, hTO, fun v q => nomatch q⟩
    · rw [q]; exact h1.ob
    · rw [q]; exact h2.ob
  keep := fun i h h' st k => by
    obtain ⟨hz, hTI, ⟨x, y, hTO⟩, h1, h2⟩ := st
    exact ⟨k z (by simp) _ hz, k TI (by simp) _ hTI, ⟨x, y, k TO (by simp) _ hTO⟩, h1.at fun o q => k i1 (by simp) o q, h2.at fun o q => k i2 (by simp) o q⟩
  item := by
    intro X hP hw hK hc i pins s σ H E I hf st hg
    subst hP hw hK
    obtain ⟨hz, hTI, ⟨x0, y0, hTO⟩, h1, h2⟩ := st
    obtain ⟨xs, ys, x, y, hqx, hqy, hx, hy⟩ := hg
    obtain ⟨its, rv, p, _⟩ := srcIs I hqx
    obtain ⟨its2, rv2, p2, _⟩ := srcIs I hqy
    have hzl : z < s.heap.objs.size := Heap.lt_size hz
    have lx := (List.getElem?_eq_some_iff.mp hx).1
    have ly := (List.getElem?_eq_some_iff.mp hy).1
    have D1 := srcDraws (prog := X.prog) (w := X.w) (A := X.A.in1) (I.ok.hd hc) l1 i1 a na its.toArray
    have D2 := srcDraws (prog := X.prog) (w := X.w) (A := X.A.in1) (I.ok.hd hc) l2 i2 b nb its2.toArray
    refine wpAny_pyNext_zipD2_item S D1 D2 hz hTI hTO ⟨h1, p⟩ ⟨h2, p2⟩ (by rw [List.size_toArray, ← rv.length]; exact lx) (by rw [List.size_toArray, ← rv2.length]; exact ly) fun u u2 h' tk hu hu2 z' TO' h1' h2' hT hsz hk => ?_
    have ru := valsAt rv hx hu
    have ru2 := valsAt rv2 hy hu2
    refine ⟨_, rfl, wpAny_letOwnedTupleGo_zip (s := { s with heap := h', toks := tk }) z' fun h'' z'' sb => ?_⟩
    have hT2 : h''.get? s.heap.objs.size = some { cls := .type "tuple", data := .seq #[u, u2] } := (sb.2 _ (Nat.ne_of_gt hzl)).trans hT
    have new : ObjOk X.prog X.w (upd H s.heap.objs.size (.tup [x, y])) h'' s.heap.objs.size (.tup [x, y]) :=
      ⟨by show 2 ≤ sizeLine; decide, [u, u2], .cons ru (.cons ru2 .nil), ⟨_, hT2, rfl, _, rfl⟩⟩
    have kk' : ∀ c o, c ∉ [z, TI, TO, i1, i2] → s.heap.get? c = some o → h''.get? c = some o := fun c o hb q => by
      simp only [List.mem_cons, List.not_mem_nil, or_false, not_or] at hb
      exact (sb.2 c hb.1).trans (hk c o hb.1 hb.2.2.1 hb.2.2.2.1 hb.2.2.2.2 q)
    have I1 : Inv X pins σ (upd H s.heap.objs.size (.tup [x, y])) { s with heap := h'', toks := tk } := I.turnedNew (t' := tk) kk' hf (Nat.le_refl _) new
    have i1z : i1 ≠ z := fun e => S.zi1 e.symm
    have i2z : i2 ≠ z := fun e => S.zi2 e.symm
    refine ⟨.ref s.heap.objs.size, _, I1, rfl, ⟨_, x, y, rfl, I.hok.fresh (Nat.le_refl _), rfl, fun l hl => by rw [srcInj I hl hqx]; exact hx, fun l hl => by rw [srcInj I hl hqy]; exact hy⟩, ⟨z'', ?_, ⟨u, u2, (sb.2 _ S.TOz).trans TO'⟩, h1'.1.at fun o q => (sb.2 _ i1z).trans q, h2'.1.at fun o q => (sb.2 _ i2z).trans q⟩, fun c hcm => ?_⟩
    · exact (sb.2 _ S.TIz).trans (hk _ _ S.TIz S.TITO S.TIi1 S.TIi2 hTI)
    · obtain ⟨o, e, _⟩ := (by
        have e' : c = z ∨ c = TI ∨ c = TO ∨ c = i1 ∨ c = i2 := by simpa using hcm
        rcases e' with q | q | q | q | q
        · rw [q]; exact ⟨_, hz, True.intro⟩
        · rw [q]; exact ⟨_, hTI, True.intro⟩
        · rw [q]; exact ⟨_, hTO, True.intro⟩
        · rw [q]; obtain ⟨o, e, _⟩ := h1.ob; exact ⟨_, e, True.intro⟩
        · rw [q]; obtain ⟨o, e, _⟩ := h2.ob; exact ⟨_, e, True.intro⟩ : ∃ o, s.heap.get? c = some o ∧ True)
      rw [upd_ne (Nat.ne_of_lt (Heap.lt_size e))]
      exact (hf c hcm).1
  done := by
    intro X hP hw hK hc i pins s σ H E I hf st hg
    subst hP hw hK
    obtain ⟨hz, hTI, ⟨x0, y0, hTO⟩, h1, h2⟩ := st
    obtain ⟨xs, ys, hqx, hqy, e1, e2, hend⟩ := hg
    obtain ⟨its, rv, p, _⟩ := srcIs I hqx
    obtain ⟨its2, rv2, p2, _⟩ := srcIs I hqy
    have m1 := rv.length
    have m2 := rv2.length
    have D1 := srcDraws (prog := X.prog) (w := X.w) (A := X.A.in1) (I.ok.hd hc) l1 i1 a na its.toArray
    have D2 := srcDraws (prog := X.prog) (w := X.w) (A := X.A.in1) (I.ok.hd hc) l2 i2 b nb its2.toArray
    exact wpAny_pyNext_zipD2_end S D1 D2 hz hTI hTO ⟨h1, p⟩ ⟨h2, p2⟩ (by rw [List.size_toArray]; omega) (by rw [List.size_toArray]; omega) (by rw [List.size_toArray, List.size_toArray]; omega) fun h' tk hk => ⟨rfl, I.turnedL (t' := tk) (fun c o hb q => by
      simp only [List.mem_cons, List.not_mem_nil, or_false, not_or] at hb
      exact hk c o hb.1 hb.2.2.1 hb.2.2.2.1 hb.2.2.2.2 q) hf⟩
  self := fun A i s Q E st h => wpAny_pyIter_zip st.1 h
def iZp2 (K : PySem.W.Frag) (ta : TA) : TI := fun σ H R => ta σ H fun vs H1 => ∃ l1 a l2 b xs ys, vs = [.ref a, .ref b] ∧ SrcOk K H1 l1 a xs ∧ SrcOk K H1 l2 b ys ∧ R (Iz2 K l1 a l2 b) H1
section
variable {X : Cx} {e e2 e3 : Expr} {es : List Expr} {t : Ta} {ta : TA} {p pos tpos : Pos} {elts : List Expr} {kk : Nat} {te : Te}
theorem pi_zp2 (hg : Gl X "zip") (hm : X.mg "zip" = none) (ha : PA X [e, e2] ta)
    (hs : starEach [e, e2] X.env = (false, eval e X.env) :: starEach [e2] X.env := by rfl) (hpl : (backTo pos (starEach [e2] X.env)).any (·.1) = false := by rfl) :
    PI X (.Tuple elts kk tpos) (.Call (.Name "zip" p) [e, e2] [] pos) (iZp2 X.K ta) := by
  refine ⟨fun pins s σ H R I h => ?_⟩
  refine Call_ (ld_blt I hg hm PyProof.Rows.boot_zip (PyProof.Rows.callWith_type1 (thn (ha.run pos pins s σ H _ I h) fun us s1 ⟨vs, H1, I1, r1, q1⟩ => ?_) hs hpl))
  obtain ⟨l1, a, l2, b, xs, ys, ex, hqx, hqy, q⟩ := q1
  subst ex
  cases r1 with
  | cons r rr =>
    cases rr with
    | cons r' rr =>
      cases rr
      cases r
      cases r'
      obtain ⟨its, rv, p1, la⟩ := srcIs I1 hqx
      obtain ⟨its2, rv2, p2, lb⟩ := srcIs I1 hqy
      refine zip_begins2 (srcBegins l1 a its.toArray) (srcBegins l2 b its2.toArray) p1 p2 fun h' hz hTI hTO h1 h2 hsz hk => wpAny_pyIter_zip hz ?_
      have I2 : Inv X pins σ H1 { s1 with heap := h' } := I1.kept (t' := s1.toks) hk
      have S := zip_sep2 (N := s1.heap.objs.size) (fp1 := [a]) (fp2 := [b]) (fun c hc => by rw [List.mem_singleton.mp hc]; exact la) (fun c hc => by rw [List.mem_singleton.mp hc]; exact lb)
      have lb' : (b : Nat) < s1.heap.objs.size := lb
      refine ⟨s1.heap.objs.size + 4, _, _, _, H1, rfl, I2, turn_z2 S (Nat.ne_of_lt la) (Nat.ne_of_lt (Nat.lt_succ_of_lt lb')), ⟨hz, hTI, ⟨_, _, hTO⟩, srcIt0 h1, srcIt0 h2⟩, fun c hcm => ?_, q⟩
      have hle : s1.heap.objs.size ≤ c := by
        have e' : c = s1.heap.objs.size + 4 ∨ c = s1.heap.objs.size + 2 ∨ c = s1.heap.objs.size + 3 ∨ c = s1.heap.objs.size ∨ c = s1.heap.objs.size + 1 := by simpa using hcm
        rcases e' with z | z | z | z | z <;> rw [z] <;> first | exact Nat.le_refl _ | exact Nat.le_add_right _ _
      exact I1.fpOk hle (I1.hok.fresh hle)
/-- what a zip walks over: the items, and that the sources stand -/
def srcQ (w : Dv) (G : Hq) (R : List Dv → (Hq → Prop) → Prop) : Prop := match w with
  | .tup us => R us St0
  | .ref a => ∃ us, G a = some (.lst us) ∧ R us (fun G => G a = some (.lst us))
  | _ => False
def zp (us vs : List Dv) : List Dv := (us.zip vs).map fun q => .tup [q.1, q.2]
theorem zp_length {us vs : List Dv} : (zp us vs).length = min us.length vs.length := by simp [zp]
theorem zp_get {us vs : List Dv} {i : Nat} {u v : Dv} (h1 : us[i]? = some u) (h2 : vs[i]? = some v) : (zp us vs)[i]? = some (.tup [u, v]) := by
  have h := List.getElem?_zip_eq_some.mpr (show us[i]? = some (u, v).1 ∧ vs[i]? = some (u, v).2 from ⟨h1, h2⟩)
  simp [zp, h]
/-- such a source, from H1 on: at each later heap its values -/
structure SrcR (B : Ax) (H1 : Hp) (l : Bool) (a : Addr) (us : List Dv) (Sg : Hq → Prop) : Prop where
  at_ : ∀ H G, TK B.K H1 H → AbH B G H → Sg G → ∃ xs, SrcOk B.K H l a xs ∧ Rps B.K H us xs
theorem srcR_tup {a : Addr} {us : List Dv} {xs : List V} (h : SqT B.K H1 a xs) (r : Rps B.K H1 us xs) : SrcR B H1 false a us St0 := ⟨fun H G t _ _ => ⟨xs, t.tu _ _ h, r.mono t⟩⟩
theorem srcR_lst {a : Addr} {us : List Dv} : SrcR B H1 true a us (fun G => G a = some (.lst us)) := ⟨fun H G t g s => by
  obtain ⟨vs, e, r⟩ := g _ _ s
  exact ⟨vs, SqL.of e, r⟩⟩
theorem srcQ_up {w : Dv} {v : V} {R : List Dv → (Hq → Prop) → Prop} (r : Rp B.K H1 w v) (g : AbH B G H1) (h : srcQ w G R) : ∃ l a us Sg, v = .ref a ∧ SrcR B H1 l a us Sg ∧ (∃ xs, SrcOk B.K H1 l a xs) ∧ R us Sg := by
  cases r with
  | tup hq rr => exact ⟨false, _, _, _, rfl, srcR_tup hq rr, ⟨_, hq⟩, h⟩
  | ref =>
    obtain ⟨us, h1, h2⟩ := h
    obtain ⟨vs, e, rr⟩ := g _ _ h1
    exact ⟨true, _, _, _, rfl, srcR_lst, ⟨_, SqL.of e⟩, h2⟩
  | _ => exact h.elim
theorem itr_z2 {l1 l2 : Bool} {a b : Addr} {us vs : List Dv} {S1 S2 : Hq → Prop} (h1 : SrcR B H1 l1 a us S1) (h2 : SrcR B H1 l2 b vs S2) : ItR B H1 (Iz2 B.K l1 a l2 b) (zp us vs) (fun G => S1 G ∧ S2 G) where
  go := fun i H G t g s hi => by
    obtain ⟨xs, o1, r1⟩ := h1.at_ H G t g s.1
    obtain ⟨ys, o2, r2⟩ := h2.at_ H G t g s.2
    have e1 := r1.length
    have e2 := r2.length
    rw [zp_length] at hi
    exact ⟨xs, ys, xs[i]'(by omega), ys[i]'(by omega), o1, o2, by simp, by simp⟩
  yl := fun i H G x H' t g s hi ⟨T, y, y', e1, n, e2, z1, z2⟩ => by
    subst e1; subst e2
    obtain ⟨xs, o1, r1⟩ := h1.at_ H G t g s.1
    obtain ⟨ys, o2, r2⟩ := h2.at_ H G t g s.2
    obtain ⟨u, e3, e4⟩ := r1.get' (z1 _ o1)
    obtain ⟨v, e5, e6⟩ := r2.get' (z2 _ o2)
    exact ⟨_, zp_get e3 e5, TK.laid n, .tup (SqT.of upd_same) (.cons (e4.mono (TK.laid n)) (.cons (e6.mono (TK.laid n)) .nil)), fun _ g => g.laid n⟩
  st := fun H G t g s => by
    obtain ⟨xs, o1, r1⟩ := h1.at_ H G t g s.1
    obtain ⟨ys, o2, r2⟩ := h2.at_ H G t g s.2
    have e1 := r1.length
    have e2 := r2.length
    exact ⟨xs, ys, o1, o2, by rw [zp_length]; omega, by rw [zp_length]; omega, by rw [zp_length]; omega⟩
def wz2 (t : Ta) : Ti := fun τ G R => t τ G fun ws G1 => match ws with
  | [x, y] => srcQ x G1 fun us S1 => srcQ y G1 fun vs S2 => R (zp us vs) (fun G => S1 G ∧ S2 G) G1
  | _ => False
theorem i_zip2 (hg : Gl X "zip") (hm : X.mg "zip" = none) (ha : Pa X [e, e2] t)
    (hs : starEach [e, e2] X.env = (false, eval e X.env) :: starEach [e2] X.env := by rfl) (hpl : (backTo pos (starEach [e2] X.env)).any (·.1) = false := by rfl) :
    Pi X (.Tuple elts kk tpos) (.Call (.Name "zip" p) [e, e2] [] pos) (wz2 t) := ⟨PI.imp (pi_zp2 hg hm ha.pa hs hpl) fun σ H R ⟨τ, G, R', s, g, h, k⟩ =>
  ⟨τ, G, _, s, g, h, fun vs H1 ws G1 t1 r1 g1 h1 => by
    match ws, h1, r1 with
    | [x, y], h1, .cons rx (.cons ry .nil) =>
      obtain ⟨l1, a, us, S1, e1, q1, ⟨xs, o1⟩, h2⟩ := srcQ_up rx g1 h1
      obtain ⟨l2, b, vs, S2, e2, q2, ⟨ys, o2⟩, h3⟩ := srcQ_up ry g1 h2
      subst e1; subst e2
      exact ⟨l1, a, l2, b, xs, ys, rfl, o1, o2, k _ _ _ _ _ t1 g1 (itr_z2 q1 q2) h3⟩⟩⟩
end
end L3
namespace L3
open PySem PySem.Spec PyProof.Rows L2
variable {B : Ax} {K : PySem.W.Frag} {H H1 H2 : Hp} {G G1 G2 : Hq}
section
variable {X : Cx} {a b c e o : Expr} {es : List Expr} {ta tb tc te to : Te} {t tr : Ta} {pos p apos tpos p1 p2 p3 : Pos} {x : Str}
/-! ### chains, types as values, stars, reversals -/
theorem e_bty {n : String} (hg : Gl X x) (hm : X.mg x = none) (hv : bootBuiltins x = some (.type n)) (hn : x ≠ "__name__" := by decide) (hd : (x == ("__debug__" : Str)) = false := by decide) : Pe X (.Name x pos) (cs (.ty n)) :=
  e_cs (pe_bltn (v := .ty n) hg hm hv rfl hn hd) fun _ => .ty
theorem chn_up {r r' : R2q} {σ : L2.St} {H : Hp} {Q : VK} : up B (chn r r' ta tb tc) σ H Q → tChain (up2 B r) (up2 B r') (up B ta) (up B tb) (up B tc) σ H Q := fun ⟨τ, G, Q', s, g, h, k⟩ =>
  ⟨τ, G, _, s, g, h, fun x H1 wx G1 t1 r1 g1 h1 => ⟨τ, G1, _, s.mono t1, g1, h1, fun y H2 wy G2 t2 r2 g2 h2 => ⟨wx, wy, G2, _, r1.mono t2, r2, g2, h2, fun z H3 wz G3 t3 r3 g3 h3 => by
    have t12 := t1.trans t2
    have t13 := t12.trans t3
    cases r3 with
    | @bl k' =>
      refine ⟨k', rfl, ?_⟩
      cases k' with
      | true =>
        rw [if_pos rfl]
        exact ⟨τ, G3, _, s.mono t13, g3, h3, fun u H4 wu G4 t4 r4 g4 h4 => ⟨wy, wu, G4, Q', r2.mono (t3.trans t4), r4, g4, h4, k.mono (t13.trans t4)⟩⟩
      | false =>
        rw [if_neg Bool.false_ne_true]
        exact k _ _ _ _ t13 .bl g3 h3
    | _ => exact h3.elim⟩⟩⟩
theorem e_chn {op op' : CmpOp} {r r' : R2q} (ho : Or X (compareOp op) r) (ho' : Or X (compareOp op') r') (ha : Pe X a ta) (hb : Pe X b tb) (hc : Pe X c tc) (hm : lastMarks [op, op'] [b, c] = false := by with_unfolding_all rfl) : Pe X (.Compare a [op, op'] [b, c] pos) (chn r r' ta tb tc) := ⟨PE.imp (pe_chain ho ho' ha.pe hb.pe hc.pe hm) fun _ _ _ => chn_up⟩
def as (te : Te) (t : Ta) : Ta := fun τ G Q => te τ G fun w G1 => match w with
  | .tup us => t τ G1 fun xs G2 => Q (us ++ xs) G2
  | .ref a => ∃ us, G1 a = some (.lst us) ∧ t τ G1 fun xs G2 => Q (us ++ xs) G2
  | _ => False
theorem a_star (he : Pe X e te) (hr : Pa X es t) (hs : starEach (.Starred e p :: es) X.env = (true, eval e X.env) :: starEach es X.env := by rfl) : Pa X (.Starred e p :: es) (as te t) := ⟨PA.imp (StX.pa_star he.pe hr.pa hs) fun σ H Q ⟨τ, G, Q', s, g, h, k⟩ =>
  ⟨τ, G, _, s, g, h, fun v H1 w G1 t1 r1 g1 h1 => by
    cases r1 with
    | tup hq r => exact ⟨_, _, rfl, .inl hq, τ, G1, _, s.mono t1, g1, h1, fun xs H2 wxs G2 t2 r2 g2 h2 => k _ H2 _ G2 (t1.trans t2) ((r.mono t2).append r2) g2 h2⟩
    | ref =>
      obtain ⟨us, h1, h2⟩ := h1
      obtain ⟨vs, e, r⟩ := g1 _ _ h1
      exact ⟨_, _, rfl, .inr (SqL.of e), τ, G1, _, s.mono t1, g1, h2, fun xs H2 wxs G2 t2 r2 g2 h2 => k _ H2 _ G2 (t1.trans t2) ((r.mono t2).append r2) g2 h2⟩
    | _ => exact h1.elim⟩⟩

/-! ### instances -/
theorem putF_rp {f : Str} {w : Dv} {v : V} (q : Rp K H w v) : ∀ {fs : List (Str × Dv)} {gs : List (Str × V)}, Rpf K H fs gs → ∃ fs', Rpf K H fs' (putF f v gs)
  | _, _, .nil => ⟨_, .cons q .nil⟩
  | _, _, .cons (f := g) h r => by
    unfold putF
    by_cases e : g = f
    · rw [if_pos e]; exact ⟨_, .cons q r⟩
    · rw [if_neg e]
      obtain ⟨fs', r'⟩ := putF_rp q r
      exact ⟨_, .cons h r'⟩
def pf (f : Str) (w : Dv) : List (Str × Dv) → List (Str × Dv)
  | [] => [(f, w)]
  | (g, x) :: r => if g = f then (g, w) :: r else (g, x) :: pf f w r
theorem Rpf.pf {f : Str} {w : Dv} {v : V} (q : Rp K H w v) : ∀ {fs : List (Str × Dv)} {gs : List (Str × V)}, Rpf K H fs gs → Rpf K H (L3.pf f w fs) (putF f v gs)
  | _, _, .nil => .cons q .nil
  | _, _, .cons (f := g) h r => by
    unfold L3.pf putF
    by_cases e : g = f
    · rw [if_pos e, if_pos e]; exact .cons q r
    · rw [if_neg e, if_neg e]; exact .cons h (Rpf.pf q r)
def sfl (C : Addr) (ta tv : Te) (f : Str) : Ts := fun D τ G => tv τ G fun w G1 => ta τ G1 fun u G2 => match u with
  | .ref a => ∃ fs, G2 a = some (.ins C fs) ∧ fs.length < 1000 ∧ D.nx τ (put G2 a (.ins C (pf f w fs)))
  | _ => False
theorem s_fld {f : Str} {C : Addr} {value : Expr} {tv : Te} {pos' : Pos} (ha : Pe X o ta) (hv : Pe X value tv) (hC : Cls X.K C) (hn : NoAttr X.K C f) (hs : swapsWith value (some (.Attribute o f pos')) pos.line X.env = pure false := by rfl) :
    Ps X (.Assign [.Attribute o f pos'] value pos) (sfl C ta tv f) := ⟨PS.imp (ps_fld ha.pe hv.pe hs) fun D σ H ⟨τ, G, D', s, g, h, k⟩ =>
  ⟨τ, G, _, s, g, h, fun v H1 w G1 t1 r1 g1 h1 => ⟨τ, G1, _, s.mono t1, g1, h1, fun u H2 wu G2 t2 r2 g2 h2 => by
    cases r2 with
    | @ref aa =>
      obtain ⟨fs, h2, hl, h3⟩ := h2
      obtain ⟨dx, gs, e1, e2⟩ := g2 _ _ h2
      have mu : Mu (H2 aa) := by rw [e1]; first | exact Mu.lst | exact Mu.ins
      exact ⟨_, C, dx, gs, rfl, e1, hC, hn, by rw [← e2.length]; exact hl, k.nx _ _ _ _ (t1.trans (t2.trans (TK.write mu))) (s.mono (t1.trans (t2.trans (TK.write mu)))) (g2.write (o' := .ins C (pf f w fs)) mu ⟨dx, _, upd_same, (Rpf.pf (r1.mono t2) e2).mono (TK.write mu)⟩) h3⟩
    | _ => exact h2.elim⟩⟩⟩
variable {CX : CXT} {k : Nat} {f C : Addr} {fd : FuncData} {ps : List Str} {sp : Sq} {dws : List Dv} {dvs : List V} {ds : List Value} {m : Str}
def mkI (C : Addr) (sp : Sq) (dws : List Dv) (t : Ta) : Te := fun τ G Q => t τ G fun ws G1 => ∀ x, G1 x = none → sp (.ref x :: (ws ++ dws)) (put G1 x (.ins C [])) (Clo fun v G2 => v = .non ∧ Q (.ref x) G2) (CloX X0)
theorem e_make (M : Mk X.K C f) (F : Fn X.prog X.w X.K X.mg X.base CX k f fd ps sp) (hr : Room (k + 1) X.A) (hg : Gl X x) (hm : X.mg x = some (.ref C)) (hb : Binds X.K fd ps ds) (hd : Vals dvs ds) (hd' : ∀ H, Rps X.K H dws dvs) (hx : Passes CX X E0) (ha : Pa X (e :: es) t)
    (hdb : (x == ("__debug__" : Str)) = false := by decide) (he : starEach (e :: es) X.env = (false, eval e X.env) :: starEach es X.env := by rfl) (hpl : (backTo pos (starEach es X.env)).any (·.1) = false := by rfl) :
    Pe X (.Call (.Name x p) (e :: es) [] pos) (mkI C sp dws t) := ⟨PE.imp (pe_make M F.fn hr hg hm hb hd hx ha.pa hdb he hpl) fun σ H Q ⟨τ, G, Q', s, g, h, k⟩ =>
  ⟨τ, G, _, s, g, h, fun vs H1 ws G1 t1 r1 g1 h1 x dx nx ndx hne => by
    have nx' : (upd H1 dx (.own x)) x = none := by rw [upd_ne (Ne.symm hne)]; exact nx
    have tt := (TK.laid (K := X.K) (o := .own x) ndx).trans (TK.laid (o := .ins C dx []) nx')
    refine ⟨.ref x :: (ws ++ dws), _, fun v G2 => v = .non ∧ Q' (.ref x) G2, X0, .cons .ref ((r1.mono tt).append (hd' _)), (g1.laid ndx).new (o' := .ins C []) nx' ⟨dx, [], upd_same, .nil⟩, h1 x (g1.fresh nx), fun v H2 w G2 t2 r2 g2 ⟨e1, q⟩ => ?_, CnX.zero⟩
    subst e1
    cases r2
    exact ⟨rfl, k _ _ _ _ (t1.trans (tt.trans t2)) .ref g2 q⟩⟩⟩
/-- isinstance(x, C), C an own class -/
structure IsC (K : PySem.W.Frag) (C : Addr) : Prop where
  cl : Cls K C
  ha : PySem.W.findIn K (.ref C) "__class__" = some (some (.builtin "object.__class__"))
  hn : PySem.W.specialIn K (.builtin "object.__class__") "__get__" = some (some (.builtin "getset_descriptor.__get__"))
  htk : PySem.W.takesIn K (.builtin "object.__class__") = some true
  hm : PySem.W.mroIn K C (.type "object") = some true
  ki : PySem.W.kitOne K (.ref C) (.ref C) = some true
def bIsC (C : Addr) : Bq := fun ws G Q => match ws with
  | [.ref a, .ref D] => ∃ fs, G a = some (.ins C fs) ∧ D = C ∧ Q (.bl true) G
  | _ => False
theorem cr_isC (i : IsC X.K C) : Cr X (.builtin "isinstance") (bIsC C) := cr_by fun ws xs H G Q' Q r g q k => by
  match ws, q, r with
  | [.ref a, .ref D], ⟨fs, h, e, q⟩, .cons .ref (.cons .ref .nil) =>
    have e : D = C := e
    subst D
    obtain ⟨dx, gs, e1, e2⟩ := g _ _ h
    exact ⟨_, call_isi, .ref a, .ref C, .ref C, .ref C, true, rfl, .own C, .base (.ins e1 i.cl i.ha i.hn i.htk i.hm), i.ki, k _ _ _ _ TK.refl .bl g q⟩

/-! ### o[i] += e; a, b, c = x, y, z; [::-1] -/
def augS (to ti te : Te) (ip : R2q) : Ts := fun D τ G => to τ G fun o G1 => ti τ G1 fun i G2 => ixg o i G2 fun x G3 => te τ G3 fun y G4 => ip x y G4 fun z G5 => stg o i z G5 fun G6 => D.nx τ G6
def rev (te : Te) : Te := fun τ G Q => te τ G fun w G1 => match w with
  | .tup us => Q (.tup us.reverse) G1
  | .ref a => ∃ us, G1 a = some (.lst us) ∧ ∀ p, G1 p = none → Q (.ref p) (put G1 p (.lst us.reverse))
  | _ => False
end

/-! ### a def, whatever defaults it has -/
structure FunA (K : PySem.W.Frag) (x qual : Str) (st : Stmt) (f : Addr) (fd : FuncData) : Prop where
  ex : ∃ (oc : Value) (od : Option Addr) (dV kV doc pm : Value) (an : Option Addr) (cdv ct : Value) (osl : Array (Option Value)),
    fd = PySem.W.fnOf x qual (defArgs st) (defBody st) (defScope st) dV kV doc pm an cdv ct ∧ K.lookup f = some ⟨oc, od, .func fd, osl⟩ ∧ PySem.W.codeIn K cdv qual = true
  kp : PySem.W.keepIn K (.ref f) = true
theorem fn_okA {P : Program} {w : World} {K : PySem.W.Frag} {mg : Str → Option Value} {base : Heap} {x qual : Str} {st : Stmt} {f : Addr} {fd : FuncData} {N ps : List Str} {k : Nat} {sp : Sq} {t : Ts}
    (F : FunA K x qual st f fd) (S : FnScope N ps (defScope st)) (len : ∀ ws G Q E, sp ws G Q E → ws.length = ps.length)
    (hb : ∀ (cdv : Value) (A : Around) (outer : List Env) (s : Shared) (H : Hp) (E : XK), Rm k (A.deeper (envOfC qual (defScope st) s.heap.objs.size f cdv)) → Pss (cxOf CX0 P w K mg base N qual (defScope st) f cdv A outer s H E).nox (defBody st) t)
    (hr : ∀ ws G Q E, Mono Q → MonoX E → sp ws G Q E → t { nx := fun _ G' => Q .non G', rt := Q } (strt N ws) G) : Fn P w K mg base CX0 (k + 1) f fd ps sp := by
  obtain ⟨oc, od, dV, kV, doc, pm, an, cdv, ct, osl, rfl, lk, hcd⟩ := F.ex
  refine ⟨fn_of lk hcd S (fun vs H Q E ⟨ws, G, Q', E', r, g, h, k, kx⟩ => by rw [← r.length]; exact len _ _ _ _ h) fun A outer s H vs Q E rm ⟨ws, G, Q', E', r, g, h, k, kx⟩ => ?_⟩
  refine ⟨_, (hb cdv A outer s H E rm).pss.nox, strt N ws, G, ⟨fun _ G' => Clo Q' .non G', Clo Q', fun _ _ => False, fun _ _ => False⟩, ?_, g, hr ws G (Clo Q') (CloX E') Clo.mono CloX.mono h,
      ⟨fun σ1 H1 τ1 G1 t1 s1 g1 q1 => k.clo _ _ _ _ t1 .non g1 q1, k.clo, fun _ _ _ _ _ _ _ q => q.elim, fun _ _ _ _ _ _ _ q => q.elim⟩⟩
  have := AbS.start r (N.length - ws.length)
  unfold strt L2.start
  rw [← r.length]
  exact this

/-! ### loops and comprehensions by what they make -/
theorem Wk.eq {τ τ' : Sl} {G G' : Hq} (h : LeS τ' τ) (l : Le G' G) : Wk (fun τ G => τ = τ' ∧ G = G') τ G := ⟨τ', G', h, l, rfl, rfl⟩
theorem for_ix {α : Type} (xs : List α) (enc : α → Dv) {ws : List Dv} {Sg : Hq → Prop} {g : Tg} {tb : Ts} {D : En} {τ : Sl} {G : Hq} (hws : ws = xs.map enc) (Pv : Nat → Sl → Hq → Prop) (h0 : Wk (Pv 0) τ G) (hS : ∀ i τ G, i ≤ xs.length → Pv i τ G → Sg G)
    (hT : ∀ i x τ G, xs[i]? = some x → Pv i τ G → g (enc x) τ G fun τ2 G2 => tb { D with nx := Wk (Pv (i + 1)), ct := Wk (Pv (i + 1)), bk := D.nx } τ2 G2) (hE : ∀ τ G, Pv xs.length τ G → D.nx τ G) : forL ws Sg g tb D τ G := by
  subst hws
  refine ⟨Pv, h0, fun i τ G hi => hS i τ G (by simpa using hi), fun i w τ G hw p => ?_, fun τ G p => hE τ G (by simpa using p)⟩
  rw [List.getElem?_map] at hw
  cases e : xs[i]? with
  | none => rw [e] at hw; cases hw
  | some x => rw [e] at hw; cases hw; exact hT i x τ G e p
/-- a comprehension by its invariant -/
theorem lc_go {ws : List Dv} {Sg : Hq → Prop} {m : Nm} {tt : Tt} {te : Te} {vs : List Nat} {τ : Sl} {G : Hq} {Q : Qv} (hz : ws.length ≤ sizeLine) (h : ∀ D, G D = none → ∃ Pv : Nat → List Dv → Hq → Prop, Pv 0 [] G ∧ (∀ i acc G, Pv i acc G → Sg G ∧ G D = none) ∧
  (∀ i w acc G, ws[i]? = some w → Pv i acc G → bnd m w (wip τ vs) fun τ2 => tt τ2 (put G D (.lst acc)) fun b G3 => match b with
    | true => te τ2 G3 fun v G4 => ∃ G5, G5 D = none ∧ Le (put G5 D (.lst acc)) G4 ∧ Pv (i + 1) (acc ++ [v]) G5
    | false => ∃ G5, G5 D = none ∧ Le (put G5 D (.lst acc)) G3 ∧ Pv (i + 1) acc G5) ∧ ∀ acc G, Pv ws.length acc G → Q (.ref D) (put G D (.lst acc))) : lcL ws Sg m tt te vs τ G Q := by
  unfold lcL; exact ⟨hz, h⟩
/-- a comprehension whose parts change nothing that stood -/
theorem lc_pureL {α : Type} (xs : List α) (enc : α → Dv) (F : α → Option Dv) {ws : List Dv} {Sg : Hq → Prop} {m : Nm} {tt : Tt} {te : Te} {vs : List Nat} {τ : Sl} {G : Hq} {Q : Qv} (hws : ws = xs.map enc) (hz : xs.length ≤ sizeLine) (hS : Sg G)
    (hb : ∀ (i : Nat) (x : α) (D : Addr) (acc : List Dv) (P : List Dv → Hq → Prop), xs[i]? = some x → G D = none → P (acc ++ (F x).toList) G → bnd m (enc x) (wip τ vs) fun τ2 => tt τ2 (put G D (.lst acc)) fun b G3 => match b with
      | true => te τ2 G3 fun v G4 => ∃ G5, G5 D = none ∧ Le (put G5 D (.lst acc)) G4 ∧ P (acc ++ [v]) G5
      | false => ∃ G5, G5 D = none ∧ Le (put G5 D (.lst acc)) G3 ∧ P acc G5)
    (q : ∀ p, G p = none → Q (.ref p) (put G p (.lst (xs.filterMap F)))) : lcL ws Sg m tt te vs τ G Q := by
  subst hws
  refine lc_go (by rw [List.length_map]; exact hz) fun D nD => ⟨fun i acc G' => G' = G ∧ acc = (xs.take i).filterMap F, ⟨rfl, by simp⟩, fun i acc G' ⟨e, _⟩ => by subst e; exact ⟨hS, nD⟩, fun i w acc G' hw ⟨e1, e2⟩ => ?_, fun acc G' ⟨e1, e2⟩ => ?_⟩
  · subst e1
    rw [List.getElem?_map] at hw
    cases e : xs[i]? with
    | none => rw [e] at hw; cases hw
    | some x =>
      rw [e] at hw; cases hw
      have et : (xs.take (i + 1)).filterMap F = acc ++ (F x).toList := by
        rw [List.take_add_one, e, List.filterMap_append, e2]; cases h : F x <;> simp [h]
      exact hb i x D acc (fun acc' G'' => G'' = G' ∧ acc' = (xs.take (i + 1)).filterMap F) e nD ⟨rfl, et.symm⟩
  · subst e1; subst e2
    simpa using q D nD
theorem lc_pure {α : Type} (xs : List α) (enc : α → Dv) (F : α → Option Dv) {ws : List Dv} {Sg : Hq → Prop} {m : Nm} {tt : Tt} {te : Te} {vs : List Nat} {τ : Sl} {G : Hq} {Q : Qv} (hws : ws = xs.map enc) (hz : xs.length ≤ 1000) (hS : Sg G)
    (hb : ∀ (i : Nat) (x : α) (D : Addr) (acc : List Dv) (P : List Dv → Hq → Prop), xs[i]? = some x → G D = none → P (acc ++ (F x).toList) G → bnd m (enc x) (wip τ vs) fun τ2 => tt τ2 (put G D (.lst acc)) fun b G3 => match b with
      | true => te τ2 G3 fun v G4 => ∃ G5, G5 D = none ∧ Le (put G5 D (.lst acc)) G4 ∧ P (acc ++ [v]) G5
      | false => ∃ G5, G5 D = none ∧ Le (put G5 D (.lst acc)) G3 ∧ P acc G5)
    (q : ∀ p, G p = none → Q (.ref p) (put G p (.lst (xs.filterMap F)))) : lcL ws Sg m tt te vs τ G Q := lc_pureL xs enc F hws (Nat.le_of_lt (small1000 hz)) hS hb q
end L3
namespace L3
open PySem PySem.Spec PyProof.Rows L2
variable {B : Ax} {K : PySem.W.Frag} {H H1 H2 : Hp} {G G1 G2 : Hq}
/-! ### a value that is called -/
/-- at each state of X the value f, called, answers as sp says -/
structure Held (X : Cx) (f : Addr) (sp : Sq) : Prop where
  at_ : ∀ {pins s σ H}, Inv X pins σ H s → PySem.W.FnAt f s.heap
  run : ∀ {pins s σ H us vs Q}, Inv X pins σ H s → Vals vs us → upP (ax X) sp vs H Q E0 → wpAny (model X.prog X.w) X.A (PySem.call (.ref f) us) (EP X pins σ Q) X.xe s
section
variable {X : Cx} {CX : CXT} {k : Nat} {f : Addr} {fd : FuncData} {ps : List Str} {sp : Sq} {x : Str} {p pos : Pos} {e : Expr} {es : List Expr} {t : Ta}
theorem held_fn (F : Fn X.prog X.w X.K X.mg X.base CX k f fd ps sp) (hr : Room k X.A) (lk : ∃ oc od osl, X.K.lookup f = some ⟨oc, od, .func fd, osl⟩) (hb : Binds X.K fd ps []) (hx : Passes CX X E0) : Held X f sp :=
  ⟨fun I => let ⟨oc, od, osl, h⟩ := lk; ⟨oc, od, fd, osl, I.kIn _ _ h⟩, fun I r q => run_fn F.fn hr hb .nil hx I r (by rw [List.append_nil]; exact q)⟩
theorem e_callH {i : Nat} (F : Held X f sp) (hN : X.N[i]? = some x) (hv : Vis X.env.scope x) (ha : Pa X (e :: es) t)
    (hdb : (x == ("__debug__" : Str)) = false := by decide) (hcd : (x == ("__classdict__" : Str)) = false := by decide) (he : starEach (e :: es) X.env = (false, eval e X.env) :: starEach es X.env := by rfl) (hpl : (backTo pos (starEach es X.env)).any (·.1) = false := by rfl) :
    Pe X (.Call (.Name x p) (e :: es) [] pos) (callL i f sp t) := ⟨⟨fun pins s σ H Q I ⟨τ, G, Q', sA, g, ⟨hi, h⟩, k⟩ => by
  obtain ⟨v, hvv, r⟩ := sA.get hi
  cases r
  refine wpAny_Call_Name_kw (thn ((pe_var (pos := p) hN hv hdb hcd).run pins s σ H (fun w H1 => w = .ref f ∧ H1 = H) I ⟨.ref f, hvv, rfl, rfl⟩) fun u s1 ⟨w, H1, I1, r1, q1, q2⟩ => ?_)
  subst q1; subst q2; cases r1
  refine PySem.W.callWith_F (first := []) (F.at_ I1) (thn (ha.pa.run pos pins s1 σ H1 (fun vs H2 => upP (ax X) sp vs H2 Q E0) I1 ⟨τ, G, fun ws G1 => sp ws G1 (Clo Q') (CloX X0), sA, g, h, fun vs H1 ws G1 t1 r1 g1 h1 => ⟨ws, G1, Q', X0, r1, g1, h1, k.mono t1, CnX.zero⟩⟩) fun us s2 ⟨vs, H2, I2, r2, q⟩ => ⟨F.at_ I2, ?_⟩) he hpl
  exact F.run I2 r2 q⟩⟩
end

/-! ### a lambda -/
abbrev LF (q : Str) (params : Arguments) (scope : Scope) (cl : List (Str × Addr)) (c : Addr) : NdefX.NF := ⟨"<lambda>", q, params, [], scope, cl, c⟩
def strtF (N : List Str) (ws : List Dv) (cs : List (Option Dv)) : Sl := ws.map some ++ (cs ++ List.replicate (N.length - ws.length - cs.length) none)
theorem AbS.app : ∀ {τ τ' : Sl} {σ σ' : L2.St}, AbS K H τ σ → AbS K H τ' σ' → AbS K H (τ ++ τ') (σ ++ σ')
  | _, _, _, _, .nil, h => h
  | _, _, _, _, .non r, h => .non (AbS.app r h)
  | _, _, _, _, .som a r, h => .som a (AbS.app r h)
theorem AbS.args : ∀ {ws : List Dv} {vs : List V}, Rps K H ws vs → AbS K H (ws.map some) (vs.map some)
  | _, _, .nil => .nil
  | _, _, .cons a r => .som a (AbS.args r)
theorem AbS.free : ∀ n, AbS K H (List.replicate n none) (List.replicate n none)
  | 0 => .nil
  | n + 1 => .non (AbS.free n)
theorem AbS.pick {τ : Sl} {σ : L2.St} (s : AbS K H τ σ) : ∀ js : List Nat, AbS K H (js.map (sget τ)) (js.map (NdefX.slotAt σ))
  | [] => .nil
  | j :: js => by
    rw [List.map_cons, List.map_cons]
    cases e : sget τ j with
    | none => exact .non (AbS.pick s js)
    | some w =>
      obtain ⟨v, hv, r⟩ := s.get e
      rw [NdefX.slotAt_of hv]
      exact .som r (AbS.pick s js)
theorem AbS.len : ∀ {τ : Sl} {σ : L2.St}, AbS K H τ σ → τ.length = σ.length
  | _, _, .nil => rfl
  | _, _, .non r => by simp [AbS.len r]
  | _, _, .som _ r => by simp [AbS.len r]
theorem AbS.strtF {N : List Str} {ws : List Dv} {vs : List V} {cs : Sl} {ds : L2.St} (r : Rps K H ws vs) (s : AbS K H cs ds) : AbS K H (L3.strtF N ws cs) (NdefX.startF N vs ds) := by
  unfold L3.strtF NdefX.startF
  rw [r.length, s.len]
  exact (AbS.args r).app (s.app (AbS.free _))
section
variable {P : Program} {w : World} {mg : Str → Option Value} {base : Heap} {N ps fr : List Str} {q : Str} {params : Arguments} {body : Expr} {scope : Scope} {cl : List (Str × Addr)} {c f : Addr} {pm ctv : Value} {k : Nat}
theorem run_lam {CX : CXT} {A : Around} {outer : List Env} {s : Shared} {us : List Value} {vs : List V} {ds : L2.St} {Q : VK} {E : XK} {tb : TE} (S : NdefX.NScope N ps fr scope) {sl : Array (Option Value)}
    (ho : s.heap.get? f = some { PySem.W.kla_obj "<lambda>" q params body scope cl pm c ctv with slots := sl }) (hc : H c = some (LamX.CodeO c q)) (hb : bindArgs (PySem.W.kla_fn "<lambda>" q params body scope cl pm (.ref c) ctv) ⟨us, []⟩ = pure (ps.zip us)) (hl : vs.length = ps.length)
    (hr : Room (k + 1) A) (e0 : Env0 P w K mg base A outer s H) (C : NdefX.CellsAt cl fr ds s.heap H) (r : Vals vs us) (hbody : PE (NdefX.ncx CX P w K mg base N (LF q params scope cl c) f A outer s H E) body tb) (h : tb (NdefX.startF N vs ds) H Q) :
    codeAny (model P w) A (.call (.ref f) ⟨us, []⟩) (CR CX outer P w H s Q E) s := by
  refine PySem.W.kla_callFunE hr.depth ho rfl S.co S.gen rfl (NdefX.codeO_at e0.hok hc) ?_
  rw [show bindArgs _ _ = _ from hb]
  have lim : s.heap.NoLimit := e0.mod.nolimit.keeps fun b o z => (e0.bs b o z).1
  refine wpAny_pure (wpAny_newFunctionEnv S.nocell (fun y hy => S.par y.1 (List.of_mem_zip hy).1) (fun h1 hn hs => ⟨lim.fresh _ hs, ?_⟩) S.kind)
  have keepAll : ∀ b o, s.heap.get? b = some o → h1.get? b = some o := fun b o z => hs.extBut b o (Nat.ne_of_lt (Heap.lt_size z)) (Heap.get?_push_of_some _ z)
  have J := NdefX.inv_startN (CX := CX) (f := f) (E := E) (N := N) (F := LF q params scope cl c) (tk := s.toks + (ps.zip us).length) S hr.hd e0 hl r C hn keepAll
  refine PySem.W.kla_codeExpr (wpAny_mono (hbody.run [] _ _ H Q J h) (fun u s1 ⟨v, H1, J1, rv, q1⟩ => ⟨v, H1, J1.os, J1.bare, J1.base, J1.hok, rv, q1⟩) fun _ _ z => z)
/-- the view tells the code object -/
def CodG (B : Ax) (c : Addr) (q : Str) (G : Hq) : Prop := ∀ H, AbH B G H → H c = some (LamX.CodeO c q)
theorem CodG.le {q : Str} (h : CodG B c q G) (l : Le G G1) : CodG B c q G1 := fun H g => h H (g.le l)
def lamSp (B : Ax) (c : Addr) (q : Str) (N : List Str) (n : Nat) (cs : List (Option Dv)) (tb : Te) : Sq := fun ws G Q _ => ws.length = n ∧ CodG B c q G ∧ tb (strtF N ws cs) G Q
variable {X : Cx} {pins : List (Addr × Obj)} {σ : L2.St} {s : Shared}
theorem held_lam {js : List Nat} {τ : Sl} {Ng : List Str} {qg : Str} {sg : Scope} {g : Addr} {cdg : Value} {Eg : XK} {tb : Te} (I : Inv X pins σ H s) (S : NdefX.NScope N ps fr scope) (cp : NdefX.Caps X cl fr js) (sA : AbS X.K H τ σ)
    (ho : s.heap.get? f = some (PySem.W.kla_obj "<lambda>" q params body scope cl pm c ctv)) (hf : H f = none) (hs : f ∉ frs X.stack)
    (hb : ∀ us : List Value, us.length = ps.length → bindArgs (PySem.W.kla_fn "<lambda>" q params body scope cl pm (.ref c) ctv) ⟨us, []⟩ = pure (ps.zip us)) (hr : Room (k + 1) (X.A.deeper (envOfC qg sg s.heap.objs.size g cdg)))
    (hbody : ∀ (A : Around) (outer : List Env) (s : Shared) (H : Hp) (E : XK), Room k (A.deeper (NdefX.envF (LF q params scope cl c) f s.heap.objs.size)) → Pe (NdefX.ncx CX0 X.prog X.w X.K X.mg X.base N (LF q params scope cl c) f A outer s H E).nox body tb) :
    Held (cxOf CX0 X.prog X.w X.K X.mg X.base Ng qg sg g cdg X.A X.stack s H Eg).nox f (lamSp (ax X) c q N ps.length (js.map (sget τ)) tb) := by
  have obj : ∀ {pinsZ sZ σZ HZ}, Inv (cxOf CX0 X.prog X.w X.K X.mg X.base Ng qg sg g cdg X.A X.stack s H Eg).nox pinsZ σZ HZ sZ → sZ.heap.get? f = some (PySem.W.kla_obj "<lambda>" q params body scope cl pm c ctv) := fun {pinsZ sZ σZ HZ} J =>
    J.base.keep f _ ho hf hs (fun z => nomatch (show f ∈ ([] : List Addr) from z))
  refine ⟨fun J => ⟨_, _, _, _, obj J⟩, fun {pinsZ sZ σZ HZ us vs Q} J r ⟨ws, GZ, Q', E', rz, gz, ⟨hl, hc, h⟩, kz, _⟩ => ?_⟩
  have un : Un (frs X.stack) [] H HZ s.heap sZ.heap := J.base
  have C0 := NdefX.cells_of I cp
  have tup : ∀ a xs, SqT X.K H a xs → SqT X.K HZ a xs := fun a xs z => by
    rcases z with (z | ⟨o, z⟩) | z
    · exact .inl (.inl (un.tups _ _ z))
    · exact .inl (.inr ⟨o, un.frzs _ _ _ z⟩)
    · exact .inr z
  have C : NdefX.CellsAt cl fr (js.map (NdefX.slotAt σ)) sZ.heap HZ := by
    have mv : ∀ {a : Addr} {v : Option Value}, H a = none → s.heap.IsCell a v → sZ.heap.IsCell a v := fun {a v} n ⟨o, z1, z2⟩ => by
      obtain ⟨sl, z⟩ := un.any z1 n (by simp)
      exact ⟨_, z, z2⟩
    refine ⟨C0.len, fun y a z => ?_, C0.inj, fun i y z => ?_⟩
    · obtain ⟨n, v, hv⟩ := C0.all y a z
      refine ⟨?_, v, mv n hv⟩
      obtain ⟨o, z1, _⟩ := hv
      exact un.free a o z1 n (by simp)
    · obtain ⟨a, z1, z2⟩ := C0.has i y z
      exact ⟨a, z1, fun v hv => let ⟨u, ru, hu⟩ := z2 v hv; ⟨u, ru, mv (C0.all y a z1).1 hu⟩⟩
  have hlv : vs.length = ps.length := by rw [← rz.length]; exact hl
  refine wpAny_call (codeAny_mono (run_lam (CX := CX0) (E := E0) (k := k) S (obj J) (hc HZ gz) (hb us (by rw [← r.length]; exact hlv)) hlv hr J.env0 C r (hbody _ _ sZ HZ E0 (hr.deeper _)).pe.nox
    ⟨_, GZ, Clo Q', AbS.strtF rz ((sA.monoT tup).pick js), gz, h, kz.clo⟩) fun r s' hq => ?_)
  cases r with
  | error e => exact hq.elim
  | ok fl =>
    cases fl with
    | ret u => exact J.after hq
    | next => exact hq.elim
    | brk => exact hq.elim
    | cont => exact hq.elim
end

/-! ### x(e, lambda ..: ..) -/
theorem AbH.put_at (g : AbH B G H) {a : Addr} {o : Ho} (q : AbO B H a o) : AbH B (put G a o) H := fun b u e => by
  by_cases hb : b = a
  · subst hb; rw [put_same] at e; cases e; exact q
  · rw [put_ne hb] at e; exact g b u e
def tabsOf (l : List Addr) (G : Hq) : List (Addr × Str) := l.filterMap fun a => match G a with | some (.tab q) => some (a, q) | _ => none
theorem mem_tabs {l : List Addr} {p : Addr × Str} : p ∈ tabsOf l G ↔ p.1 ∈ l ∧ G p.1 = some (.tab p.2) := by
  unfold tabsOf
  rw [List.mem_filterMap]
  constructor
  · rintro ⟨a, h1, h2⟩
    split at h2
    · rename_i q e; cases h2; exact ⟨h1, e⟩
    · cases h2
  · rintro ⟨h1, h2⟩
    exact ⟨p.1, h1, by rw [h2]⟩
theorem tk_ext (e : LamX.ExtN H H1) : TK K H H1 := ⟨fun a vs h => by
  rcases h with (h | ⟨o, h⟩) | h
  · exact .inl (.inl (e _ _ h fun _ z => by cases z))
  · exact .inl (.inr ⟨o, e _ _ h fun _ z => by cases z⟩)
  · exact .inr h, fun c q h => e _ _ h LamX.codeO_ne⟩
theorem AbH.ext (g : AbH B G H) (e : LamX.ExtN H H1) (t : LamX.Tabs (tabsOf (tabsK B.K) G) H1) : AbH B G H1 := fun a o h => by
  have q := g a o h
  cases o with
  | lst ws => obtain ⟨vs, h1, h2⟩ := q; exact ⟨vs, e _ _ h1 (fun _ z => by cases z), h2.mono (tk_ext e)⟩
  | rol ws => obtain ⟨o, vs, h1, h2⟩ := q; exact ⟨o, vs, e _ _ h1 (fun _ z => by cases z), h2.mono (tk_ext e)⟩
  | ins C fs => obtain ⟨o, vs, h1, h2⟩ := q; exact ⟨o, vs, e _ _ h1 (fun _ z => by cases z), h2.mono (tk_ext e)⟩
  | tab q' => exact ⟨q.1, t (a, q') (mem_tabs.mpr ⟨q.1, h⟩)⟩
  | cod q' => exact e _ _ q LamX.codeO_ne
/-- the view, with the code object told -/
theorem code_view {c : Addr} {q : Str} (g : AbH B G H) (h : H c = some (LamX.CodeO c q)) : ∃ G', Le G G' ∧ CodG B c q G' ∧ AbH B G' H := by
  cases e : G c with
  | none => exact ⟨put G c (.cod q), Le.refl.put e, fun H' g' => g' c _ put_same, g.put_at h⟩
  | some o =>
    refine ⟨G, Le.refl, fun H' g' => ?_, g⟩
    have z := g c o e
    have z' := g' c o e
    cases o with
    | lst ws => obtain ⟨vs, y, _⟩ := z; rw [h] at y; unfold LamX.CodeO at y; cases y
    | rol ws => obtain ⟨o, vs, y, _⟩ := z; rw [h] at y; unfold LamX.CodeO at y; cases y
    | ins C fs => obtain ⟨o, vs, y, _⟩ := z; rw [h] at y; unfold LamX.CodeO at y; cases y
    | tab q' => obtain ⟨_, vs, y, _⟩ := z; rw [h] at y; unfold LamX.CodeO at y; cases y
    | cod q' => have z : H c = _ := z; have z' : H' c = _ := z'; rw [z', ← z, h]
def lamT (B : Ax) (P : Addr) (q : Str) (te : Te) (Ng N : List Str) (n : Nat) (js : List Nat) (tb : Te) (tg : Addr → Sq → Ts) : Te := fun τ G Q => te τ G fun w G1 => G1 P = some (.tab q) ∧
  ∀ f c G2, Le G1 G2 → CodG B c q G2 → tg f (lamSp B c q N n (js.map (sget τ)) tb) { nx := fun _ G' => Clo Q .non G', rt := Clo Q } (strt Ng [w, .ref f]) G2
section
variable {X : Cx} {x a1 a2 : Str} {g c P : Addr} {stg : Stmt} {fd : FuncData} {Ng N ps fr : List Str} {params : Arguments} {body e : Expr} {scope : Scope} {js : List Nat} {k : Nat} {te tb : Te} {tg : Addr → Sq → Ts} {p lpos pos : Pos}
theorem e_lam (hgl : Gl X x) (hm : X.mg x = some (.ref g)) (FA : FunA X.K x x stg g fd) (Sg : FnScope Ng [a1, a2] (defScope stg)) (hbg : Binds X.K fd [a1, a2] []) (TB : LamX.TabB X.base X.mg c P) (hcode : X.env.code = .ref c) (S : NdefX.NScope N ps fr scope)
    (hnd : NdefX.ndefB X.env.scope scope fr = true) (hjs : js.map (fun j => X.N[j]?) = fr.map some) (hdef : defaultsOf params X.env = ([], []))
    (hbind : ∀ (cl : List (Str × Addr)) (pm cv ctv : Value) (us : List Value), us.length = ps.length → bindArgs (PySem.W.kla_fn "<lambda>" (X.env.qual ++ "<lambda>") params body scope cl pm cv ctv) ⟨us, []⟩ = pure (ps.zip us)) (hr : Room (k + 2) X.A) (ha : Pe X e te)
    (hbody : ∀ (f c' : Addr) (A : Around) (outer : List Env) (s : Shared) (H : Hp) (E : XK), Room k (A.deeper (NdefX.envF (LF (X.env.qual ++ "<lambda>") params scope (cloFrom X.env.cells scope.names []) c') f s.heap.objs.size)) →
      Pe (NdefX.ncx CX0 X.prog X.w X.K X.mg X.base N (LF (X.env.qual ++ "<lambda>") params scope (cloFrom X.env.cells scope.names []) c') f A outer s H E).nox body tb)
    (hG : ∀ (cdg : Value) (s : Shared) (H : Hp) (E : XK) (f : Addr) (sp : Sq), Room (k + 1) (X.A.deeper (envOfC x (defScope stg) s.heap.objs.size g cdg)) → Held (cxOf CX0 X.prog X.w X.K X.mg X.base Ng x (defScope stg) g cdg X.A X.stack s H E).nox f sp →
      Pss (cxOf CX0 X.prog X.w X.K X.mg X.base Ng x (defScope stg) g cdg X.A X.stack s H E).nox (defBody stg) (tg f sp))
    (hdb : (x == ("__debug__" : Str)) = false := by decide) (he : starEach [e, .Lambda params body scope lpos] X.env = (false, eval e X.env) :: starEach [.Lambda params body scope lpos] X.env := by rfl) :
    Pe X (.Call (.Name x p) [e, .Lambda params body scope lpos] [] pos) (lamT (ax X) P (X.env.qual ++ "<lambda>") te Ng N ps.length js tb tg) := ⟨⟨fun pins s σ H Q I ⟨τ, G, Q', sA, g0, h, k0⟩ => by
  refine wpAny_Call_Name_kw (ld_glob I hgl hm ?_ hdb)
  refine PySem.W.callWith_K (h₀ := X.base) I.ok.mod.kin FA.kp ?_ he (by rfl)
  rw [he]
  show wpAny _ _ (spliced ((false, eval e X.env) :: backTo pos (starEach [.Lambda params body scope lpos] X.env))) _ _ s
  refine Calls.spliced_cons (thn (ha.pe.run pins s σ H (fun v H1 => ∃ w G1, TK X.K H H1 ∧ Rp X.K H1 w v ∧ AbH (ax X) G1 H1 ∧ G1 P = some (.tab (X.env.qual ++ "<lambda>")) ∧
    ∀ f c G2, Le G1 G2 → CodG (ax X) c (X.env.qual ++ "<lambda>") G2 → tg f (lamSp (ax X) c (X.env.qual ++ "<lambda>") N ps.length (js.map (sget τ)) tb) { nx := fun _ G' => Clo Q' .non G', rt := Clo Q' } (strt Ng [w, .ref f]) G2) I
    ⟨τ, G, _, sA, g0, h, fun v H1 w G1 t r g1 q1 => ⟨w, G1, t, r, g1, q1⟩⟩) fun u s1 ⟨v, H1, I1, r1, w, G1, t1, rw1, g1, hP, h1⟩ => ?_)
  show wpAny _ _ (spliced ((false, eval (.Lambda params body scope lpos) X.env) :: backTo pos (starEach [] X.env))) _ _ s1
  have hfree : ∀ y ∈ scope.names, y.2 = .free → ∃ a, X.env.cells.lookup y.1 = some a := fun y hy z => (NdefX.ndef_free hnd y hy z).elim (fun z => I.ok.has _ (.inl z)) fun z => I.ok.has _ (.inr z)
  refine Calls.spliced_cons (LamX.lam_make2 (T := tabsOf (tabsK (ax X).K) G1) I1 TB hcode (mem_tabs.mpr ⟨(g1 _ _ hP).1, hP⟩) (fun y hy z => ?_) (fun y hy => ?_) hdef hfree fun f c' pm ctv H2 s2 I2 eN T2 hf hfn hfs hc => ?_)
  · have z2 := (mem_tabs.mp hy).2
    rw [z, hP] at z2; injection z2 with z2; injection z2 with z2; exact z2.symm
  · have z := mem_tabs.mp hy
    exact (g1 _ _ z.2).2
  have t2 : TK X.K H1 H2 := tk_ext eN
  obtain ⟨G2, l2, cg, g2⟩ := code_view (g1.ext eN T2) hc
  refine Calls.spliced_nil ⟨I2.kIn, ?_⟩
  obtain ⟨oc, od, dV, kV, doc, pm', an, cdg, ct, osl, rfl, lk, hcd⟩ := FA.ex
  have cp := NdefX.Caps.made (X := X) (scope := scope) (fr := fr) (js := js) I.ok (NdefX.ndef_free hnd) (NdefX.ndef_fr hnd) hjs
  have rc : codeAny (model X.prog X.w) X.A (.call (.ref g) ⟨[u, .ref f], []⟩) (CR CX0 X.stack X.prog X.w H2 s2 Q C8.E0) s2 := by
    refine LamX.run_ofS (CX := CX0) (N := Ng) (ps := [a1, a2]) (us := [u, .ref f]) (vs := [v, .ref f]) lk hcd Sg hr I2.env0 (hbg s2 [u, .ref f] I2.kIn rfl) (.cons r1 (.cons rfl .nil)) rfl fun hr2 => ?_
    have held := held_lam (Ng := Ng) (qg := x) (sg := defScope stg) (g := g) (cdg := cdg) (Eg := C8.E0) I2 S cp (sA.mono (t1.trans t2)) hf hfn hfs (fun us hu => hbind _ _ _ _ us hu) hr2 (hbody f c')
    refine ⟨_, (hG cdg s2 H2 C8.E0 f _ hr2 held).pss.nox, strt Ng [w, .ref f], G2, { nx := fun _ G' => Clo Q' .non G', rt := Clo Q' }, ?_, g2, h1 f c' G2 l2 cg,
      ⟨fun σ3 H3 τ3 G3 t3 s3 g3 q3 => (k0.mono (t1.trans t2)).clo _ _ _ _ t3 .non g3 q3, (k0.mono (t1.trans t2)).clo, fun _ _ _ _ _ _ _ z => z.elim, fun _ _ _ _ _ _ _ z => z.elim⟩⟩
    exact AbS.start (.cons (rw1.mono t2) (.cons .ref .nil)) (Ng.length - 2)
  refine wpAny_call (codeAny_mono rc fun r s' hq => ?_)
  cases r with
  | error e => exact hq.elim
  | ok fl =>
    cases fl with
    | ret u => exact I2.after hq
    | next => exact hq.elim
    | brk => exact hq.elim
    | cont => exact hq.elim⟩⟩
theorem e_lamq {B : Ax} {q : Str} (hB : ax X = B) (hq : X.env.qual ++ "<lambda>" = q) (hgl : Gl X x) (hm : X.mg x = some (.ref g)) (FA : FunA X.K x x stg g fd) (Sg : FnScope Ng [a1, a2] (defScope stg)) (hbg : Binds X.K fd [a1, a2] []) (TB : LamX.TabB X.base X.mg c P) (hcode : X.env.code = .ref c) (S : NdefX.NScope N ps fr scope)
    (hnd : NdefX.ndefB X.env.scope scope fr = true) (hjs : js.map (fun j => X.N[j]?) = fr.map some) (hdef : defaultsOf params X.env = ([], []))
    (hbind : ∀ (cl : List (Str × Addr)) (pm cv ctv : Value) (us : List Value), us.length = ps.length → bindArgs (PySem.W.kla_fn "<lambda>" (X.env.qual ++ "<lambda>") params body scope cl pm cv ctv) ⟨us, []⟩ = pure (ps.zip us)) (hr : Room (k + 2) X.A) (ha : Pe X e te)
    (hbody : ∀ (f c' : Addr) (A : Around) (outer : List Env) (s : Shared) (H : Hp) (E : XK), Room k (A.deeper (NdefX.envF (LF (X.env.qual ++ "<lambda>") params scope (cloFrom X.env.cells scope.names []) c') f s.heap.objs.size)) →
      Pe (NdefX.ncx CX0 X.prog X.w X.K X.mg X.base N (LF (X.env.qual ++ "<lambda>") params scope (cloFrom X.env.cells scope.names []) c') f A outer s H E).nox body tb)
    (hG : ∀ (cdg : Value) (s : Shared) (H : Hp) (E : XK) (f : Addr) (sp : Sq), Room (k + 1) (X.A.deeper (envOfC x (defScope stg) s.heap.objs.size g cdg)) → Held (cxOf CX0 X.prog X.w X.K X.mg X.base Ng x (defScope stg) g cdg X.A X.stack s H E).nox f sp →
      Pss (cxOf CX0 X.prog X.w X.K X.mg X.base Ng x (defScope stg) g cdg X.A X.stack s H E).nox (defBody stg) (tg f sp))
    (hdb : (x == ("__debug__" : Str)) = false := by decide) (he : starEach [e, .Lambda params body scope lpos] X.env = (false, eval e X.env) :: starEach [.Lambda params body scope lpos] X.env := by rfl) :
    Pe X (.Call (.Name x p) [e, .Lambda params body scope lpos] [] pos) (lamT B P q te Ng N ps.length js tb tg) := by
  subst hB; subst hq
  exact e_lam hgl hm FA Sg hbg TB hcode S hnd hjs hdef hbind hr ha hbody hG hdb he
end
end L3
namespace L3
open PySem PySem.Spec PyProof.Rows L2
variable {B : Ax} {K : PySem.W.Frag} {H H1 H2 : Hp} {G G1 G2 : Hq}
/-! ### t * k, k at least one -/
theorem same_mulW (l : Addr) (items : Array Value) (n : Nat) (dd : Option Addr) (sl : Array (Option Value)) (u : Tok) : Meets (Builtin.«tuple.__mul__» ⟨[.ref l, .int 1 u], []⟩) (fun _ R s => s.heap.get? l = some { cls := .type "tuple", dict := dd, data := .seq items n, slots := sl } ∧ R (.ok (.ret (Value.ref l))) s) :=
  .of_wp fun prog w A R s h => by
    obtain ⟨hp, g, d, tk, os⟩ := s
    obtain ⟨hl, h⟩ := h
    have f1 := AutoSeq1.idx_int
    wp_walk using wpAny_loadPart' hl
    repeat (first
      | (refine wpAny_ite_false (decide_eq_false (by decide)) ?_; wp_walk using wpAny_loadPart' hl)
      | (refine wpAny_ite_true (by simp) ?_; wp_walk using wpAny_loadPart' hl))
    exact ⟨_, rfl, h⟩

def rRep1 (K : PySem.W.Frag) : R2 := fun x y H Q => ∃ l xs, x = .ref l ∧ y = .int 1 ∧ SqT K H l xs ∧ Q (.ref l) H
section
variable {X : Cx}
theorem op_rep1 : OpR X (binaryOp .Mult) (rRep1 X.K) := by
  intro pins s σ H x y v u Q I rx ry ⟨l, xs, ex, ey, hT, q⟩
  subst ex; subst ey
  cases rx
  obtain ⟨t, rfl⟩ := ry
  obtain ⟨its, r, ⟨⟨cls, dd, data, sl⟩, ho, hc, n, hd⟩, hs⟩ := I.tuple hT
  simp only at hc hd
  subst hc; subst hd
  exact wpAny_binaryOp_repeat_ref (T := "tuple") (U := "int") (by decide) ⟨_, ho, rfl⟩ (fun s' => typeIs_int s' 1 t) noFill_tuple_mul F.fills_int_mul F.slot_int_rmul repeat_tuple F.slot_int_index.lookup
    (call_meets F.slot_int_rmul (typeIs_int s 1 t) F.entry_int_rmul (F.args_int_rmul_2 _ _) (int_rmul_tuple 1 t l its.toArray n dd sl)
      ⟨ho, rfl, ⟨_, ho, rfl⟩, call_meets F.slot_tuple_mul ⟨_, ho, rfl⟩ F.entry_tuple_mul (F.args_tuple_mul_2 _ _) (same_mulW l its.toArray n dd sl t) ⟨ho, ⟨.ref l, H, I, rfl, q⟩⟩⟩)
def oMulN : R2q := fun x y G Q => match x, y with
  | .tup ws, .int k => (ws ≠ [] ∧ 1 ≤ k ∧ k ≤ 1000 ∧ ws.length ≤ 1000) ∧ Q (.tup (List.replicate k.toNat ws).flatten) G
  | x, y => oMul x y G Q
theorem or_mulN : Or X (binaryOp .Mult) oMulN := or_by fun wx wy x y H G Q' Q px py g q k => by
  by_cases hc : ∃ ws i, wx = .tup ws ∧ wy = .int i
  · obtain ⟨ws, i, e1, e2⟩ := hc
    subst e1; subst e2
    obtain ⟨⟨h1, h2, h3, h4⟩, q⟩ := q
    cases px with
    | @tup _ a vs hx rx =>
      cases py
      by_cases e : i = 1
      · subst e
        refine ⟨_, op_rep1, a, vs, rfl, rfl, hx, ?_⟩
        have e1 : (List.replicate (1 : Int).toNat ws).flatten = ws := by simp
        rw [e1] at q
        exact k _ _ _ _ TK.refl (.tup hx rx) g q
      · exact ⟨_, op_repT, _, _, vs, rfl, rfl, hx, fun z => h1 (by subst z; cases rx; rfl), by omega, h3, by rw [← rx.length]; exact h4, fun p np => k _ _ _ _ (TK.laid np) (.tup (SqT.of upd_same) ((rx.rep _).mono (TK.laid np))) (g.laid np) q⟩
  · have q2 : oMul wx wy G Q' := by
      unfold oMulN at q
      split at q
      · exact (hc ⟨_, _, rfl, rfl⟩).elim
      · exact q
    obtain ⟨r0, hr0, z⟩ : ∃ r0, OpR X (binaryOp .Mult) r0 ∧ r0 x y H Q := ⟨_, or_mul, wx, wy, G, Q', px, py, g, q2, k⟩
    exact ⟨r0, hr0, z⟩

/-! ### xs[::-1] -/
section
variable {prog : Program} {w : World} {A : Around} {E : Value → Shared → Prop} {s : Shared}
theorem turned_places (n : Nat) : Builtin.Slice.slicePlaces ((n : Int) - 1) (-1) (-1) = n := by
  unfold Builtin.Slice.slicePlaces
  have h0 : ¬ ((-1 : Int) > 0) := by decide
  rw [if_neg h0]
  split
  · rw [show (-(-1) : Int) = 1 by decide, Int.ediv_one]; omega
  · omega
theorem turned_applied {sl : Addr} {vs : Value} {n : Nat} {Q : Int × Int × Nat → Shared → Prop} (hs : s.heap.IsSliceOf sl .none .none vs) (p : IsPart vs (some (-1))) (h : Q ((n : Int) - 1, -1, n) s) :
    wpAny (model prog w) A (Builtin.Slice.sliceApplied (.ref sl) (pure (n : Int))) Q E s := by
  obtain ⟨o, ho, _, hd⟩ := id hs
  unfold Builtin.Slice.sliceApplied Builtin.Slice.sliceFields
  refine wpAny_bind (wpAny_bind (wpAny_field ho hd (x := .none) rfl (wpAny_bind (wpAny_field ho hd (x := .none) rfl (wpAny_bind (wpAny_field ho hd (x := vs) rfl (wpAny_pure ?_)))))))
  refine wpAny_bind (HT.slicePart_ p ?_)
  show wpAny _ _ (if ((-1 : Int) == 0) = true then _ else _) _ _ s
  rw [if_neg (by decide)]
  refine wpAny_bind (HT.slicePart_ .none (wpAny_bind (HT.slicePart_ .none (wpAny_bind (wpAny_pure ?_)))))
  show wpAny _ _ (pure ((n : Int) - 1, (-1 : Int), Builtin.Slice.slicePlaces ((n : Int) - 1) (-1) (-1))) _ _ s
  rw [turned_places]
  exact wpAny_pure h
theorem fm_congr {α β : Type} {f g : α → Option β} : ∀ {l : List α}, (∀ x ∈ l, f x = g x) → l.filterMap f = l.filterMap g
  | [], _ => rfl
  | x :: l, h => by rw [List.filterMap_cons, List.filterMap_cons, h x (by simp), fm_congr fun y hy => h y (by simp [hy])]
theorem turned_pick (xs : Array Value) : ((List.range xs.size).filterMap fun (m : Nat) => xs[(((xs.size : Int) - 1) + (m : Int) * (-1)).toNat]?) = xs.toList.reverse := by
  have e1 : ((List.range xs.size).filterMap fun (m : Nat) => xs[(((xs.size : Int) - 1) + (m : Int) * (-1)).toNat]?) = ((List.range xs.size).map fun k => xs.size - 1 - k).filterMap (xs[·]?) := by
    rw [List.filterMap_map]
    refine fm_congr fun m hm => ?_
    have hm := List.mem_range.mp hm
    show xs[_]? = xs[xs.size - 1 - m]?
    have e : (((xs.size : Int) - 1) + (m : Int) * (-1)).toNat = xs.size - 1 - m := by omega
    rw [e]
  rw [e1, PySem.W.krv_range, List.filterMap_reverse, PySem.W.krv_all]
theorem getItem_turned {t sl : Addr} {items : Array Value} {vs : Value} {Q : Value → Shared → Prop} (ht : IsTup s.heap t items) (hs : s.heap.IsSliceOf sl .none .none vs) (p : IsPart vs (some (-1))) (hz : items.size ≤ sizeLine)
    (h : Q (.ref s.heap.objs.size) { s with heap := s.heap.push { cls := .type "tuple", data := .seq items.toList.reverse.toArray } }) : wpAny (model prog w) A (getItem (.ref t) (.ref sl)) Q E s := by
  obtain ⟨o, ho, hc, _⟩ := id hs
  have hT : s.TypeIs (.ref sl) "slice" := ⟨o, ho, hc⟩
  have hfit : sizeOk (.seq items.toList.reverse.toArray) := by
    show items.toList.reverse.toArray.size ≤ sizeLine
    simpa using hz
  unfold getItem
  try with_reducible refine wpAny_holding ?_
  first | refine wpAny_bind (wpAny_pure ?_) | skip
  refine wpAny_bind (wpAny_sequenceKey ht.typeIs (by decide) ?_)
  refine wpAny_bind (wpAny_callSpecial?_slot (name := Str.ofString "__getitem__") ht.typeIs PyProof.Rows.slot_tuple_getitem (wpAny_call_entry PyProof.Rows.slot_tuple_getitem ht.typeIs entry_tuple_getitem ?_ (args_tuple_getitem _ _)))
  show wpAny _ _ (Builtin.Tuple.tupleItemsOf (.ref t) >>= _) _ _ s
  refine wpAny_bind (tupleItemsOf_ ht (wpAny_bind (wpAny_typeOf hT ?_)))
  rw [if_pos (by decide)]
  refine wpAny_bind (turned_applied hs p ?_)
  have no : ¬ ((((items.size : Int) - 1) == 0 && (-1 : Int) == 1 && items.size == items.size) = true) := by simp
  show wpAny _ _ (if (((items.size : Int) - 1) == 0 && (-1 : Int) == 1 && items.size == items.size) = true then _ else _) _ _ s
  rw [if_neg no, turned_pick]
  first
    | exact wpAny_bind (m := Builtin.Tuple.tupleExact _) (wpAny_newObj_type (wpAny_pure ⟨_, rfl, wpAny_pure h⟩) hfit)
    | exact wpAny_bind (m := Builtin.Tuple.tupleExact _) (wpAny_newObj_type (wpAny_bind (wpAny_pure (wpAny_pure ⟨_, rfl, wpAny_pure h⟩))) hfit)
    | exact wpAny_bind (wpAny_bind (m := Builtin.Tuple.tupleExact _) (wpAny_newObj_type (wpAny_pure (wpAny_pure ⟨_, rfl, wpAny_pure h⟩)) hfit))
    | exact wpAny_bind (wpAny_bind (m := Builtin.Tuple.tupleExact _) (wpAny_newObj_type (wpAny_pure ⟨_, rfl, wpAny_pure h⟩) hfit))
end
theorem e_rev {e : Expr} {te : Te} {k : Nat} {p1 p2 p3 pos : Pos} (he : Pe X e te) : Pe X (.Subscript e (.Slice none none (some (.UnaryOp .USub (.Constant (.int 1) k p1) p2)) p3) pos) (rev te) := ⟨⟨fun pins s σ H Q I ⟨τ, G, Q', sA, g, h, k0⟩ => by
  refine Subscript_ (thn (he.pe.run pins s σ H (fun v H1 => ∃ w G1, TK X.K H H1 ∧ Rp X.K H1 w v ∧ AbH (ax X) G1 H1 ∧ (match w with
    | .tup us => Q' (.tup us.reverse) G1
    | .ref a => ∃ us, G1 a = some (.lst us) ∧ ∀ p, G1 p = none → Q' (.ref p) (put G1 p (.lst us.reverse))
    | _ => False)) I ⟨τ, G, _, sA, g, h, fun v H1 w G1 t r g1 q1 => ⟨w, G1, t, r, g1, q1⟩⟩) fun v s1 ⟨x, H1, I1, r1, w, G1, t1, rw1, g1, q1⟩ => ?_)
  have hst : PO X (some (.UnaryOp .USub (.Constant (.int 1) k p1) p2)) (tPart (tUn (rU fun i => .int (-i)) (tC (.int 1)))) := po_some (pe_un un_neg pe_int)
  refine wpAny_Slice (thn (po_none.run pins s1 σ H1 (fun o H2 => o = none ∧ H2 = H1) I1 ⟨rfl, rfl⟩) fun vl s2 ⟨l, H2, I2, pl, el, e2⟩ => ?_)
  subst el; subst e2
  refine thn (po_none.run pins s2 σ H2 (fun o H3 => o = none ∧ H3 = H2) I2 ⟨rfl, rfl⟩) fun vu s3 ⟨u, H3, I3, pu, eu, e3⟩ => ?_
  subst eu; subst e3
  refine thn (hst.run pins s3 σ H3 (fun o H4 => o = some (-1) ∧ H4 = H3) I3 ⟨1, rfl, -1, rfl, rfl, rfl⟩) fun vs s4 ⟨o, H4, I4, ps, eo, e4⟩ => ?_
  subst eo; subst e4
  have I5 : Inv X pins σ H4 { s4 with heap := s4.heap.push { cls := .type "slice", data := .fields #[vl, vu, vs] } } := I4.kept (t' := s4.toks) fun b ob q => Heap.get?_push_of_some _ q
  cases pl; cases pu
  show wpAny (model X.prog X.w) X.A (subscriptTail e (.Slice none none (some (.UnaryOp .USub (.Constant (.int 1) k p1) p2)) p3) v (.ref s4.heap.objs.size)) (EP X pins σ Q) X.xe { s4 with heap := s4.heap.push { cls := .type "slice", data := .fields #[.none, .none, vs] } }
  cases rw1 with
  | @tup us a xs hT r =>
    cases r1
    obtain ⟨its, rv, ht, hz⟩ := I5.tuple hT
    have hl := rv.length
    refine tail_any (ops := [.ref a, .ref s4.heap.objs.size]) ht.typeIs PyProof.Rows.slot_tuple_getitem.lookup ?_ (by with_unfolding_all rfl)
    refine getItem_turned ht (Heap.IsSliceOf.new _ .none .none vs) ps (by rw [List.size_toArray]; omega) ?_
    have nn : H4 ((s4.heap.push { cls := .type "slice", data := .fields #[.none, .none, vs] }).objs.size) = none := I5.hok.fresh (Nat.le_refl _)
    refine ⟨.ref _, _, I5.laid (t' := s4.toks) (o := .tup xs.reverse) (fun b ob q => Heap.get?_push_of_some _ q) (Nat.le_refl _) ?_, rfl, k0 _ _ _ _ (t1.trans (TK.laid nn)) (.tup (SqT.of upd_same) (r.reverse.mono (TK.laid nn))) (g1.laid nn) q1⟩
    exact ⟨by rw [List.length_reverse]; exact hz, _, rv.reverse, IsTup.new _ _⟩
  | @ref a =>
    cases r1
    obtain ⟨us, e1, q1⟩ := q1
    obtain ⟨xs, e2, r⟩ := g1 _ _ e1
    obtain ⟨its, rv, ht, hz⟩ := I5.list (SqL.of e2)
    have hl := rv.length
    refine tail_any (ops := [.ref a, .ref s4.heap.objs.size]) ht.isList.typeIs PySem.slot_list_getitem.lookup ?_ (by with_unfolding_all rfl)
    refine wpAny_getItem_list_slice ht.isList (Heap.IsSliceOf.new _ .none .none vs) .none .none ps (by decide) ?_ (by rw [List.size_toArray]; omega)
    rw [PySem.W.krv_pick]
    have nn : H4 ((s4.heap.push { cls := .type "slice", data := .fields #[.none, .none, vs] }).objs.size) = none := I5.hok.fresh (Nat.le_refl _)
    refine ⟨.ref _, _, I5.laid (t' := s4.toks) (o := .lst xs.reverse) (fun b ob q => Heap.get?_push_of_some _ q) (Nat.le_refl _) ⟨by rw [List.length_reverse]; exact hz, _, 0, rv.reverse, Heap.get?_push_size _ rfl⟩, rfl,
      k0 _ _ (.ref _) _ (t1.trans (TK.laid nn)) .ref (g1.new (o' := .lst us.reverse) nn ⟨_, upd_same, r.reverse.mono (TK.laid nn)⟩) (q1 _ (g1.fresh nn))⟩
  | _ => exact q1.elim⟩⟩

/-! ### sorted, of data -/
def bSortD : List Dv → Hq → Qv → Prop := fun ws G Q => match ws with
  | [.ref a] => ∃ us, G a = some (.lst us) ∧ us.all (nb 8) = true ∧ PySem.W.AllAlike (us.map py) ∧ PySem.W.Sortable (us.map py) ∧ ∀ p, G p = none → Q (.ref p) (put G p (.lst (us.mergeSort (PySem.W.dataLe false py))))
  | _ => False
theorem Rps.each {us : List Dv} {xs : List V} {vs : List Value} (r : Rps K H us xs) (rv : Vals xs vs) : PySem.W.EachIs (fun v w => ∃ x, Rp K H w x ∧ RelV x v) vs us := by
  induction us generalizing xs vs with
  | nil => cases r; cases rv; exact .nil
  | cons w us ih =>
    cases r with
    | cons a r => cases rv with
      | cons b rv => exact .cons ⟨_, a, b⟩ (ih r rv)
theorem each_back {us : List Dv} {vs : List Value} (e : PySem.W.EachIs (fun v w => ∃ x, Rp K H w x ∧ RelV x v) vs us) : ∃ xs, Rps K H us xs ∧ Vals xs vs := by
  induction us generalizing vs with
  | nil => cases e; exact ⟨[], .nil, .nil⟩
  | cons w us ih =>
    cases e with
    | cons a e =>
      obtain ⟨x, h1, h2⟩ := a
      obtain ⟨xs, h3, h4⟩ := ih e
      exact ⟨x :: xs, .cons h1 h3, .cons h2 h4⟩
theorem cr_sortedD (hu : X.A.units + 64 < cLine) : Cr X (.builtin "sorted") bSortD := fun pins s σ H xs us Q I rx ⟨ws, G, Q', px, g, q, k⟩ => by
  match ws, q, px with
  | [.ref a], ⟨us', h, hn, hal, hsr, q⟩, .cons .ref .nil =>
    rw [Vals.ref1 rx]
    obtain ⟨vs, e, r⟩ := g _ _ h
    obtain ⟨its, rv, pl, hz⟩ := I.list (SqL.of e)
    have hlen : us'.length = its.length := by rw [r.length]; exact rv.length
    have e1 := r.each rv
    refine PySem.W.sorted_data (enc := py) (bs := us') (R := fun v w => ∃ x, Rp X.K H w x ∧ RelV x v) pl.isList e1 ?_ hal hsr (by rw [r.length]; exact hz) (fun b hb => ?_) fun out ho e2 => ?_
    · have mk : ∀ {l : List Dv} {vs : List Value}, l.all (nb 8) = true → PySem.W.EachIs (fun v w => ∃ x, Rp X.K H w x ∧ RelV x v) vs l → PySem.W.EachIs (fun v b => ∃ as, Reads s.heap v (py b) as) vs l := by
        intro l
        induction l with
        | nil => intro vs _ z; cases z; exact .nil
        | cons w l ih =>
          intro vs hn z
          cases z with
          | cons a z =>
            simp only [List.all_cons, Bool.and_eq_true] at hn
            obtain ⟨x, z1, z2⟩ := a
            exact .cons (Dp.reads I _ _ _ (py_dp 8 _ _ hn.1 z1) z2) (ih hn.2 z)
      exact mk hn e1
    · have := py_depth 8 b (List.all_eq_true.mp hn b hb)
      omega
    · obtain ⟨ys, h3, h4⟩ := each_back e2
      obtain ⟨ep, he⟩ := PyProof.Rows.sortedAll_at s.heap its (List.toArray out)
      have nn : H (s.heap.objs.size + 1) = none := I.hok.fresh (Nat.le_succ _)
      refine ⟨.ref _, upd H (s.heap.objs.size + 1) (.lst ys), I.laid (t' := s.toks) (fun _ _ => PyProof.Rows.sortedAll_old) (Nat.le_succ _) ⟨?_, out, ep, h4, he⟩, rfl, k _ _ (.ref _) _ (TK.laid nn) .ref (g.new (o' := .lst (us'.mergeSort (PySem.W.dataLe false py))) nn ⟨_, upd_same, h3.mono (TK.laid nn)⟩) (q _ (g.fresh nn))⟩
      rw [← h3.length, List.length_mergeSort, r.length]; exact hz

/-! ### o[i] op= e, of lists -/
def gtl : R2q := fun x y G Q => match x, y with
  | .ref a, .int i => ∃ ws w, G a = some (.lst ws) ∧ 0 ≤ i ∧ ws[i.toNat]? = some w ∧ Q w G
  | _, _ => False
theorem get_any : PGet X (up2 (ax X) gtl) := fun pins s σ H o i ov iv Q I ro ri ⟨wx, wy, G, Q', px, py, g, q, k⟩ => by
  cases px with
  | ref => cases py with
    | int =>
      obtain ⟨ws, w, h, h0, hw, q⟩ := q
      obtain ⟨vs, e, r⟩ := g _ _ h
      cases ro
      obtain ⟨t, rfl⟩ := ri
      obtain ⟨its, rv, pl, hz⟩ := I.list (SqL.of e)
      obtain ⟨v, e1, r1⟩ := r.get hw
      obtain ⟨u, e2, r2⟩ := rv.get e1
      have hj := (List.getElem?_eq_some_iff.mp e1).1
      have hn := line63
      exact wpAny_getItem_list pl.isList h0 (by omega) (by simpa using e2) ⟨v, H, I, r2, k _ _ _ _ TK.refl r1 g q⟩
    | _ => exact q.elim
  | _ => cases py <;> exact q.elim
abbrev ipq (f : Int → Int → Int) : R2q := fun x y G Q => match x, y with
  | .int i, .int j => Q (.int (f i j)) G
  | _, _ => False
theorem ip_int {op : Operator} {f : Int → Int → Int} (h : PIp X op (ipI f)) : PIp X op (up2 (ax X) (ipq f)) := fun pins s σ H x y v u Q I rx ry ⟨wx, wy, G, Q', px, py, g, q, k⟩ => by
  cases px with
  | int => cases py with
    | int => exact h pins s σ H _ _ v u Q I rx ry ⟨_, _, rfl, rfl, k _ _ _ _ TK.refl .int g q⟩
    | _ => exact q.elim
  | _ => cases py <;> exact q.elim
def aug_s (to ti te : Te) (ip : R2q) : Ts := fun D τ G => to τ G fun o G1 => ti τ G1 fun i G2 => gtl o i G2 fun x G3 => te τ G3 fun y G4 => ip x y G4 fun z G5 => stg o i z G5 fun G6 => D.nx τ G6
theorem s_augS {o i e : Expr} {to ti te : Te} {ip : R2q} {op : Operator} {tpos pos : Pos} (ho : Pe X o to) (hi : Pe X i ti) (he : Pe X e te) (hp : PIp X op (up2 (ax X) ip))
    (ha : ∀ ov iv new, augStore i ov iv new = (do holding [new, ov, iv] (setItem ov iv new); release [new, ov, iv] []; pure .next) := by intros; rfl) : Ps X (.AugAssign (.Subscript o i tpos) op e pos) (aug_s to ti te ip) :=
  ⟨PS.imp (ps_augS ho.pe hi.pe get_any he.pe hp (st_any (X := X)) ha) fun D σ H ⟨τ, G, D', s, g, h, k⟩ =>
    ⟨τ, G, _, s, g, h, fun v1 H1 w1 G1 t1 r1 g1 h1 => ⟨τ, G1, _, s.mono t1, g1, h1, fun v2 H2 w2 G2 t2 r2 g2 h2 => ⟨w1, w2, G2, _, r1.mono t2, r2, g2, h2, fun v3 H3 w3 G3 t3 r3 g3 h3 => ⟨τ, G3, _, s.mono (t1.trans (t2.trans t3)), g3, h3, fun v4 H4 w4 G4 t4 r4 g4 h4 =>
      ⟨w3, w4, G4, _, r3.mono t4, r4, g4, h4, fun v5 H5 w5 G5 t5 r5 g5 h5 => ⟨w1, w2, w5, G5, _, r1.mono (t2.trans (t3.trans (t4.trans t5))), r2.mono (t3.trans (t4.trans t5)), r5, g5, h5, fun H6 G6 t6 g6 h6 =>
        k.nx _ _ _ _ (t1.trans (t2.trans (t3.trans (t4.trans (t5.trans t6))))) (s.mono (t1.trans (t2.trans (t3.trans (t4.trans (t5.trans t6)))))) g6 h6⟩⟩⟩⟩⟩⟩⟩
/-! ### two fors in one comprehension -/
theorem e_lc2 {tg elt iter tg1 iter1 : Expr} {ifs ifs1 : List Expr} {scope : Scope} {own : List (Str × Nat)} {vs1 : List Nat} {pos : Pos} {wi wi1 : Ti} {m m1 : Nm} {tc tc1 : Tt} {te : Te} (hc : X.calm = true) (hN : X.N.Nodup) (hi : Pi X tg iter wi) (ok : BlkOk X.N X.env.scope scope own) (hv : ∀ i ∈ slots m, i ∈ own.map (·.2))
    (hv1 : ∀ i ∈ slots m1, i ∈ vs1) (hv2 : ∀ i ∈ vs1, i ∈ own.map (·.2))
    (hg : ∀ (s : Shared) (H : Hp) (C : Addr) (cl : List (Str × Addr)) (fp : List Addr), PG (X.blk s H scope (compEnvC scope cl C X.env) fp) tg (gB X.K m))
    (ht : ∀ (s : Shared) (H : Hp) (C : Addr) (cl : List (Str × Addr)) (fp : List Addr), Pts (X.blk s H scope (compEnvC scope cl C X.env) fp) ifs tc)
    (hi1 : ∀ (s : Shared) (H : Hp) (C : Addr) (cl : List (Str × Addr)) (fp : List Addr), Pi (X.blk s H scope (compEnvC scope cl C X.env) fp) tg1 iter1 wi1)
    (hg1 : ∀ (s : Shared) (H : Hp) (C : Addr) (cl : List (Str × Addr)) (fp : List Addr), PG (X.blk s H scope (compEnvC scope cl C X.env) fp) tg1 (gB X.K m1))
    (ht1 : ∀ (s : Shared) (H : Hp) (C : Addr) (cl : List (Str × Addr)) (fp : List Addr), Pts (X.blk s H scope (compEnvC scope cl C X.env) fp) ifs1 tc1)
    (he : ∀ (s : Shared) (H : Hp) (C : Addr) (cl : List (Str × Addr)) (fp : List Addr), Pe (X.blk s H scope (compEnvC scope cl C X.env) fp) elt te)
    (hs : ∀ x, foldedSetIterable iter X.env x = pure x := by intro _; rfl) (hs1 : ∀ env x, foldedSetIterable iter1 env x = pure x := by intro _ _; rfl) :
    Pe X (.ListComp elt [⟨tg, iter, ifs, 0⟩, ⟨tg1, iter1, ifs1, 0⟩] scope pos) (lc2 wi m tc wi1 m1 tc1 te (own.map (·.2)) vs1) :=
  ⟨PE.imp (pe_lc2 hc hN hi.pi ok hv2 hg (fun s H C cl fp => (ht s H C cl fp).pts) (fun s H C cl fp => (hi1 s H C cl fp).pi) hg1 (fun s H C cl fp => (ht1 s H C cl fp).pts) (fun s H C cl fp => (he s H C cl fp).pe) hs hs1) fun _ _ _ q => lc2_up hv hv1 q⟩
theorem s_setLc2 {i : Nat} {y : Str} {py spos : Pos} {tg elt iter tg1 iter1 : Expr} {ifs ifs1 : List Expr} {scope : Scope} {own : List (Str × Nat)} {vs1 : List Nat} {pos : Pos} {wi wi1 : Ti} {m m1 : Nm} {tc tc1 : Tt} {te : Te} (hc : X.calm = true) (hN : X.N.Nodup)
    (hsw : swapsWith (.ListComp elt [⟨tg, iter, ifs, 0⟩, ⟨tg1, iter1, ifs1, 0⟩] scope pos) (some (.Name y py)) spos.line X.env = pure true) (hi : Pi X tg iter wi) (ok : BlkOk X.N X.env.scope scope own) (hv : ∀ i ∈ slots m, i ∈ own.map (·.2))
    (hv1 : ∀ i ∈ slots m1, i ∈ vs1) (hv2 : ∀ i ∈ vs1, i ∈ own.map (·.2))
    (hg : ∀ (s : Shared) (H : Hp) (C : Addr) (cl : List (Str × Addr)) (fp : List Addr), PG (X.blk s H scope (compEnvC scope cl C X.env) fp) tg (gB X.K m))
    (ht : ∀ (s : Shared) (H : Hp) (C : Addr) (cl : List (Str × Addr)) (fp : List Addr), Pts (X.blk s H scope (compEnvC scope cl C X.env) fp) ifs tc)
    (hi1 : ∀ (s : Shared) (H : Hp) (C : Addr) (cl : List (Str × Addr)) (fp : List Addr), Pi (X.blk s H scope (compEnvC scope cl C X.env) fp) tg1 iter1 wi1)
    (hg1 : ∀ (s : Shared) (H : Hp) (C : Addr) (cl : List (Str × Addr)) (fp : List Addr), PG (X.blk s H scope (compEnvC scope cl C X.env) fp) tg1 (gB X.K m1))
    (ht1 : ∀ (s : Shared) (H : Hp) (C : Addr) (cl : List (Str × Addr)) (fp : List Addr), Pts (X.blk s H scope (compEnvC scope cl C X.env) fp) ifs1 tc1)
    (he : ∀ (s : Shared) (H : Hp) (C : Addr) (cl : List (Str × Addr)) (fp : List Addr), Pe (X.blk s H scope (compEnvC scope cl C X.env) fp) elt te)
    (hy : X.N[i]? = some y := by rfl) (hyl : X.env.scope.names.lookup y = some .local := by rfl) (hs : ∀ x, foldedSetIterable iter X.env x = pure x := by intro _; rfl) (hs1 : ∀ env x, foldedSetIterable iter1 env x = pure x := by intro _ _; rfl) :
    Ps X (.Assign [.Name y py] (.ListComp elt [⟨tg, iter, ifs, 0⟩, ⟨tg1, iter1, ifs1, 0⟩] scope pos) spos) (asg (lc2 wi m tc wi1 m1 tc1 te (own.map (·.2)) vs1) (gn i)) :=
  ⟨PS.imp (ps_setLc2 hc hN hy hyl hsw hi.pi ok hv2 hg (fun s H C cl fp => (ht s H C cl fp).pts) (fun s H C cl fp => (hi1 s H C cl fp).pi) hg1 (fun s H C cl fp => (ht1 s H C cl fp).pts) (fun s H C cl fp => (he s H C cl fp).pe) hs hs1) fun D σ H ⟨τ, G, D', s, ga, h, k⟩ => by
    have h' : tLc2 (upI (ax X) wi) (gB X.K m) (upT (ax X) tc) (upI (ax X) wi1) (gB X.K m1) (upT (ax X) tc1) (up (ax X) te) (own.map (·.2)) vs1 σ H (fun v H1 => D.nx (σ.set i (some v)) H1) := lc2_up hv hv1 ⟨τ, G, _, s, ga, h, fun v H1 w G1 t1 r1 g1 q1 => k.nx _ _ _ _ t1 ((s.mono t1).set r1 i) g1 q1⟩
    exact h'⟩
end
end L3
namespace L3
open PySem PySem.Spec PyProof.Rows L2
/-! ### a def that makes lambdas: its code object is known -/
structure FunL (K : PySem.W.Frag) (x qual : Str) (st : Stmt) (f : Addr) (fd : FuncData) (c : Addr) : Prop where
  ex : ∃ (oc : Value) (od : Option Addr) (dV kV doc pm : Value) (an : Option Addr) (ct : Value) (osl : Array (Option Value)),
    fd = PySem.W.fnOf x qual (defArgs st) (defBody st) (defScope st) dV kV doc pm an (.ref c) ct ∧ K.lookup f = some ⟨oc, od, .func fd, osl⟩ ∧ PySem.W.codeIn K (.ref c) qual = true
  kp : PySem.W.keepIn K (.ref f) = true
theorem FunL.toA {K : PySem.W.Frag} {x qual : Str} {st : Stmt} {f c : Addr} {fd : FuncData} (F : FunL K x qual st f fd c) : FunA K x qual st f fd :=
  ⟨let ⟨oc, od, dV, kV, doc, pm, an, ct, osl, h1, h2, h3⟩ := F.ex; ⟨oc, od, dV, kV, doc, pm, an, .ref c, ct, osl, h1, h2, h3⟩, F.kp⟩
theorem fn_okL {P : Program} {w : World} {K : PySem.W.Frag} {mg : Str → Option Value} {base : Heap} {x qual : Str} {st : Stmt} {f c : Addr} {fd : FuncData} {N ps : List Str} {k : Nat} {sp : Sq} {t : Ts}
    (F : FunL K x qual st f fd c) (S : FnScope N ps (defScope st)) (len : ∀ ws G Q E, sp ws G Q E → ws.length = ps.length)
    (hb : ∀ (A : Around) (outer : List Env) (s : Shared) (H : Hp) (E : XK), Rm k (A.deeper (envOfC qual (defScope st) s.heap.objs.size f (.ref c))) → Pss (cxOf CX0 P w K mg base N qual (defScope st) f (.ref c) A outer s H E).nox (defBody st) t)
    (hr : ∀ ws G Q E, Mono Q → MonoX E → sp ws G Q E → t { nx := fun _ G' => Q .non G', rt := Q } (strt N ws) G) : Fn P w K mg base CX0 (k + 1) f fd ps sp := by
  obtain ⟨oc, od, dV, kV, doc, pm, an, ct, osl, rfl, lk, hcd⟩ := F.ex
  refine ⟨fn_of lk hcd S (fun vs H Q E ⟨ws, G, Q', E', r, g, h, k, kx⟩ => by rw [← r.length]; exact len _ _ _ _ h) fun A outer s H vs Q E rm ⟨ws, G, Q', E', r, g, h, k, kx⟩ => ?_⟩
  refine ⟨_, (hb A outer s H E rm).pss.nox, strt N ws, G, ⟨fun _ G' => Clo Q' .non G', Clo Q', fun _ _ => False, fun _ _ => False⟩, ?_, g, hr ws G (Clo Q') (CloX E') Clo.mono CloX.mono h,
      ⟨fun σ1 H1 τ1 G1 t1 s1 g1 q1 => k.clo _ _ _ _ t1 .non g1 q1, k.clo, fun _ _ _ _ _ _ _ q => q.elim, fun _ _ _ _ _ _ _ q => q.elim⟩⟩
  have := AbS.start r (N.length - ws.length)
  unfold strt L2.start
  rw [← r.length]
  exact this
theorem FunA.lk {K : PySem.W.Frag} {x qual : Str} {st : Stmt} {f : Addr} {fd : FuncData} (F : FunA K x qual st f fd) : ∃ oc od osl, K.lookup f = some ⟨oc, od, .func fd, osl⟩ :=
  let ⟨oc, od, _, _, _, _, _, _, _, osl, _, h, _⟩ := F.ex; ⟨oc, od, osl, h⟩
/-- many values in a list: all of a row -/
abbrev ivs (ns : List Int) : List Dv := ns.map Dv.int
abbrev tiv (ns : List Int) : Dv := .tup (ns.map Dv.int)
/-- a comprehension without tests, its parts changing nothing that stood -/
theorem lc_map {α : Type} (xs : List α) (enc f : α → Dv) {ws : List Dv} {Sg : Hq → Prop} {m : Nm} {tt : Tt} {te : Te} {vs : List Nat} {τ : Sl} {G : Hq} {Q : Qv} (hws : ws = xs.map enc) (hz : xs.length ≤ 1000) (hS : Sg G)
    (hb : ∀ (i : Nat) (x : α) (D : Addr) (acc : List Dv) (P : List Dv → Hq → Prop), xs[i]? = some x → G D = none → P (acc ++ [f x]) G → bnd m (enc x) (wip τ vs) fun τ2 => tt τ2 (put G D (.lst acc)) fun b G3 => match b with
      | true => te τ2 G3 fun v G4 => ∃ G5, G5 D = none ∧ Le (put G5 D (.lst acc)) G4 ∧ P (acc ++ [v]) G5
      | false => ∃ G5, G5 D = none ∧ Le (put G5 D (.lst acc)) G3 ∧ P acc G5)
    (q : ∀ p, G p = none → Q (.ref p) (put G p (.lst (xs.map f)))) : lcL ws Sg m tt te vs τ G Q :=
  lc_pure xs enc (fun x => some (f x)) hws hz hS hb fun p np => by
    have e : xs.filterMap (fun x => some (f x)) = xs.map f := by induction xs <;> simp_all
    rw [e]; exact q p np
theorem all_yes {α : Type} (xs : List α) : (xs.map fun _ => Dv.bl true) = ((List.replicate xs.length true).map Dv.bl) := by
  induction xs with
  | nil => rfl
  | cons x xs ih => rw [List.map_cons, ih]; rfl
theorem all_rep (n : Nat) : (List.replicate n true).all id = true := by simp
theorem mapm {α : Type} {xs : List α} {i : Nat} {x : α} (h : xs[i]? = some x) : x ∈ xs := List.mem_of_getElem? h
theorem cut_to {us : List Dv} {i : Nat} (h : i ≤ us.length) : cut us none (some (i : Int)) = us.take i := by
  unfold cut
  rw [HT.sIx_none, HT.sIx_nat, Nat.min_eq_left h]
  simp
theorem cut_from {us : List Dv} {i : Nat} (h : i ≤ us.length) : cut us (some (i : Int)) none = us.drop i := by
  unfold cut
  rw [HT.sIx_none, HT.sIx_nat, Nat.min_eq_left h, List.take_of_length_le (by rw [List.length_drop]; omega)]
theorem enm_at {us : List Dv} {i : Nat} {w : Dv} (h : (enm us)[i]? = some w) : ∃ x, us[i]? = some x ∧ w = .tup [.int i, x] := by
  have hl : i < us.length := by
    have := (List.getElem?_eq_some_iff.mp h).1
    rw [enm_length] at this; exact this
  obtain ⟨x, hx⟩ : ∃ x, us[i]? = some x := ⟨_, List.getElem?_eq_getElem hl⟩
  exact ⟨x, hx, Option.some.inj (h.symm.trans (enm_get hx))⟩
abbrev eI (p : Int × Int) : Dv := .tup [.int p.1, .int p.2]
theorem zp_iv (cs ns : List Int) : zp (ivs cs) (ivs ns) = (cs.zip ns).map eI := by
  unfold zp
  rw [List.zip_map, List.map_map]; rfl
theorem nb_ivs (n : Nat) (ns : List Int) : (ivs ns).all (nb n) = true := by
  rw [List.all_eq_true]
  intro x hx
  obtain ⟨i, _, rfl⟩ := List.mem_map.mp hx
  cases n <;> rfl
def dvi : Dv → Int
  | .int i => i
  | _ => 0
theorem dvi_ivs (a : List Int) : (ivs a).map dvi = a := by
  rw [List.map_map, show dvi ∘ Dv.int = id from rfl, List.map_id]
theorem ivs_inj {a b : List Int} : ivs a = ivs b ↔ a = b := ⟨fun h => by
  have z := congrArg (List.map dvi) h
  rw [dvi_ivs, dvi_ivs] at z
  exact z, fun h => by rw [h]⟩
theorem atI_ivs {ns : List Int} {i : Int} {v : Int} (h : L2.atI ns i = some v) : L2.atI (ivs ns) i = some (.int v) := by
  unfold L2.atI at h ⊢
  rw [List.length_map]
  cases e : ixN ns.length i with
  | none => rw [e] at h; cases h
  | some j =>
    rw [e] at h
    show (ivs ns)[j]? = _
    have h : ns[j]? = some v := h
    rw [List.getElem?_map, h]; rfl
theorem atI_end {α : Type} {xs : List α} {v : α} (h : xs.getLast? = some v) : L2.atI xs (-1) = some v := by
  have e : xs = xs.dropLast ++ [v] := by
    obtain ⟨y, e⟩ := List.getLast?_eq_some_iff.mp h
    rw [e]; simp
  rw [e]; exact atI_last _ _
theorem lc2_go {ws : List Dv} {Sg : Hq → Prop} {m : Nm} {tt : Tt} {wi1 : Ti} {m1 : Nm} {tt1 : Tt} {te : Te} {vs vs1 : List Nat} {τ : Sl} {G : Hq} {Q : Qv} (h : ∀ D, G D = none → ∃ Pv : Nat → List Dv → Hq → Prop, Pv 0 [] G ∧ (∀ i acc G, Pv i acc G → Sg G ∧ G D = none) ∧
  (∀ i w acc G, ws[i]? = some w → Pv i acc G → bnd m w (wip τ vs) fun τ2 => tt τ2 (put G D (.lst acc)) fun b G3 => match b with
    | true => wi1 τ2 G3 fun ws1 Sg1 G4 => ∃ Pw : Nat → List Dv → Hq → Prop, (∃ G5, G5 D = none ∧ Le (put G5 D (.lst acc)) G4 ∧ Pw 0 acc G5) ∧ (∀ j acc G, Pw j acc G → Sg1 G ∧ G D = none) ∧
      (∀ j w1 acc G, ws1[j]? = some w1 → Pw j acc G → bnd m1 w1 (wip τ2 vs1) fun τ3 => tt1 τ3 (put G D (.lst acc)) fun b G6 => match b with
        | true => te τ3 G6 fun v G7 => ∃ G8, acc.length < sizeLine ∧ G8 D = none ∧ Le (put G8 D (.lst acc)) G7 ∧ Pw (j + 1) (acc ++ [v]) G8
        | false => ∃ G8, G8 D = none ∧ Le (put G8 D (.lst acc)) G6 ∧ Pw (j + 1) acc G8) ∧ ∀ acc G, Pw ws1.length acc G → Pv (i + 1) acc G
    | false => ∃ G5, G5 D = none ∧ Le (put G5 D (.lst acc)) G3 ∧ Pv (i + 1) acc G5) ∧ ∀ acc G, Pv ws.length acc G → Q (.ref D) (put G D (.lst acc))) : lc2L ws Sg m tt wi1 m1 tt1 te vs vs1 τ G Q := by
  unfold lc2L; exact h
end L3
/-! ### len(set(xs)), xs a list of tuples of whole numbers and such tuples -/
namespace L3
open PySem PySem.Spec PyProof.Rows L2
mutual
/-- numbers alone, in tuples -/
def okN : NestedKey → Bool
  | .none => true
  | .num _ => true
  | .text _ => false
  | .tup ks => okNs ks
def okNs : List NestedKey → Bool
  | [] => true
  | k :: ks => okN k && okNs ks
end
section
variable {P : Program} {w : World} {A : Around} {E : Value → Shared → Prop} {s : Shared}
mutual
theorem hbv : ∀ (k : NestedKey) (v : Value) (n : Nat) (Q : Bool → Shared → Prop), NestedIs s.heap k v → okN k = true → k.depth ≤ n → Q true s → wpAny (model P w) A (hashByValue n v) Q E s
  | .none, _, n, Q, x, _, _, q => by cases x; cases n <;> exact wpAny_pure q
  | .num i, _, n, Q, x, _, _, q => by cases x <;> cases n <;> exact wpAny_pure q
  | .text _, _, _, _, _, h, _, _ => by simp [okN] at h
  | .tup ks, _, 0, Q, x, h, hn, q => by simp [NestedKey.depth] at hn
  | .tup ks, _, n + 1, Q, x, h, hn, q => by
    cases x with
    | @tup a o vs m _ ho hc hd hk =>
      have hall := hbvs ks _ n hk (by simpa [okN] using h) (by simp [NestedKey.depth] at hn; omega)
      unfold hashByValue
      refine wpAny_bind (wpAny_specialOf ⟨o, ho, hc⟩ F.slot_tuple_hash.lookup ?_); show wpAny _ _ (seqItems? (.ref a) >>= _) _ _ s
      refine wpAny_bind (wpAny_seqItems ho hd (wpAny_bind ?_)); show wpAny _ _ (forIn vs _ _) _ _ s; rw [← Array.forIn_toList]
      refine wpAny_forIn_list _ (fun l b s' => b.1 = none ∧ s' = s ∧ ∀ v ∈ l, ∀ Q : Bool → Shared → Prop, Q true s → wpAny (model P w) A (hashByValue n v) Q E s) _ ?_ ?_ _ _ ⟨rfl, rfl, hall⟩
      · rintro v l b s' ⟨hb, rfl, hl⟩
        refine wpAny_bind (hl v (by simp) _ ?_); simp only [Bool.not_true, Bool.false_eq_true, if_false]
        exact wpAny_pure ⟨rfl, rfl, fun u hu => hl u (by simp [hu])⟩
      · rintro ⟨b1, b2⟩ s' ⟨hb, rfl, _⟩; simp only at hb; subst hb; exact wpAny_pure q
theorem hbvs : ∀ (ks : List NestedKey) (vs : List Value) (n : Nat), NestedAll s.heap ks vs → okNs ks = true → NestedKey.depthAll ks ≤ n → ∀ v ∈ vs, ∀ Q : Bool → Shared → Prop, Q true s → wpAny (model P w) A (hashByValue n v) Q E s
  | [], _, _, x, _, _, v, hv, _, _ => by cases x; simp at hv
  | k :: ks, _, n, x, h, hn, v, hv, Q, q => by
    cases x with
    | cons x y =>
      simp only [okNs, Bool.and_eq_true] at h; simp only [NestedKey.depthAll] at hn
      rcases List.mem_cons.mp hv with rfl | hv
      · exact hbv k _ n Q x h.1 (by omega) q
      · exact hbvs ks _ n y h.2 (by omega) v hv Q q
end
mutual
theorem ofc : ∀ (k : NestedKey) (v : Value) (n : Nat) (Q : Bool → Shared → Prop), NestedIs s.heap k v → k.depth ≤ n → Q false s → wpAny (model P w) A (ofAClassStatement n v) Q E s
  | .none, _, n, Q, x, _, q => by cases x; cases n <;> exact wpAny_pure q
  | .num i, _, n, Q, x, _, q => by cases x <;> cases n <;> exact wpAny_pure q
  | .text _, _, n, Q, x, _, q => by cases x; cases n <;> exact wpAny_pure q
  | .tup ks, _, 0, Q, x, hn, q => by simp [NestedKey.depth] at hn
  | .tup ks, _, n + 1, Q, x, hn, q => by
    cases x with
    | @tup a o vs m _ ho hc hd hk =>
      have hall := ofcs ks _ n hk (by simp [NestedKey.depth] at hn; omega)
      unfold ofAClassStatement
      refine wpAny_bind (wpAny_typeOf ⟨o, ho, hc⟩ ?_); dsimp only
      simp only [show (("tuple" : String) == "tuple") = true by decide, if_true, Bool.not_true, Bool.false_eq_true, if_false]
      try refine wpAny_bind (wpAny_pure ?_)
      try simp only [Bool.not_true, Bool.false_eq_true, if_false]
      show wpAny _ _ (seqItems? (.ref a) >>= _) _ _ s; refine wpAny_bind (wpAny_seqItems ho hd ?_); dsimp only
      refine wpAny_bind ?_; show wpAny _ _ (forIn vs _ _) _ _ s; rw [← Array.forIn_toList]
      refine wpAny_forIn_list _ (fun l b s' => b.1 = none ∧ s' = s ∧ ∀ v ∈ l, ∀ Q : Bool → Shared → Prop, Q false s → wpAny (model P w) A (ofAClassStatement n v) Q E s) _ ?_ ?_ _ _ ⟨rfl, rfl, hall⟩
      · rintro v l b s' ⟨hb, rfl, hl⟩
        refine wpAny_bind (hl v (by simp) _ ?_); simp only [Bool.false_eq_true, if_false]
        exact wpAny_pure ⟨rfl, rfl, fun u hu => hl u (by simp [hu])⟩
      · rintro ⟨b1, b2⟩ s' ⟨hb, rfl, _⟩; simp only at hb; subst hb; exact wpAny_pure q
theorem ofcs : ∀ (ks : List NestedKey) (vs : List Value) (n : Nat), NestedAll s.heap ks vs → NestedKey.depthAll ks ≤ n → ∀ v ∈ vs, ∀ Q : Bool → Shared → Prop, Q false s → wpAny (model P w) A (ofAClassStatement n v) Q E s
  | [], _, _, x, _, v, hv, _, _ => by cases x; simp at hv
  | k :: ks, _, n, x, hn, v, hv, Q, q => by
    cases x with
    | cons x y =>
      simp only [NestedKey.depthAll] at hn
      rcases List.mem_cons.mp hv with rfl | hv
      · exact ofc k _ n Q x (by omega) q
      · exact ofcs ks _ n y (by omega) v hv Q q
end
/-- the key k, numbers alone, stands at a -/
structure KeyAt (h : Heap) (k : NestedKey) (a : Addr) : Prop where
  is : NestedIs h k (.ref a)
  dp : k.depth ≤ 8
  ok : okN k = true
theorem KeyAt.at {h h' : Heap} {k : NestedKey} {a : Addr} (x : KeyAt h k a) (e : ∀ b o vs n, h.get? b = some o → o.data = .seq vs n → h'.get? b = some o) : KeyAt h' k a := ⟨x.is.at e, x.dp, x.ok⟩
theorem KeyAt.but {h h' : Heap} {k : NestedKey} {a b : Addr} {o : Obj} {es : Array (Int × Value)} {ep : Nat} {t : SetTable} (x : KeyAt h k b) (ho : h.get? a = some o) (hd : o.data = .set es ep t) (sb : Heap.SameBut a h h') : KeyAt h' k b :=
  x.at fun c u vs n hc hu => (sb.2 c fun e => by subst e; rw [ho] at hc; cases hc; rw [hd] at hu; cases hu).trans hc
theorem KeyAt.quiet {k : NestedKey} {b : Addr} {Q : Bool → Shared → Prop} (x : KeyAt s.heap k b) (q : Q true s) : wpAny (model P w) A (eqIsQuiet 8 (.ref b)) Q E s := quiet_key k _ 8 s x.is x.dp A E Q q
theorem KeyAt.cls {k : NestedKey} {b : Addr} {Q : Bool → Shared → Prop} (x : KeyAt s.heap k b) (q : Q false s) : wpAny (model P w) A (ofAClassStatement 8 (.ref b)) Q E s := ofc k _ 8 Q x.is x.dp q
theorem KeyAt.eqB {k k' : NestedKey} {b b' : Addr} {Q : Bool → Shared → Prop} (hu : A.units + 8 < cLine) (x : KeyAt s.heap k b) (x' : KeyAt s.heap k' b') (q : Q (decide (k = k')) s) : wpAny (model P w) A (eqBool (.ref b) (.ref b')) Q E s :=
  (nestedKind P w).eqBool (x := k) (y := k') hu ⟨x.is, x.dp⟩ ⟨x'.is, x'.dp⟩ q
theorem unseen {k : NestedKey} {b : Addr} {Q : Bool → Shared → Prop} (hk : KeyAt s.heap k b) {ys : List Value} (hy : ∀ y ∈ ys, ∃ k' c, y = Value.ref c ∧ KeyAt s.heap k' c) (q : Q false s) : wpAny (model P w) A (searchCouldBeSeen (.ref b) ys) Q E s := by
  unfold searchCouldBeSeen
  refine wpAny_bind (wpAny_forIn_list _ (fun l z s' => z.1 = none ∧ s' = s ∧ ∀ y ∈ l, ∃ k' c, y = Value.ref c ∧ KeyAt s.heap k' c) _ ?_ ?_ _ _ ⟨rfl, rfl, hy⟩)
  · rintro v l z s' ⟨hz, rfl, hl⟩
    obtain ⟨k', c, rfl, hc⟩ := hl v (by simp)
    have next : ∀ y ∈ l, ∃ k' c, y = Value.ref c ∧ KeyAt s'.heap k' c := fun y hy => hl y (by simp [hy])
    dsimp only
    by_cases hv : (b == c || (carriedByValue (.ref b) && carriedByValue (.ref c))) = true
    · exact wp_if_pos hv (wpAny_pure ⟨rfl, rfl, next⟩)
    · refine wp_if_neg hv (wpAny_bind (hk.quiet ?_)); simp only [Bool.not_true, Bool.false_eq_true, if_false]
      refine wpAny_bind (hc.quiet ?_); simp only [Bool.not_true, Bool.false_eq_true, if_false]
      refine wpAny_bind (hk.cls ?_); simp only [Bool.false_eq_true, if_false]
      refine wpAny_bind (hc.cls ?_); simp only [Bool.false_eq_true, if_false]
      exact wpAny_pure ⟨rfl, rfl, next⟩
  · rintro ⟨z1, z2⟩ s' ⟨hz, rfl, _⟩; simp only at hz; subst hz; exact wpAny_pure q

/-! the set -/
abbrev hk (w : World) (p : Addr × NestedKey) : Int := p.2.hash w
def rws (w : World) (L : List (Addr × NestedKey)) : List (Int × Value) := L.map fun p => (hk w p, Value.ref p.1)
structure SetN (w : World) (h : Heap) (a : Addr) (L : List (Addr × NestedKey)) (es : Array (Int × Value)) (ep : Nat) (t : SetTable) : Prop where
  ob : ∃ o, h.get? a = some o ∧ o.ExactSet ∧ o.data = .set es ep t
  rw_ : es.toList = rws w L
  tb : TabOk t (L.map (hk w))
  nd : (L.map (·.2)).Nodup
  ky : ∀ p ∈ L, KeyAt h p.2 p.1
  pl : t.plain = true
  le : w.params.followText "set-order" = true ∨ t.led = true
  ro : L.length * 5 < t.mask * 3
  fw : L.length < 64
variable {a : Addr} {L : List (Addr × NestedKey)} {es : Array (Int × Value)} {ep : Nat} {t : SetTable}
theorem rws_len {es : Array (Int × Value)} (e : es.toList = rws w L) : es.size = L.length := by
  have := congrArg List.length e
  simpa [rws] using this
theorem rws_at {es : Array (Int × Value)} (e : es.toList = rws w L) {i : Nat} {p : Addr × NestedKey} (h : L[i]? = some p) : es[i]? = some (hk w p, Value.ref p.1) := by
  rw [← Array.getElem?_toList, e, rws, List.getElem?_map, h]; rfl
theorem SetN.fits (R : SetN w s.heap a L es ep t) : t.fits es.size = true := by
  have h1 := R.tb.sz; rw [List.length_map] at h1
  have h2 := rws_len R.rw_; have h3 := R.ro
  simp only [SetTable.fits, SetTable.fill, R.tb.dm, Bool.and_eq_true, beq_iff_eq, decide_eq_true_eq]
  exact ⟨by omega, by show t.place.size + 0 ≤ t.mask; omega⟩
theorem SetN.kept {h h' : Heap} (R : SetN w h a L es ep t) (e : ∀ b o, h.get? b = some o → h'.get? b = some o) : SetN w h' a L es ep t := by
  obtain ⟨o, ho, r⟩ := R.ob
  exact ⟨⟨o, e _ _ ho, r⟩, R.rw_, R.tb, R.nd, fun p hp => (R.ky p hp).at fun b u vs n hb _ => e b u hb, R.pl, R.le, R.ro, R.fw⟩
/-- the c-th stand of the search for the hash H -/
abbrev pst (m : Nat) (H : Int) (c : Nat) : SetTable.Probe := nth m (runAt m (SetTable.bits H % (m + 1)) (SetTable.bits H)) c
theorem pst_dummy (m : Nat) (H : Int) (c : Nat) : (pst m H c).dummy = none := by
  have key : ∀ (n : Nat) (p : SetTable.Probe), p.dummy = none → (nth m p n).dummy = none := by
    intro n
    induction n with
    | zero => exact fun p h => h
    | succ n ih => exact fun p h => ih _ (by unfold adv; split <;> exact h)
  exact key c _ rfl
theorem srch (R : SetN w s.heap a L es ep t) {x : Addr} {k : NestedKey} (hx : KeyAt s.heap k x) (hu : A.units + 8 < cLine) {H : Int} (hH : k.hash w = H) {K : Nat} (hKf : K < 10 * SetTable.turns t.mask)
    (hK : way t.mask H K ∉ t.place.toList) (hKb : ∀ c, c < K → way t.mask H c ∈ t.place.toList) {Q : SetFound → Shared → Prop}
    (hin : k ∈ L.map (·.2) → Q (.there none) s) (hout : k ∉ L.map (·.2) → Q (.free (way t.mask H K) false) s) :
    ∀ (f c : Nat) (stand : Option SetTable.Probe), stand.getD (t.probeStart H) = pst t.mask H c → c ≤ K → K - c < f →
      (∀ (i : Nat) p, L[i]? = some p → p.2 = k → ∃ c', c ≤ c' ∧ c' < K ∧ t.place.toList[i]? = some (way t.mask H c')) →
      wpAny (model P w) A (setSearchFrom a (.ref x) H true f stand) Q E s
  | 0, c, stand, _, _, hf, _ => absurd hf (Nat.not_lt_zero _)
  | f + 1, c, stand, hst, hc, hf, hre => by
    obtain ⟨o, ho, hex, hd⟩ := R.ob
    have later : ∀ q, nth t.mask (pst t.mask H c) q = pst t.mask H (c + q) := fun q => (nth_add t.mask c _ q).symm
    have laterJ : ∀ q, (nth t.mask (pst t.mask H c) q).j = way t.mask H (c + q) := fun q => congrArg (·.j) (later q)
    have eK : c + (K - c) = K := by omega
    have spec := go_spec t R.tb.ris R.tb.dm (fun i => (es[i]?.map (·.1)).getD 0) H (10 * SetTable.turns t.mask) (K - c) (pst t.mask H c) (pst_dummy _ _ _) (by omega) (fun q hq => by rw [laterJ]; exact hKb _ (by omega)) (by rw [laterJ, eK]; exact hK)
    have hat : ∀ (i : Nat) p, L[i]? = some p → (fun i => (es[i]?.map (·.1)).getD 0) i = hk w p := fun i p hp => by
      show (es[i]?.map (·.1)).getD 0 = _
      rw [rws_at R.rw_ hp]; rfl
    have gw : ¬ t.gaveWay = true := by unfold SetTable.gaveWay; rw [mask_odd R.tb.mok]; decide
    rw [setSearchFrom_succ]
    refine wpAny_bind (wpAny_setState_of ho hd R.fits ?_); dsimp only
    refine wp_if_neg gw ?_
    try refine wpAny_bind (wpAny_pure ?_)
    rcases spec with ⟨q, i, hq, hi, hh, hno, hpr⟩ | ⟨hno, hpr⟩
    · rw [laterJ] at hi
      have hp1 : t.probe (fun i => (es[i]?.map (·.1)).getD 0) H (stand.getD (t.probeStart H)) = some (.candidate (way t.mask H (c + q)) i (pst t.mask H (c + (q + 1)))) := by
        rw [hst, ← laterJ, ← later]; exact hpr
      rw [hp1]; dsimp only
      have hil : i < L.length := by
        have h1 := (List.getElem?_eq_some_iff.mp hi).1
        have h2 := R.tb.sz
        rw [List.length_map] at h2; rw [Array.length_toList] at h1; omega
      obtain ⟨p, hp⟩ : ∃ p, L[i]? = some p := ⟨_, List.getElem?_eq_getElem hil⟩
      have hpt := R.ky p (List.mem_of_getElem? hp)
      have go : wpAny (model P w) A (searchRest a (.ref x) H true f es t (way t.mask H (c + q)) i (pst t.mask H (c + (q + 1)))) Q E s := by
        have hsl : t.slot (way t.mask H (c + q)) = .live i := slot_live R.tb.ris hi
        unfold searchRest
        rw [rws_at R.rw_ hp]; dsimp only
        refine wpAny_bind (wpAny_holding (KeyAt.eqB hu hpt hx ?_))
        refine wpAny_bind (wpAny_setState_of ho hd R.fits ?_); dsimp only
        by_cases hkk : p.2 = k
        · exact wp_if_pos (by simp [hkk]) (wpAny_pure (hin (List.mem_map.mpr ⟨p, List.mem_of_getElem? hp, hkk⟩)))
        · refine wp_if_neg (by simp [hkk]) ?_
          try refine wpAny_bind (wpAny_pure ?_)
          rw [sameMem]; dsimp only
          simp only [if_true, hsl, rws_at R.rw_ hp]
          refine wpAny_bind (wpAny_isSame_ref_self (wpAny_bind (wpAny_pure ?_))); simp only [if_true]
          refine wp_if_neg (by simp [hkk]) (srch R hx hu hH hKf hK hKb hin hout f (c + (q + 1)) _ rfl (by omega) (by omega) fun i0 p0 h0 hk0 => ?_)
          obtain ⟨c', a1, a2, a3⟩ := hre i0 p0 h0 hk0
          have ne1 : ¬ c' < c + q := fun z => hno (c' - c) i0 (by omega) (by rw [laterJ, show c + (c' - c) = c' by omega]; exact a3) ((hat i0 p0 h0).trans ((congrArg (NestedKey.hash w) hk0).trans hH))
          have ne2 : c' ≠ c + q := fun z => by
            rw [z] at a3
            have e0 := (slot_live R.tb.ris a3).symm.trans hsl
            injection e0 with e0
            rw [e0, hp] at h0; cases h0; exact hkk hk0
          exact ⟨c', by omega, a2, a3⟩
      by_cases hl : t.led = true
      · refine wp_if_neg (by simp [hl]) ?_
        try refine wpAny_bind (wpAny_pure ?_)
        exact go
      · refine wp_if_pos (by simp [hl]) (wpAny_bind (unseen hx (fun y hy => ?_) ?_))
        · obtain ⟨e, he, rfl⟩ := List.mem_map.mp hy
          have he1 : e ∈ es := by have : e ∈ es ∧ e.1 = H := by simpa using he
                                  exact this.1
          have he2 : e ∈ es.toList := by simpa using he1
          rw [R.rw_] at he2
          obtain ⟨p2, hp2, rfl⟩ := List.mem_map.mp he2
          exact ⟨p2.2, p2.1, rfl, R.ky p2 hp2⟩
        · refine wp_if_neg (by decide) ?_
          try refine wpAny_bind (wpAny_pure ?_)
          exact go
    · have hp1 : t.probe (fun i => (es[i]?.map (·.1)).getD 0) H (stand.getD (t.probeStart H)) = some (.empty (way t.mask H K) none) := by
        have e2 : way t.mask H K = (nth t.mask (pst t.mask H c) (K - c)).j := by rw [laterJ, eK]
        rw [hst, e2]; exact hpr
      rw [hp1]; dsimp only
      refine wpAny_pure (hout fun hm => ?_)
      obtain ⟨p0, h0, hk0⟩ := List.mem_map.mp hm
      obtain ⟨i0, h00⟩ := List.mem_iff_getElem?.mp h0
      obtain ⟨c', a1, a2, a3⟩ := hre i0 p0 h00 hk0
      exact hno (c' - c) i0 (by omega) (by rw [laterJ, show c + (c' - c) = c' by omega]; exact a3) ((hat i0 p0 h00).trans ((congrArg (NestedKey.hash w) hk0).trans hH))
theorem srch0 (R : SetN w s.heap a L es ep t) {x : Addr} {k : NestedKey} (hx : KeyAt s.heap k x) (hu : A.units + 8 < cLine) {H : Int} (hH : k.hash w = H) {Q : SetFound → Shared → Prop} (hin : k ∈ L.map (·.2) → Q (.there none) s)
    (hout : ∀ K, k ∉ L.map (·.2) → way t.mask H K ∉ t.place.toList → (∀ c, c < K → way t.mask H c ∈ t.place.toList) → Q (.free (way t.mask H K) false) s) : wpAny (model P w) A (setSearch a (.ref x) H true) Q E s := by
  have h3 := R.ro
  obtain ⟨K, hKf, hK, hKb⟩ := R.tb.first (by rw [List.length_map]; omega) H
  have hbig : 10 * SetTable.turns t.mask ≤ 1420 := by unfold SetTable.turns; rcases R.tb.mok with e | e | e <;> omega
  refine srch R hx hu hH hKf hK hKb hin (fun hn => hout K hn hK hKb) 100000 0 none rfl (Nat.zero_le _) (by omega) fun i p hp hkp => ?_
  have hi : (L.map (hk w))[i]? = some H := by rw [List.getElem?_map, hp, ← hH, ← hkp]; rfl
  have hil : i < t.place.toList.length := by
    have h1 := (List.getElem?_eq_some_iff.mp hp).1; have h2 := R.tb.sz
    rw [List.length_map] at h2; rw [Array.length_toList]; omega
  have hj := List.getElem?_eq_getElem hil
  obtain ⟨c, hc, e⟩ := R.tb.before hK hi hj
  exact ⟨c, Nat.zero_le _, hc, by rw [hj, e]⟩
/-- rows taken in another order -/
theorem rows_by (L : List (Addr × NestedKey)) (es : Array (Int × Value)) (ord : Array Nat) (hr : es.toList = rws w L) (hp : ord.toList.Perm (List.range L.length)) :
    ∃ L2, (ord.filterMap (es[·]?)).toList = rws w L2 ∧ L2.Perm L ∧ L2.map (hk w) = ord.toList.map fun i => (es.map (·.1)).getD i 0 := by
  have key : ∀ l : List Nat, (∀ i ∈ l, i < L.length) → l.filterMap (fun i => es[i]?) = rws w (l.filterMap (L[·]?)) ∧ (l.filterMap (L[·]?)).map (hk w) = l.map fun i => (es.map (·.1)).getD i 0 := fun l => by
    induction l with
    | nil => exact fun _ => ⟨rfl, rfl⟩
    | cons i l ih =>
      intro hl
      obtain ⟨p, hp⟩ : ∃ p, L[i]? = some p := ⟨_, List.getElem?_eq_getElem (hl i (by simp))⟩
      obtain ⟨e1, e2⟩ := ih fun j hj => hl j (by simp [hj])
      have e3 := rws_at hr hp
      refine ⟨?_, ?_⟩
      · rw [List.filterMap_cons_some e3, List.filterMap_cons_some hp, e1]; rfl
      · rw [List.filterMap_cons_some hp, List.map_cons, List.map_cons, e2]
        congr 1
        simp [Array.getD_eq_getD_getElem?, Array.getElem?_map, e3]
  have all : (List.range L.length).filterMap (L[·]?) = L := by
    refine List.ext_getElem? fun i => ?_
    have gen : ∀ n, n ≤ L.length → (List.range n).filterMap (L[·]?) = L.take n := fun n => by
      induction n with
      | zero => exact fun _ => rfl
      | succ n ih =>
        intro hn
        have e := List.getElem?_eq_getElem (show n < L.length by omega)
        rw [List.range_succ, List.filterMap_append, ih (by omega), List.take_add_one, e, List.filterMap_cons_some e]; rfl
    rw [gen _ (Nat.le_refl _), List.take_length]
  obtain ⟨e1, e2⟩ := key ord.toList fun i hi => List.mem_range.mp (hp.mem_iff.mp hi)
  refine ⟨_, by rw [Array.toList_filterMap]; exact e1, ?_, e2⟩
  have := hp.filterMap (L[·]?)
  rwa [all] at this
theorem rlay {o : Obj} (ho : s.heap.get? a = some o) (hex : o.ExactSet) (hd : o.data = .set es ep t) (hr : es.toList = rws w L) (hsz : t.place.size = es.size) (hdm : t.dummies = #[]) (hfl : es.size ≤ t.mask)
    (nd : (L.map (·.2)).Nodup) (ky : ∀ p ∈ L, KeyAt s.heap p.2 p.1) (pl : t.plain = true) (ld : w.params.followText "set-order" = true ∨ t.led = true) (fw : L.length < 64) {want M : Nat}
    (hw : SetTable.sizeAbove want - 1 = M) (hM : MaskOk M) (hw2 : SetTable.sizeAbove want ≤ 128) (hn : L.length * 5 < M * 3) {Q : Unit → Shared → Prop}
    (hQ : ∀ h' L' es' ep' t', Heap.SameBut a s.heap h' → SetN w h' a L' es' ep' t' → L'.Perm L → Q () { s with heap := h' }) : wpAny (model P w) A (setRelay a want) Q E s := by
  have hsl := rws_len hr
  have hfits : t.fits es.size = true := by
    simp only [SetTable.fits, SetTable.fill, hdm, Bool.and_eq_true, beq_iff_eq, decide_eq_true_eq]
    exact ⟨hsz, by show t.place.size + 0 ≤ t.mask; omega⟩
  obtain ⟨t', ord, e, hp, T, em, el, ep', ed⟩ := relaid_ok t (hs := es.map (·.1)) (wanted := want) hw hM (by rw [Array.size_map, hsl]; omega)
  rw [Array.size_map, hsl] at hp
  obtain ⟨L2, r1, r2, r3⟩ := rows_by L es ord hr hp
  rw [← r3] at T
  have hs2 : (ord.filterMap (es[·]?)).size = es.size := by rw [rws_len r1, r2.length_eq, hsl]
  rw [setRelay_eq]
  refine wpAny_bind (wpAny_setState_of ho hd hfits ?_); dsimp only
  refine wp_if_neg (by rw [sizeLine_eq]; omega) ?_
  try refine wpAny_bind (wpAny_pure ?_)
  rw [e]; dsimp only
  refine wpAny_bind (wp_if_neg (by rw [hs2]; simp) ?_)
  try refine wpAny_bind (wpAny_pure ?_)
  refine wpAny_pure ?_; dsimp only
  have sb : Heap.SameBut a s.heap (s.heap.update a (Obj.putSet (ord.filterMap (es[·]?)) t')) := Heap.SameBut.update ..
  refine wpAny_storeSet_of ho hd (hQ _ L2 _ (ep + 1) t' sb ⟨⟨_, store_at ho hd, ⟨hex.1, hex.2.1, hex.2.2⟩, rfl⟩, r1, T, (r2.map (·.2)).nodup_iff.mpr nd, fun p hpm => (ky p (r2.mem_iff.mp hpm)).but ho hd sb, by rw [ep']; exact pl, by rw [el]; exact ld, by rw [r2.length_eq, em]; exact hn, by rw [r2.length_eq]; exact fw⟩ r2) (by rw [hs2, hsl, sizeLine_eq]; omega)
end
end L3
namespace L3
open PySem PySem.Spec PyProof.Rows L2
section
variable {P : Program} {w : World} {A : Around} {E : Value → Shared → Prop} {s : Shared}
variable {a : Addr} {L : List (Addr × NestedKey)} {es : Array (Int × Value)} {ep : Nat} {t : SetTable}
theorem mid_perm {α : Type} (L : List α) (p : Nat) (x : α) : (L.take p ++ x :: L.drop p).Perm (x :: L) := by
  have h : (L.take p ++ x :: L.drop p).Perm (x :: (L.take p ++ L.drop p)) := List.perm_middle
  rwa [List.take_append_drop] at h
theorem adds (R : SetN w s.heap a L es ep t) {x : Addr} {k : NestedKey} (hx : KeyAt s.heap k x) (hu : A.units + 8 < cLine) (hfew : L.length + 1 < 64) {Q : Bool → Shared → Prop}
    (hQ : ∀ b h' L' es' ep' t', Heap.SameBut a s.heap h' → SetN w h' a L' es' ep' t' → (k ∈ L.map (·.2) → L' = L) → (k ∉ L.map (·.2) → L'.Perm ((x, k) :: L)) → Q b { s with heap := h' }) :
    wpAny (model P w) A (setAddHashed a (.ref x) (k.hash w)) Q E s := by
  obtain ⟨o, ho, hex, hd⟩ := R.ob
  have hsl := rws_len R.rw_
  have hroom := R.ro
  unfold setAddHashed
  refine wpAny_holding ?_
  rw [show (100000 : Nat) = 99999 + 1 from rfl, setAddHashedIn_succ]
  refine wpAny_bind (wpAny_setState_of ho hd R.fits ?_); dsimp only
  refine wp_if_neg (by simp [byScan, Value.scannable]) ?_
  try refine wpAny_bind (wpAny_pure ?_)
  refine wpAny_bind (srch0 R hx hu rfl (fun hm => ?_) fun K hm hK hb => ?_)
  · dsimp only
    exact wpAny_pure (hQ false _ L es ep t (Heap.SameBut.refl a s.heap) R (fun _ => rfl) (absurd hm))
  dsimp only
  refine wpAny_bind (wpAny_setState_of ho hd R.fits ?_); dsimp only
  obtain ⟨q1, q2, q3, q4, q5, q6, q7, q8, q9⟩ := R.tb.put hK hb
  have hp1 := q6.trans R.pl
  generalize t.put (way t.mask (k.hash w) K) = pt at q1 q3 q4 q5 q6 q7 q8 q9 hp1 ⊢
  obtain ⟨t1, p⟩ := pt
  dsimp only at q1 q3 q4 q5 q6 q7 q8 q9 hp1 ⊢
  subst q1
  have hbk : ∀ Q : Bool → Shared → Prop, Q true s → wpAny (model P w) A (hashByValue 8 (.ref x)) Q E s := fun Q q => hbv k _ 8 Q hx.is hx.ok hx.dp q
  first
    | (refine wpAny_bind ?_; refine wp_if_pos hp1 (hbk _ ?_))
    | refine wp_if_pos hp1 (wpAny_bind (hbk _ ?_))
  simp only [if_true]
  generalize hpp : SetTable.below t.place (way t.mask (k.hash w) K) = p at q2 q3 ⊢
  have hin : (SetTable.insertAt es p (k.hash w, Value.ref x)).toList = rws w (L.take p ++ (x, k) :: L.drop p) := by
    rw [SetTable.toList_insertAt, R.rw_]; unfold rws
    rw [List.map_append, List.map_cons, List.map_take, List.map_drop]
  have pm := mid_perm L p (x, k)
  have hlen : (L.take p ++ (x, k) :: L.drop p).length = L.length + 1 := pm.length_eq
  have hhs : (L.take p ++ (x, k) :: L.drop p).map (hk w) = (L.map (hk w)).take p ++ k.hash w :: (L.map (hk w)).drop p := by
    rw [List.map_append, List.map_cons, List.map_take, List.map_drop]
  rw [← hhs] at q3
  have nd1 : ((L.take p ++ (x, k) :: L.drop p).map (·.2)).Nodup := (pm.map (·.2)).nodup_iff.mpr (by
    rw [List.map_cons]; exact List.nodup_cons.mpr ⟨hm, R.nd⟩)
  have hes := rws_len hin
  rw [hlen] at hes
  generalize SetTable.insertAt es p (k.hash w, Value.ref x) = es1 at hin hes ⊢
  generalize L.take p ++ (x, k) :: L.drop p = L1 at pm hlen q3 nd1 hin
  refine wpAny_bind (wpAny_storeSet_of ho hd ?_ (by rw [hes, sizeLine_eq]; omega))
  have sb : Heap.SameBut a s.heap (s.heap.update a (Obj.putSet es1 t1)) := Heap.SameBut.update ..
  have ho1 := store_at (es' := es1) (t' := t1) ho hd
  generalize s.heap.update a (Obj.putSet es1 t1) = h1 at sb ho1 ⊢
  have ky1 : ∀ p ∈ L1, KeyAt h1 p.2 p.1 := fun p hp => by
    rcases List.mem_cons.mp (pm.mem_iff.mp hp) with rfl | hp
    · exact hx.but ho hd sb
    · exact (R.ky p hp).but ho hd sb
  have ld1 : w.params.followText "set-order" = true ∨ t1.led = true := by rw [q5]; exact R.le
  have hfull : t1.tooFull = decide ((L.length + 1) * 5 ≥ t1.mask * 3) := by unfold SetTable.tooFull; rw [q9, List.length_map]
  by_cases hf : t1.tooFull = true
  · first
      | (refine wpAny_bind ?_; refine wp_if_pos (by simp [hf]) ?_)
      | (refine wp_if_pos (by simp [hf]) ?_; refine wpAny_bind ?_)
    have hfull := of_decide_eq_true (hfull.symm.trans hf)
    rw [hsl]
    have hsz1 : t1.place.size = es1.size := by have := q3.sz; rw [List.length_map, hlen] at this; omega
    have two : (t.mask = 7 ∧ L.length = 4) ∨ (t.mask = 31 ∧ L.length = 18) := by
      rcases R.tb.mok with e | e | e
      · exact .inl ⟨e, by rw [q4, e] at hfull; rw [e] at hroom; omega⟩
      · exact .inr ⟨e, by rw [q4, e] at hfull; rw [e] at hroom; omega⟩
      · rw [q4, e] at hfull; omega
    have go : ∀ M, SetTable.sizeAbove (SetTable.grown (L.length + 1)) - 1 = M → MaskOk M → SetTable.sizeAbove (SetTable.grown (L.length + 1)) ≤ 128 → (L.length + 1) * 5 < M * 3 →
        wpAny (model P w) A (setRelay a (SetTable.grown (L.length + 1))) (fun _ s' => wpAny (model P w) A (pure true) Q E s') E { s with heap := h1 } := fun M m1 m2 m3 m4 =>
      rlay (s := { s with heap := h1 }) ho1 ⟨hex.1, hex.2.1, hex.2.2⟩ rfl hin hsz1 q3.dm (by rw [hes, q4]; rcases two with ⟨e, e2⟩ | ⟨e, e2⟩ <;> omega) nd1 ky1 hp1 ld1 (by omega) m1 m2 m3 (by rw [hlen]; exact m4)
        fun h2 L2 es2 ep2 t2 sb2 R2 pm2 => wpAny_pure (hQ true h2 L2 es2 ep2 t2 (sb.trans sb2) R2 (fun z => absurd z hm) fun _ => pm2.trans pm)
    rcases two with ⟨_, e2⟩ | ⟨_, e2⟩
    · exact go 31 (by rw [e2, size_20]) (.inr (.inl rfl)) (by rw [e2, size_20]; decide) (by omega)
    · exact go 127 (by rw [e2, size_76]) (.inr (.inr rfl)) (by rw [e2, size_76]; decide) (by omega)
  · have hroom1 : ¬ (L.length + 1) * 5 ≥ t1.mask * 3 := fun z => hf (hfull.trans (decide_eq_true z))
    first
      | refine wp_if_neg (by simp [hf]) ?_
      | (refine wpAny_bind ?_; refine wp_if_neg (by simp [hf]) ?_; refine wpAny_pure ?_)
    exact wpAny_pure (hQ true h1 L1 es1 (ep + 1) t1 sb ⟨⟨_, ho1, ⟨hex.1, hex.2.1, hex.2.2⟩, rfl⟩, hin, q3, nd1, ky1, hp1, ld1, by omega, by omega⟩ (fun z => absurd z hm) fun _ => pm)

/-- the keys met so far -/
structure Met (ks : List NestedKey) (i : Nat) (L : List (Addr × NestedKey)) : Prop where
  sub : ∀ p ∈ L, p.2 ∈ ks.take i
  all : ∀ k ∈ ks.take i, k ∈ L.map (·.2)
  few : L.length ≤ i
theorem Met.next {ks : List NestedKey} {i : Nat} {L L' : List (Addr × NestedKey)} {x : Addr} {k : NestedKey} (g : Met ks i L) (h : ks[i]? = some k) (c1 : k ∈ L.map (·.2) → L' = L) (c2 : k ∉ L.map (·.2) → L'.Perm ((x, k) :: L)) : Met ks (i + 1) L' := by
  have et : ks.take (i + 1) = ks.take i ++ [k] := by rw [List.take_add_one, h]; rfl
  by_cases hm : k ∈ L.map (·.2)
  · rw [c1 hm]
    refine ⟨fun p hp => by rw [et]; exact List.mem_append_left _ (g.sub p hp), fun j hj => ?_, by have := g.few; omega⟩
    rw [et] at hj
    rcases List.mem_append.mp hj with z | z
    · exact g.all j z
    · have z : j = k := by simpa using z
      rw [z]; exact hm
  · have pm := c2 hm
    refine ⟨fun p hp => ?_, fun j hj => (pm.map (·.2)).mem_iff.mpr ?_, by rw [pm.length_eq, List.length_cons]; have := g.few; omega⟩
    · rw [et]
      rcases List.mem_cons.mp (pm.mem_iff.mp hp) with rfl | z
      · simp
      · exact List.mem_append_left _ (g.sub p z)
    · rw [et] at hj; rw [List.map_cons]
      rcases List.mem_append.mp hj with z | z
      · exact List.mem_cons_of_mem _ (g.all j z)
      · have z : j = k := by simpa using z
        rw [z]; simp
theorem nodup_by {α : Type} [DecidableEq α] : ∀ (l m : List α), l.Nodup → (∀ x ∈ l, x ∈ m) → m.length ≤ l.length → m.Nodup ∧ ∀ x ∈ m, x ∈ l
  | [], m, _, _, h => by
    have : m = [] := List.length_eq_zero_iff.mp (by simpa using h)
    subst this; simp
  | x :: l, m, hn, hs, h => by
    obtain ⟨n1, n2⟩ := List.nodup_cons.mp hn
    have hx := hs x (by simp)
    have e := List.length_erase_of_mem hx
    have hp := List.perm_cons_erase hx
    obtain ⟨i1, i2⟩ := nodup_by l (m.erase x) n2 (fun y hy => (List.mem_erase_of_ne fun z => n1 (by rw [← z]; exact hy)).mpr (hs y (by simp [hy]))) (by rw [e]; simp at h; omega)
    refine ⟨hp.nodup_iff.mpr (List.nodup_cons.mpr ⟨fun z => n1 (i2 x z), i1⟩), fun y hy => ?_⟩
    rcases List.mem_cons.mp (hp.mem_iff.mp hy) with z | z
    · simp [z]
    · simp [i2 y z]
/-- as many as the items just where no two are alike -/
theorem Met.count {ks : List NestedKey} {L : List (Addr × NestedKey)} (g : Met ks ks.length L) (nd : (L.map (·.2)).Nodup) : L.length = ks.length ↔ ks.Nodup := by
  have hs : ∀ k, k ∈ L.map (·.2) ↔ k ∈ ks := fun k => ⟨fun h => by
    obtain ⟨p, hp, rfl⟩ := List.mem_map.mp h
    have := g.sub p hp
    rwa [List.take_length] at this, fun h => g.all k (by rw [List.take_length]; exact h)⟩
  have hl : L.length = (L.map (·.2)).length := by rw [List.length_map]
  constructor
  · intro e
    exact (nodup_by _ ks nd (fun k hk => (hs k).mp hk) (by rw [← hl]; omega)).1
  · intro h
    rw [hl]
    exact ((List.perm_ext_iff_of_nodup nd h).mpr hs).length_eq
theorem updates {I : Addr} {fp wr : List Addr} {Gg : Array GenState → Array GenState → Prop} {n : Nat} {Pv : Nat → Value → Prop} {St : Nat → Shared → Prop} {R : Result → Shared → Prop}
    (W : WalksS P w A.in1 I fp wr Gg n Pv St) (S : Addr) (hSf : S ∉ fp) (ks : List NestedKey) (hn : n = ks.length) (hfew : ks.length < 64) (h0 : Heap) (hval : ∀ i v, Pv i v → ∃ x k, ks[i]? = some k ∧ v = .ref x ∧ KeyAt h0 k x)
    (hS0 : h0.get? S = none) (hw0 : ∀ b ∈ wr, h0.get? b = none) (hu : A.in1.units + 8 < cLine) :
    ∀ (k i : Nat) (s : Shared), n - i = k → i ≤ n → St i s → (∀ b o, h0.get? b = some o → s.heap.get? b = some o) → (∃ L es ep t, SetN w s.heap S L es ep t ∧ Met ks i L ∧ ∀ p ∈ L, KeyAt h0 p.2 p.1) →
      (∀ s' L es ep t, Moved (S :: wr) Gg s s' → SetN w s'.heap S L es ep t → Met ks n L → (∀ b o, h0.get? b = some o → s'.heap.get? b = some o) → R (.ok (.ret .none)) s') →
      codeAny (model P w) A (.builtin "set.update.loop" ⟨[.ref S, .ref I], []⟩) R s := by
  have hSw : S ∉ wr := fun h => hSf (W.sub _ h)
  have wider : ∀ b ∈ wr, b ∈ S :: wr := fun b hb => List.mem_cons_of_mem _ hb
  have stay : ∀ {s s' : Shared}, Moved wr Gg s s' → (∀ b o, h0.get? b = some o → s.heap.get? b = some o) → ∀ b o, h0.get? b = some o → s'.heap.get? b = some o := fun hm h b o e =>
    hm.heap b o (fun hb => by rw [hw0 b hb] at e; cases e) (h b o e)
  have keepS : ∀ {s s' : Shared} {L es ep t}, SetN w s.heap S L es ep t → Moved wr Gg s s' → (∀ p ∈ L, KeyAt h0 p.2 p.1) → (∀ b o, h0.get? b = some o → s'.heap.get? b = some o) → SetN w s'.heap S L es ep t := fun {s s' L es ep t} hS hm hk h => by
    obtain ⟨o, ho, r⟩ := hS.ob
    exact ⟨⟨o, hm.heap S o hSw ho, r⟩, hS.rw_, hS.tb, hS.nd, fun p hp => (hk p hp).at fun b u vs n hb _ => h b u hb, hS.pl, hS.le, hS.ro, hS.fw⟩
  intro k
  induction k with
  | zero =>
    intro i s hk hi hst h ⟨L, es, ep, t, hS, g, hy⟩ hR
    obtain rfl : i = n := by omega
    refine codeAny_builtin F.entry_set_update_loop ?_
    rw [Around.under_plainId F.plain_set_update_loop _]; show wpAny _ A.in1 (pyNext (.ref I) >>= _) _ _ s
    refine wpAny_bind (W.done s _ _ hst fun s' hm => ?_); show wpAny _ A.in1 (PySem.ret Value.none) _ _ s'
    exact wpAny_pure (hR s' L es ep t (hm.mono wider) (keepS hS hm hy (stay hm h)) g (stay hm h))
  | succ k ih =>
    intro i s hk hi hst h ⟨L, es, ep, t, hS, g, hy⟩ hR
    have hlt : i < n := by omega
    refine codeAny_builtin F.entry_set_update_loop ?_
    rw [Around.under_plainId F.plain_set_update_loop _]; show wpAny _ A.in1 (pyNext (.ref I) >>= _) _ _ s
    refine wpAny_bind (W.item i s _ _ hlt hst fun v s' hP hst' hm => ?_)
    obtain ⟨x, k0, hk0, rfl, hx0⟩ := hval i v hP
    have h' := stay hm h
    have hx : KeyAt s'.heap k0 x := hx0.at fun b u vs n hb _ => h' b u hb
    show wpAny _ A.in1 (holding [Value.ref x] (setAdd S (.ref x)) >>= _) _ _ s'
    refine wpAny_bind (wpAny_holding ?_)
    unfold setAdd
    refine wpAny_holding (wpAny_bind (pyHash_key k0 _ _ _ _ hx.is (by have := hx.dp; omega) ?_))
    refine adds (s := { s' with toks := s'.toks + k0.draws }) (show SetN w s'.heap S L es ep t from keepS hS hm hy h') hx hu (by have := g.few; omega) fun b h2 L' es' ep' t' sb hS2 c1 c2 => ?_
    have g' : Met ks (i + 1) L' := g.next hk0 c1 c2
    have h3 : ∀ b o, h0.get? b = some o → h2.get? b = some o := fun b o e => (sb.2 b fun z => by rw [z, hS0] at e; cases e).trans (h' b o e)
    have hy' : ∀ p ∈ L', KeyAt h0 p.2 p.1 := fun p hp => by
      by_cases c : k0 ∈ L.map (·.2)
      · rw [c1 c] at hp; exact hy p hp
      · rcases List.mem_cons.mp ((c2 c).mem_iff.mp hp) with rfl | z
        · exact hx0
        · exact hy p z
    refine wpAny_pure ⟨plainId_quiet F.plain_set_update_loop _, ih (i + 1) _ (by omega) hlt (W.frame _ s' _ _ hst' (Nat.le_add_right _ _) fun b hb o e => (sb.2 b fun z : b = S => hSf (by rw [← z]; exact hb)).trans e) h3 ⟨L', es', ep', t', hS2, g', hy'⟩ fun s'' L2 es2 ep2 t2 hm2 hS3 g2 h4 => ?_⟩
    exact hR s'' L2 es2 ep2 t2 (Moved.trans W.gtrans ((hm.mono wider).then_heap (Nat.le_add_right _ _) fun b o hb e => (sb.2 b fun z : b = S => hb (by rw [z]; simp)).trans e) hm2) hS3 g2 h4
theorem setN_new {h : Heap} {a : Addr} (ho : h.get? a = some { cls := .type "set", dict := none, data := .set #[] 0 (.fresh 0 0 (!w.params.followText "set-order")) }) : SetN w h a [] #[] 0 (.fresh 0 0 (!w.params.followText "set-order")) :=
  ⟨⟨_, ho, ⟨rfl, rfl, rfl⟩, rfl⟩, rfl, ⟨List.Pairwise.nil, rfl, rfl, .inl rfl, fun x hx => (by cases hx), fun i h j hi => (by simp at hi)⟩, List.nodup_nil, fun p hp => (by cases hp), rfl, by
    show _ ∨ (!w.params.followText "set-order") = true
    cases w.params.followText "set-order" <;> simp, by show 0 * 5 < 7 * 3; decide, by show 0 < 64; decide⟩
/-- the object of a new set -/
abbrev nso (w : World) : Obj := { cls := .type "set", dict := none, data := .set #[] 0 (.fresh 0 0 (!w.params.followText "set-order")) }
theorem beyond {h : Heap} {b : Addr} (hb : h.objs.size ≤ b) : h.get? b = none := by
  cases q : h.get? b with
  | none => rfl
  | some o => exact absurd (Nat.lt_of_lt_of_le (Heap.lt_size q) hb) (Nat.lt_irrefl _)
/-- set(xs) -/
theorem call_setN {l : Addr} {items : Array Value} (ks : List NestedKey) {Q : Value → Shared → Prop} (hh : A.handled = none) (hl : s.heap.IsList l items) (hsz : items.size = ks.length) (hit : ∀ (i : Nat) (v : Value), items[i]? = some v → ∃ (x : Addr) (k : NestedKey), ks[i]? = some k ∧ v = Value.ref x ∧ KeyAt s.heap k x)
    (hfew : ks.length < 64) (hu : A.units + 12 < cLine)
    (h : ∀ (h' : Heap) (tk : Nat) L es ep t, SetN w h' s.heap.objs.size L es ep t → Met ks ks.length L → (∀ b o, s.heap.get? b = some o → h'.get? b = some o) → Q (.ref s.heap.objs.size) { s with heap := h', toks := tk }) :
    wpAny (model P w) A (PySem.call (.type "set") [.ref l]) Q E s := by
  obtain ⟨c, tl, hmro⟩ := F.called_set.mro
  have hmade := F.called_set.made; have hsub := F.called_set.sub
  refine wpAny_call (codeAny_of_tree ?_)
  show wpAny _ _ (callAny (.type "set") _) _ _ _
  refine wpAny_pure ⟨Code.quiet_builtin _ (by decide +kernel), codeAny_builtin F.entry_type_call ?_⟩
  rw [Around.under_plain (weight_type_call_type "set" [.ref l] []) rfl]
  have h1 := F.called_set.notType; have h2 := F.called_set.canCreate; have hct := F.typeCall_set_1 (.ref l)
  repeat (any_goals (first | assumption | wp_step))
  refine codeAny_mono (code_set_led1 (.ref l) (E := E) (Q₁ := fun obj s₁ => obj = .ref s.heap.objs.size ∧ s₁ = { s with heap := s.heap.push (nso w) }) ⟨rfl, rfl⟩) fun r s₁ hr => ?_
  match r, hr with
  | .error e, hr => exact hr
  | .ok (.ret obj), hr =>
    obtain ⟨rfl, rfl⟩ := hr
    have hS : (s.heap.push (nso w)).get? s.heap.objs.size = some (nso w) := Heap.get?_push_size _ rfl
    have hT : Shared.TypeIs { s with heap := s.heap.push (nso w) } (.ref s.heap.objs.size) "set" := ⟨_, hS, rfl⟩
    have hli := F.called_set.init.lookup; have hbi := F.called_set.init.bind (.ref s.heap.objs.size)
    repeat (any_goals (first | assumption | wp_step))
    refine codeAny_mono (codeAny_call_builtin (R := wants (fun r s₂ => r = .none ∧ ∃ h' tk L es ep t, s₂ = { s with heap := h', toks := tk } ∧ SetN w h' s.heap.objs.size L es ep t ∧ Met ks ks.length L ∧ (∀ b o, s.heap.get? b = some o → h'.get? b = some o)) E) F.called_set.init.plain F.entry_set_init (check_set_init_1 hT ?_)) fun r₂ s₂ hr₂ => ?_
    · obtain ⟨⟨ocls, odict, odata, oslots⟩, hol, hcl, nl, hdl⟩ := hl
      simp only at hcl hdl
      subst hcl; subst hdl
      have hl1 : (s.heap.push (nso w)).IsList l items := ⟨_, Heap.get?_push_of_some _ hol, rfl, nl, rfl⟩
      have hol' := Heap.get?_push_of_some (nso w) hol
      have hsls := F.sub_list_set; have hslf := F.sub_list_frozenset
      have hne : (Value.type "list" == Value.type "dict") = false := by decide
      unfold Builtin.«set.__init__» noKeywords Builtin.Frozenset.updateFrom
      generalize hPI : pyIter = PI
      wp_walk
      subst hPI
      refine wpAny_pyIter_list hl1 (wpAny_bind (wpAny_runValue ?_))
      have hlS : l < s.heap.objs.size := Heap.lt_size hol
      have hneI : l ≠ (s.heap.push (nso w)).objs.size := by rw [Heap.size_push]; exact Nat.ne_of_lt (Nat.lt_succ_of_lt hlS)
      have hSf : s.heap.objs.size ∉ [(s.heap.push (nso w)).objs.size, l] := by
        rw [Heap.size_push]; simp only [List.mem_cons, List.not_mem_nil, or_false, not_or]
        exact ⟨Nat.ne_of_lt (Nat.lt_succ_self _), Nat.ne_of_gt hlS⟩
      refine updates ((Walks.list (by simp [hh]) _ l hneI items).toS) s.heap.objs.size hSf ks hsz hfew s.heap hit (beyond (Nat.le_refl _)) (fun b hb => beyond (by rw [List.mem_singleton.mp hb, Heap.size_push]; exact Nat.le_succ _)) (by show A.units + 3 + 8 < cLine; omega) (items.size - 0) 0 _ (by omega) (Nat.zero_le _)
        ⟨⟨_, Heap.get?_push_size _ rfl, rfl, rfl⟩, (hl1.push _)⟩ (fun b o e => Heap.get?_push_of_some _ (Heap.get?_push_of_some _ e)) ⟨[], #[], 0, _, setN_new (Heap.get?_push_of_some _ hS), ⟨fun p hp => (by cases hp), fun p hp => (by simp at hp), Nat.le_refl _⟩, fun p hp => (by cases hp)⟩ fun s' L es ep t hm hS' g' hkp => ?_
      obtain ⟨h', g2, d', tk', os'⟩ := s'
      obtain rfl : g2 = s.gens := hm.gens
      obtain rfl : d' = s.drawn := hm.drawn
      obtain rfl : os' = s.os := hm.os
      rw [hsz] at g'
      show wpAny _ _ _ _ _ _
      refine wpAny_pure ?_
      show wpAny _ _ (PySem.ret Value.none) _ _ _
      exact wpAny_pure ⟨rfl, h', tk', L, es, ep, t, rfl, hS', g', hkp⟩
    · match r₂, hr₂ with
      | .error e, hr₂ => exact hr₂
      | .ok (.ret r), ⟨e1, h', tk, L, es, ep, t, e2, hS', g', hk'⟩ =>
        subst e1; subst e2
        repeat (any_goals (first | assumption | wp_step))
        exact h _ _ _ _ _ _ hS' g' hk'
end
end L3
namespace L3
open PySem PySem.Spec PyProof.Rows L2
mutual
def nk : Dv → NestedKey
  | .non => .none
  | .bl b => .none
  | .int i => .num i
  | .str x => .text x
  | .tup ws => .tup (nks ws)
  | .ref _ => .none
  | .ty _ => .none
def nks : List Dv → List NestedKey
  | [] => []
  | w :: ws => nk w :: nks ws
end
/-- numbers and tuples of such, so deep at most -/
def nn : Nat → Dv → Bool
  | _, .int _ => true
  | n + 1, .tup ws => ws.all (nn n)
  | _, _ => false
theorem nks_map : ∀ ws : List Dv, nks ws = ws.map nk
  | [] => rfl
  | w :: ws => by simp [nks, nks_map ws]
theorem nk_inj : ∀ (n : Nat) (x y : Dv), nn n x = true → nn n y = true → nk x = nk y → x = y
  | 0, .int a, y, _, hy, e => by cases y <;> simp_all [nn, nk]
  | n + 1, .int a, y, _, hy, e => by cases y <;> simp_all [nn, nk]
  | n + 1, .tup a, .int b, _, _, e => by simp [nk] at e
  | n + 1, .tup a, .tup b, hx, hy, e => by
    simp only [nn, List.all_eq_true] at hx hy
    simp only [nk, nks_map, NestedKey.tup.injEq] at e
    congr 1
    induction a generalizing b with
    | nil => cases b with
      | nil => rfl
      | cons y b => simp at e
    | cons x a ih => cases b with
      | nil => simp at e
      | cons y b =>
        simp only [List.map_cons, List.cons.injEq] at e
        rw [nk_inj n x y (hx x (by simp)) (hy y (by simp)) e.1, ih b (fun z hz => hx z (by simp [hz])) (fun z hz => hy z (by simp [hz])) e.2]
  | n, .non, _, h, _, _ => by cases n <;> simp [nn] at h
  | n, .bl _, _, h, _, _ => by cases n <;> simp [nn] at h
  | n, .str _, _, h, _, _ => by cases n <;> simp [nn] at h
  | n, .ref _, _, h, _, _ => by cases n <;> simp [nn] at h
  | n, .ty _, _, h, _, _ => by cases n <;> simp [nn] at h
  | 0, .tup _, _, h, _, _ => by simp [nn] at h
  | n, _, .non, _, h, _ => by cases n <;> simp [nn] at h
  | n, _, .bl _, _, h, _ => by cases n <;> simp [nn] at h
  | n, _, .str _, _, h, _ => by cases n <;> simp [nn] at h
  | n, _, .ref _, _, h, _ => by cases n <;> simp [nn] at h
  | n, _, .ty _, _, h, _ => by cases n <;> simp [nn] at h
theorem nk_nodup {n : Nat} : ∀ {ws : List Dv}, ws.all (nn n) = true → ((ws.map nk).Nodup ↔ ws.Nodup)
  | [], _ => by simp
  | w :: ws, h => by
    simp only [List.all_cons, Bool.and_eq_true] at h
    rw [List.map_cons, List.nodup_cons, List.nodup_cons, nk_nodup h.2]
    have : nk w ∈ ws.map nk ↔ w ∈ ws := ⟨fun z => by
      obtain ⟨u, hu, e⟩ := List.mem_map.mp z
      rw [← nk_inj n u w (List.all_eq_true.mp h.2 u hu) h.1 e]; exact hu, fun z => List.mem_map.mpr ⟨w, z, rfl⟩⟩
    rw [this]
section
variable {X : Cx} {pins : List (Addr × Obj)} {σ : L2.St} {H : Hp} {s : Shared}
theorem nk_is (I : Inv X pins σ H s) : ∀ (n : Nat) (w : Dv) (v : V) (u : Value), nn n w = true → Rp X.K H w v → RelV v u → NestedIs s.heap (nk w) u ∧ (nk w).depth ≤ n ∧ okN (nk w) = true
  | n, .int i, _, _, _, .int, r => by obtain ⟨t, rfl⟩ := r; exact ⟨.int i t, Nat.zero_le _, rfl⟩
  | n + 1, .tup ws, _, _, h, .tup (vs := vs) hq rs, r => by
    cases r
    obtain ⟨its, rv, ⟨o, ho, hc, m, hd⟩, _⟩ := I.tuple hq
    simp only [nn] at h
    have key : ∀ (ws : List Dv) (vs : List V) (its : List Value), ws.all (nn n) = true → Rps X.K H ws vs → Vals vs its → NestedAll s.heap (nks ws) its ∧ NestedKey.depthAll (nks ws) ≤ n ∧ okNs (nks ws) = true := by
      intro ws
      induction ws with
      | nil => intro vs its _ r1 r2; cases r1; cases r2; exact ⟨.nil, Nat.zero_le _, rfl⟩
      | cons w ws ih =>
        intro vs its h r1 r2
        simp only [List.all_cons, Bool.and_eq_true] at h
        cases r1 with
        | cons p r1 =>
          cases r2 with
          | cons q r2 =>
            obtain ⟨a1, a2, a3⟩ := nk_is I n w _ _ h.1 p q
            obtain ⟨b1, b2, b3⟩ := ih _ _ h.2 r1 r2
            exact ⟨.cons a1 b1, by simp only [nks, NestedKey.depthAll]; omega, by simp [nks, okNs, a3, b3]⟩
    obtain ⟨b1, b2, b3⟩ := key ws vs its h rs rv
    exact ⟨.tup ho hc hd (by simpa using b1), by simp only [nk, NestedKey.depth]; omega, by simpa [nk, okN] using b3⟩
  | 0, .tup _, _, _, h, _, _ => by simp [nn] at h
  | n, .non, _, _, h, _, _ => by cases n <;> simp [nn] at h
  | n, .bl _, _, _, h, _, _ => by cases n <;> simp [nn] at h
  | n, .str _, _, _, h, _, _ => by cases n <;> simp [nn] at h
  | n, .ref _, _, _, h, _, _ => by cases n <;> simp [nn] at h
  | n, .ty _, _, _, h, _, _ => by cases n <;> simp [nn] at h
def isTu : Dv → Bool
  | .tup _ => true
  | _ => false
/-- len(set(xs)) -/
def lenSet (ta : Te) : Te := fun τ G Q => ta τ G fun w G1 => match w with
  | .ref a => ∃ us, G1 a = some (.lst us) ∧ us.length < 64 ∧ us.all isTu = true ∧ us.all (nn 8) = true ∧ ∀ n : Nat, (n = us.length ↔ us.Nodup) → Q (.int n) G1
  | _ => False
variable {a : Expr} {ta : Te} {p p2 q pos : Pos}
theorem e_lenSet (hc : X.calm = true) (hu : X.A.units + 64 < cLine) (hg : Gl X "len") (hm : X.mg "len" = none) (hg2 : Gl X "set") (hm2 : X.mg "set" = none) (ha : Pe X a ta)
    (na : starEach [a] X.env = (false, eval a X.env) :: starEach [] X.env := by rfl) : Pe X (.Call (.Name "len" p) [.Call (.Name "set" p2) [a] [] q] [] pos) (lenSet ta) := by
  refine ⟨⟨fun pins s σ H Q I ⟨τ, G, Q', sσ, g, h, k⟩ => ?_⟩⟩
  refine Call_ (ld_blt I hg hm PySem.boot_len (PyProof.Rows.callWith_builtin1 (PyProof.Rows.args_cons ?_ rfl) rfl rfl))
  refine Call_ (ld_blt I hg2 hm2 PyProof.Rows.boot_set ?_)
  refine PyProof.Rows.callWith_type1 (PyProof.Rows.args_cons (thn (ha.pe.run pins s σ H (fun v H1 => ∃ w G1, TK X.K H H1 ∧ Rp X.K H1 w v ∧ AbH (ax X) G1 H1 ∧ (match w with
    | .ref a => ∃ us, G1 a = some (.lst us) ∧ us.length < 64 ∧ us.all isTu = true ∧ us.all (nn 8) = true ∧ ∀ n : Nat, (n = us.length ↔ us.Nodup) → Q' (.int n) G1
    | _ => False)) I ⟨τ, G, _, sσ, g, h, fun v H1 w G1 t1 r1 g1 h1 => ⟨w, G1, t1, r1, g1, h1⟩⟩) fun v s1 ⟨x, H1, I1, r1, w, G1, t1, rp, g1, h1⟩ => PyProof.Rows.args_nil ?_) na) na rfl
  cases rp with
  | @ref l =>
    obtain ⟨us, e, hl, hT, hN, q1⟩ := h1
    cases r1
    obtain ⟨xs, e2, rs⟩ := g1 _ _ e
    obtain ⟨its, rv, pl, hz⟩ := I1.list (SqL.of e2)
    have n1 := rs.length
    have n2 := rv.length
    refine call_setN (P := X.prog) (w := X.w) (us.map nk) (I1.ok.hd hc) pl.isList (by rw [List.size_toArray, List.length_map]; omega) (fun i v hv => ?_) (by rw [List.length_map]; exact hl) (by omega) fun h' tk L es ep t R g' kp => ?_
    · have hv : its[i]? = some v := by simpa using hv
      obtain ⟨y, hy⟩ : ∃ y, xs[i]? = some y := ⟨_, List.getElem?_eq_getElem (by have := (List.getElem?_eq_some_iff.mp hv).1; omega)⟩
      obtain ⟨v', e1, ry⟩ := rv.get hy
      rw [hv] at e1; cases e1
      obtain ⟨u, hu', ru⟩ := rs.get' hy
      obtain ⟨b1, b2, b3⟩ := nk_is I1 8 u y v (List.all_eq_true.mp hN u (List.mem_of_getElem? hu')) ru ry
      have hT := List.all_eq_true.mp hT u (List.mem_of_getElem? hu')
      cases ru with
      | @tup _ c _ _ _ =>
        cases ry
        exact ⟨c, _, by rw [List.getElem?_map, hu']; rfl, rfl, b1, b2, b3⟩
      | _ => simp [isTu] at hT
    · refine PyProof.Rows.args_nil ?_
      obtain ⟨o, ho, hex, hd⟩ := R.ob
      have es_ := rws_len R.rw_
      have I2 : Inv X pins σ H1 { s1 with heap := h', toks := tk } := I1.kept kp
      have fw := R.fw
      refine call_len_set ho hex hd (SetN.fits (s := { s1 with heap := h', toks := tk }) R) (by rw [es_]; omega) ⟨.int L.length, H1, I2.tok _, ⟨_, by rw [es_]⟩, k _ _ _ _ t1 .int g1 (q1 L.length ?_)⟩
      have c := g'.count R.nd
      rw [List.length_map, nk_nodup hN] at c
      exact c
  | _ => exact h1.elim
end
section
variable {X : Cx} {st : Stmt} {rest : List Stmt} {s1 s2 : Ts}
/-- a cut behind a statement -/
theorem ss_cut (h1 : Ps X st s1) (h2 : Pss X rest s2) : Pss X (st :: rest) (ct s1 s2) := ⟨PSs.imp (pss_cons h1.ps h2.pss) fun D σ H ⟨τ, G, D', s, g, ⟨M, h, hM⟩, k⟩ =>
  ⟨τ, G, _, s, g, h, ⟨fun σ1 H1 τ1 G1 t1 s1 g1 q1 => ⟨τ1, G1, D', s1, g1, hM _ _ q1, k.mono t1⟩, k.rt, k.bk, k.ct⟩⟩⟩
end
end L3
namespace L3
open PySem PySem.Spec PyProof.Rows L2
def topS (i : Nat) : Stmt := PySem.Challenge.pw_changegiven_k75_whole_counts_of_one_wort.main.body.getD i (.Pass ⟨0, 0, 0, 0⟩)
abbrev s_is_whole : Stmt := topS 11
theorem sc_is_whole : FnScope ["value"] ["value"] (defScope s_is_whole) := ⟨rfl, rfl, rfl, by decide +kernel, rfl, by decide +kernel, by decide +kernel⟩
abbrev s_is_number : Stmt := topS 12
theorem sc_is_number : FnScope ["value", "low", "high"] ["value", "low", "high"] (defScope s_is_number) := ⟨rfl, rfl, rfl, by decide +kernel, rfl, by decide +kernel, by decide +kernel⟩
abbrev s_is_between : Stmt := topS 13
theorem sc_is_between : FnScope ["value", "least", "most"] ["value", "least", "most"] (defScope s_is_between) := ⟨rfl, rfl, rfl, by decide +kernel, rfl, by decide +kernel, by decide +kernel⟩
abbrev s_is_tuple_of : Stmt := topS 14
theorem sc_is_tuple_of : FnScope ["value", "many"] ["value", "many"] (defScope s_is_tuple_of) := ⟨rfl, rfl, rfl, by decide +kernel, rfl, by decide +kernel, by decide +kernel⟩
abbrev s_is_row : Stmt := topS 15
theorem sc_is_row : FnScope ["value", "least", "most"] ["value", "least", "most"] (defScope s_is_row) := ⟨rfl, rfl, rfl, by decide +kernel, rfl, by decide +kernel, by decide +kernel⟩
abbrev s_first_wrong : Stmt := topS 16
theorem sc_first_wrong : FnScope ["value", "is_right", "index", "each"] ["value", "is_right"] (defScope s_first_wrong) := ⟨rfl, rfl, rfl, by decide +kernel, rfl, by decide +kernel, by decide +kernel⟩
abbrev s_worth_of : Stmt := topS 25
theorem sc_worth_of : FnScope ["coins", "numbers", "coin", "number"] ["coins", "numbers"] (defScope s_worth_of) := ⟨rfl, rfl, rfl, by decide +kernel, rfl, by decide +kernel, by decide +kernel⟩
abbrev s_are_numbers : Stmt := topS 26
theorem sc_are_numbers : FnScope ["coins", "value", "most", "number"] ["coins", "value", "most"] (defScope s_are_numbers) := ⟨rfl, rfl, rfl, by decide +kernel, rfl, by decide +kernel, by decide +kernel⟩
abbrev s_is_coin_behind : Stmt := topS 27
theorem sc_is_coin_behind : FnScope ["value", "ahead"] ["value", "ahead"] (defScope s_is_coin_behind) := ⟨rfl, rfl, rfl, by decide +kernel, rfl, by decide +kernel, by decide +kernel⟩
abbrev s_wrong_coin : Stmt := topS 28
theorem sc_wrong_coin : FnScope ["value"] ["value"] (defScope s_wrong_coin) := ⟨rfl, rfl, rfl, by decide +kernel, rfl, by decide +kernel, by decide +kernel⟩
abbrev s_wrong_tube : Stmt := topS 29
theorem sc_wrong_tube : FnScope ["value"] ["value"] (defScope s_wrong_tube) := ⟨rfl, rfl, rfl, by decide +kernel, rfl, by decide +kernel, by decide +kernel⟩
abbrev s_is_kind_behind : Stmt := topS 30
theorem sc_is_kind_behind : FnScope ["coins", "value", "ahead"] ["coins", "value", "ahead"] (defScope s_is_kind_behind) := ⟨rfl, rfl, rfl, by decide +kernel, rfl, by decide +kernel, by decide +kernel⟩
abbrev s_wrong_kind : Stmt := topS 31
theorem sc_wrong_kind : FnScope ["coins", "value"] ["coins", "value"] (defScope s_wrong_kind) := ⟨rfl, rfl, rfl, by decide +kernel, rfl, by decide +kernel, by decide +kernel⟩
abbrev s_is_pair : Stmt := topS 32
theorem sc_is_pair : FnScope ["kinds", "many", "value"] ["kinds", "many", "value"] (defScope s_is_pair) := ⟨rfl, rfl, rfl, by decide +kernel, rfl, by decide +kernel, by decide +kernel⟩
abbrev s_is_stop_row : Stmt := topS 33
theorem sc_is_stop_row : FnScope ["kinds", "many", "value", "pair", "one", "other"] ["kinds", "many", "value"] (defScope s_is_stop_row) := ⟨rfl, rfl, rfl, by decide +kernel, rfl, by decide +kernel, by decide +kernel⟩
abbrev s_wrong_stop : Stmt := topS 34
theorem sc_wrong_stop : FnScope ["kinds", "value"] ["kinds", "value"] (defScope s_wrong_stop) := ⟨rfl, rfl, rfl, by decide +kernel, rfl, by decide +kernel, by decide +kernel⟩
abbrev s_check_coins : Stmt := topS 35
theorem sc_check_coins : FnScope ["coins", "wrong"] ["coins"] (defScope s_check_coins) := ⟨rfl, rfl, rfl, by decide +kernel, rfl, by decide +kernel, by decide +kernel⟩
abbrev s_check_tubes : Stmt := topS 36
theorem sc_check_tubes : FnScope ["coins", "tubes", "wrong"] ["coins", "tubes"] (defScope s_check_tubes) := ⟨rfl, rfl, rfl, by decide +kernel, rfl, by decide +kernel, by decide +kernel⟩
abbrev s_check_kinds : Stmt := topS 37
theorem sc_check_kinds : FnScope ["coins", "kinds", "wrong"] ["coins", "kinds"] (defScope s_check_kinds) := ⟨rfl, rfl, rfl, by decide +kernel, rfl, by decide +kernel, by decide +kernel⟩
abbrev s_check_pattern : Stmt := topS 38
theorem sc_check_pattern : FnScope ["kinds", "pattern", "wrong"] ["kinds", "pattern"] (defScope s_check_pattern) := ⟨rfl, rfl, rfl, by decide +kernel, rfl, by decide +kernel, by decide +kernel⟩
abbrev s_any_row : Stmt := topS 39
theorem sc_any_row : FnScope ["kinds", "index"] ["kinds"] (defScope s_any_row) := ⟨rfl, rfl, rfl, by decide +kernel, rfl, by decide +kernel, by decide +kernel⟩
abbrev s_check_machine : Stmt := topS 42
theorem sc_check_machine : FnScope ["value"] ["value"] (defScope s_check_machine) := ⟨rfl, rfl, rfl, by decide +kernel, rfl, by decide +kernel, by decide +kernel⟩
abbrev s_is_stock : Stmt := topS 43
theorem sc_is_stock : FnScope ["machine", "value", "number", "tube"] ["machine", "value"] (defScope s_is_stock) := ⟨rfl, rfl, rfl, by decide +kernel, rfl, by decide +kernel, by decide +kernel⟩
abbrev s_check_stock : Stmt := topS 44
theorem sc_check_stock : FnScope ["machine", "value"] ["machine", "value"] (defScope s_check_stock) := ⟨rfl, rfl, rfl, by decide +kernel, rfl, by decide +kernel, by decide +kernel⟩
abbrev s_is_kind : Stmt := topS 45
theorem sc_is_kind : FnScope ["machine", "value"] ["machine", "value"] (defScope s_is_kind) := ⟨rfl, rfl, rfl, by decide +kernel, rfl, by decide +kernel, by decide +kernel⟩
abbrev s_check_kind : Stmt := topS 46
theorem sc_check_kind : FnScope ["machine", "value"] ["machine", "value"] (defScope s_check_kind) := ⟨rfl, rfl, rfl, by decide +kernel, rfl, by decide +kernel, by decide +kernel⟩
abbrev s_wrong_number : Stmt := topS 50
theorem sc_wrong_number : FnScope ["value"] ["value"] (defScope s_wrong_number) := ⟨rfl, rfl, rfl, by decide +kernel, rfl, by decide +kernel, by decide +kernel⟩
abbrev s_check_count : Stmt := topS 51
theorem sc_check_count : FnScope ["machine", "value", "many", "wrong"] ["machine", "value"] (defScope s_check_count) := ⟨rfl, rfl, rfl, by decide +kernel, rfl, by decide +kernel, by decide +kernel⟩
abbrev s_is_most : Stmt := topS 52
theorem sc_is_most : FnScope ["value"] ["value"] (defScope s_is_most) := ⟨rfl, rfl, rfl, by decide +kernel, rfl, by decide +kernel, by decide +kernel⟩
abbrev s_lots_sold : Stmt := topS 53
theorem sc_lots_sold : FnScope ["many", "most", "found", "turn", "lot", "number"] ["many", "most"] (defScope s_lots_sold) := ⟨rfl, rfl, rfl, by decide +kernel, rfl, by decide +kernel, by decide +kernel⟩
abbrev s_sales_by : Stmt := topS 54
theorem sc_sales_by : FnScope ["machine", "stock", "count", "most", "due", "prices", "lots", "price", "paid", "lot", "number"] ["machine", "stock", "count", "most"] (defScope s_sales_by) := ⟨rfl, rfl, rfl, by decide +kernel, rfl, by decide +kernel, by decide +kernel⟩
abbrev s_check_counted : Stmt := topS 55
theorem sc_check_counted : FnScope ["machine", "stock", "count", "most"] ["machine", "stock", "count", "most"] (defScope s_check_counted) := ⟨rfl, rfl, rfl, by decide +kernel, rfl, by decide +kernel, by decide +kernel⟩
abbrev s_sales : Stmt := topS 56
theorem sc_sales : FnScope ["machine", "stock", "count", "most"] ["machine", "stock", "count", "most"] (defScope s_sales) := ⟨rfl, rfl, rfl, by decide +kernel, rfl, by decide +kernel, by decide +kernel⟩
abbrev s_worths : Stmt := topS 57
theorem sc_worths : FnScope ["machine", "stock", "count", "most", "kind", "told", "lot"] ["machine", "stock", "count", "most", "kind"] (defScope s_worths) := ⟨rfl, rfl, rfl, by decide +kernel, rfl, by decide +kernel, by decide +kernel⟩
abbrev s__law_bag : Stmt := topS 59
theorem sc__law_bag : FnScope ["script", "lap", "stirred", "cell", "own"] ["script", "lap"] (defScope s__law_bag) := ⟨rfl, rfl, rfl, by decide +kernel, rfl, by decide +kernel, by decide +kernel⟩
abbrev s__law_take : Stmt := topS 60
theorem sc__law_take : FnScope ["bag", "top", "digit"] ["bag", "top"] (defScope s__law_take) := ⟨rfl, rfl, rfl, by decide +kernel, rfl, by decide +kernel, by decide +kernel⟩
abbrev s__law_pull : Stmt := topS 61
theorem sc__law_pull : FnScope ["bag", "some"] ["bag", "some"] (defScope s__law_pull) := ⟨rfl, rfl, rfl, by decide +kernel, rfl, by decide +kernel, by decide +kernel⟩
abbrev s__law_coins : Stmt := topS 62
theorem sc__law_coins : FnScope ["bag", "top", "found", "turn", "own"] ["bag", "top"] (defScope s__law_coins) := ⟨rfl, rfl, rfl, by decide +kernel, rfl, by decide +kernel, by decide +kernel⟩
abbrev s__law_worth : Stmt := topS 63
theorem sc__law_worth : FnScope ["coins", "numbers", "coin", "many"] ["coins", "numbers"] (defScope s__law_worth) := ⟨rfl, rfl, rfl, by decide +kernel, rfl, by decide +kernel, by decide +kernel⟩
abbrev s__law_parts : Stmt := topS 64
theorem sc__law_parts : FnScope ["bag", "top", "coins", "tubes", "found", "turn", "paid", "price", "coin", "k"] ["bag", "top"] (defScope s__law_parts) := ⟨rfl, rfl, rfl, by decide +kernel, rfl, by decide +kernel, by decide +kernel⟩
abbrev s__law_machine : Stmt := topS 65
theorem sc__law_machine : FnScope ["parts"] ["parts"] (defScope s__law_machine) := ⟨rfl, rfl, rfl, by decide +kernel, rfl, by decide +kernel, by decide +kernel⟩
abbrev s__law_stock : Stmt := topS 66
theorem sc__law_stock : FnScope ["bag", "parts", "many"] ["bag", "parts"] (defScope s__law_stock) := ⟨rfl, rfl, rfl, by decide +kernel, rfl, by decide +kernel, by decide +kernel⟩
abbrev s__law_sales : Stmt := topS 67
theorem sc__law_sales : FnScope ["parts", "stock", "count", "most", "due", "found", "price", "paid", "longer", "some", "many", "whole", "own"] ["parts", "stock", "count", "most"] (defScope s__law_sales) := ⟨rfl, rfl, rfl, by decide +kernel, rfl, by decide +kernel, by decide +kernel⟩
abbrev s__law_count : Stmt := topS 68
theorem sc__law_count : FnScope ["bag", "parts", "stock", "most", "whole", "left", "price", "paid", "many", "found", "rest", "coin"] ["bag", "parts", "stock", "most"] (defScope s__law_count) := ⟨rfl, rfl, rfl, by decide +kernel, rfl, by decide +kernel, by decide +kernel⟩
abbrev s__law_right : Stmt := topS 69
theorem sc__law_right : FnScope ["bag", "parts", "most", "machine", "stock", "count", "due", "wide", "kinds", "other", "k", "less", "free", "below", "price", "paid", "many", "sale", "j"] ["bag"] (defScope s__law_right) := ⟨rfl, rfl, rfl, by decide +kernel, rfl, by decide +kernel, by decide +kernel⟩
abbrev s_law : Stmt := topS 70
theorem sc_law : FnScope ["script", "lap", "bag", "turn"] ["script"] (defScope s_law) := ⟨rfl, rfl, rfl, by decide +kernel, rfl, by decide +kernel, by decide +kernel⟩
abbrev s_Machine___init__ : Stmt := inClass (topS 40) 0
theorem sc_Machine___init__ : FnScope ["self", "coins", "tubes", "kinds", "pattern"] ["self", "coins", "tubes", "kinds", "pattern"] (defScope s_Machine___init__) := ⟨rfl, rfl, rfl, by decide +kernel, rfl, by decide +kernel, by decide +kernel⟩
structure Txt (K : PySem.W.Frag) (mg : Str → Option Value) (base : Heap) where
  f_is_whole : Addr
  d_is_whole : FuncData
  F_is_whole : FunA K "is_whole" "is_whole" s_is_whole f_is_whole d_is_whole
  b_is_whole : Binds K d_is_whole ["value"] []
  g_is_whole : mg "is_whole" = some (.ref f_is_whole)
  f_is_number : Addr
  d_is_number : FuncData
  F_is_number : FunA K "is_number" "is_number" s_is_number f_is_number d_is_number
  b_is_number : Binds K d_is_number ["value", "low", "high"] []
  g_is_number : mg "is_number" = some (.ref f_is_number)
  ds2_is_number : List Value
  b2_is_number : Binds K d_is_number ["value", "low", "high"] ds2_is_number
  v2_is_number : Vals [V.int 0, V.non] ds2_is_number
  f_is_between : Addr
  d_is_between : FuncData
  F_is_between : FunA K "is_between" "is_between" s_is_between f_is_between d_is_between
  b_is_between : Binds K d_is_between ["value", "least", "most"] []
  g_is_between : mg "is_between" = some (.ref f_is_between)
  f_is_tuple_of : Addr
  d_is_tuple_of : FuncData
  F_is_tuple_of : FunA K "is_tuple_of" "is_tuple_of" s_is_tuple_of f_is_tuple_of d_is_tuple_of
  b_is_tuple_of : Binds K d_is_tuple_of ["value", "many"] []
  g_is_tuple_of : mg "is_tuple_of" = some (.ref f_is_tuple_of)
  f_is_row : Addr
  d_is_row : FuncData
  F_is_row : FunA K "is_row" "is_row" s_is_row f_is_row d_is_row
  b_is_row : Binds K d_is_row ["value", "least", "most"] []
  g_is_row : mg "is_row" = some (.ref f_is_row)
  f_first_wrong : Addr
  d_first_wrong : FuncData
  F_first_wrong : FunA K "first_wrong" "first_wrong" s_first_wrong f_first_wrong d_first_wrong
  b_first_wrong : Binds K d_first_wrong ["value", "is_right"] []
  g_first_wrong : mg "first_wrong" = some (.ref f_first_wrong)
  f_worth_of : Addr
  d_worth_of : FuncData
  F_worth_of : FunA K "worth_of" "worth_of" s_worth_of f_worth_of d_worth_of
  b_worth_of : Binds K d_worth_of ["coins", "numbers"] []
  g_worth_of : mg "worth_of" = some (.ref f_worth_of)
  f_are_numbers : Addr
  d_are_numbers : FuncData
  F_are_numbers : FunA K "are_numbers" "are_numbers" s_are_numbers f_are_numbers d_are_numbers
  b_are_numbers : Binds K d_are_numbers ["coins", "value", "most"] []
  g_are_numbers : mg "are_numbers" = some (.ref f_are_numbers)
  f_is_coin_behind : Addr
  d_is_coin_behind : FuncData
  F_is_coin_behind : FunA K "is_coin_behind" "is_coin_behind" s_is_coin_behind f_is_coin_behind d_is_coin_behind
  b_is_coin_behind : Binds K d_is_coin_behind ["value", "ahead"] []
  g_is_coin_behind : mg "is_coin_behind" = some (.ref f_is_coin_behind)
  f_wrong_coin : Addr
  d_wrong_coin : FuncData
  F_wrong_coin : FunA K "wrong_coin" "wrong_coin" s_wrong_coin f_wrong_coin d_wrong_coin
  b_wrong_coin : Binds K d_wrong_coin ["value"] []
  g_wrong_coin : mg "wrong_coin" = some (.ref f_wrong_coin)
  f_wrong_tube : Addr
  d_wrong_tube : FuncData
  c_wrong_tube : Addr
  P_wrong_tube : Addr
  L_wrong_tube : FunL K "wrong_tube" "wrong_tube" s_wrong_tube f_wrong_tube d_wrong_tube c_wrong_tube
  TB_wrong_tube : LamX.TabB base mg c_wrong_tube P_wrong_tube
  F_wrong_tube : FunA K "wrong_tube" "wrong_tube" s_wrong_tube f_wrong_tube d_wrong_tube := L_wrong_tube.toA
  b_wrong_tube : Binds K d_wrong_tube ["value"] []
  g_wrong_tube : mg "wrong_tube" = some (.ref f_wrong_tube)
  f_is_kind_behind : Addr
  d_is_kind_behind : FuncData
  F_is_kind_behind : FunA K "is_kind_behind" "is_kind_behind" s_is_kind_behind f_is_kind_behind d_is_kind_behind
  b_is_kind_behind : Binds K d_is_kind_behind ["coins", "value", "ahead"] []
  g_is_kind_behind : mg "is_kind_behind" = some (.ref f_is_kind_behind)
  f_wrong_kind : Addr
  d_wrong_kind : FuncData
  c_wrong_kind : Addr
  P_wrong_kind : Addr
  L_wrong_kind : FunL K "wrong_kind" "wrong_kind" s_wrong_kind f_wrong_kind d_wrong_kind c_wrong_kind
  TB_wrong_kind : LamX.TabB base mg c_wrong_kind P_wrong_kind
  F_wrong_kind : FunA K "wrong_kind" "wrong_kind" s_wrong_kind f_wrong_kind d_wrong_kind := L_wrong_kind.toA
  b_wrong_kind : Binds K d_wrong_kind ["coins", "value"] []
  g_wrong_kind : mg "wrong_kind" = some (.ref f_wrong_kind)
  f_is_pair : Addr
  d_is_pair : FuncData
  F_is_pair : FunA K "is_pair" "is_pair" s_is_pair f_is_pair d_is_pair
  b_is_pair : Binds K d_is_pair ["kinds", "many", "value"] []
  g_is_pair : mg "is_pair" = some (.ref f_is_pair)
  f_is_stop_row : Addr
  d_is_stop_row : FuncData
  F_is_stop_row : FunA K "is_stop_row" "is_stop_row" s_is_stop_row f_is_stop_row d_is_stop_row
  b_is_stop_row : Binds K d_is_stop_row ["kinds", "many", "value"] []
  g_is_stop_row : mg "is_stop_row" = some (.ref f_is_stop_row)
  f_wrong_stop : Addr
  d_wrong_stop : FuncData
  c_wrong_stop : Addr
  P_wrong_stop : Addr
  L_wrong_stop : FunL K "wrong_stop" "wrong_stop" s_wrong_stop f_wrong_stop d_wrong_stop c_wrong_stop
  TB_wrong_stop : LamX.TabB base mg c_wrong_stop P_wrong_stop
  F_wrong_stop : FunA K "wrong_stop" "wrong_stop" s_wrong_stop f_wrong_stop d_wrong_stop := L_wrong_stop.toA
  b_wrong_stop : Binds K d_wrong_stop ["kinds", "value"] []
  g_wrong_stop : mg "wrong_stop" = some (.ref f_wrong_stop)
  f_check_coins : Addr
  d_check_coins : FuncData
  F_check_coins : FunA K "check_coins" "check_coins" s_check_coins f_check_coins d_check_coins
  b_check_coins : Binds K d_check_coins ["coins"] []
  g_check_coins : mg "check_coins" = some (.ref f_check_coins)
  f_check_tubes : Addr
  d_check_tubes : FuncData
  F_check_tubes : FunA K "check_tubes" "check_tubes" s_check_tubes f_check_tubes d_check_tubes
  b_check_tubes : Binds K d_check_tubes ["coins", "tubes"] []
  g_check_tubes : mg "check_tubes" = some (.ref f_check_tubes)
  f_check_kinds : Addr
  d_check_kinds : FuncData
  F_check_kinds : FunA K "check_kinds" "check_kinds" s_check_kinds f_check_kinds d_check_kinds
  b_check_kinds : Binds K d_check_kinds ["coins", "kinds"] []
  g_check_kinds : mg "check_kinds" = some (.ref f_check_kinds)
  f_check_pattern : Addr
  d_check_pattern : FuncData
  F_check_pattern : FunA K "check_pattern" "check_pattern" s_check_pattern f_check_pattern d_check_pattern
  b_check_pattern : Binds K d_check_pattern ["kinds", "pattern"] []
  g_check_pattern : mg "check_pattern" = some (.ref f_check_pattern)
  f_any_row : Addr
  d_any_row : FuncData
  F_any_row : FunA K "any_row" "any_row" s_any_row f_any_row d_any_row
  b_any_row : Binds K d_any_row ["kinds"] []
  g_any_row : mg "any_row" = some (.ref f_any_row)
  f_check_machine : Addr
  d_check_machine : FuncData
  F_check_machine : FunA K "check_machine" "check_machine" s_check_machine f_check_machine d_check_machine
  b_check_machine : Binds K d_check_machine ["value"] []
  g_check_machine : mg "check_machine" = some (.ref f_check_machine)
  f_is_stock : Addr
  d_is_stock : FuncData
  F_is_stock : FunA K "is_stock" "is_stock" s_is_stock f_is_stock d_is_stock
  b_is_stock : Binds K d_is_stock ["machine", "value"] []
  g_is_stock : mg "is_stock" = some (.ref f_is_stock)
  f_check_stock : Addr
  d_check_stock : FuncData
  F_check_stock : FunA K "check_stock" "check_stock" s_check_stock f_check_stock d_check_stock
  b_check_stock : Binds K d_check_stock ["machine", "value"] []
  g_check_stock : mg "check_stock" = some (.ref f_check_stock)
  f_is_kind : Addr
  d_is_kind : FuncData
  F_is_kind : FunA K "is_kind" "is_kind" s_is_kind f_is_kind d_is_kind
  b_is_kind : Binds K d_is_kind ["machine", "value"] []
  g_is_kind : mg "is_kind" = some (.ref f_is_kind)
  f_check_kind : Addr
  d_check_kind : FuncData
  F_check_kind : FunA K "check_kind" "check_kind" s_check_kind f_check_kind d_check_kind
  b_check_kind : Binds K d_check_kind ["machine", "value"] []
  g_check_kind : mg "check_kind" = some (.ref f_check_kind)
  f_wrong_number : Addr
  d_wrong_number : FuncData
  c_wrong_number : Addr
  P_wrong_number : Addr
  L_wrong_number : FunL K "wrong_number" "wrong_number" s_wrong_number f_wrong_number d_wrong_number c_wrong_number
  TB_wrong_number : LamX.TabB base mg c_wrong_number P_wrong_number
  F_wrong_number : FunA K "wrong_number" "wrong_number" s_wrong_number f_wrong_number d_wrong_number := L_wrong_number.toA
  b_wrong_number : Binds K d_wrong_number ["value"] []
  g_wrong_number : mg "wrong_number" = some (.ref f_wrong_number)
  f_check_count : Addr
  d_check_count : FuncData
  F_check_count : FunA K "check_count" "check_count" s_check_count f_check_count d_check_count
  b_check_count : Binds K d_check_count ["machine", "value"] []
  g_check_count : mg "check_count" = some (.ref f_check_count)
  f_is_most : Addr
  d_is_most : FuncData
  F_is_most : FunA K "is_most" "is_most" s_is_most f_is_most d_is_most
  b_is_most : Binds K d_is_most ["value"] []
  g_is_most : mg "is_most" = some (.ref f_is_most)
  f_lots_sold : Addr
  d_lots_sold : FuncData
  F_lots_sold : FunA K "lots_sold" "lots_sold" s_lots_sold f_lots_sold d_lots_sold
  b_lots_sold : Binds K d_lots_sold ["many", "most"] []
  g_lots_sold : mg "lots_sold" = some (.ref f_lots_sold)
  f_sales_by : Addr
  d_sales_by : FuncData
  F_sales_by : FunA K "sales_by" "sales_by" s_sales_by f_sales_by d_sales_by
  b_sales_by : Binds K d_sales_by ["machine", "stock", "count", "most"] []
  g_sales_by : mg "sales_by" = some (.ref f_sales_by)
  f_check_counted : Addr
  d_check_counted : FuncData
  F_check_counted : FunA K "check_counted" "check_counted" s_check_counted f_check_counted d_check_counted
  b_check_counted : Binds K d_check_counted ["machine", "stock", "count", "most"] []
  g_check_counted : mg "check_counted" = some (.ref f_check_counted)
  f_sales : Addr
  d_sales : FuncData
  F_sales : FunA K "sales" "sales" s_sales f_sales d_sales
  b_sales : Binds K d_sales ["machine", "stock", "count", "most"] []
  g_sales : mg "sales" = some (.ref f_sales)
  f_worths : Addr
  d_worths : FuncData
  F_worths : FunA K "worths" "worths" s_worths f_worths d_worths
  b_worths : Binds K d_worths ["machine", "stock", "count", "most", "kind"] []
  g_worths : mg "worths" = some (.ref f_worths)
  f__law_bag : Addr
  d__law_bag : FuncData
  F__law_bag : FunA K "_law_bag" "_law_bag" s__law_bag f__law_bag d__law_bag
  b__law_bag : Binds K d__law_bag ["script", "lap"] []
  g__law_bag : mg "_law_bag" = some (.ref f__law_bag)
  f__law_take : Addr
  d__law_take : FuncData
  F__law_take : FunA K "_law_take" "_law_take" s__law_take f__law_take d__law_take
  b__law_take : Binds K d__law_take ["bag", "top"] []
  g__law_take : mg "_law_take" = some (.ref f__law_take)
  f__law_pull : Addr
  d__law_pull : FuncData
  F__law_pull : FunA K "_law_pull" "_law_pull" s__law_pull f__law_pull d__law_pull
  b__law_pull : Binds K d__law_pull ["bag", "some"] []
  g__law_pull : mg "_law_pull" = some (.ref f__law_pull)
  f__law_coins : Addr
  d__law_coins : FuncData
  F__law_coins : FunA K "_law_coins" "_law_coins" s__law_coins f__law_coins d__law_coins
  b__law_coins : Binds K d__law_coins ["bag", "top"] []
  g__law_coins : mg "_law_coins" = some (.ref f__law_coins)
  f__law_worth : Addr
  d__law_worth : FuncData
  F__law_worth : FunA K "_law_worth" "_law_worth" s__law_worth f__law_worth d__law_worth
  b__law_worth : Binds K d__law_worth ["coins", "numbers"] []
  g__law_worth : mg "_law_worth" = some (.ref f__law_worth)
  f__law_parts : Addr
  d__law_parts : FuncData
  F__law_parts : FunA K "_law_parts" "_law_parts" s__law_parts f__law_parts d__law_parts
  b__law_parts : Binds K d__law_parts ["bag", "top"] []
  g__law_parts : mg "_law_parts" = some (.ref f__law_parts)
  f__law_machine : Addr
  d__law_machine : FuncData
  F__law_machine : FunA K "_law_machine" "_law_machine" s__law_machine f__law_machine d__law_machine
  b__law_machine : Binds K d__law_machine ["parts"] []
  g__law_machine : mg "_law_machine" = some (.ref f__law_machine)
  f__law_stock : Addr
  d__law_stock : FuncData
  F__law_stock : FunA K "_law_stock" "_law_stock" s__law_stock f__law_stock d__law_stock
  b__law_stock : Binds K d__law_stock ["bag", "parts"] []
  g__law_stock : mg "_law_stock" = some (.ref f__law_stock)
  f__law_sales : Addr
  d__law_sales : FuncData
  F__law_sales : FunA K "_law_sales" "_law_sales" s__law_sales f__law_sales d__law_sales
  b__law_sales : Binds K d__law_sales ["parts", "stock", "count", "most"] []
  g__law_sales : mg "_law_sales" = some (.ref f__law_sales)
  f__law_count : Addr
  d__law_count : FuncData
  F__law_count : FunA K "_law_count" "_law_count" s__law_count f__law_count d__law_count
  b__law_count : Binds K d__law_count ["bag", "parts", "stock", "most"] []
  g__law_count : mg "_law_count" = some (.ref f__law_count)
  f__law_right : Addr
  d__law_right : FuncData
  F__law_right : FunA K "_law_right" "_law_right" s__law_right f__law_right d__law_right
  b__law_right : Binds K d__law_right ["bag"] []
  g__law_right : mg "_law_right" = some (.ref f__law_right)
  f_law : Addr
  d_law : FuncData
  F_law : FunA K "law" "law" s_law f_law d_law
  b_law : Binds K d_law ["script"] []
  g_law : mg "law" = some (.ref f_law)
  f_Machine___init__ : Addr
  d_Machine___init__ : FuncData
  F_Machine___init__ : FunA K "__init__" "Machine.__init__" s_Machine___init__ f_Machine___init__ d_Machine___init__
  b_Machine___init__ : Binds K d_Machine___init__ ["self", "coins", "tubes", "kinds", "pattern"] []
  ds1_Machine___init__ : List Value
  b1_Machine___init__ : Binds K d_Machine___init__ ["self", "coins", "tubes", "kinds", "pattern"] ds1_Machine___init__
  v1_Machine___init__ : Vals [V.non] ds1_Machine___init__
  C_Machine : Addr
  g_Machine : mg "Machine" = some (.ref C_Machine)
  cls_Machine : Cls K C_Machine
  mk_Machine : Mk K C_Machine f_Machine___init__
  is_Machine : IsC K C_Machine
  na_coins : NoAttr K C_Machine "coins"
  na_tubes : NoAttr K C_Machine "tubes"
  na_kinds : NoAttr K C_Machine "kinds"
  na_pattern : NoAttr K C_Machine "pattern"
  t_MOST_COINS : Tok
  g_MOST_COINS : mg "MOST_COINS" = some (.int 3 t_MOST_COINS)
  t_MOST_VALUE : Tok
  g_MOST_VALUE : mg "MOST_VALUE" = some (.int 100 t_MOST_VALUE)
  t_MOST_IN_TUBE : Tok
  g_MOST_IN_TUBE : mg "MOST_IN_TUBE" = some (.int 4 t_MOST_IN_TUBE)
  t_MOST_KINDS : Tok
  g_MOST_KINDS : mg "MOST_KINDS" = some (.int 6 t_MOST_KINDS)
  t_MOST_PRICE : Tok
  g_MOST_PRICE : mg "MOST_PRICE" = some (.int 200 t_MOST_PRICE)
  t_MOST_PAID : Tok
  g_MOST_PAID : mg "MOST_PAID" = some (.int 4 t_MOST_PAID)
  t_MOST_STOPS : Tok
  g_MOST_STOPS : mg "MOST_STOPS" = some (.int 3 t_MOST_STOPS)
  t_MOST_COUNTED : Tok
  g_MOST_COUNTED : mg "MOST_COUNTED" = some (.int 99 t_MOST_COUNTED)
  t_MOST_CUSTOMERS : Tok
  g_MOST_CUSTOMERS : mg "MOST_CUSTOMERS" = some (.int 12 t_MOST_CUSTOMERS)
  z_abs : mg "abs" = none
  z_all : mg "all" = none
  z_bool : mg "bool" = none
  z_divmod : mg "divmod" = none
  z_enumerate : mg "enumerate" = none
  z_int : mg "int" = none
  z_isinstance : mg "isinstance" = none
  z_len : mg "len" = none
  z_max : mg "max" = none
  z_min : mg "min" = none
  z_range : mg "range" = none
  z_set : mg "set" = none
  z_sorted : mg "sorted" = none
  z_sum : mg "sum" = none
  z_tuple : mg "tuple" = none
  z_zip : mg "zip" = none
end L3

namespace L3
open PySem PySem.Spec PyProof.Rows L2
local macro_rules | `(tactic| walk_at "go") => `(tactic| conv => whnf)
local macro_rules | `(tactic| walk_at "clo") => `(tactic| (refine Clo.mk ?_; conv => whnf))
local macro_rules | `(tactic| walk_at "ix") => `(tactic| (refine ⟨_, rfl, ?_⟩; conv => whnf))
variable {P : Program} {w : World} {K : PySem.W.Frag} {mg : Str → Option Value} {base : Heap}
theorem fw (T : Txt K mg base) : ∃ TG : Addr → Sq → Ts, (∀ (cdg : Value) (A : Around) (outer : List Env) (s : Shared) (H : Hp) (E : XK) (f : Addr) (sp : Sq), Held (cxOf CX0 P w K mg base ["value", "is_right", "index", "each"] "first_wrong" (defScope s_first_wrong) T.f_first_wrong cdg A outer s H E).nox f sp →
      Pss (cxOf CX0 P w K mg base ["value", "is_right", "index", "each"] "first_wrong" (defScope s_first_wrong) T.f_first_wrong cdg A outer s H E).nox (defBody s_first_wrong) (TG f sp)) ∧
    ∀ (f : Addr) (sp : Sq) (us : List Dv) (G : Hq) (Q : Qv), (∀ (i : Nat) (x : Dv) (Q' : Qv), us[i]? = some x → Q' (.bl true) G → sp [x, .tup (us.take i)] G Q' (CloX X0)) → Q .non G → TG f sp { nx := fun _ G' => Q .non G', rt := Q } (strt ["value", "is_right", "index", "each"] [.tup us, .ref f]) G := by
  refine ⟨fun f sp => _, fun cdg A outer s H E f sp hh =>
    (ss_cons (s_for PassesOwn.never rfl (i_enum (by rfl) T.z_enumerate (a_cons (v_ 0) a_nil)) (g_tup (n := 2) rfl (gs_cons (g_name (i := 2) sc_first_wrong.nd) (gs_cons (g_name (i := 3) sc_first_wrong.nd) gs_nil))) (ss_one (s_if (t_not (t_tru (e_callH (i := 1) hh rfl (Or.inl rfl) (a_cons (v_ 3) (a_cons (e_slice sl_any (v_ 0) o_none (o_some (v_ 2))) a_nil))))) (ss_one (s_ret (v_ 2))) ss_nil)))
    (ss_one (s_ret e_non))), fun f sp us G Q hs hq => ?_⟩
  walk_at "go"
  refine ⟨fun i τ G' => (∃ a b, τ = [some (.tup us), some (.ref f), a, b]) ∧ G' = G, .mk ⟨⟨_, _, rfl⟩, rfl⟩, fun i τ G' _ _ => True.intro, fun i w τ G' hw ⟨⟨a, b, e1⟩, e2⟩ => ?_, fun τ G' ⟨⟨a, b, e1⟩, e2⟩ => ?_⟩
  · subst e1; subst e2
    obtain ⟨x, hx, e⟩ := enm_at hw
    subst e
    walk_at "go"
    refine ⟨rfl, ?_⟩
    walk_at "go"
    rw [cut_to (Nat.le_of_lt (List.getElem?_eq_some_iff.mp hx).1)]
    refine hs i x _ hx (.mk ?_)
    walk_at "go"
    exact .mk ⟨⟨_, _, rfl⟩, rfl⟩
  · subst e1; subst e2
    walk_at "go"
    exact hq

def sp_is_whole : Sq := fun ws G Q _ => match ws with
  | [.int _] => Q (.bl true) G
  | _ => False
theorem ok_is_whole (T : Txt K mg base) : Fn P w K mg base CX0 1 T.f_is_whole T.d_is_whole ["value"] (sp_is_whole) := by
  refine fn_okA T.F_is_whole sc_is_whole (fun ws G Q E h => ?_) (fun cdv A outer s H E hr =>
    (ss_one (s_ret (e_and (e_callB cr_isi (by rfl) T.z_isinstance (by decide +kernel) (a_cons (v_ 0) (a_cons (e_bty (by rfl) T.z_int boot_int) a_nil))) (e_one (e_not (e_callB cr_isi (by rfl) T.z_isinstance (by decide +kernel) (a_cons (v_ 0) (a_cons (e_bty (by rfl) T.z_bool boot_bool) a_nil)))))))))
    fun ws G Q E mQ mE h => ?_
  · match ws, h with
    | [.int _], _ => rfl
  · match ws, h with
    | [.int i], h =>
      walk_at "go"
      exact h
def sp_is_number : Sq := fun ws G Q _ => ∃ v, ws = [.int v, .int 0, .non] ∧ 0 ≤ v ∧ Q (.bl true) G
theorem ok_is_number (T : Txt K mg base) : Fn P w K mg base CX0 2 T.f_is_number T.d_is_number ["value", "low", "high"] (sp_is_number) := by
  refine fn_okA T.F_is_number sc_is_number (fun ws G Q E h => ?_) (fun cdv A outer s H E hr =>
    (ss_one (s_ret (e_and (e_call (ok_is_whole T) (hr.mono (by decide)) (by rfl) T.g_is_whole T.F_is_whole.kp T.b_is_whole .nil (fun _ => .nil) pass0 (a_cons (v_ 0) a_nil)) (e_and (e_cmp or_le (v_ 1) (v_ 0) (nomark _)) (e_one (e_or (e_cmp or_is (v_ 2) e_non (nomark _)) (e_one (e_cmp or_le (v_ 0) (v_ 2) (nomark _))))))))))
    fun ws G Q E mQ mE h => ?_
  · obtain ⟨v, rfl, _⟩ := h; rfl
  · obtain ⟨v, rfl, h0, h⟩ := h
    walk_at "go"
    refine Clo.mk ?_
    walk_at "go"
    dsimp only
    rw [decide_eq_true h0]
    walk_at "go"
    exact h
def sp_is_between : Sq := fun ws G Q _ => ∃ v a b, ws = [.int v, .int a, .int b] ∧ a ≤ v ∧ v ≤ b ∧ Q (.bl true) G
theorem ok_is_between (T : Txt K mg base) : Fn P w K mg base CX0 2 T.f_is_between T.d_is_between ["value", "least", "most"] (sp_is_between) := by
  refine fn_okA T.F_is_between sc_is_between (fun ws G Q E h => ?_) (fun cdv A outer s H E hr =>
    (ss_one (s_ret (e_and (e_call (ok_is_whole T) (hr.mono (by decide)) (by rfl) T.g_is_whole T.F_is_whole.kp T.b_is_whole .nil (fun _ => .nil) pass0 (a_cons (v_ 0) a_nil)) (e_one (e_chn or_le or_le (v_ 1) (v_ 0) (v_ 2)))))))
    fun ws G Q E mQ mE h => ?_
  · obtain ⟨v, a, b, rfl, _⟩ := h; rfl
  · obtain ⟨v, a, b, rfl, h1, h2, h⟩ := h
    walk_at "go"
    refine Clo.mk ?_
    walk_at "go"
    dsimp only
    rw [decide_eq_true h1]
    walk_at "go"
    dsimp only
    rw [decide_eq_true h2]
    exact h
def sp_is_tuple_of : Sq := fun ws G Q _ => ∃ us n, ws = [.tup us, .int n] ∧ (us.length : Int) = n ∧ Q (.bl true) G
theorem ok_is_tuple_of (T : Txt K mg base) : Fn P w K mg base CX0 1 T.f_is_tuple_of T.d_is_tuple_of ["value", "many"] (sp_is_tuple_of) := by
  refine fn_okA T.F_is_tuple_of sc_is_tuple_of (fun ws G Q E h => ?_) (fun cdv A outer s H E hr =>
    (ss_one (s_ret (e_and (e_callB cr_isi (by rfl) T.z_isinstance (by decide +kernel) (a_cons (v_ 0) (a_cons (e_bty (by rfl) T.z_tuple boot_tuple) a_nil))) (e_one (e_cmp (or_eq hr.units) (e_callB cr_len (by rfl) T.z_len (by decide +kernel) (a_cons (v_ 0) a_nil)) (v_ 1) (nomark _)))))))
    fun ws G Q E mQ mE h => ?_
  · obtain ⟨v, a, rfl, _⟩ := h; rfl
  · obtain ⟨us, n, rfl, h1, h⟩ := h
    walk_at "go"
    rw [decide_eq_true h1]
    exact h
def sp_is_row : Sq := fun ws G Q _ => ∃ us a b, ws = [.tup us, .int a, .int b] ∧ a ≤ us.length ∧ (us.length : Int) ≤ b ∧ Q (.bl true) G
theorem ok_is_row (T : Txt K mg base) : Fn P w K mg base CX0 1 T.f_is_row T.d_is_row ["value", "least", "most"] (sp_is_row) := by
  refine fn_okA T.F_is_row sc_is_row (fun ws G Q E h => ?_) (fun cdv A outer s H E hr =>
    (ss_one (s_ret (e_and (e_callB cr_isi (by rfl) T.z_isinstance (by decide +kernel) (a_cons (v_ 0) (a_cons (e_bty (by rfl) T.z_tuple boot_tuple) a_nil))) (e_one (e_chn or_le or_le (v_ 1) (e_callB cr_len (by rfl) T.z_len (by decide +kernel) (a_cons (v_ 0) a_nil)) (v_ 2)))))))
    fun ws G Q E mQ mE h => ?_
  · obtain ⟨v, a, b, rfl, _⟩ := h; rfl
  · obtain ⟨us, a, b, rfl, h1, h2, h⟩ := h
    walk_at "go"
    dsimp only
    rw [decide_eq_true h1]
    walk_at "go"
    dsimp only
    rw [decide_eq_true h2]
    exact h
def worth (cs ns : List Int) : Int := ((cs.zip ns).map fun p => p.1 * p.2).sum
def Small (cs : List Int) : Prop := cs.length ≤ 1000 ∧ ∀ c ∈ cs, 0 ≤ c ∧ c ≤ 1000
def sp_worth_of : Sq := fun ws G Q _ => ∃ cs ns, ws = [tiv cs, tiv ns] ∧ Small cs ∧ Q (.int (worth cs ns)) G
theorem ok_worth_of (T : Txt K mg base) : Fn P w K mg base CX0 1 T.f_worth_of T.d_worth_of ["coins", "numbers"] (sp_worth_of) := by
  refine fn_okA T.F_worth_of sc_worth_of (fun ws G Q E h => ?_) (fun cdv A outer s H E hr =>
    (ss_one (s_ret (e_callB (cr_sumA rfl) (by rfl) T.z_sum (by decide +kernel) (a_cons (e_lc rfl sc_worth_of.nd (i_zip2 (by rfl) T.z_zip (a_cons (v_ 0) (a_cons (v_ 1) a_nil))) (m := (.many (.cons (.one 2) (.cons (.one 3) .nil)))) (blkOk_by (own := [("coin", 2), ("number", 3)]) (N := ["coins", "numbers", "coin", "number"]) (sc := defScope s_worth_of) (by decide +kernel)) (by decide) (fun _ _ _ _ _ => (pg_tup (n := 2) rfl (pgs_cons (pg_name (i := 2) sc_worth_of.nd rfl (Or.inl rfl)) (pgs_cons (pg_name (i := 3) sc_worth_of.nd rfl (Or.inl rfl)) pgs_nil)))) (fun _ _ _ _ _ => ts_nil) (fun _ _ _ _ _ => (e_op or_mulN (v_ 2) (v_ 3)))) a_nil)))))
    fun ws G Q E mQ mE h => ?_
  · obtain ⟨v, a, rfl, _⟩ := h; rfl
  · obtain ⟨cs, ns, rfl, ⟨h1, h2⟩, h⟩ := h
    walk_at "go"
    refine lc_map (cs.zip ns) eI (fun p => .int (p.1 * p.2)) (zp_iv cs ns) (by rw [List.length_zip]; omega) ⟨True.intro, True.intro⟩ (fun i x D acc P hx nD hP => ?_) fun p np => ?_
    · walk_at "go"
      have := h2 x.1 (List.of_mem_zip (mapm hx)).1
      exact ⟨.inl ⟨by omega, by omega⟩, G, nD, Le.refl, hP⟩
    · walk_at "go"
      exact ⟨(cs.zip ns).map fun p : Int × Int => p.1 * p.2, by rw [put_same, List.map_map]; rfl, mQ _ _ _ (Le.refl.put np) h⟩
def sp_are_numbers : Sq := fun ws G Q _ => ∃ (us : List Dv) (vs : List Int) (m : Int), ws = [.tup us, tiv vs, .int m] ∧ vs.length = us.length ∧ us.length ≤ 1000 ∧ (∀ v ∈ vs, 0 ≤ v ∧ v ≤ m) ∧ Q (.bl true) G
theorem ok_are_numbers (T : Txt K mg base) : Fn P w K mg base CX0 3 T.f_are_numbers T.d_are_numbers ["coins", "value", "most"] (sp_are_numbers) := by
  refine fn_okA T.F_are_numbers sc_are_numbers (fun ws G Q E h => ?_) (fun cdv A outer s H E hr =>
    (ss_cons (s_if (t_not (t_tru (e_call (ok_is_tuple_of T) (hr.mono (by decide)) (by rfl) T.g_is_tuple_of T.F_is_tuple_of.kp T.b_is_tuple_of .nil (fun _ => .nil) pass0 (a_cons (v_ 1) (a_cons (e_callB cr_len (by rfl) T.z_len (by decide +kernel) (a_cons (v_ 0) a_nil)) a_nil))))) (ss_one (s_ret e_bl)) ss_nil)
    (ss_one (s_ret (e_callB (cr_allA rfl) (by rfl) T.z_all (by decide +kernel) (a_cons (e_lc rfl sc_are_numbers.nd (i_seq (v_ 1)) (m := (.one 3)) (blkOk_by (own := [("number", 3)]) (N := ["coins", "value", "most", "number"]) (sc := defScope s_are_numbers) (by decide +kernel)) (by decide) (fun _ _ _ _ _ => (pg_name (i := 3) sc_are_numbers.nd rfl (Or.inl rfl))) (fun _ _ _ _ _ => ts_nil) (fun _ _ _ _ _ => (e_and (e_call (ok_is_number T) (hr.mono (by decide)) (by rfl) T.g_is_number T.F_is_number.kp T.b2_is_number T.v2_is_number (fun _ => .cons .int (.cons .non .nil)) pass0 (a_cons (v_ 3) a_nil)) (e_one (e_or (e_cmp or_is (v_ 2) e_non (nomark _)) (e_one (e_cmp or_le (v_ 3) (v_ 2) (nomark _)))))))) a_nil))))))
    fun ws G Q E mQ mE h => ?_
  · obtain ⟨v, a, m, rfl, _⟩ := h; rfl
  · obtain ⟨us, vs, m, rfl, h1, h2, h3, h⟩ := h
    walk_at "go"
    refine ⟨_, _, rfl, by rw [List.length_map, h1], .mk ?_⟩
    walk_at "go"
    refine lc_map vs Dv.int (fun _ => .bl true) rfl (by omega) True.intro (fun i x D acc P hx nD hP => ?_) fun p np => ?_
    · walk_at "go"
      refine ⟨_, rfl, (h3 x (mapm hx)).1, .mk ?_⟩
      walk_at "go"
      dsimp only
      rw [decide_eq_true (h3 x (mapm hx)).2]
      exact ⟨G, nD, Le.refl, hP⟩
    · walk_at "go"
      refine ⟨List.replicate vs.length true, by rw [put_same, all_yes], ?_⟩
      rw [all_rep]
      exact mQ _ _ _ (Le.refl.put np) h
def sp_is_coin_behind : Sq := fun ws G Q _ => ∃ (v : Int) (ah : List Int), ws = [.int v, tiv ah] ∧ 1 ≤ v ∧ v ≤ 100 ∧ (∀ l, ah.getLast? = some l → l < v) ∧ Q (.bl true) G
theorem ok_is_coin_behind (T : Txt K mg base) : Fn P w K mg base CX0 3 T.f_is_coin_behind T.d_is_coin_behind ["value", "ahead"] (sp_is_coin_behind) := by
  refine fn_okA T.F_is_coin_behind sc_is_coin_behind (fun ws G Q E h => ?_) (fun cdv A outer s H E hr =>
    (ss_one (s_ret (e_and (e_call (ok_is_between T) (hr.mono (by decide)) (by rfl) T.g_is_between T.F_is_between.kp T.b_is_between .nil (fun _ => .nil) pass0 (a_cons (v_ 0) (a_cons e_int (a_cons (e_gint (by rfl) T.g_MOST_VALUE) a_nil)))) (e_one (e_or (e_cmp (or_eq hr.units) (v_ 1) (e_tup a_nil) (nomark _)) (e_one (e_cmp or_lt (e_ix ix_any (v_ 1) (e_un ur_neg e_int)) (v_ 0) (nomark _)))))))))
    fun ws G Q E mQ mE h => ?_
  · obtain ⟨v, a, rfl, _⟩ := h; rfl
  · obtain ⟨v, ah, rfl, h1, h2, h3, h⟩ := h
    walk_at "go"
    refine ⟨_, _, _, rfl, h1, h2, .mk ?_⟩
    walk_at "go"
    refine ⟨⟨nb_ivs _ _, rfl⟩, ?_⟩
    cases ah with
    | nil => walk_at "go"; exact h
    | cons x ah =>
      walk_at "go"
      obtain ⟨l, hl⟩ : ∃ l, (x :: ah).getLast? = some l := ⟨_, List.getLast?_eq_getLast (by simp)⟩
      refine ⟨_, atI_ivs (atI_end hl), ?_⟩
      walk_at "go"
      dsimp only
      rw [decide_eq_true (h3 l hl)]
      exact h
/-- upwards, one to a hundred -/
def CoinsUp (cs : List Int) : Prop := ∀ i x, cs[i]? = some x → 1 ≤ x ∧ x ≤ 100 ∧ ∀ l, (cs.take i).getLast? = some l → l < x
def sp_first_wrong (f : Addr) : Sq := fun ws G Q _ => ∃ cs : List Int, ws = [tiv cs, .ref f] ∧ CoinsUp cs ∧ Q .non G
theorem ok_first_wrong (T : Txt K mg base) : Fn P w K mg base CX0 4 T.f_first_wrong T.d_first_wrong ["value", "is_right"] (sp_first_wrong T.f_is_coin_behind) := by
  obtain ⟨TG, fw1, fw2⟩ := fw (P := P) (w := w) T
  refine fn_okA T.F_first_wrong sc_first_wrong (fun ws G Q E h => ?_) (fun cdv A outer s H E hr => fw1 cdv A outer s H E T.f_is_coin_behind sp_is_coin_behind (held_fn (ok_is_coin_behind T) (hr.mono (by decide)) T.F_is_coin_behind.lk T.b_is_coin_behind pass0)) fun ws G Q E mQ mE h => ?_
  · obtain ⟨v, rfl, _⟩ := h; rfl
  · obtain ⟨cs, rfl, hc, h⟩ := h
    refine fw2 _ _ _ G Q (fun i x Q' hx q => ?_) h
    rw [List.getElem?_map] at hx
    cases e : cs[i]? with
    | none => rw [e] at hx; cases hx
    | some c =>
      rw [e] at hx; cases hx
      obtain ⟨h1, h2, h3⟩ := hc i c e
      exact ⟨c, cs.take i, by rw [← List.map_take], h1, h2, h3, q⟩
def sp_wrong_coin : Sq := fun ws G Q _ => ∃ cs : List Int, ws = [tiv cs] ∧ CoinsUp cs ∧ Q .non G
theorem ok_wrong_coin (T : Txt K mg base) : Fn P w K mg base CX0 5 T.f_wrong_coin T.d_wrong_coin ["value"] (sp_wrong_coin) := by
  refine fn_okA T.F_wrong_coin sc_wrong_coin (fun ws G Q E h => ?_) (fun cdv A outer s H E hr =>
    (ss_one (s_ret (e_call (ok_first_wrong T) (hr.mono (by decide)) (by rfl) T.g_first_wrong T.F_first_wrong.kp T.b_first_wrong .nil (fun _ => .nil) pass0 (a_cons (v_ 0) (a_cons (e_gref (by rfl) T.g_is_coin_behind) a_nil))))))
    fun ws G Q E mQ mE h => ?_
  · obtain ⟨v, rfl, _⟩ := h; rfl
  · obtain ⟨cs, rfl, hc, h⟩ := h
    walk_at "go"
    exact ⟨cs, rfl, hc, .mk h⟩
/-- where the code objects of the lambdas are kept -/
def tq (x : Str) : Str := (x ++ ".<locals>.") ++ "<lambda>"
structure Tb (T : Txt K mg base) (G : Hq) : Prop where
  t : G T.P_wrong_tube = some (.tab (tq "wrong_tube"))
  k : G T.P_wrong_kind = some (.tab (tq "wrong_kind"))
  s : G T.P_wrong_stop = some (.tab (tq "wrong_stop"))
  n : G T.P_wrong_number = some (.tab (tq "wrong_number"))
theorem Tb.le {T : Txt K mg base} {G G' : Hq} (h : Tb T G) (l : Le G G') : Tb T G' := ⟨l _ _ h.t, l _ _ h.k, l _ _ h.s, l _ _ h.n⟩
def sp_wrong_tube (T : Txt K mg base) : Sq := fun ws G Q _ => ∃ ts : List Int, ws = [tiv ts] ∧ Tb T G ∧ (∀ t ∈ ts, 0 ≤ t ∧ t ≤ 4) ∧ Q .non G
theorem ok_wrong_tube (T : Txt K mg base) : Fn P w K mg base CX0 5 T.f_wrong_tube T.d_wrong_tube ["value"] (sp_wrong_tube T) := by
  obtain ⟨tgf, fw1, fw2⟩ := fw (P := P) (w := w) T
  refine fn_okL T.L_wrong_tube sc_wrong_tube (fun ws G Q E h => ?_) (fun A outer s H E hr =>
    (ss_one (s_ret (e_lamq (B := ⟨P, w, K, base.objs.size⟩) (q := tq "wrong_tube") rfl rfl (k := 2) (js := []) (fr := []) (N := ["number", "ahead"]) (ps := ["number", "ahead"]) (by rfl) T.g_first_wrong T.F_first_wrong sc_first_wrong T.b_first_wrong T.TB_wrong_tube rfl (NdefX.nscope_by (by decide +kernel)) (show NdefX.ndefB (defScope s_wrong_tube) _ _ = true from by decide +kernel) rfl rfl (fun _ _ _ _ us h => match us, h with | [_, _], _ => rfl) (hr.mono (by decide)) (v_ 0) (fun f c' A outer s H E hr => (e_call (ok_is_between T) (hr.mono (by decide)) (by rfl) T.g_is_between T.F_is_between.kp T.b_is_between .nil (fun _ => .nil) pass0 (a_cons (v_ 0) (a_cons e_int (a_cons (e_gint (by rfl) T.g_MOST_IN_TUBE) a_nil))))) (fun cdg s H E f sp hr hh => fw1 cdg _ _ s H E f sp hh)))))
    fun ws G Q E mQ mE h => ?_
  · obtain ⟨v, rfl, _⟩ := h; rfl
  · obtain ⟨cs, rfl, hT, hc, h⟩ := h
    walk_at "go"
    refine ⟨hT.t, fun f c G2 l cg => fw2 f _ (ivs cs) G2 _ (fun i x Q' hx q => ?_) ⟨G, l, h⟩⟩
    obtain ⟨t, ht, rfl⟩ := List.mem_map.mp (mapm hx)
    refine ⟨rfl, cg, ?_⟩
    walk_at "go"
    exact ⟨_, _, _, rfl, (hc t ht).1, (hc t ht).2, .mk q⟩
abbrev eK (k : Int × List Int) : Dv := .tup [.int k.1, tiv k.2]
def eKs (ks : List (Int × List Int)) : Dv := .tup (ks.map eK)
/-- one kind behind others -/
structure KindOk (cs : List Int) (k : Int × List Int) (ah : List (Int × List Int)) : Prop where
  p0 : 0 ≤ k.1
  p1 : k.1 ≤ 200
  len : k.2.length = cs.length
  few : cs.length ≤ 1000
  all : ∀ n ∈ k.2, 0 ≤ n ∧ n ≤ 4
  sm : Small cs
  pays : k.1 ≤ worth cs k.2
  new : k ∉ ah
theorem nb_eK (k : Int × List Int) : nb 8 (eK k) = true := by
  show ([Dv.int k.1, tiv k.2].all (nb 7)) = true
  simp only [List.all_cons, List.all_nil, Bool.and_true, Bool.and_eq_true]
  exact ⟨rfl, nb_ivs 6 k.2⟩
theorem nb_eKs (ks : List (Int × List Int)) : (ks.map eK).all (nb 8) = true := by
  rw [List.all_eq_true]
  intro x hx
  obtain ⟨k, _, rfl⟩ := List.mem_map.mp hx
  exact nb_eK k
theorem eK_inj {a b : Int × List Int} : eK a = eK b ↔ a = b := ⟨fun h => by
  injection h with h
  injection h with h1 h2
  injection h1 with h1
  injection h2 with h2 _
  injection h2 with h2
  exact Prod.ext h1 (ivs_inj.mp h2), fun h => by rw [h]⟩
def sp_is_kind_behind : Sq := fun ws G Q _ => ∃ cs k ah, ws = [tiv cs, eK k, eKs ah] ∧ KindOk cs k ah ∧ Q (.bl true) G
theorem ok_is_kind_behind (T : Txt K mg base) : Fn P w K mg base CX0 4 T.f_is_kind_behind T.d_is_kind_behind ["coins", "value", "ahead"] (sp_is_kind_behind) := by
  refine fn_okA T.F_is_kind_behind sc_is_kind_behind (fun ws G Q E h => ?_) (fun cdv A outer s H E hr =>
    (ss_cons (s_if (Pw.toT (w_or (t_not (t_tru (e_call (ok_is_tuple_of T) (hr.mono (by decide)) (by rfl) T.g_is_tuple_of T.F_is_tuple_of.kp T.b_is_tuple_of .nil (fun _ => .nil) pass0 (a_cons (v_ 1) (a_cons e_int a_nil))))) (w_or1 (t_not (t_tru (e_call (ok_is_between T) (hr.mono (by decide)) (by rfl) T.g_is_between T.F_is_between.kp T.b_is_between .nil (fun _ => .nil) pass0 (a_cons (e_ix ix_any (v_ 1) e_int) (a_cons e_int (a_cons (e_gint (by rfl) T.g_MOST_PRICE) a_nil))))))))) (ss_one (s_ret e_bl)) ss_nil)
    (ss_cons (s_if (t_not (t_tru (e_call (ok_are_numbers T) (hr.mono (by decide)) (by rfl) T.g_are_numbers T.F_are_numbers.kp T.b_are_numbers .nil (fun _ => .nil) pass0 (a_cons (v_ 0) (a_cons (e_ix ix_any (v_ 1) e_int) (a_cons (e_gint (by rfl) T.g_MOST_PAID) a_nil)))))) (ss_one (s_ret e_bl)) ss_nil)
    (ss_one (s_ret (e_and (e_cmp or_ge (e_call (ok_worth_of T) (hr.mono (by decide)) (by rfl) T.g_worth_of T.F_worth_of.kp T.b_worth_of .nil (fun _ => .nil) pass0 (a_cons (v_ 0) (a_cons (e_ix ix_any (v_ 1) e_int) a_nil))) (e_ix ix_any (v_ 1) e_int) (nomark _)) (e_one (e_cmp (or_nin hr.units) (v_ 1) (v_ 2) (by rfl)))))))))
    fun ws G Q E mQ mE h => ?_
  · obtain ⟨v, k, ah, rfl, _⟩ := h; rfl
  · obtain ⟨cs, k, ah, rfl, hk, h⟩ := h
    walk_at "go"
    refine ⟨_, _, rfl, rfl, ?_⟩
    walk_at "clo"
    walk_at "ix"
    refine ⟨_, _, _, rfl, hk.p0, hk.p1, ?_⟩
    walk_at "clo"
    walk_at "ix"
    refine ⟨ivs cs, k.2, 4, rfl, by rw [hk.len, List.length_map], by rw [List.length_map]; exact hk.few, hk.all, ?_⟩
    walk_at "clo"
    walk_at "ix"
    refine ⟨cs, k.2, rfl, hk.sm, ?_⟩
    walk_at "clo"
    walk_at "ix"
    dsimp only
    rw [decide_eq_true hk.pays]
    walk_at "go"
    refine ⟨⟨nb_eK k, nb_eKs ah⟩, ?_⟩
    have e : decide (eK k ∈ ah.map eK) = false := decide_eq_false fun z => by
      obtain ⟨k', h1, h2⟩ := List.mem_map.mp z
      rw [eK_inj.mp h2] at h1
      exact hk.new h1
    rw [e]
    exact h
def KindsOk (cs : List Int) (ks : List (Int × List Int)) : Prop := ∀ i k, ks[i]? = some k → KindOk cs k (ks.take i)
def sp_wrong_kind (T : Txt K mg base) : Sq := fun ws G Q _ => ∃ cs ks, ws = [tiv cs, eKs ks] ∧ Tb T G ∧ KindsOk cs ks ∧ Q .non G
theorem ok_wrong_kind (T : Txt K mg base) : Fn P w K mg base CX0 7 T.f_wrong_kind T.d_wrong_kind ["coins", "value"] (sp_wrong_kind T) := by
  obtain ⟨tgf, fw1, fw2⟩ := fw (P := P) (w := w) T
  refine fn_okL T.L_wrong_kind sc_wrong_kind (fun ws G Q E h => ?_) (fun A outer s H E hr =>
    (ss_one (s_ret (e_lamq (B := ⟨P, w, K, base.objs.size⟩) (q := tq "wrong_kind") rfl rfl (k := 4) (js := [0]) (fr := ["coins"]) (N := ["kind", "ahead", "coins"]) (ps := ["kind", "ahead"]) (by rfl) T.g_first_wrong T.F_first_wrong sc_first_wrong T.b_first_wrong T.TB_wrong_kind rfl (NdefX.nscope_by (by decide +kernel)) (show NdefX.ndefB (defScope s_wrong_kind) _ _ = true from by decide +kernel) rfl rfl (fun _ _ _ _ us h => match us, h with | [_, _], _ => rfl) (hr.mono (by decide)) (v_ 1) (fun f c' A outer s H E hr => (e_call (ok_is_kind_behind T) (hr.mono (by decide)) (by rfl) T.g_is_kind_behind T.F_is_kind_behind.kp T.b_is_kind_behind .nil (fun _ => .nil) pass0 (a_cons (v_ 2) (a_cons (v_ 0) (a_cons (v_ 1) a_nil))))) (fun cdg s H E f sp hr hh => fw1 cdg _ _ s H E f sp hh)))))
    fun ws G Q E mQ mE h => ?_
  · obtain ⟨v, ks, rfl, _⟩ := h; rfl
  · obtain ⟨cs, ks, rfl, hT, hc, h⟩ := h
    walk_at "go"
    refine ⟨hT.k, fun f c G2 l cg => fw2 f _ (ks.map eK) G2 _ (fun i x Q' hx q => ?_) ⟨G, l, h⟩⟩
    rw [List.getElem?_map] at hx
    cases e : ks[i]? with
    | none => rw [e] at hx; cases hx
    | some k =>
      rw [e] at hx; cases hx
      refine ⟨rfl, cg, ?_⟩
      walk_at "go"
      exact ⟨cs, k, ks.take i, by rw [← List.map_take]; rfl, hc i k e, .mk q⟩
def sp_is_pair : Sq := fun ws G Q _ => ∃ (us : List Dv) (m : Int) (p : Int × Int), ws = [.tup us, .int m, eI p] ∧ 0 ≤ p.1 ∧ p.1 ≤ us.length - 1 ∧ 0 ≤ p.2 ∧ p.2 ≤ m - 1 ∧ Q (.bl true) G
theorem ok_is_pair (T : Txt K mg base) : Fn P w K mg base CX0 3 T.f_is_pair T.d_is_pair ["kinds", "many", "value"] (sp_is_pair) := by
  refine fn_okA T.F_is_pair sc_is_pair (fun ws G Q E h => ?_) (fun cdv A outer s H E hr =>
    (ss_one (s_ret (e_and (e_call (ok_is_tuple_of T) (hr.mono (by decide)) (by rfl) T.g_is_tuple_of T.F_is_tuple_of.kp T.b_is_tuple_of .nil (fun _ => .nil) pass0 (a_cons (v_ 2) (a_cons e_int a_nil))) (e_and (e_call (ok_is_between T) (hr.mono (by decide)) (by rfl) T.g_is_between T.F_is_between.kp T.b_is_between .nil (fun _ => .nil) pass0 (a_cons (e_ix ix_any (v_ 2) e_int) (a_cons e_int (a_cons (e_op or_sub (e_callB cr_len (by rfl) T.z_len (by decide +kernel) (a_cons (v_ 0) a_nil)) e_int) a_nil)))) (e_one (e_call (ok_is_between T) (hr.mono (by decide)) (by rfl) T.g_is_between T.F_is_between.kp T.b_is_between .nil (fun _ => .nil) pass0 (a_cons (e_ix ix_any (v_ 2) e_int) (a_cons e_int (a_cons (e_op or_sub (v_ 1) e_int) a_nil))))))))))
    fun ws G Q E mQ mE h => ?_
  · obtain ⟨v, m, p, rfl, _⟩ := h; rfl
  · obtain ⟨us, m, p, rfl, h1, h2, h3, h4, h⟩ := h
    walk_at "go"
    refine ⟨_, _, rfl, rfl, ?_⟩
    walk_at "clo"
    walk_at "ix"
    refine ⟨_, _, _, rfl, h1, h2, ?_⟩
    walk_at "clo"
    walk_at "ix"
    exact ⟨_, _, _, rfl, h3, h4, .mk h⟩
end L3
namespace L3
open PySem PySem.Spec PyProof.Rows L2
local macro_rules | `(tactic| walk_at "go") => `(tactic| conv => whnf)
local macro_rules | `(tactic| walk_at "clo") => `(tactic| (refine Clo.mk ?_; conv => whnf))
local macro_rules | `(tactic| walk_at "ix") => `(tactic| (refine ⟨_, rfl, ?_⟩; conv => whnf))
variable {P : Program} {w : World} {K : PySem.W.Frag} {mg : Str → Option Value} {base : Heap}
def eRow (r : List (Int × Int)) : Dv := .tup (r.map eI)
structure RowOk (n m : Int) (r : List (Int × Int)) : Prop where
  ne : r ≠ []
  few : r.length ≤ 1000
  all : ∀ p ∈ r, 0 ≤ p.1 ∧ p.1 ≤ n - 1 ∧ 0 ≤ p.2 ∧ p.2 ≤ m - 1
  up : ∀ q ∈ r.zip (r.drop 1), q.1.1 < q.2.1
theorem zp_rows (r : List (Int × Int)) : zp (r.map eI) ((r.map eI).drop 1) = (r.zip (r.drop 1)).map fun q => .tup [eI q.1, eI q.2] := by
  unfold zp
  rw [← List.map_drop, List.zip_map, List.map_map]; rfl
def sp_is_stop_row : Sq := fun ws G Q _ => ∃ (us : List Dv) (m : Int) (r : List (Int × Int)), ws = [.tup us, .int m, eRow r] ∧ RowOk us.length m r ∧ Q (.bl true) G
theorem ok_is_stop_row (T : Txt K mg base) : Fn P w K mg base CX0 4 T.f_is_stop_row T.d_is_stop_row ["kinds", "many", "value"] (sp_is_stop_row) := by
  refine fn_okA T.F_is_stop_row sc_is_stop_row (fun ws G Q E h => ?_) (fun cdv A outer s H E hr =>
    (ss_cons (s_if (Pw.toT (w_or (t_not (t_tru (e_callB cr_isi (by rfl) T.z_isinstance (by decide +kernel) (a_cons (v_ 2) (a_cons (e_bty (by rfl) T.z_tuple boot_tuple) a_nil))))) (w_or (t_cmp (or_eq hr.units) (e_callB cr_len (by rfl) T.z_len (by decide +kernel) (a_cons (v_ 2) a_nil)) e_int (nomark _)) (w_or1 (t_not (t_tru (e_callB (cr_allA rfl) (by rfl) T.z_all (by decide +kernel) (a_cons (e_lc rfl sc_is_stop_row.nd (i_seq (v_ 2)) (m := (.one 3)) (blkOk_by (own := [("pair", 3)]) (N := ["kinds", "many", "value", "pair", "one", "other"]) (sc := defScope s_is_stop_row) (by decide +kernel)) (by decide) (fun _ _ _ _ _ => (pg_name (i := 3) sc_is_stop_row.nd rfl (Or.inl rfl))) (fun _ _ _ _ _ => ts_nil) (fun _ _ _ _ _ => (e_call (ok_is_pair T) (hr.mono (by decide)) (by rfl) T.g_is_pair T.F_is_pair.kp T.b_is_pair .nil (fun _ => .nil) pass0 (a_cons (v_ 0) (a_cons (v_ 1) (a_cons (v_ 3) a_nil)))))) a_nil)))))))) (ss_one (s_ret e_bl)) ss_nil)
    (ss_one (s_ret (e_callB (cr_allA rfl) (by rfl) T.z_all (by decide +kernel) (a_cons (e_lc rfl sc_is_stop_row.nd (i_zip2 (by rfl) T.z_zip (a_cons (v_ 2) (a_cons (e_slice sl_any (v_ 2) (o_some e_int) o_none) a_nil))) (m := (.many (.cons (.one 4) (.cons (.one 5) .nil)))) (blkOk_by (own := [("one", 4), ("other", 5)]) (N := ["kinds", "many", "value", "pair", "one", "other"]) (sc := defScope s_is_stop_row) (by decide +kernel)) (by decide) (fun _ _ _ _ _ => (pg_tup (n := 2) rfl (pgs_cons (pg_name (i := 4) sc_is_stop_row.nd rfl (Or.inl rfl)) (pgs_cons (pg_name (i := 5) sc_is_stop_row.nd rfl (Or.inl rfl)) pgs_nil)))) (fun _ _ _ _ _ => ts_nil) (fun _ _ _ _ _ => (e_cmp or_lt (e_ix ix_any (v_ 4) e_int) (e_ix ix_any (v_ 5) e_int) (nomark _)))) a_nil))))))
    fun ws G Q E mQ mE h => ?_
  · obtain ⟨v, m, p, rfl, _⟩ := h; rfl
  · obtain ⟨us, m, r, rfl, hr, h⟩ := h
    walk_at "go"
    have e0 : decide (((r.map eI).length : Int) = 0) = false := decide_eq_false fun z => by
      have := hr.ne
      cases r <;> simp_all
      omega
    rw [e0]
    walk_at "go"
    refine lc_map r eI (fun _ => .bl true) rfl hr.few True.intro (fun i x D acc P hx nD hP => ?_) fun p np => ?_
    · walk_at "go"
      obtain ⟨h1, h2, h3, h4⟩ := hr.all x (mapm hx)
      exact ⟨us, m, x, rfl, h1, h2, h3, h4, .mk ⟨G, nD, Le.refl, hP⟩⟩
    · walk_at "go"
      refine ⟨List.replicate r.length true, by rw [put_same, all_yes], ?_⟩
      rw [all_rep]
      walk_at "go"
      have z : cut (r.map eI) (some (1 : Int)) none = (r.map eI).drop 1 := cut_from (i := 1) (by
        have := hr.ne
        cases r with
        | nil => exact absurd rfl this
        | cons a r => rw [List.length_map, List.length_cons]; omega)
      rw [z, zp_rows]
      refine lc_map (r.zip (r.drop 1)) (fun q => .tup [eI q.1, eI q.2]) (fun _ => .bl true) rfl (by rw [List.length_zip, List.length_drop]; have := hr.few; omega) ⟨True.intro, True.intro⟩ (fun i x D acc P hx nD hP => ?_) fun p2 np2 => ?_
      · walk_at "go"
        walk_at "ix"
        walk_at "ix"
        dsimp only
        rw [decide_eq_true (hr.up x (mapm hx))]
        exact ⟨_, nD, Le.refl, hP⟩
      · walk_at "go"
        refine ⟨List.replicate (r.zip (r.drop 1)).length true, by rw [put_same, all_yes], ?_⟩
        rw [all_rep]
        exact mQ _ _ _ ((Le.refl.put np).put (put_none.mp np2).2) h
/-- a pattern's rows -/
def ePat (pt : List (List (Int × Int))) : Dv := .tup (pt.map eRow)
def PatOk (n : Int) (pt : List (List (Int × Int))) : Prop := ∀ r ∈ pt, RowOk n pt.length r
def sp_wrong_stop (T : Txt K mg base) : Sq := fun ws G Q _ => ∃ (us : List Dv) (pt : List (List (Int × Int))), ws = [.tup us, ePat pt] ∧ Tb T G ∧ PatOk us.length pt ∧ Q .non G
theorem ok_wrong_stop (T : Txt K mg base) : Fn P w K mg base CX0 7 T.f_wrong_stop T.d_wrong_stop ["kinds", "value"] (sp_wrong_stop T) := by
  obtain ⟨tgf, fw1, fw2⟩ := fw (P := P) (w := w) T
  refine fn_okL T.L_wrong_stop sc_wrong_stop (fun ws G Q E h => ?_) (fun A outer s H E hr =>
    (ss_one (s_ret (e_lamq (B := ⟨P, w, K, base.objs.size⟩) (q := tq "wrong_stop") rfl rfl (k := 4) (js := [0, 1]) (fr := ["kinds", "value"]) (N := ["stop", "ahead", "kinds", "value"]) (ps := ["stop", "ahead"]) (by rfl) T.g_first_wrong T.F_first_wrong sc_first_wrong T.b_first_wrong T.TB_wrong_stop rfl (NdefX.nscope_by (by decide +kernel)) (show NdefX.ndefB (defScope s_wrong_stop) _ _ = true from by decide +kernel) rfl rfl (fun _ _ _ _ us h => match us, h with | [_, _], _ => rfl) (hr.mono (by decide)) (v_ 1) (fun f c' A outer s H E hr => (e_call (ok_is_stop_row T) (hr.mono (by decide)) (by rfl) T.g_is_stop_row T.F_is_stop_row.kp T.b_is_stop_row .nil (fun _ => .nil) pass0 (a_cons (v_ 2) (a_cons (e_callB cr_len (by rfl) T.z_len (by decide +kernel) (a_cons (v_ 3) a_nil)) (a_cons (v_ 0) a_nil))))) (fun cdg s H E f sp hr hh => fw1 cdg _ _ s H E f sp hh)))))
    fun ws G Q E mQ mE h => ?_
  · obtain ⟨v, ks, rfl, _⟩ := h; rfl
  · obtain ⟨us, pt, rfl, hT, hc, h⟩ := h
    walk_at "go"
    refine ⟨hT.s, fun f c G2 l cg => fw2 f _ (pt.map eRow) G2 _ (fun i x Q' hx q => ?_) ⟨G, l, h⟩⟩
    obtain ⟨r, hr, rfl⟩ := List.mem_map.mp (mapm hx)
    refine ⟨rfl, cg, ?_⟩
    walk_at "go"
    refine ⟨us, _, r, rfl, ?_, .mk q⟩
    rw [List.length_map]
    exact hc r hr
def sp_check_coins : Sq := fun ws G Q _ => ∃ cs : List Int, ws = [tiv cs] ∧ 1 ≤ cs.length ∧ cs.length ≤ 3 ∧ CoinsUp cs ∧ Q .non G
theorem ok_check_coins (T : Txt K mg base) : Fn P w K mg base CX0 6 T.f_check_coins T.d_check_coins ["coins"] (sp_check_coins) := by
  refine fn_okA T.F_check_coins sc_check_coins (fun ws G Q E h => ?_) (fun cdv A outer s H E hr =>
    (ss_cons (s_set (i := 1) sc_check_coins.nd (e_if (t_tru (e_call (ok_is_row T) (hr.mono (by decide)) (by rfl) T.g_is_row T.F_is_row.kp T.b_is_row .nil (fun _ => .nil) pass0 (a_cons (v_ 0) (a_cons e_int (a_cons (e_gint (by rfl) T.g_MOST_COINS) a_nil))))) (e_call (ok_wrong_coin T) (hr.mono (by decide)) (by rfl) T.g_wrong_coin T.F_wrong_coin.kp T.b_wrong_coin .nil (fun _ => .nil) pass0 (a_cons (v_ 0) a_nil)) e_non))
    (ss_one (s_if (Pw.toT (w_or (t_not (t_tru (e_call (ok_is_row T) (hr.mono (by decide)) (by rfl) T.g_is_row T.F_is_row.kp T.b_is_row .nil (fun _ => .nil) pass0 (a_cons (v_ 0) (a_cons e_int (a_cons (e_gint (by rfl) T.g_MOST_COINS) a_nil)))))) (w_or1 (t_cmp or_isn (v_ 1) e_non (nomark _))))) (ss_one s_never) ss_nil))))
    fun ws G Q E mQ mE h => ?_
  · obtain ⟨v, rfl, _⟩ := h; rfl
  · obtain ⟨cs, rfl, h1, h2, hc, h⟩ := h
    have f1 : (1 : Int) ≤ (ivs cs).length := by rw [List.length_map]; omega
    have f2 : ((ivs cs).length : Int) ≤ 3 := by rw [List.length_map]; omega
    walk_at "go"
    refine ⟨_, _, _, rfl, f1, f2, ?_⟩
    walk_at "clo"
    refine ⟨cs, rfl, hc, ?_⟩
    walk_at "clo"
    refine ⟨_, _, _, rfl, f1, f2, ?_⟩
    walk_at "clo"
    exact h
def sp_check_tubes (T : Txt K mg base) : Sq := fun ws G Q _ => ∃ (us : List Dv) (ts : List Int), ws = [.tup us, tiv ts] ∧ Tb T G ∧ ts.length = us.length ∧ (∀ t ∈ ts, 0 ≤ t ∧ t ≤ 4) ∧ Q .non G
theorem ok_check_tubes (T : Txt K mg base) : Fn P w K mg base CX0 6 T.f_check_tubes T.d_check_tubes ["coins", "tubes"] (sp_check_tubes T) := by
  refine fn_okA T.F_check_tubes sc_check_tubes (fun ws G Q E h => ?_) (fun cdv A outer s H E hr =>
    (ss_cons (s_set (i := 2) sc_check_tubes.nd (e_if (t_tru (e_call (ok_is_tuple_of T) (hr.mono (by decide)) (by rfl) T.g_is_tuple_of T.F_is_tuple_of.kp T.b_is_tuple_of .nil (fun _ => .nil) pass0 (a_cons (v_ 1) (a_cons (e_callB cr_len (by rfl) T.z_len (by decide +kernel) (a_cons (v_ 0) a_nil)) a_nil)))) (e_call (ok_wrong_tube T) (hr.mono (by decide)) (by rfl) T.g_wrong_tube T.F_wrong_tube.kp T.b_wrong_tube .nil (fun _ => .nil) pass0 (a_cons (v_ 1) a_nil)) e_non))
    (ss_one (s_if (Pw.toT (w_or (t_not (t_tru (e_call (ok_is_tuple_of T) (hr.mono (by decide)) (by rfl) T.g_is_tuple_of T.F_is_tuple_of.kp T.b_is_tuple_of .nil (fun _ => .nil) pass0 (a_cons (v_ 1) (a_cons (e_callB cr_len (by rfl) T.z_len (by decide +kernel) (a_cons (v_ 0) a_nil)) a_nil))))) (w_or1 (t_cmp or_isn (v_ 2) e_non (nomark _))))) (ss_one s_never) ss_nil))))
    fun ws G Q E mQ mE h => ?_
  · obtain ⟨v, ts, rfl, _⟩ := h; rfl
  · obtain ⟨us, ts, rfl, hT, h1, h2, h⟩ := h
    have f1 : ((ivs ts).length : Int) = us.length := by rw [List.length_map]; omega
    walk_at "go"
    refine ⟨_, _, rfl, f1, ?_⟩
    walk_at "clo"
    refine ⟨ts, rfl, hT, h2, ?_⟩
    walk_at "clo"
    refine ⟨_, _, rfl, f1, ?_⟩
    walk_at "clo"
    exact h
def sp_check_kinds (T : Txt K mg base) : Sq := fun ws G Q _ => ∃ cs ks, ws = [tiv cs, eKs ks] ∧ Tb T G ∧ 1 ≤ ks.length ∧ ks.length ≤ 6 ∧ KindsOk cs ks ∧ Q .non G
theorem ok_check_kinds (T : Txt K mg base) : Fn P w K mg base CX0 8 T.f_check_kinds T.d_check_kinds ["coins", "kinds"] (sp_check_kinds T) := by
  refine fn_okA T.F_check_kinds sc_check_kinds (fun ws G Q E h => ?_) (fun cdv A outer s H E hr =>
    (ss_cons (s_set (i := 2) sc_check_kinds.nd (e_if (t_tru (e_call (ok_is_row T) (hr.mono (by decide)) (by rfl) T.g_is_row T.F_is_row.kp T.b_is_row .nil (fun _ => .nil) pass0 (a_cons (v_ 1) (a_cons e_int (a_cons (e_gint (by rfl) T.g_MOST_KINDS) a_nil))))) (e_call (ok_wrong_kind T) (hr.mono (by decide)) (by rfl) T.g_wrong_kind T.F_wrong_kind.kp T.b_wrong_kind .nil (fun _ => .nil) pass0 (a_cons (v_ 0) (a_cons (v_ 1) a_nil))) e_non))
    (ss_one (s_if (Pw.toT (w_or (t_not (t_tru (e_call (ok_is_row T) (hr.mono (by decide)) (by rfl) T.g_is_row T.F_is_row.kp T.b_is_row .nil (fun _ => .nil) pass0 (a_cons (v_ 1) (a_cons e_int (a_cons (e_gint (by rfl) T.g_MOST_KINDS) a_nil)))))) (w_or1 (t_cmp or_isn (v_ 2) e_non (nomark _))))) (ss_one s_never) ss_nil))))
    fun ws G Q E mQ mE h => ?_
  · obtain ⟨v, ts, rfl, _⟩ := h; rfl
  · obtain ⟨cs, ks, rfl, hT, h1, h2, hk, h⟩ := h
    have f1 : (1 : Int) ≤ (ks.map eK).length := by rw [List.length_map]; omega
    have f2 : ((ks.map eK).length : Int) ≤ 6 := by rw [List.length_map]; omega
    walk_at "go"
    refine ⟨_, _, _, rfl, f1, f2, ?_⟩
    walk_at "clo"
    refine ⟨cs, ks, rfl, hT, hk, ?_⟩
    walk_at "clo"
    refine ⟨_, _, _, rfl, f1, f2, ?_⟩
    walk_at "clo"
    exact h
def sp_check_pattern (T : Txt K mg base) : Sq := fun ws G Q _ => ∃ (us : List Dv) (pt : List (List (Int × Int))), ws = [.tup us, ePat pt] ∧ Tb T G ∧ 1 ≤ pt.length ∧ pt.length ≤ 3 ∧ PatOk us.length pt ∧ Q .non G
theorem ok_check_pattern (T : Txt K mg base) : Fn P w K mg base CX0 8 T.f_check_pattern T.d_check_pattern ["kinds", "pattern"] (sp_check_pattern T) := by
  refine fn_okA T.F_check_pattern sc_check_pattern (fun ws G Q E h => ?_) (fun cdv A outer s H E hr =>
    (ss_cons (s_set (i := 2) sc_check_pattern.nd (e_if (t_tru (e_call (ok_is_row T) (hr.mono (by decide)) (by rfl) T.g_is_row T.F_is_row.kp T.b_is_row .nil (fun _ => .nil) pass0 (a_cons (v_ 1) (a_cons e_int (a_cons (e_gint (by rfl) T.g_MOST_STOPS) a_nil))))) (e_call (ok_wrong_stop T) (hr.mono (by decide)) (by rfl) T.g_wrong_stop T.F_wrong_stop.kp T.b_wrong_stop .nil (fun _ => .nil) pass0 (a_cons (v_ 0) (a_cons (v_ 1) a_nil))) e_non))
    (ss_one (s_if (Pw.toT (w_or (t_not (t_tru (e_call (ok_is_row T) (hr.mono (by decide)) (by rfl) T.g_is_row T.F_is_row.kp T.b_is_row .nil (fun _ => .nil) pass0 (a_cons (v_ 1) (a_cons e_int (a_cons (e_gint (by rfl) T.g_MOST_STOPS) a_nil)))))) (w_or1 (t_cmp or_isn (v_ 2) e_non (nomark _))))) (ss_one s_never) ss_nil))))
    fun ws G Q E mQ mE h => ?_
  · obtain ⟨v, ts, rfl, _⟩ := h; rfl
  · obtain ⟨us, pt, rfl, hT, h1, h2, hk, h⟩ := h
    have f1 : (1 : Int) ≤ (pt.map eRow).length := by rw [List.length_map]; omega
    have f2 : ((pt.map eRow).length : Int) ≤ 3 := by rw [List.length_map]; omega
    walk_at "go"
    refine ⟨_, _, _, rfl, f1, f2, ?_⟩
    walk_at "clo"
    refine ⟨us, pt, rfl, hT, hk, ?_⟩
    walk_at "clo"
    refine ⟨_, _, _, rfl, f1, f2, ?_⟩
    walk_at "clo"
    exact h
/-- one row: any kind -/
def anyRow (n : Nat) : List (List (Int × Int)) := [(List.range n).map fun i => ((i : Nat), 0)]
def sp_any_row : Sq := fun ws G Q _ => ∃ us : List Dv, ws = [.tup us] ∧ us.length ≤ 1000 ∧ Q (ePat (anyRow us.length)) G
theorem ok_any_row (T : Txt K mg base) : Fn P w K mg base CX0 1 T.f_any_row T.d_any_row ["kinds"] (sp_any_row) := by
  refine fn_okA T.F_any_row sc_any_row (fun ws G Q E h => ?_) (fun cdv A outer s H E hr =>
    (ss_one (s_ret (e_tup (a_cons (e_callTy cr_tuple (by rfl) T.z_tuple (by decide +kernel) (a_cons (e_lc rfl sc_any_row.nd (i_range1 (by rfl) T.z_range (a_cons (e_callB cr_len (by rfl) T.z_len (by decide +kernel) (a_cons (v_ 0) a_nil)) a_nil)) (m := (.one 1)) (blkOk_by (own := [("index", 1)]) (N := ["kinds", "index"]) (sc := defScope s_any_row) (by decide +kernel)) (by decide) (fun _ _ _ _ _ => (pg_name (i := 1) sc_any_row.nd rfl (Or.inl rfl))) (fun _ _ _ _ _ => ts_nil) (fun _ _ _ _ _ => (e_tup (a_cons (v_ 1) (a_cons e_int a_nil))))) a_nil)) a_nil)))))
    fun ws G Q E mQ mE h => ?_
  · obtain ⟨v, rfl, _⟩ := h; rfl
  · obtain ⟨us, rfl, h1, h⟩ := h
    walk_at "go"
    refine ⟨⟨by omega, by omega⟩, ?_⟩
    rw [Int.toNat_natCast]
    refine lc_map (List.range us.length) (fun i => .int (0 + (i : Nat))) (fun i => .tup [.int (0 + (i : Nat)), .int 0]) rfl (by rw [List.length_range]; exact h1) True.intro (fun i x D acc P hx nD hP => ?_) fun p np => ?_
    · walk_at "go"
      exact ⟨G, nD, Le.refl, hP⟩
    · walk_at "go"
      refine ⟨_, put_same, ?_⟩
      walk_at "go"
      have e : (List.range us.length).map (fun i => Dv.tup [.int (0 + (i : Nat)), .int 0]) = ((List.range us.length).map fun i => (((i : Nat) : Int), (0 : Int))).map eI := by
        rw [List.map_map]
        exact List.map_congr_left fun i _ => by show Dv.tup [.int (0 + (i : Nat)), .int 0] = Dv.tup [.int (i : Nat), .int 0]; rw [Int.zero_add]
      rw [e]
      exact mQ _ _ _ (Le.refl.put np) h
/-! ### the machine -/
def machF (cs ts : List Int) (ks : List (Int × List Int)) (pt : List (List (Int × Int))) : List (Str × Dv) := [("coins", tiv cs), ("tubes", tiv ts), ("kinds", eKs ks), ("pattern", ePat pt)]
theorem pf_1 (a : Dv) : pf "coins" a [] = ([("coins", a)] : List (Str × Dv)) := rfl
theorem pf_2 (a b : Dv) : pf "tubes" b ([("coins", a)] : List (Str × Dv)) = ([("coins", a), ("tubes", b)] : List (Str × Dv)) := by
  unfold pf; rw [if_neg (by decide +kernel)]; rfl
theorem pf_3 (a b c : Dv) : pf "kinds" c ([("coins", a), ("tubes", b)] : List (Str × Dv)) = ([("coins", a), ("tubes", b), ("kinds", c)] : List (Str × Dv)) := by
  unfold pf; rw [if_neg (by decide +kernel)]; unfold pf; rw [if_neg (by decide +kernel)]; rfl
theorem pf_4 (a b c d : Dv) : pf "pattern" d ([("coins", a), ("tubes", b), ("kinds", c)] : List (Str × Dv)) = ([("coins", a), ("tubes", b), ("kinds", c), ("pattern", d)] : List (Str × Dv)) := by
  unfold pf; rw [if_neg (by decide +kernel)]; unfold pf; rw [if_neg (by decide +kernel)]; unfold pf; rw [if_neg (by decide +kernel)]; rfl
section
variable {cs ts : List Int} {ks : List (Int × List Int)} {pt : List (List (Int × Int))}
theorem lk_coins : (machF cs ts ks pt).lookup ("coins" : Str) = some (tiv cs) := by
  unfold machF; rw [List.lookup_cons, show (("coins" : Str) == "coins") = true by decide +kernel]
theorem lk_tubes : (machF cs ts ks pt).lookup ("tubes" : Str) = some (tiv ts) := by
  unfold machF; rw [List.lookup_cons, show (("tubes" : Str) == "coins") = false by decide +kernel]
  simp only
  rw [List.lookup_cons, show (("tubes" : Str) == "tubes") = true by decide +kernel]
theorem lk_kinds : (machF cs ts ks pt).lookup ("kinds" : Str) = some (eKs ks) := by
  unfold machF; rw [List.lookup_cons, show (("kinds" : Str) == "coins") = false by decide +kernel]
  simp only
  rw [List.lookup_cons, show (("kinds" : Str) == "tubes") = false by decide +kernel]
  simp only
  rw [List.lookup_cons, show (("kinds" : Str) == "kinds") = true by decide +kernel]
end
structure Mach (cs ts : List Int) (ks : List (Int × List Int)) (pt : List (List (Int × Int))) : Prop where
  c1 : 1 ≤ cs.length
  c2 : cs.length ≤ 3
  up : CoinsUp cs
  tl : ts.length = cs.length
  tb : ∀ t ∈ ts, 0 ≤ t ∧ t ≤ 4
  k1 : 1 ≤ ks.length
  k2 : ks.length ≤ 6
  kk : KindsOk cs ks
  p1 : 1 ≤ pt.length
  p2 : pt.length ≤ 3
  pp : PatOk ks.length pt
def sp_Machine___init__ (T : Txt K mg base) : Sq := fun ws G Q _ => ∃ (x : Addr) (cs ts : List Int) (ks : List (Int × List Int)) (pt : List (List (Int × Int))) (pw : Dv), ws = [.ref x, tiv cs, tiv ts, eKs ks, pw] ∧ ((pw = .non ∧ pt = anyRow ks.length) ∨ pw = ePat pt) ∧ Tb T G ∧ Mach cs ts ks pt ∧
  G x = some (.ins T.C_Machine []) ∧ Q .non (put G x (.ins T.C_Machine (machF cs ts ks pt)))
theorem ok_Machine___init__ (T : Txt K mg base) : Fn P w K mg base CX0 9 T.f_Machine___init__ T.d_Machine___init__ ["self", "coins", "tubes", "kinds", "pattern"] (sp_Machine___init__ T) := by
  refine fn_okA T.F_Machine___init__ sc_Machine___init__ (fun ws G Q E h => ?_) (fun cdv A outer s H E hr =>
    (ss_cons (s_expr (e_call (ok_check_coins T) (hr.mono (by decide)) (by rfl) T.g_check_coins T.F_check_coins.kp T.b_check_coins .nil (fun _ => .nil) pass0 (a_cons (v_ 1) a_nil)))
    (ss_cons (s_expr (e_call (ok_check_tubes T) (hr.mono (by decide)) (by rfl) T.g_check_tubes T.F_check_tubes.kp T.b_check_tubes .nil (fun _ => .nil) pass0 (a_cons (v_ 1) (a_cons (v_ 2) a_nil))))
    (ss_cons (s_expr (e_call (ok_check_kinds T) (hr.mono (by decide)) (by rfl) T.g_check_kinds T.F_check_kinds.kp T.b_check_kinds .nil (fun _ => .nil) pass0 (a_cons (v_ 1) (a_cons (v_ 3) a_nil))))
    (ss_cons (s_if (t_cmp or_is (v_ 4) e_non (nomark _)) (ss_one (s_set (i := 4) sc_Machine___init__.nd (e_call (ok_any_row T) (hr.mono (by decide)) (by rfl) T.g_any_row T.F_any_row.kp T.b_any_row .nil (fun _ => .nil) pass0 (a_cons (v_ 3) a_nil)))) ss_nil)
    (ss_cons (s_expr (e_call (ok_check_pattern T) (hr.mono (by decide)) (by rfl) T.g_check_pattern T.F_check_pattern.kp T.b_check_pattern .nil (fun _ => .nil) pass0 (a_cons (v_ 3) (a_cons (v_ 4) a_nil))))
    (ss_cons (s_fld (v_ 0) (v_ 1) T.cls_Machine T.na_coins)
    (ss_cons (s_fld (v_ 0) (v_ 2) T.cls_Machine T.na_tubes)
    (ss_cons (s_fld (v_ 0) (v_ 3) T.cls_Machine T.na_kinds)
    (ss_one (s_fld (v_ 0) (v_ 4) T.cls_Machine T.na_pattern)))))))))))
    fun ws G Q E mQ mE h => ?_
  · obtain ⟨x, cs, ts, ks, pt, pw, rfl, _⟩ := h; rfl
  · obtain ⟨x, cs, ts, ks, pt, pw, rfl, hpw, hT, hM, hx, h⟩ := h
    walk_at "go"
    refine ⟨cs, rfl, hM.c1, hM.c2, hM.up, ?_⟩
    walk_at "clo"
    refine ⟨ivs cs, ts, rfl, hT, by rw [hM.tl, List.length_map], hM.tb, ?_⟩
    walk_at "clo"
    refine ⟨cs, ks, rfl, hT, hM.k1, hM.k2, hM.kk, ?_⟩
    walk_at "clo"
    rcases hpw with ⟨e1, e2⟩ | e1
    · subst e1; subst e2
      walk_at "go"
      refine ⟨_, rfl, by rw [List.length_map]; have := hM.k2; omega, ?_⟩
      rw [List.length_map]
      walk_at "clo"
      refine ⟨_, _, rfl, hT, hM.p1, hM.p2, by rw [List.length_map]; exact hM.pp, ?_⟩
      walk_at "clo"
      refine ⟨[], hx, by decide, ?_⟩
      rw [pf_1]
      walk_at "go"
      refine ⟨_, put_same, by simp, ?_⟩
      rw [put_put, pf_2]
      walk_at "go"
      refine ⟨_, put_same, by simp, ?_⟩
      rw [put_put, pf_3]
      walk_at "go"
      refine ⟨_, put_same, by simp, ?_⟩
      rw [put_put, pf_4]
      exact h
    · subst e1
      walk_at "go"
      refine ⟨_, _, rfl, hT, hM.p1, hM.p2, by rw [List.length_map]; exact hM.pp, ?_⟩
      walk_at "clo"
      refine ⟨[], hx, by decide, ?_⟩
      rw [pf_1]
      walk_at "go"
      refine ⟨_, put_same, by simp, ?_⟩
      rw [put_put, pf_2]
      walk_at "go"
      refine ⟨_, put_same, by simp, ?_⟩
      rw [put_put, pf_3]
      walk_at "go"
      refine ⟨_, put_same, by simp, ?_⟩
      rw [put_put, pf_4]
      exact h
end L3
namespace L3
open PySem PySem.Spec PyProof.Rows L2
local macro_rules | `(tactic| walk_at "go") => `(tactic| conv => whnf)
local macro_rules | `(tactic| walk_at "clo") => `(tactic| (refine Clo.mk ?_; conv => whnf))
local macro_rules | `(tactic| walk_at "ix") => `(tactic| (refine ⟨_, rfl, ?_⟩; conv => whnf))
variable {P : Program} {w : World} {K : PySem.W.Frag} {mg : Str → Option Value} {base : Heap}

def sp_check_machine (T : Txt K mg base) : Sq := fun ws G Q _ => ∃ (x : Addr) (fs : List (Str × Dv)), ws = [.ref x] ∧ G x = some (.ins T.C_Machine fs) ∧ Q .non G
theorem ok_check_machine (T : Txt K mg base) : Fn P w K mg base CX0 1 T.f_check_machine T.d_check_machine ["value"] (sp_check_machine T) := by
  refine fn_okA T.F_check_machine sc_check_machine (fun ws G Q E h => ?_) (fun cdv A outer s H E hr =>
    (ss_one (s_if (t_not (t_tru (e_callB (cr_isC T.is_Machine) (by rfl) T.z_isinstance (by decide +kernel) (a_cons (v_ 0) (a_cons (e_gref (by rfl) T.g_Machine) a_nil))))) (ss_one s_never) ss_nil)))
    fun ws G Q E mQ mE h => ?_
  · obtain ⟨v, fs, rfl, _⟩ := h; rfl
  · obtain ⟨x, fs, rfl, hx, h⟩ := h
    walk_at "go"
    refine ⟨fs, hx, rfl, ?_⟩
    walk_at "go"
    exact h
/-- a machine stands at x -/
def MachAt (T : Txt K mg base) (G : Hq) (x : Addr) (cs ts : List Int) (ks : List (Int × List Int)) : Prop := ∃ pt, G x = some (.ins T.C_Machine (machF cs ts ks pt))
theorem MachAt.le {T : Txt K mg base} {G G' : Hq} {x : Addr} {cs ts : List Int} {ks : List (Int × List Int)} (h : MachAt T G x cs ts ks) (l : Le G G') : MachAt T G' x cs ts ks := h.elim fun pt h => ⟨pt, l _ _ h⟩
def StockOk (ts st : List Int) : Prop := st.length = ts.length ∧ ∀ q ∈ st.zip ts, 0 ≤ q.1 ∧ q.1 ≤ q.2
def sp_is_stock (T : Txt K mg base) : Sq := fun ws G Q _ => ∃ (x : Addr) (cs ts : List Int) (ks : List (Int × List Int)) (st : List Int), ws = [.ref x, tiv st] ∧ MachAt T G x cs ts ks ∧ ts.length = cs.length ∧ cs.length ≤ 3 ∧ StockOk ts st ∧ Q (.bl true) G
theorem ok_is_stock (T : Txt K mg base) : Fn P w K mg base CX0 3 T.f_is_stock T.d_is_stock ["machine", "value"] (sp_is_stock T) := by
  refine fn_okA T.F_is_stock sc_is_stock (fun ws G Q E h => ?_) (fun cdv A outer s H E hr =>
    (ss_cons (s_if (t_not (t_tru (e_call (ok_is_tuple_of T) (hr.mono (by decide)) (by rfl) T.g_is_tuple_of T.F_is_tuple_of.kp T.b_is_tuple_of .nil (fun _ => .nil) pass0 (a_cons (v_ 1) (a_cons (e_callB cr_len (by rfl) T.z_len (by decide +kernel) (a_cons (e_fld (v_ 0) T.cls_Machine T.na_coins) a_nil)) a_nil))))) (ss_one (s_ret e_bl)) ss_nil)
    (ss_one (s_ret (e_callB (cr_allA rfl) (by rfl) T.z_all (by decide +kernel) (a_cons (e_lc rfl sc_is_stock.nd (i_zip2 (by rfl) T.z_zip (a_cons (v_ 1) (a_cons (e_fld (v_ 0) T.cls_Machine T.na_tubes) a_nil))) (m := (.many (.cons (.one 2) (.cons (.one 3) .nil)))) (blkOk_by (own := [("number", 2), ("tube", 3)]) (N := ["machine", "value", "number", "tube"]) (sc := defScope s_is_stock) (by decide +kernel)) (by decide) (fun _ _ _ _ _ => (pg_tup (n := 2) rfl (pgs_cons (pg_name (i := 2) sc_is_stock.nd rfl (Or.inl rfl)) (pgs_cons (pg_name (i := 3) sc_is_stock.nd rfl (Or.inl rfl)) pgs_nil)))) (fun _ _ _ _ _ => ts_nil) (fun _ _ _ _ _ => (e_call (ok_is_between T) (hr.mono (by decide)) (by rfl) T.g_is_between T.F_is_between.kp T.b_is_between .nil (fun _ => .nil) pass0 (a_cons (v_ 2) (a_cons e_int (a_cons (v_ 3) a_nil)))))) a_nil))))))
    fun ws G Q E mQ mE h => ?_
  · obtain ⟨x, cs, ts, ks, st, rfl, _⟩ := h; rfl
  · obtain ⟨x, cs, ts, ks, st, rfl, ⟨pt, hx⟩, h1, h2, ⟨h3, h4⟩, h⟩ := h
    walk_at "go"
    refine ⟨_, _, hx, lk_coins, ?_⟩
    walk_at "go"
    refine ⟨_, _, rfl, by rw [List.length_map, List.length_map]; omega, ?_⟩
    walk_at "clo"
    refine ⟨_, _, hx, lk_tubes, ?_⟩
    walk_at "go"
    refine lc_map (st.zip ts) eI (fun _ => .bl true) (zp_iv st ts) (by rw [List.length_zip]; omega) ⟨True.intro, True.intro⟩ (fun i q D acc P hq nD hP => ?_) fun p np => ?_
    · walk_at "go"
      have := h4 q (mapm hq)
      exact ⟨_, _, _, rfl, this.1, this.2, .mk ⟨G, nD, Le.refl, hP⟩⟩
    · walk_at "go"
      refine ⟨List.replicate (st.zip ts).length true, by rw [put_same, all_yes], ?_⟩
      rw [all_rep]
      exact mQ _ _ _ (Le.refl.put np) h
def sp_check_stock (T : Txt K mg base) : Sq := fun ws G Q _ => ∃ (x : Addr) (cs ts : List Int) (ks : List (Int × List Int)) (st : List Int), ws = [.ref x, tiv st] ∧ MachAt T G x cs ts ks ∧ ts.length = cs.length ∧ cs.length ≤ 3 ∧ StockOk ts st ∧ Q .non G
theorem ok_check_stock (T : Txt K mg base) : Fn P w K mg base CX0 4 T.f_check_stock T.d_check_stock ["machine", "value"] (sp_check_stock T) := by
  refine fn_okA T.F_check_stock sc_check_stock (fun ws G Q E h => ?_) (fun cdv A outer s H E hr =>
    (ss_one (s_if (t_not (t_tru (e_call (ok_is_stock T) (hr.mono (by decide)) (by rfl) T.g_is_stock T.F_is_stock.kp T.b_is_stock .nil (fun _ => .nil) pass0 (a_cons (v_ 0) (a_cons (v_ 1) a_nil))))) (ss_one s_never) ss_nil)))
    fun ws G Q E mQ mE h => ?_
  · obtain ⟨x, cs, ts, ks, st, rfl, _⟩ := h; rfl
  · obtain ⟨x, cs, ts, ks, st, rfl, hx, h1, h2, h3, h⟩ := h
    walk_at "go"
    refine ⟨x, cs, ts, ks, st, rfl, hx, h1, h2, h3, ?_⟩
    walk_at "clo"
    exact h
def sp_is_kind (T : Txt K mg base) (r : Dv) : Sq := fun ws G Q _ => ∃ (x : Addr) (cs ts : List Int) (ks : List (Int × List Int)) (v : Int), ws = [.ref x, .int v] ∧ MachAt T G x cs ts ks ∧ 0 ≤ v ∧ v < ks.length ∧ Q r G
theorem ok_is_kind (T : Txt K mg base) : Fn P w K mg base CX0 3 T.f_is_kind T.d_is_kind ["machine", "value"] (sp_is_kind T (.bl true)) := by
  refine fn_okA T.F_is_kind sc_is_kind (fun ws G Q E h => ?_) (fun cdv A outer s H E hr =>
    (ss_one (s_ret (e_call (ok_is_between T) (hr.mono (by decide)) (by rfl) T.g_is_between T.F_is_between.kp T.b_is_between .nil (fun _ => .nil) pass0 (a_cons (v_ 1) (a_cons e_int (a_cons (e_op or_sub (e_callB cr_len (by rfl) T.z_len (by decide +kernel) (a_cons (e_fld (v_ 0) T.cls_Machine T.na_kinds) a_nil)) e_int) a_nil)))))))
    fun ws G Q E mQ mE h => ?_
  · obtain ⟨x, cs, ts, ks, st, rfl, _⟩ := h; rfl
  · obtain ⟨x, cs, ts, ks, v, rfl, ⟨pt, hx⟩, h1, h2, h⟩ := h
    walk_at "go"
    refine ⟨_, _, hx, lk_kinds, ?_⟩
    walk_at "go"
    exact ⟨_, _, _, rfl, h1, by rw [List.length_map]; omega, .mk h⟩
abbrev sp_check_kind (T : Txt K mg base) : Sq := sp_is_kind T .non
theorem ok_check_kind (T : Txt K mg base) : Fn P w K mg base CX0 4 T.f_check_kind T.d_check_kind ["machine", "value"] (sp_check_kind T) := by
  refine fn_okA T.F_check_kind sc_check_kind (fun ws G Q E h => ?_) (fun cdv A outer s H E hr =>
    (ss_one (s_if (t_not (t_tru (e_call (ok_is_kind T) (hr.mono (by decide)) (by rfl) T.g_is_kind T.F_is_kind.kp T.b_is_kind .nil (fun _ => .nil) pass0 (a_cons (v_ 0) (a_cons (v_ 1) a_nil))))) (ss_one s_never) ss_nil)))
    fun ws G Q E mQ mE h => ?_
  · obtain ⟨x, cs, ts, ks, st, rfl, _⟩ := h; rfl
  · obtain ⟨x, cs, ts, ks, v, rfl, hx, h1, h2, h⟩ := h
    walk_at "go"
    refine ⟨x, cs, ts, ks, v, rfl, hx, h1, h2, ?_⟩
    walk_at "clo"
    exact h
def sp_wrong_number (T : Txt K mg base) : Sq := fun ws G Q _ => ∃ ns : List Int, ws = [tiv ns] ∧ Tb T G ∧ (∀ n ∈ ns, 0 ≤ n ∧ n ≤ 99) ∧ Q .non G
theorem ok_wrong_number (T : Txt K mg base) : Fn P w K mg base CX0 5 T.f_wrong_number T.d_wrong_number ["value"] (sp_wrong_number T) := by
  obtain ⟨tgf, fw1, fw2⟩ := fw (P := P) (w := w) T
  refine fn_okL T.L_wrong_number sc_wrong_number (fun ws G Q E h => ?_) (fun A outer s H E hr =>
    (ss_one (s_ret (e_lamq (B := ⟨P, w, K, base.objs.size⟩) (q := tq "wrong_number") rfl rfl (k := 2) (js := []) (fr := []) (N := ["each", "ahead"]) (ps := ["each", "ahead"]) (by rfl) T.g_first_wrong T.F_first_wrong sc_first_wrong T.b_first_wrong T.TB_wrong_number rfl (NdefX.nscope_by (by decide +kernel)) (show NdefX.ndefB (defScope s_wrong_number) _ _ = true from by decide +kernel) rfl rfl (fun _ _ _ _ us h => match us, h with | [_, _], _ => rfl) (hr.mono (by decide)) (v_ 0) (fun f c' A outer s H E hr => (e_call (ok_is_between T) (hr.mono (by decide)) (by rfl) T.g_is_between T.F_is_between.kp T.b_is_between .nil (fun _ => .nil) pass0 (a_cons (v_ 0) (a_cons e_int (a_cons (e_gint (by rfl) T.g_MOST_COUNTED) a_nil))))) (fun cdg s H E f sp hr hh => fw1 cdg _ _ s H E f sp hh)))))
    fun ws G Q E mQ mE h => ?_
  · obtain ⟨v, rfl, _⟩ := h; rfl
  · obtain ⟨cs, rfl, hT, hc, h⟩ := h
    walk_at "go"
    refine ⟨hT.n, fun f c G2 l cg => fw2 f _ (ivs cs) G2 _ (fun i x Q' hx q => ?_) ⟨G, l, h⟩⟩
    obtain ⟨t, ht, rfl⟩ := List.mem_map.mp (mapm hx)
    refine ⟨rfl, cg, ?_⟩
    walk_at "go"
    exact ⟨_, _, _, rfl, (hc t ht).1, (hc t ht).2, .mk q⟩
def sp_check_count (T : Txt K mg base) : Sq := fun ws G Q _ => ∃ (x : Addr) (cs ts : List Int) (ks : List (Int × List Int)) (ns : List Int), ws = [.ref x, tiv ns] ∧ Tb T G ∧ MachAt T G x cs ts ks ∧ ns.length = cs.length ∧ (∀ n ∈ ns, 0 ≤ n ∧ n ≤ 99) ∧ Q .non G
theorem ok_check_count (T : Txt K mg base) : Fn P w K mg base CX0 6 T.f_check_count T.d_check_count ["machine", "value"] (sp_check_count T) := by
  refine fn_okA T.F_check_count sc_check_count (fun ws G Q E h => ?_) (fun cdv A outer s H E hr =>
    (ss_cons (s_set (i := 2) sc_check_count.nd (e_callB cr_len (by rfl) T.z_len (by decide +kernel) (a_cons (e_fld (v_ 0) T.cls_Machine T.na_coins) a_nil)))
    (ss_cons (s_if (t_not (t_tru (e_call (ok_is_row T) (hr.mono (by decide)) (by rfl) T.g_is_row T.F_is_row.kp T.b_is_row .nil (fun _ => .nil) pass0 (a_cons (v_ 1) (a_cons (v_ 2) (a_cons (v_ 2) a_nil)))))) (ss_one s_never) ss_nil)
    (ss_cons (s_set (i := 3) sc_check_count.nd (e_call (ok_wrong_number T) (hr.mono (by decide)) (by rfl) T.g_wrong_number T.F_wrong_number.kp T.b_wrong_number .nil (fun _ => .nil) pass0 (a_cons (v_ 1) a_nil)))
    (ss_one (s_if (t_cmp or_isn (v_ 3) e_non (nomark _)) (ss_one s_never) ss_nil))))))
    fun ws G Q E mQ mE h => ?_
  · obtain ⟨x, cs, ts, ks, st, rfl, _⟩ := h; rfl
  · obtain ⟨x, cs, ts, ks, ns, rfl, hT, ⟨pt, hx⟩, h1, h2, h⟩ := h
    walk_at "go"
    refine ⟨_, _, hx, lk_coins, ?_⟩
    walk_at "go"
    refine ⟨_, _, _, rfl, by rw [List.length_map, List.length_map]; omega, by rw [List.length_map, List.length_map]; omega, ?_⟩
    walk_at "clo"
    refine ⟨ns, rfl, hT, h2, ?_⟩
    walk_at "clo"
    exact h
def sp_is_most : Sq := fun ws G Q _ => ∃ (v : Int), ws = [.int v] ∧ 0 ≤ v ∧ v ≤ 12 ∧ Q (.bl true) G
theorem ok_is_most (T : Txt K mg base) : Fn P w K mg base CX0 3 T.f_is_most T.d_is_most ["value"] (sp_is_most) := by
  refine fn_okA T.F_is_most sc_is_most (fun ws G Q E h => ?_) (fun cdv A outer s H E hr =>
    (ss_one (s_ret (e_call (ok_is_between T) (hr.mono (by decide)) (by rfl) T.g_is_between T.F_is_between.kp T.b_is_between .nil (fun _ => .nil) pass0 (a_cons (v_ 0) (a_cons e_int (a_cons (e_gint (by rfl) T.g_MOST_CUSTOMERS) a_nil)))))))
    fun ws G Q E mQ mE h => ?_
  · obtain ⟨v, rfl, _⟩ := h; rfl
  · obtain ⟨v, rfl, h1, h2, h⟩ := h
    walk_at "go"
    exact ⟨_, _, _, rfl, h1, h2, .mk h⟩
/-- what stands behind a question: a machine, a stock, a count, a most -/
structure Asked (T : Txt K mg base) (G : Hq) (x : Addr) (cs ts : List Int) (ks : List (Int × List Int)) (st ns : List Int) (m : Int) : Prop where
  tb : Tb T G
  mx : MachAt T G x cs ts ks
  tl : ts.length = cs.length
  cl : cs.length ≤ 3
  cu : CoinsUp cs
  st : StockOk ts st
  nl : ns.length = cs.length
  n0 : ∀ n ∈ ns, 0 ≤ n ∧ n ≤ 99
  m0 : 0 ≤ m
  m1 : m ≤ 12
  few : (m + 1) ^ ks.length ≤ 200000
  kl : ks.length ≤ 6
  kp : ∀ k ∈ ks, 0 ≤ k.1 ∧ k.1 ≤ 200
def sp_check_counted (T : Txt K mg base) : Sq := fun ws G Q _ => ∃ (x : Addr) (cs ts : List Int) (ks : List (Int × List Int)) (st ns : List Int) (m : Int), ws = [.ref x, tiv st, tiv ns, .int m] ∧ Asked T G x cs ts ks st ns m ∧ Q .non G
theorem ok_check_counted (T : Txt K mg base) : Fn P w K mg base CX0 7 T.f_check_counted T.d_check_counted ["machine", "stock", "count", "most"] (sp_check_counted T) := by
  refine fn_okA T.F_check_counted sc_check_counted (fun ws G Q E h => ?_) (fun cdv A outer s H E hr =>
    (ss_cons (s_expr (e_call (ok_check_machine T) (hr.mono (by decide)) (by rfl) T.g_check_machine T.F_check_machine.kp T.b_check_machine .nil (fun _ => .nil) pass0 (a_cons (v_ 0) a_nil)))
    (ss_cons (s_expr (e_call (ok_check_stock T) (hr.mono (by decide)) (by rfl) T.g_check_stock T.F_check_stock.kp T.b_check_stock .nil (fun _ => .nil) pass0 (a_cons (v_ 0) (a_cons (v_ 1) a_nil))))
    (ss_cons (s_expr (e_call (ok_check_count T) (hr.mono (by decide)) (by rfl) T.g_check_count T.F_check_count.kp T.b_check_count .nil (fun _ => .nil) pass0 (a_cons (v_ 0) (a_cons (v_ 2) a_nil))))
    (ss_one (s_if (t_not (t_tru (e_call (ok_is_most T) (hr.mono (by decide)) (by rfl) T.g_is_most T.F_is_most.kp T.b_is_most .nil (fun _ => .nil) pass0 (a_cons (v_ 3) a_nil)))) (ss_one s_never) ss_nil))))))
    fun ws G Q E mQ mE h => ?_
  · obtain ⟨x, cs, ts, ks, st, ns, m, rfl, _⟩ := h; rfl
  · obtain ⟨x, cs, ts, ks, st, ns, m, rfl, ha, h⟩ := h
    obtain ⟨pt, hx⟩ := id ha.mx
    walk_at "go"
    refine ⟨x, _, rfl, hx, ?_⟩
    walk_at "clo"
    refine ⟨x, cs, ts, ks, st, rfl, ha.mx, ha.tl, ha.cl, ha.st, ?_⟩
    walk_at "clo"
    refine ⟨x, cs, ts, ks, ns, rfl, ha.tb, ha.mx, ha.nl, ha.n0, ?_⟩
    walk_at "clo"
    refine ⟨_, rfl, ha.m0, ha.m1, ?_⟩
    walk_at "clo"
    exact h
end L3
namespace L3
open PySem PySem.Spec PyProof.Rows L2
local macro_rules | `(tactic| walk_at "go") => `(tactic| conv => whnf)
local macro_rules | `(tactic| walk_at "clo") => `(tactic| (refine Clo.mk ?_; conv => whnf))
local macro_rules | `(tactic| walk_at "ix") => `(tactic| (refine ⟨_, rfl, ?_⟩; conv => whnf))
variable {P : Program} {w : World} {K : PySem.W.Frag} {mg : Str → Option Value} {base : Heap}

/-! ### lots -/
def ext (m : Int) (l : List Int) : List (List Int) := (List.range (m - l.sum + 1).toNat).map fun (i : Nat) => l ++ [(i : Int)]
def lots (m : Int) : Nat → List (List Int)
  | 0 => [[]]
  | n + 1 => (lots m n).flatMap (ext m)
theorem flat_len {α β : Type} {f : α → List β} {b : Nat} : ∀ {xs : List α}, (∀ x ∈ xs, (f x).length ≤ b) → (xs.flatMap f).length ≤ xs.length * b
  | [], _ => by simp
  | x :: xs, h => by
    rw [List.flatMap_cons, List.length_append, List.length_cons, Nat.succ_mul]
    have h1 := h x (by simp)
    have h2 := flat_len (f := f) (xs := xs) fun y hy => h y (by simp [hy])
    omega
theorem lots_in {m : Int} : ∀ {n : Nat} {l : List Int}, l ∈ lots m n → 0 ≤ m → l.length = n ∧ 0 ≤ l.sum ∧ l.sum ≤ m ∧ ∀ v ∈ l, 0 ≤ v
  | 0, l, h, h0 => by
    have : l = [] := by simpa [lots] using h
    subst this; exact ⟨rfl, by simp, by simpa using h0, by simp⟩
  | n + 1, l, h, h0 => by
    obtain ⟨l0, h1, h2⟩ := List.mem_flatMap.mp h
    obtain ⟨i, h3, rfl⟩ := List.mem_map.mp h2
    obtain ⟨a, b, c, d⟩ := lots_in h1 h0
    have h3 := List.mem_range.mp h3
    have e : (l0 ++ [(i : Int)]).sum = l0.sum + i := by simp
    refine ⟨by simp [a], by omega, by omega, fun v hv => ?_⟩
    rcases List.mem_append.mp hv with z | z
    · exact d v z
    · have : v = i := by simpa using z
      omega
theorem lots_len {m : Int} (h0 : 0 ≤ m) : ∀ n : Nat, ((lots m n).length : Int) ≤ (m + 1) ^ n
  | 0 => by simp [lots]
  | n + 1 => by
    have h1 := lots_len h0 n
    have h2 : (lots m (n + 1)).length ≤ (lots m n).length * (m + 1).toNat := flat_len fun l hl => by
      obtain ⟨_, b, _, _⟩ := lots_in hl h0
      unfold ext
      rw [List.length_map, List.length_range]
      omega
    have h3 : ((lots m (n + 1)).length : Int) ≤ (lots m n).length * (m + 1) := by
      have : ((m + 1).toNat : Int) = m + 1 := by omega
      rw [← this]
      exact_mod_cast h2
    calc ((lots m (n + 1)).length : Int) ≤ (lots m n).length * (m + 1) := h3
      _ ≤ (m + 1) ^ n * (m + 1) := Int.mul_le_mul_of_nonneg_right h1 (by omega)
      _ = (m + 1) ^ (n + 1) := by rw [Int.pow_succ]
theorem pow_up {m : Int} (h0 : 0 ≤ m) {i n : Nat} (h : i ≤ n) : (m + 1) ^ i ≤ (m + 1) ^ n := by
  obtain ⟨k, rfl⟩ := Nat.exists_eq_add_of_le h
  rw [Int.pow_add]
  have h1 : 0 < (m + 1) ^ i := Int.pow_pos (by omega)
  have h2 : 0 < (m + 1) ^ k := Int.pow_pos (by omega)
  have h3 : (m + 1) ^ i * 1 ≤ (m + 1) ^ i * (m + 1) ^ k := Int.mul_le_mul_of_nonneg_left (by omega) (Int.le_of_lt h1)
  omega
def sp_lots_sold : Sq := fun ws G Q _ => ∃ (n : Nat) (m : Int), ws = [.int n, .int m] ∧ n ≤ 6 ∧ 0 ≤ m ∧ m ≤ 12 ∧ (m + 1) ^ n ≤ 200000 ∧ ∀ p, G p = none → Q (.ref p) (put G p (.lst ((lots m n).map tiv)))
theorem ok_lots_sold (T : Txt K mg base) : Fn P w K mg base CX0 1 T.f_lots_sold T.d_lots_sold ["many", "most"] (sp_lots_sold) := by
  refine fn_okA T.F_lots_sold sc_lots_sold (fun ws G Q E h => ?_) (fun cdv A outer s H E hr =>
    (ss_cons (s_set (i := 2) sc_lots_sold.nd (e_lst (a_cons (e_tup a_nil) a_nil)))
    (ss_cons (s_for PassesOwn.never rfl (i_range1 (by rfl) T.z_range (a_cons (v_ 0) a_nil)) (g_name (i := 3) sc_lots_sold.nd) (ss_one (s_setLc2 (i := 2) rfl sc_lots_sold.nd (sw_true rfl rfl rfl (by decide +kernel)) (i_seq (v_ 2)) (m := (.one 4)) (m1 := (.one 5)) (vs1 := [5]) (blkOk_by (own := [("lot", 4), ("number", 5)]) (N := ["many", "most", "found", "turn", "lot", "number"]) (sc := defScope s_lots_sold) (by decide +kernel)) (by decide) (by decide) (by decide) (fun _ _ _ _ _ => (pg_name (i := 4) sc_lots_sold.nd rfl (Or.inl rfl))) (fun _ _ _ _ _ => ts_nil) (fun _ _ _ _ _ => (i_range1 (by rfl) T.z_range (a_cons (e_op or_add (e_op or_sub (v_ 1) (e_callB (cr_sumA rfl) (by rfl) T.z_sum (by decide +kernel) (a_cons (v_ 4) a_nil))) e_int) a_nil))) (fun _ _ _ _ _ => (pg_name (i := 5) sc_lots_sold.nd rfl (Or.inl rfl))) (fun _ _ _ _ _ => ts_nil) (fun _ _ _ _ _ => (e_tup (a_star (v_ 4) (a_cons (v_ 5) a_nil)))))))
    (ss_one (s_ret (v_ 2))))))
    fun ws G Q E mQ mE h => ?_
  · obtain ⟨x, cs, rfl, _⟩ := h; rfl
  · obtain ⟨n, m, rfl, h1, h2, h3, h4, h⟩ := h
    walk_at "go"
    intro p0 np0
    walk_at "go"
    refine ⟨⟨by omega, by omega⟩, ?_⟩
    walk_at "go"
    rw [Int.toNat_natCast]
    refine ⟨fun i τ G' => (∃ a b c p, τ = [some (.int n), some (.int m), some (.ref p), a, b, c] ∧ G p = none ∧ G' = put G p (.lst ((lots m i).map tiv))), .mk ⟨_, _, _, p0, rfl, np0, rfl⟩, fun i τ G' _ _ => True.intro, fun i w τ G' hw ⟨a, b, c, p, e1, np, e2⟩ => ?_, fun τ G' ⟨a, b, c, p, e1, np, e2⟩ => ?_⟩
    · subst e1; subst e2
      have hi : i < n := by
        have := (List.getElem?_eq_some_iff.mp hw).1
        rwa [rng_length] at this
      have total : (lots m (i + 1)).length ≤ 200000 := by
        have z1 := lots_len h2 (i + 1)
        have z2 := pow_up h2 (show i + 1 ≤ n by omega)
        omega
      walk_at "go"
      refine ⟨_, .inl ⟨put_same, ?_⟩⟩
      walk_at "go"
      refine lc2_go fun D nD => ⟨fun j acc G' => G' = put G p (.lst ((lots m i).map tiv)) ∧ acc = (((lots m i).take j).flatMap (ext m)).map tiv, ⟨rfl, by simp⟩, fun j acc G' ⟨e, _⟩ => by subst e; exact ⟨put_same, nD⟩, fun j w acc G' hw' ⟨e1, e2⟩ => ?_, fun acc G' ⟨e1, e2⟩ => ?_⟩
      · subst e1
        rw [List.getElem?_map] at hw'
        cases ex : (lots m i)[j]? with
        | none => rw [ex] at hw'; cases hw'
        | some x =>
          rw [ex] at hw'; cases hw'
          obtain ⟨x1, x2, x3, x4⟩ := lots_in (mapm ex) h2
          have et : ((lots m i).take (j + 1)).flatMap (ext m) = ((lots m i).take j).flatMap (ext m) ++ ext m x := by
            rw [List.take_add_one, ex, List.flatMap_append]; simp
          have hb : (((lots m i).take j).flatMap (ext m)).length + (m - x.sum + 1).toNat ≤ 200000 := by
            have z : ((lots m i).flatMap (ext m)).length = (((lots m i).take (j + 1)).flatMap (ext m)).length + (((lots m i).drop (j + 1)).flatMap (ext m)).length := by
              rw [← List.length_append, ← List.flatMap_append, List.take_append_drop]
            rw [et, List.length_append] at z
            have z2 : (ext m x).length = (m - x.sum + 1).toNat := by unfold ext; rw [List.length_map, List.length_range]
            have z3 : (lots m (i + 1)).length = ((lots m i).flatMap (ext m)).length := rfl
            omega
          walk_at "go"
          refine ⟨x, rfl, ?_⟩
          walk_at "go"
          refine ⟨⟨by omega, by omega⟩, ?_⟩
          walk_at "go"
          refine ⟨fun k acc' G' => G' = put G p (.lst ((lots m i).map tiv)) ∧ acc' = acc ++ (List.range k).map fun (k : Nat) => tiv (x ++ [(k : Int)]), ⟨_, nD, Le.refl, rfl, by simp⟩, fun k acc' G' ⟨e, _⟩ => by subst e; exact ⟨True.intro, nD⟩, fun k w1 acc' G' hw1 ⟨f1, f2⟩ => ?_, fun acc' G' ⟨f1, f2⟩ => ?_⟩
          · subst f1
            have hk : k < (m - x.sum + 1).toNat := by
              have := (List.getElem?_eq_some_iff.mp hw1).1
              rwa [rng_length] at this
            rw [rng_get hk] at hw1
            cases hw1
            walk_at "go"
            refine few_mk (by rw [List.length_append, List.length_map, x1]; show i + 1 ≤ 1000; omega) ?_
            refine ⟨_, ?_, nD, Le.refl, rfl, ?_⟩
            · rw [f2, e2, List.length_append, List.length_map, List.length_map, List.length_range, sizeLine_eq]; omega
            · rw [f2, List.range_succ, List.map_append, List.append_assoc, List.map_singleton, Int.zero_add]
              congr 2
              show [Dv.tup (x.map Dv.int ++ [Dv.int k])] = [Dv.tup ((x ++ [(k : Int)]).map Dv.int)]
              rw [List.map_append]; rfl
          · subst f1
            refine ⟨rfl, ?_⟩
            rw [f2, e2, rng_length, et, List.map_append]
            unfold ext
            rw [List.map_map]; rfl
      · subst e1
        walk_at "go"
        refine ⟨_, put G D (.lst ((lots m (i + 1)).map tiv)), LeS.refl, ?_, _, _, _, D, rfl, (put_none.mp nD).2, rfl⟩
        rw [e2, List.length_map, List.take_length]
        exact Le.put2 (Le.refl.put np)
    · subst e1; subst e2
      walk_at "go"
      rw [rng_length]
      exact h p np
/-- the sales that a count tells of -/
def salesOf (cs : List Int) (ks : List (Int × List Int)) (st ns : List Int) (m : Int) : List (List Int) := (lots m ks.length).filter fun l => decide (worth (ks.map (·.1)) l = worth cs ns - worth cs st)
theorem filter_fm {α : Type} (xs : List α) (p : α → Bool) (f : α → Dv) : (xs.filterMap fun x => if p x = true then some (f x) else none) = (xs.filter p).map f := by
  induction xs with
  | nil => rfl
  | cons x xs ih => rw [List.filterMap_cons, List.filter_cons, ih]; cases h : p x <;> simp
theorem coins_small {cs : List Int} (h : CoinsUp cs) (hl : cs.length ≤ 3) : Small cs := ⟨by omega, fun c hc => by
  obtain ⟨i, hi⟩ := List.mem_iff_getElem?.mp hc
  obtain ⟨h1, h2, _⟩ := h i c hi
  omega⟩
def sp_sales_by (T : Txt K mg base) : Sq := fun ws G Q _ => ∃ (x : Addr) (cs ts : List Int) (ks : List (Int × List Int)) (st ns : List Int) (m : Int), ws = [.ref x, tiv st, tiv ns, .int m] ∧ Asked T G x cs ts ks st ns m ∧ Q (.tup ((salesOf cs ks st ns m).map tiv)) G
theorem ok_sales_by (T : Txt K mg base) : Fn P w K mg base CX0 2 T.f_sales_by T.d_sales_by ["machine", "stock", "count", "most"] (sp_sales_by T) := by
  refine fn_okA T.F_sales_by sc_sales_by (fun ws G Q E h => ?_) (fun cdv A outer s H E hr =>
    (ss_cons (s_set (i := 4) sc_sales_by.nd (e_op or_sub (e_call (ok_worth_of T) (hr.mono (by decide)) (by rfl) T.g_worth_of T.F_worth_of.kp T.b_worth_of .nil (fun _ => .nil) pass0 (a_cons (e_fld (v_ 0) T.cls_Machine T.na_coins) (a_cons (v_ 2) a_nil))) (e_call (ok_worth_of T) (hr.mono (by decide)) (by rfl) T.g_worth_of T.F_worth_of.kp T.b_worth_of .nil (fun _ => .nil) pass0 (a_cons (e_fld (v_ 0) T.cls_Machine T.na_coins) (a_cons (v_ 1) a_nil)))))
    (ss_cons (s_set (i := 5) sc_sales_by.nd (e_lc rfl sc_sales_by.nd (i_seq (e_fld (v_ 0) T.cls_Machine T.na_kinds)) (m := (.many (.cons (.one 7) (.cons (.one 8) .nil)))) (blkOk_by (own := [("price", 7), ("paid", 8)]) (N := ["machine", "stock", "count", "most", "due", "prices", "lots", "price", "paid", "lot", "number"]) (sc := defScope s_sales_by) (by decide +kernel)) (by decide) (fun _ _ _ _ _ => (pg_tup (n := 2) rfl (pgs_cons (pg_name (i := 7) sc_sales_by.nd rfl (Or.inl rfl)) (pgs_cons (pg_name (i := 8) sc_sales_by.nd rfl (Or.inl rfl)) pgs_nil)))) (fun _ _ _ _ _ => ts_nil) (fun _ _ _ _ _ => (v_ 7))))
    (ss_cons (s_set (i := 6) sc_sales_by.nd (e_call (ok_lots_sold T) (hr.mono (by decide)) (by rfl) T.g_lots_sold T.F_lots_sold.kp T.b_lots_sold .nil (fun _ => .nil) pass0 (a_cons (e_callB cr_len (by rfl) T.z_len (by decide +kernel) (a_cons (v_ 5) a_nil)) (a_cons (v_ 3) a_nil))))
    (ss_one (s_ret (e_callTy cr_tuple (by rfl) T.z_tuple (by decide +kernel) (a_cons (e_lc rfl sc_sales_by.nd (i_seq (v_ 6)) (m := (.one 9)) (blkOk_by (own := [("lot", 9)]) (N := ["machine", "stock", "count", "most", "due", "prices", "lots", "price", "paid", "lot", "number"]) (sc := defScope s_sales_by) (by decide +kernel)) (by decide) (fun _ _ _ _ _ => (pg_name (i := 9) sc_sales_by.nd rfl (Or.inl rfl))) (fun _ _ _ _ _ => (ts_one (t_cmp (or_eq hr.units) (e_callB (cr_sumA rfl) (by rfl) T.z_sum (by decide +kernel) (a_cons (e_lc rfl sc_sales_by.nd (i_zip2 (by rfl) T.z_zip (a_cons (v_ 5) (a_cons (v_ 9) a_nil))) (m := (.many (.cons (.one 7) (.cons (.one 10) .nil)))) (blkOk_by (own := [("price", 7), ("number", 10)]) (by rfl)) (by decide) (fun _ _ _ _ _ => (pg_tup (n := 2) rfl (pgs_cons (pg_name (i := 7) sc_sales_by.nd rfl (Or.inl rfl)) (pgs_cons (pg_name (i := 10) sc_sales_by.nd rfl (Or.inl rfl)) pgs_nil)))) (fun _ _ _ _ _ => ts_nil) (fun _ _ _ _ _ => (e_op or_mulN (v_ 7) (v_ 10)))) a_nil)) (v_ 4) (nomark _)))) (fun _ _ _ _ _ => (v_ 9))) a_nil))))))))
    fun ws G Q E mQ mE h => ?_
  · obtain ⟨x, cs, ts, ks, st, ns, m, rfl, _⟩ := h; rfl
  · obtain ⟨x, cs, ts, ks, st, ns, m, rfl, ha, h⟩ := h
    obtain ⟨pt, hx⟩ := id ha.mx
    have hS := coins_small ha.cu ha.cl
    have hP : Small (ks.map (·.1)) := ⟨by rw [List.length_map]; have := ha.kl; omega, fun c hc => by
      obtain ⟨k, hk, rfl⟩ := List.mem_map.mp hc
      have := ha.kp k hk
      omega⟩
    walk_at "go"
    refine ⟨_, _, hx, lk_coins, ?_⟩
    walk_at "go"
    refine ⟨cs, ns, rfl, hS, ?_⟩
    walk_at "clo"
    refine ⟨_, _, hx, lk_coins, ?_⟩
    walk_at "go"
    refine ⟨cs, st, rfl, hS, ?_⟩
    walk_at "clo"
    refine ⟨_, _, hx, lk_kinds, ?_⟩
    walk_at "go"
    refine lc_map ks eK (fun k => .int k.1) rfl (by have := ha.kl; omega) True.intro (fun i q D acc P hq nD hP => ?_) fun p np => ?_
    · walk_at "go"
      exact ⟨G, nD, Le.refl, hP⟩
    walk_at "go"
    refine ⟨_, .inl put_same, ?_⟩
    walk_at "go"
    have hl : (ks.map fun k => Dv.int k.1).length = ks.length := by rw [List.length_map]
    refine ⟨ks.length, m, by rw [hl]; rfl, ha.kl, ha.m0, ha.m1, ha.few, fun p2 np2 => ?_⟩
    walk_at "clo"
    refine ⟨_, .inl ⟨put_same, ?_⟩⟩
    walk_at "go"
    have np2' := (put_none.mp np2).2
    have ne2 := (put_none.mp np2).1
    refine lc_pureL (lots m ks.length) tiv (fun l => if decide (worth (ks.map (·.1)) l = worth cs ns - worth cs st) = true then some (tiv l) else none) rfl ?_ put_same (fun i l D acc PP hq nD hPP => ?_) fun p3 np3 => ?_
    · have z1 := lots_len ha.m0 ks.length
      have z2 := ha.few
      rw [sizeLine_eq]; omega
    · have nDp : D ≠ p := (put_none.mp (put_none.mp nD).2).1
      have nDp2 : D ≠ p2 := (put_none.mp nD).1
      have epr : (ks.map fun k => Dv.int k.1) = (ks.map (·.1)).map Dv.int := by rw [List.map_map]; rfl
      have hp : ∀ o, put (put (put G p (.lst (ks.map fun k => Dv.int k.1))) p2 (.lst ((lots m ks.length).map tiv))) D o p = some (.lst (ivs (ks.map (·.1)))) := fun o => by
        rw [put_ne (Ne.symm nDp), put_ne (Ne.symm ne2), put_same, epr]
      walk_at "go"
      refine ⟨_, hp _, ?_⟩
      walk_at "go"
      refine lc_map ((ks.map (·.1)).zip l) eI (fun q => .int (q.1 * q.2)) (zp_iv _ _) (by rw [List.length_zip, List.length_map]; have := ha.kl; omega) ⟨hp _, True.intro⟩ (fun i q D2 acc2 P2 hq2 nD2 hP2 => ?_) fun p4 np4 => ?_
      · walk_at "go"
        have := hP.2 q.1 (List.of_mem_zip (mapm hq2)).1
        exact ⟨.inl ⟨by omega, by omega⟩, _, nD2, Le.refl, hP2⟩
      · walk_at "go"
        refine ⟨((ks.map (·.1)).zip l).map fun q : Int × Int => q.1 * q.2, by rw [put_same, List.map_map]; rfl, ?_⟩
        walk_at "go"
        cases hd : decide (worth (ks.map (·.1)) l = worth cs ns - worth cs st) with
        | true =>
          rw [hd, if_pos rfl] at hPP
          rw [show decide ((((ks.map (·.1)).zip l).map fun q => q.1 * q.2).sum = worth cs ns - worth cs st) = true from hd]
          walk_at "go"
          exact ⟨_, nD, Le.refl.put np4, hPP⟩
        | false =>
          rw [hd, if_neg Bool.false_ne_true] at hPP
          rw [show decide ((((ks.map (·.1)).zip l).map fun q => q.1 * q.2).sum = worth cs ns - worth cs st) = false from hd]
          walk_at "go"
          exact ⟨_, nD, Le.refl.put np4, by simpa using hPP⟩
    · walk_at "go"
      refine ⟨_, put_same, ?_⟩
      rw [filter_fm]
      exact mQ _ _ _ (((Le.refl.put np).put np2').put (put_none.mp (put_none.mp np3).2).2) h
abbrev sp_sales (T : Txt K mg base) : Sq := sp_sales_by T
theorem ok_sales (T : Txt K mg base) : Fn P w K mg base CX0 8 T.f_sales T.d_sales ["machine", "stock", "count", "most"] (sp_sales T) := by
  refine fn_okA T.F_sales sc_sales (fun ws G Q E h => ?_) (fun cdv A outer s H E hr =>
    (ss_cons (s_expr (e_call (ok_check_counted T) (hr.mono (by decide)) (by rfl) T.g_check_counted T.F_check_counted.kp T.b_check_counted .nil (fun _ => .nil) pass0 (a_cons (v_ 0) (a_cons (v_ 1) (a_cons (v_ 2) (a_cons (v_ 3) a_nil))))))
    (ss_one (s_ret (e_call (ok_sales_by T) (hr.mono (by decide)) (by rfl) T.g_sales_by T.F_sales_by.kp T.b_sales_by .nil (fun _ => .nil) pass0 (a_cons (v_ 0) (a_cons (v_ 1) (a_cons (v_ 2) (a_cons (v_ 3) a_nil)))))))))
    fun ws G Q E mQ mE h => ?_
  · obtain ⟨x, cs, ts, ks, st, ns, m, rfl, _⟩ := h; rfl
  · obtain ⟨x, cs, ts, ks, st, ns, m, rfl, ha, h⟩ := h
    walk_at "go"
    refine ⟨x, cs, ts, ks, st, ns, m, rfl, ha, ?_⟩
    walk_at "clo"
    exact ⟨x, cs, ts, ks, st, ns, m, rfl, ha, .mk h⟩
/-- the least and the most of a kind -/
def spanOf (ns : List Int) : Dv := match ns with
  | [] => .non
  | a :: r => .tup [.int (minI (a :: r)), .int (maxI (a :: r))]
def sp_worths (T : Txt K mg base) : Sq := fun ws G Q _ => ∃ (x : Addr) (cs ts : List Int) (ks : List (Int × List Int)) (st ns : List Int) (m : Int) (k : Nat), ws = [.ref x, tiv st, tiv ns, .int m, .int k] ∧ Asked T G x cs ts ks st ns m ∧ k < ks.length ∧ Q (spanOf ((salesOf cs ks st ns m).map fun l => l.getD k 0)) G
theorem nb_tivs (n : Nat) (ls : List (List Int)) : (ls.map tiv).all (nb (n + 1)) = true := by
  rw [List.all_eq_true]
  intro x hx
  obtain ⟨l, _, rfl⟩ := List.mem_map.mp hx
  exact nb_ivs n l
theorem ok_worths (T : Txt K mg base) : Fn P w K mg base CX0 8 T.f_worths T.d_worths ["machine", "stock", "count", "most", "kind"] (sp_worths T) := by
  refine fn_okA T.F_worths sc_worths (fun ws G Q E h => ?_) (fun cdv A outer s H E hr =>
    (ss_cons (s_expr (e_call (ok_check_counted T) (hr.mono (by decide)) (by rfl) T.g_check_counted T.F_check_counted.kp T.b_check_counted .nil (fun _ => .nil) pass0 (a_cons (v_ 0) (a_cons (v_ 1) (a_cons (v_ 2) (a_cons (v_ 3) a_nil))))))
    (ss_cons (s_expr (e_call (ok_check_kind T) (hr.mono (by decide)) (by rfl) T.g_check_kind T.F_check_kind.kp T.b_check_kind .nil (fun _ => .nil) pass0 (a_cons (v_ 0) (a_cons (v_ 4) a_nil))))
    (ss_cons (s_setLc (i := 5) rfl sc_worths.nd (sw_true rfl rfl rfl (by decide +kernel)) (i_seq (e_call (ok_sales_by T) (hr.mono (by decide)) (by rfl) T.g_sales_by T.F_sales_by.kp T.b_sales_by .nil (fun _ => .nil) pass0 (a_cons (v_ 0) (a_cons (v_ 1) (a_cons (v_ 2) (a_cons (v_ 3) a_nil)))))) (m := (.one 6)) (blkOk_by (own := [("lot", 6)]) (N := ["machine", "stock", "count", "most", "kind", "told", "lot"]) (sc := defScope s_worths) (by decide +kernel)) (by decide) (fun _ _ _ _ _ => (pg_name (i := 6) sc_worths.nd rfl (Or.inl rfl))) (fun _ _ _ _ _ => ts_nil) (fun _ _ _ _ _ => (e_ix ix_any (v_ 6) (v_ 4))))
    (ss_one (s_ret (e_if (t_cmp (or_ne hr.units) (v_ 5) (e_lst a_nil) (nomark _)) (e_tup (a_cons (e_callB (cr_minA rfl) (by rfl) T.z_min (by decide +kernel) (a_cons (v_ 5) a_nil)) (a_cons (e_callB (cr_maxA rfl) (by rfl) T.z_max (by decide +kernel) (a_cons (v_ 5) a_nil)) a_nil))) e_non)))))))
    fun ws G Q E mQ mE h => ?_
  · obtain ⟨x, cs, ts, ks, st, ns, m, k, rfl, _⟩ := h; rfl
  · obtain ⟨x, cs, ts, ks, st, ns, m, k, rfl, ha, hk, h⟩ := h
    walk_at "go"
    refine ⟨x, cs, ts, ks, st, ns, m, rfl, ha, ?_⟩
    walk_at "clo"
    refine ⟨x, cs, ts, ks, k, rfl, ha.mx, by omega, by omega, ?_⟩
    walk_at "clo"
    refine ⟨x, cs, ts, ks, st, ns, m, rfl, ha, ?_⟩
    walk_at "clo"
    have hlen : (salesOf cs ks st ns m).length ≤ 200000 := by
      have z0 : (salesOf cs ks st ns m).length ≤ (lots m ks.length).length := List.length_filter_le _ _
      have z1 := lots_len ha.m0 ks.length
      have z2 := ha.few
      omega
    refine lc_pureL (salesOf cs ks st ns m) tiv (fun l => some (.int (l.getD k 0))) rfl (by rw [sizeLine_eq]; omega) True.intro (fun i l D acc P hq nD hP => ?_) fun p np => ?_
    · walk_at "go"
      have hl := (lots_in (List.mem_filter.mp (mapm hq)).1 ha.m0).1
      have hk2 : k < l.length := by omega
      have e : l[k]? = some (l.getD k 0) := by rw [List.getD_eq_getElem?_getD, List.getElem?_eq_getElem hk2]; rfl
      exact ⟨_, atI_ivs (atI_nat e), G, nD, Le.refl, hP⟩
    · have ev : (salesOf cs ks st ns m).filterMap (fun l => some (Dv.int (l.getD k 0))) = ((salesOf cs ks st ns m).map fun l => l.getD k 0).map Dv.int := by
        rw [List.map_map]
        generalize salesOf cs ks st ns m = L
        induction L with
        | nil => rfl
        | cons x L ih => rw [List.filterMap_cons, List.map_cons, ih]; rfl
      rw [ev]
      generalize (salesOf cs ks st ns m).map (fun l => l.getD k 0) = vs at *
      walk_at "go"
      intro p2 np2
      walk_at "go"
      have ne := (put_none.mp np2).1
      refine ⟨_, _, ⟨by rw [put_ne (Ne.symm ne), put_same], put_same⟩, ⟨nb_ivs _ _, rfl⟩, ?_⟩
      cases vs with
      | nil =>
        walk_at "go"
        exact mQ _ _ _ ((Le.refl.put np).put (put_none.mp np2).2) h
      | cons a r =>
        walk_at "go"
        have e5 : put (put G p (.lst (ivs (a :: r)))) p2 (.lst []) p = some (.lst (ivs (a :: r))) := by rw [put_ne (Ne.symm ne), put_same]
        refine ⟨a :: r, e5, by simp, ?_⟩
        walk_at "go"
        refine ⟨a :: r, e5, by simp, ?_⟩
        walk_at "go"
        exact mQ _ _ _ ((Le.refl.put np).put (put_none.mp np2).2) h
end L3
namespace L3
open PySem PySem.Spec PyProof.Rows L2
local macro_rules | `(tactic| walk_at "go") => `(tactic| conv => whnf)
local macro_rules | `(tactic| walk_at "le") => `(tactic| (intro a o e; simp only [put] at e ⊢; grind))
local macro_rules | `(tactic| walk_at "at") => `(tactic| (simp only [put]; grind))
local macro_rules | `(tactic| walk_at "clo") => `(tactic| (refine Clo.mk ?_; conv => whnf))
local macro_rules | `(tactic| walk_at "ix") => `(tactic| (refine ⟨_, rfl, ?_⟩; conv => whnf))
variable {P : Program} {w : World} {K : PySem.W.Frag} {mg : Str → Option Value} {base : Heap}

/-! ### the law's own parts -/
theorem ivs_app (a b : List Int) : ivs (a ++ b) = ivs a ++ ivs b := List.map_append ..
def IsBag (ws : List Dv) : Prop := ∃ x y z : Int, ws = [.int x, .int y, .int z]
def sp__law_take : Sq := fun ws G Q _ => ∃ (b : Addr) (t : Int) (v : List Dv), ws = [.ref b, .int t] ∧ G b = some (.lst v) ∧ IsBag v ∧ 0 < t ∧ t < 1000000 ∧ ∀ (r : Int) (v' : List Dv), IsBag v' → 0 ≤ r → r < t → Q (.int r) (put G b (.lst v'))
theorem ok__law_take (T : Txt K mg base) : Fn P w K mg base CX0 1 T.f__law_take T.d__law_take ["bag", "top"] (sp__law_take) := by
  refine fn_okA T.F__law_take sc__law_take (fun ws G Q E h => ?_) (fun cdv A outer s H E hr =>
    (ss_cons (s_if (t_cmp or_gt (e_ix ix_any (v_ 0) e_int) e_int (nomark _)) (ss_cons (s_asg (e_callB cr_divmod (by rfl) T.z_divmod (by decide +kernel) (a_cons (e_ix ix_any (v_ 0) e_int) (a_cons (v_ 1) a_nil))) (g_tup (n := 2) rfl (gs_cons (g_sub (v_ 0) e_int st_any) (gs_cons (g_name (i := 2) sc__law_take.nd) gs_nil))))
    (ss_one (s_ret (v_ 2)))) ss_nil)
    (ss_cons (s_asg (e_op or_add (e_ix ix_any (v_ 0) e_int) e_int) (g_sub (v_ 0) e_int st_any))
    (ss_cons (s_asg (e_op or_mod (e_callTy cr_int (by rfl) T.z_int (by decide +kernel) (a_cons (e_op or_add (e_op or_add (e_op or_mulN (e_ix ix_any (v_ 0) e_int) e_int) (e_op or_mulN e_int (e_ix ix_any (v_ 0) e_int))) e_int) a_nil)) e_int) (g_sub (v_ 0) e_int st_any))
    (ss_one (s_ret (e_op or_mod (e_callTy cr_int (by rfl) T.z_int (by decide +kernel) (a_cons (e_op or_fdiv (e_ix ix_any (v_ 0) e_int) e_int) a_nil)) (v_ 1))))))))
    fun ws G Q E mQ mE h => ?_
  · obtain ⟨b, t, v, rfl, _⟩ := h; rfl
  · obtain ⟨b, t, v, rfl, hb, ⟨x, y, z, rfl⟩, h1, h2, h⟩ := h
    walk_at "go"
    refine ⟨_, _, .inl hb, rfl, ?_⟩
    walk_at "go"
    dsimp only
    cases hx : decide (0 < x) with
    | true =>
      walk_at "go"
      refine ⟨_, _, .inl hb, rfl, ?_⟩
      walk_at "go"
      refine ⟨⟨h1, by omega⟩, ?_⟩
      walk_at "go"
      refine ⟨_, _, hb, rfl, ?_⟩
      walk_at "go"
      exact h _ _ ⟨_, _, _, rfl⟩ (Int.emod_nonneg _ (by omega)) (Int.emod_lt_of_pos _ h1)
    | false =>
      walk_at "go"
      refine ⟨_, _, .inl hb, rfl, ?_⟩
      walk_at "go"
      refine ⟨_, _, hb, rfl, ?_⟩
      walk_at "go"
      refine ⟨_, _, .inl put_same, rfl, ?_⟩
      walk_at "go"
      refine ⟨.inr ⟨by omega, by omega⟩, ?_⟩
      walk_at "go"
      refine ⟨_, _, .inl put_same, rfl, ?_⟩
      walk_at "go"
      refine ⟨.inl ⟨by omega, by omega⟩, ?_⟩
      walk_at "go"
      refine ⟨by omega, ?_⟩
      walk_at "go"
      refine ⟨_, _, put_same, rfl, ?_⟩
      rw [put_put]
      walk_at "go"
      refine ⟨_, _, .inl put_same, rfl, ?_⟩
      walk_at "go"
      refine ⟨⟨by omega, by omega⟩, ?_⟩
      walk_at "go"
      refine ⟨h1, ?_⟩
      exact h _ _ ⟨_, _, _, rfl⟩ (Int.emod_nonneg _ (by omega)) (Int.emod_lt_of_pos _ h1)
def sp__law_pull : Sq := fun ws G Q _ => ∃ (b s : Addr) (xs : List Int) (v : List Dv), ws = [.ref b, .ref s] ∧ G b = some (.lst v) ∧ IsBag v ∧ s ≠ b ∧ G s = some (.lst (ivs xs)) ∧ xs ≠ [] ∧ xs.length ≤ 1000 ∧ ∀ (r : Int) (v' : List Dv), IsBag v' → r ∈ xs → Q (.int r) (put G b (.lst v'))
theorem ok__law_pull (T : Txt K mg base) : Fn P w K mg base CX0 2 T.f__law_pull T.d__law_pull ["bag", "some"] (sp__law_pull) := by
  refine fn_okA T.F__law_pull sc__law_pull (fun ws G Q E h => ?_) (fun cdv A outer s H E hr =>
    (ss_one (s_ret (e_ix ix_any (v_ 1) (e_call (ok__law_take T) (hr.mono (by decide)) (by rfl) T.g__law_take T.F__law_take.kp T.b__law_take .nil (fun _ => .nil) pass0 (a_cons (v_ 0) (a_cons (e_callB cr_len (by rfl) T.z_len (by decide +kernel) (a_cons (v_ 1) a_nil)) a_nil)))))))
    fun ws G Q E mQ mE h => ?_
  · obtain ⟨b, s, xs, v, rfl, _⟩ := h; rfl
  · obtain ⟨b, s, xs, v, rfl, hb, hv, hn, hs, hne, hl, h⟩ := h
    have hl0 : 0 < xs.length := List.length_pos_iff.mpr hne
    walk_at "go"
    refine ⟨_, .inl hs, ?_⟩
    walk_at "go"
    refine ⟨b, _, v, rfl, hb, hv, by rw [List.length_map]; omega, by rw [List.length_map]; omega, fun r v' hv' h0 h1 => ?_⟩
    walk_at "clo"
    rw [List.length_map] at h1
    have hr : r.toNat < xs.length := by omega
    have e := atI_nat (List.getElem?_eq_getElem hr)
    rw [show ((r.toNat : Nat) : Int) = r by omega] at e
    exact ⟨_, _, .inl (by rw [put_ne hn]; exact hs), atI_ivs e, h _ _ hv' (List.getElem_mem hr)⟩
def sp__law_worth : Sq := sp_worth_of
theorem ok__law_worth (T : Txt K mg base) : Fn P w K mg base CX0 1 T.f__law_worth T.d__law_worth ["coins", "numbers"] (sp__law_worth) := by
  refine fn_okA T.F__law_worth sc__law_worth (fun ws G Q E h => ?_) (fun cdv A outer s H E hr =>
    (ss_one (s_ret (e_callB (cr_sumA rfl) (by rfl) T.z_sum (by decide +kernel) (a_cons (e_lc rfl sc__law_worth.nd (i_zip2 (by rfl) T.z_zip (a_cons (v_ 0) (a_cons (v_ 1) a_nil))) (m := (.many (.cons (.one 2) (.cons (.one 3) .nil)))) (blkOk_by (own := [("coin", 2), ("many", 3)]) (N := ["coins", "numbers", "coin", "many"]) (sc := defScope s__law_worth) (by decide +kernel)) (by decide) (fun _ _ _ _ _ => (pg_tup (n := 2) rfl (pgs_cons (pg_name (i := 2) sc__law_worth.nd rfl (Or.inl rfl)) (pgs_cons (pg_name (i := 3) sc__law_worth.nd rfl (Or.inl rfl)) pgs_nil)))) (fun _ _ _ _ _ => ts_nil) (fun _ _ _ _ _ => (e_op or_mulN (v_ 2) (v_ 3)))) a_nil)))))
    fun ws G Q E mQ mE h => ?_
  · obtain ⟨v, a, rfl, _⟩ := h; rfl
  · obtain ⟨cs, ns, rfl, ⟨h1, h2⟩, h⟩ := h
    walk_at "go"
    refine lc_map (cs.zip ns) eI (fun p => .int (p.1 * p.2)) (zp_iv cs ns) (by rw [List.length_zip]; omega) ⟨True.intro, True.intro⟩ (fun i x D acc P hx nD hP => ?_) fun p np => ?_
    · walk_at "go"
      have := h2 x.1 (List.of_mem_zip (mapm hx)).1
      exact ⟨.inl ⟨by omega, by omega⟩, G, nD, Le.refl, hP⟩
    · walk_at "go"
      exact ⟨(cs.zip ns).map fun p : Int × Int => p.1 * p.2, by rw [put_same, List.map_map]; rfl, mQ _ _ _ (Le.refl.put np) h⟩
/-- upwards and apart -/
theorem coinsUp_of {ns cs : List Int} (hp : cs.Perm ns) (hs : cs.Pairwise (· ≤ ·)) (hd : ns.Nodup) (hb : ∀ n ∈ ns, 1 ≤ n ∧ n ≤ 100) : CoinsUp cs := fun i x hx => by
  have hd2 : cs.Nodup := hp.nodup_iff.mpr hd
  obtain ⟨a, b⟩ := hb x (hp.mem_iff.mp (mapm hx))
  refine ⟨a, b, fun l hl => ?_⟩
  have hi := (List.getElem?_eq_some_iff.mp hx).1
  rw [List.getLast?_eq_getElem?, List.getElem?_take, List.length_take] at hl
  have h0 : 0 < i := by
    rcases Nat.eq_zero_or_pos i with z | z
    · subst z; simp at hl
    · exact z
  have e : min i cs.length - 1 = i - 1 := by omega
  rw [e, if_pos (by omega)] at hl
  have z := List.pairwise_iff_getElem.mp hs (i - 1) i (by omega) hi (by omega)
  have z2 := (List.pairwise_iff_getElem.mp hd2) (i - 1) i (by omega) hi (by omega)
  obtain ⟨_, e1⟩ := List.getElem?_eq_some_iff.mp hl
  obtain ⟨_, e2⟩ := List.getElem?_eq_some_iff.mp hx
  rw [e1, e2] at z z2
  omega
def sp__law_coins : Sq := fun ws G Q _ => ∃ (b : Addr) (t : Int) (v : List Dv), ws = [.ref b, .int t] ∧ G b = some (.lst v) ∧ IsBag v ∧ 0 < t ∧ t ≤ 100 ∧ ∀ (cs : List Int) (v' : List Dv), IsBag v' → 1 ≤ cs.length → cs.length ≤ 3 → CoinsUp cs → Q (tiv cs) (put G b (.lst v'))
theorem ok__law_coins (T : Txt K mg base) : Fn P w K mg base CX0 3 T.f__law_coins T.d__law_coins ["bag", "top"] (sp__law_coins) := by
  refine fn_okA T.F__law_coins sc__law_coins (fun ws G Q E h => ?_) (fun cdv A outer s H E hr =>
    (ss_cons (s_set (i := 2) sc__law_coins.nd (e_lst a_nil))
    (ss_cons (s_for PassesOwn.never rfl (i_range1 (by rfl) T.z_range (a_cons (e_call (ok__law_pull T) (hr.mono (by decide)) (by rfl) T.g__law_pull T.F__law_pull.kp T.b__law_pull .nil (fun _ => .nil) pass0 (a_cons (v_ 0) (a_cons (e_lst (a_cons e_int (a_cons e_int (a_cons e_int (a_cons e_int (a_cons e_int (a_cons e_int a_nil))))))) a_nil))) a_nil)) (g_name (i := 3) sc__law_coins.nd) (ss_cons (s_set (i := 4) sc__law_coins.nd (e_op or_add e_int (e_call (ok__law_take T) (hr.mono (by decide)) (by rfl) T.g__law_take T.F__law_take.kp T.b__law_take .nil (fun _ => .nil) pass0 (a_cons (v_ 0) (a_cons (v_ 1) a_nil)))))
    (ss_one (s_set (i := 2) sc__law_coins.nd (e_op or_add (v_ 2) (e_if (t_cmp (or_nin hr.units) (v_ 4) (v_ 2) (by rfl)) (e_lst (a_cons (v_ 4) a_nil)) (e_lst a_nil)))))))
    (ss_one (s_ret (e_callTy cr_tuple (by rfl) T.z_tuple (by decide +kernel) (a_cons (e_callB cr_sortedA (by rfl) T.z_sorted (by decide +kernel) (a_cons (v_ 2) a_nil)) a_nil)))))))
    fun ws G Q E mQ mE h => ?_
  · obtain ⟨b, t, v, rfl, _⟩ := h; rfl
  · obtain ⟨b, t, v, rfl, hb, hv, h1, h2, h⟩ := h
    walk_at "go"
    intro p np
    have npb : p ≠ b := fun z => by subst z; rw [hb] at np; cases np
    walk_at "go"
    intro s ns
    have hs := put_none.mp ns
    have nsb : s ≠ b := fun z => by subst z; rw [hb] at hs; cases hs.2
    walk_at "go"
    refine ⟨b, s, [1, 2, 2, 3, 3, 3], v, rfl, by rw [put_ne (Ne.symm nsb), put_ne (Ne.symm npb)]; exact hb, hv, nsb, put_same, by simp, by simp, fun n v1 hv1 hn => ?_⟩
    have hn2 : 1 ≤ n ∧ n ≤ 3 := by simp at hn; omega
    walk_at "clo"
    refine ⟨⟨by omega, by omega⟩, ?_⟩
    walk_at "go"
    refine ⟨fun i τ G' => ∃ a c q L v', τ = [some (.ref b), some (.int t), some (.ref q), a, c] ∧ IsBag v' ∧ G q = none ∧ q ≠ b ∧ G' = put (put G b (.lst v')) q (.lst (ivs L)) ∧ L.Nodup ∧ (∀ n ∈ L, 1 ≤ n ∧ n ≤ t) ∧ L.length ≤ i ∧ (1 ≤ i → 1 ≤ L.length),
      ⟨_, put (put G b (.lst v1)) p (.lst (ivs [])), LeS.refl, ?_, _, _, p, [], v1, rfl, hv1, np, npb, rfl, by simp, by simp, by simp, by simp⟩, fun i τ G' _ _ => True.intro, fun i w τ G' hw ⟨a, c, q, L, v', e1, hv', nq, nqb, e2, l1, l2, l3, l4⟩ => ?_, fun τ G' ⟨a, c, q, L, v', e1, hv', nq, nqb, e2, l1, l2, l3, l4⟩ => ?_⟩
    · have := hs.1
      have := hs.2
      walk_at "le"
    · subst e1; subst e2
      walk_at "go"
      refine ⟨b, t, v', rfl, by rw [put_ne (Ne.symm nqb), put_same], hv', h1, by omega, fun r v2 hv2 r0 r1 => ?_⟩
      walk_at "clo"
      refine ⟨ivs L, by rw [put_ne nqb, put_same], ?_⟩
      walk_at "go"
      refine ⟨⟨rfl, nb_ivs _ _⟩, ?_⟩
      have hi : i < n.toNat := by
        have := (List.getElem?_eq_some_iff.mp hw).1
        rwa [rng_length] at this
      cases hm : decide (Dv.int (1 + r) ∈ ivs L) with
      | true =>
        walk_at "go"
        intro p2 np2
        walk_at "go"
        refine ⟨ivs L, [], ?_, put_same, ?_, fun p3 np3 => ?_⟩
        · have f2 : p2 ≠ q := by simp only [put] at np2; grind
          walk_at "at"
        · rw [List.length_map, sizeLine_eq]; simp; omega
        have f3 : G p3 = none ∧ p3 ≠ b ∧ p3 ≠ q := by simp only [put] at np3; grind
        walk_at "go"
        refine ⟨_, put (put G b (.lst v2)) p3 (.lst (ivs (L))), LeS.refl, ?_, _, _, p3, L, v2, rfl, hv2, f3.1, f3.2.1, rfl, ?_, ?_, ?_, ?_⟩
        · rw [List.append_nil]
          have f2 : G p2 = none ∧ p2 ≠ b := by simp only [put] at np2; grind
          walk_at "le"
        · exact l1
        · exact l2
        · omega
        · have hm := of_decide_eq_true hm
          obtain ⟨z, hz, _⟩ := List.mem_map.mp hm
          intro _
          exact List.length_pos_iff.mpr fun e => by rw [e] at hz; cases hz
      | false =>
        walk_at "go"
        intro p2 np2
        walk_at "go"
        refine ⟨ivs L, [.int (1 + r)], ?_, put_same, ?_, fun p3 np3 => ?_⟩
        · have f2 : p2 ≠ q := by simp only [put] at np2; grind
          walk_at "at"
        · rw [List.length_map, sizeLine_eq]; simp; omega
        have f3 : G p3 = none ∧ p3 ≠ b ∧ p3 ≠ q := by simp only [put] at np3; grind
        walk_at "go"
        refine ⟨_, put (put G b (.lst v2)) p3 (.lst (ivs (L ++ [1 + r]))), LeS.refl, ?_, _, _, p3, L ++ [1 + r], v2, rfl, hv2, f3.1, f3.2.1, rfl, ?_, ?_, ?_, ?_⟩
        · rw [ivs_app]
          have f2 : G p2 = none ∧ p2 ≠ b := by simp only [put] at np2; grind
          show Le (put (put G b (.lst v2)) p3 (.lst (ivs L ++ [Dv.int (1 + r)]))) _
          walk_at "le"
        · have hm := of_decide_eq_false hm
          refine List.nodup_append.mpr ⟨l1, by simp, fun x hx y hy => ?_⟩
          have hy : y = 1 + r := by simpa using hy
          rintro rfl
          rw [hy] at hx
          exact hm (List.mem_map.mpr ⟨_, hx, rfl⟩)
        · intro x hx
          rcases List.mem_append.mp hx with z | z
          · exact l2 x z
          · have z : x = 1 + r := by simpa using z
            omega
        · rw [List.length_append]; simp; omega
        · intro _; rw [List.length_append]; simp
    · subst e1; subst e2
      walk_at "go"
      refine ⟨L, put_same, fun ns' p2 hp hs2 np2 => ?_⟩
      walk_at "go"
      refine ⟨_, put_same, ?_⟩
      have hlen := hp.length_eq
      refine mQ _ _ _ ?_ (h ns' v' hv' ?_ ?_ (coinsUp_of hp hs2 l1 fun n hn => by have := l2 n hn; omega))
      · have := put_none.mp np2
        have := put_none.mp this.2
        walk_at "le"
      · rw [hlen]
        refine l4 ?_
        rw [rng_length]; omega
      · rw [hlen]
        rw [rng_length] at l3
        omega
theorem put_eq {G : Hq} {b : Addr} {o : Ho} (h : G b = some o) : put G b o = G := by
  funext a; unfold put; split
  · rename_i e; rw [e, h]
  · rfl
def BagP (b : Addr) (R : Nat → Int → Prop) (G : Hq) : Nat → List Dv → Hq → Prop := fun i acc G' => ∃ v' us, IsBag v' ∧ us.length = i ∧ (∀ j r, us[j]? = some r → R j r) ∧ acc = ivs us ∧ G' = put G b (.lst v')
/-- a comprehension whose every turn draws a number -/
theorem lc_bag {ws : List Dv} {Sg : Hq → Prop} {m : Nm} {tt : Tt} {te : Te} {vs : List Nat} {τ : Sl} {G : Hq} {Q : Qv} (b : Addr) {v0 : List Dv} (R : Nat → Int → Prop) (hz : ws.length ≤ 1000) (hb : G b = some (.lst v0)) (hv : IsBag v0) (hS : ∀ v', Sg (put G b (.lst v')))
    (body : ∀ i w D acc v' (P : List Dv → Hq → Prop), ws[i]? = some w → IsBag v' → G D = none → D ≠ b → (∀ r v2, R i r → IsBag v2 → P (acc ++ [.int r]) (put G b (.lst v2))) → bnd m w (wip τ vs) fun τ2 => tt τ2 (put (put G b (.lst v')) D (.lst acc)) fun c G3 => match c with
      | true => te τ2 G3 fun v G4 => ∃ G5, G5 D = none ∧ Le (put G5 D (.lst acc)) G4 ∧ P (acc ++ [v]) G5
      | false => ∃ G5, G5 D = none ∧ Le (put G5 D (.lst acc)) G3 ∧ P acc G5)
    (q : ∀ us v' p, IsBag v' → us.length = ws.length → (∀ i r, us[i]? = some r → R i r) → G p = none → p ≠ b → Q (.ref p) (put (put G b (.lst v')) p (.lst (ivs us)))) : lcL ws Sg m tt te vs τ G Q := by
  refine lc_go (Nat.le_of_lt (small1000 hz)) fun D nD => ⟨BagP b R G, ⟨v0, [], hv, rfl, by simp, rfl, (put_eq hb).symm⟩, ?_, ?_, ?_⟩
  · rintro i acc G' ⟨v', us, h1, h2, h3, rfl, rfl⟩
    have e : D ≠ b := by rintro rfl; rw [hb] at nD; cases nD
    exact ⟨hS v', put_none.mpr ⟨e, nD⟩⟩
  · rintro i w acc G' hw ⟨v', us, h1, h2, h3, rfl, rfl⟩
    have e : D ≠ b := by rintro rfl; rw [hb] at nD; cases nD
    refine body i w D (ivs us) v' (BagP b R G (i + 1)) hw h1 nD e fun r v2 hr hv2 => ⟨v2, us ++ [r], hv2, by rw [List.length_append, h2]; rfl, fun j x hx => ?_, by rw [ivs_app]; rfl, rfl⟩
    by_cases hj : j < us.length
    · rw [List.getElem?_append_left hj] at hx; exact h3 j x hx
    · rw [List.getElem?_append_right (by omega)] at hx
      have z : j - us.length = 0 := by
        have := (List.getElem?_eq_some_iff.mp hx).1
        simp at this; omega
      rw [z] at hx
      cases hx
      have z2 : j = i := by omega
      rw [z2]; exact hr
  · rintro acc G' ⟨v', us, h1, h2, h3, rfl, rfl⟩
    have e : D ≠ b := by rintro rfl; rw [hb] at nD; cases nD
    exact q us v' D h1 h2 h3 nD e
theorem worth_le : ∀ {cs ps : List Int}, (∀ c ∈ cs, 0 ≤ c ∧ c ≤ 100) → (∀ p ∈ ps, 0 ≤ p ∧ p ≤ 4) → 0 ≤ worth cs ps ∧ worth cs ps ≤ 400 * cs.length
  | [], _, _, _ => by simp [worth]
  | _ :: _, [], _, _ => by simp [worth]; omega
  | c :: cs, p :: ps, h1, h2 => by
    have z := worth_le (cs := cs) (ps := ps) (fun x hx => h1 x (by simp [hx])) fun x hx => h2 x (by simp [hx])
    have a := h1 c (by simp)
    have b := h2 p (by simp)
    have e : worth (c :: cs) (p :: ps) = c * p + worth cs ps := by simp [worth]
    have m1 : 0 ≤ c * p := Int.mul_nonneg a.1 b.1
    have m2 : c * p ≤ 100 * 4 := Int.mul_le_mul a.2 b.2 b.1 (by omega)
    rw [e, List.length_cons]
    omega
def sp__law_stock : Sq := fun ws G Q _ => ∃ (b : Addr) (v : List Dv) (ts : List Int) (x y z : Dv), ws = [.ref b, .tup [x, tiv ts, y, z]] ∧ G b = some (.lst v) ∧ IsBag v ∧ ts.length ≤ 3 ∧ (∀ t ∈ ts, 0 ≤ t ∧ t ≤ 4) ∧ ∀ (st : List Int) (v' : List Dv), IsBag v' → StockOk ts st → Q (tiv st) (put G b (.lst v'))
theorem ok__law_stock (T : Txt K mg base) : Fn P w K mg base CX0 2 T.f__law_stock T.d__law_stock ["bag", "parts"] (sp__law_stock) := by
  refine fn_okA T.F__law_stock sc__law_stock (fun ws G Q E h => ?_) (fun cdv A outer s H E hr =>
    (ss_one (s_ret (e_callTy cr_tuple (by rfl) T.z_tuple (by decide +kernel) (a_cons (e_lc rfl sc__law_stock.nd (i_seq (e_ix ix_any (v_ 1) e_int)) (m := (.one 2)) (blkOk_by (own := [("many", 2)]) (N := ["bag", "parts", "many"]) (sc := defScope s__law_stock) (by decide +kernel)) (by decide) (fun _ _ _ _ _ => (pg_name (i := 2) sc__law_stock.nd rfl (Or.inl rfl))) (fun _ _ _ _ _ => ts_nil) (fun _ _ _ _ _ => (e_call (ok__law_take T) (hr.mono (by decide)) (by rfl) T.g__law_take T.F__law_take.kp T.b__law_take .nil (fun _ => .nil) pass0 (a_cons (v_ 0) (a_cons (e_op or_add (v_ 2) e_int) a_nil))))) a_nil)))))
    fun ws G Q E mQ mE h => ?_
  · obtain ⟨b, v, ts, x, y, z, rfl, _⟩ := h; rfl
  · obtain ⟨b, v, ts, x, y, z, rfl, hb, hv, hl, ht, h⟩ := h
    walk_at "go"
    walk_at "ix"
    refine lc_bag b (fun i r => ∃ t, ts[i]? = some t ∧ 0 ≤ r ∧ r ≤ t) (by rw [List.length_map]; omega) hb hv (fun _ => True.intro) (fun i w D acc v' P hw hv' nD nDb hP => ?_) fun us v' p hv' hl2 hR np npb => ?_
    · rw [List.getElem?_map] at hw
      cases et : ts[i]? with
      | none => rw [et] at hw; cases hw
      | some t =>
        rw [et] at hw; cases hw
        obtain ⟨t0, t1⟩ := ht t (mapm et)
        walk_at "go"
        refine ⟨b, _, v', rfl, by walk_at "at", hv', by omega, by omega, fun r v2 hv2 r0 r1 => .mk ⟨put G b (.lst v2), by walk_at "at", by walk_at "le", hP r v2 ⟨t, et, r0, by omega⟩ hv2⟩⟩
    · walk_at "go"
      refine ⟨_, put_same, ?_⟩
      rw [List.length_map] at hl2
      refine mQ _ _ _ (Le.refl.put (put_none.mpr ⟨npb, np⟩)) (h us v' hv' ⟨hl2, fun q hq => ?_⟩)
      obtain ⟨i, hi⟩ := List.mem_iff_getElem?.mp hq
      rw [List.getElem?_zip_eq_some] at hi
      obtain ⟨t, e1, e2, e3⟩ := hR i q.1 hi.1
      rw [hi.2] at e1
      cases e1
      exact ⟨e2, e3⟩
theorem any_ok {n : Nat} (h1 : 1 ≤ n) (h2 : n ≤ 1000) : PatOk n (anyRow n) := fun r hr => by
  have e : r = (List.range n).map fun i => (((i : Nat) : Int), (0 : Int)) := by simpa [anyRow] using hr
  have hg : ∀ j, j < n → r[j]? = some ((j : Int), 0) := fun j hj => by rw [e, List.getElem?_map, List.getElem?_range hj]; rfl
  have hl : r.length = n := by rw [e, List.length_map, List.length_range]
  refine ⟨fun z => by rw [z] at hl; simp at hl; omega, by omega, fun p hp => ?_, fun q hq => ?_⟩
  · rw [e] at hp
    obtain ⟨i, hi, rfl⟩ := List.mem_map.mp hp
    have hi := List.mem_range.mp hi
    refine ⟨by show (0 : Int) ≤ i; omega, by show (i : Int) ≤ n - 1; omega, by show (0 : Int) ≤ 0; omega, by show (0 : Int) ≤ 1 - 1; omega⟩
  · obtain ⟨j, hj⟩ := List.mem_iff_getElem?.mp hq
    rw [List.getElem?_zip_eq_some, List.getElem?_drop] at hj
    have b1 : 1 + j < n := by
      have := (List.getElem?_eq_some_iff.mp hj.2).1
      omega
    rw [hg j (by omega), hg (1 + j) b1] at hj
    have e1 := Option.some.inj hj.1
    have e2 := Option.some.inj hj.2
    rw [← e1, ← e2]
    show (j : Int) < ((1 + j : Nat) : Int)
    omega
def sp__law_parts : Sq := fun ws G Q _ => ∃ (b : Addr) (t : Int) (v : List Dv), ws = [.ref b, .int t] ∧ G b = some (.lst v) ∧ IsBag v ∧ 0 < t ∧ t ≤ 100 ∧ ∀ (cs ts : List Int) (ks : List (Int × List Int)) (v' : List Dv), IsBag v' → Mach cs ts ks (anyRow ks.length) → ks.length ≤ 5 → Q (.tup [tiv cs, tiv ts, eKs ks, ePat (anyRow ks.length)]) (put G b (.lst v'))
theorem ok__law_parts (T : Txt K mg base) : Fn P w K mg base CX0 4 T.f__law_parts T.d__law_parts ["bag", "top"] (sp__law_parts) := by
  refine fn_okA T.F__law_parts sc__law_parts (fun ws G Q E h => ?_) (fun cdv A outer s H E hr =>
    (ss_cons (s_set (i := 2) sc__law_parts.nd (e_call (ok__law_coins T) (hr.mono (by decide)) (by rfl) T.g__law_coins T.F__law_coins.kp T.b__law_coins .nil (fun _ => .nil) pass0 (a_cons (v_ 0) (a_cons (v_ 1) a_nil))))
    (ss_cons (s_set (i := 3) sc__law_parts.nd (e_callTy cr_tuple (by rfl) T.z_tuple (by decide +kernel) (a_cons (e_lc rfl sc__law_parts.nd (i_seq (v_ 2)) (m := (.one 8)) (blkOk_by (own := [("coin", 8)]) (N := ["bag", "top", "coins", "tubes", "found", "turn", "paid", "price", "coin", "k"]) (sc := defScope s__law_parts) (by decide +kernel)) (by decide) (fun _ _ _ _ _ => (pg_name (i := 8) sc__law_parts.nd rfl (Or.inl rfl))) (fun _ _ _ _ _ => ts_nil) (fun _ _ _ _ _ => (e_call (ok__law_pull T) (hr.mono (by decide)) (by rfl) T.g__law_pull T.F__law_pull.kp T.b__law_pull .nil (fun _ => .nil) pass0 (a_cons (v_ 0) (a_cons (e_lst (a_cons e_int (a_cons e_int (a_cons e_int (a_cons e_int (a_cons e_int a_nil)))))) a_nil))))) a_nil)))
    (ss_cons (s_set (i := 4) sc__law_parts.nd (e_lst a_nil))
    (ss_cons (s_for PassesOwn.never rfl (i_range1 (by rfl) T.z_range (a_cons (e_op or_add e_int (e_call (ok__law_take T) (hr.mono (by decide)) (by rfl) T.g__law_take T.F__law_take.kp T.b__law_take .nil (fun _ => .nil) pass0 (a_cons (v_ 0) (a_cons e_int a_nil)))) a_nil)) (g_name (i := 5) sc__law_parts.nd) (ss_cons (s_set (i := 6) sc__law_parts.nd (e_callTy cr_tuple (by rfl) T.z_tuple (by decide +kernel) (a_cons (e_lc rfl sc__law_parts.nd (i_seq (v_ 2)) (m := (.one 8)) (blkOk_by (own := [("coin", 8)]) (N := ["bag", "top", "coins", "tubes", "found", "turn", "paid", "price", "coin", "k"]) (sc := defScope s__law_parts) (by decide +kernel)) (by decide) (fun _ _ _ _ _ => (pg_name (i := 8) sc__law_parts.nd rfl (Or.inl rfl))) (fun _ _ _ _ _ => ts_nil) (fun _ _ _ _ _ => (e_call (ok__law_pull T) (hr.mono (by decide)) (by rfl) T.g__law_pull T.F__law_pull.kp T.b__law_pull .nil (fun _ => .nil) pass0 (a_cons (v_ 0) (a_cons (e_lst (a_cons e_int (a_cons e_int (a_cons e_int (a_cons e_int (a_cons e_int (a_cons e_int a_nil))))))) a_nil))))) a_nil)))
    (ss_cons (s_set (i := 7) sc__law_parts.nd (e_callB (cr_minA rfl) (by rfl) T.z_min (by decide +kernel) (a_cons e_int (a_cons (e_call (ok__law_take T) (hr.mono (by decide)) (by rfl) T.g__law_take T.F__law_take.kp T.b__law_take .nil (fun _ => .nil) pass0 (a_cons (v_ 0) (a_cons (e_op or_add (e_call (ok__law_worth T) (hr.mono (by decide)) (by rfl) T.g__law_worth T.F__law_worth.kp T.b__law_worth .nil (fun _ => .nil) pass0 (a_cons (v_ 2) (a_cons (v_ 6) a_nil))) e_int) a_nil))) a_nil))))
    (ss_one (s_if (Pw.toT (w_and (t_cmp or_le (v_ 7) (e_call (ok__law_worth T) (hr.mono (by decide)) (by rfl) T.g__law_worth T.F__law_worth.kp T.b__law_worth .nil (fun _ => .nil) pass0 (a_cons (v_ 2) (a_cons (v_ 6) a_nil))) (nomark _)) (w_and1 (t_cmp (or_nin hr.units) (e_tup (a_cons (v_ 7) (a_cons (v_ 6) a_nil))) (v_ 4) (by rfl))))) (ss_one (s_expr (e_mth PySem.F.slot_list_append PySem.F.type_list_append mr_app (v_ 4) (a_cons (e_tup (a_cons (v_ 7) (a_cons (v_ 6) a_nil))) a_nil)))) ss_nil)))))
    (ss_one (s_ret (e_tup (a_cons (v_ 2) (a_cons (v_ 3) (a_cons (e_callTy cr_tuple (by rfl) T.z_tuple (by decide +kernel) (a_cons (v_ 4) a_nil)) (a_cons (e_tup (a_cons (e_callTy cr_tuple (by rfl) T.z_tuple (by decide +kernel) (a_cons (e_lc rfl sc__law_parts.nd (i_range1 (by rfl) T.z_range (a_cons (e_callB cr_len (by rfl) T.z_len (by decide +kernel) (a_cons (v_ 4) a_nil)) a_nil)) (m := (.one 9)) (blkOk_by (own := [("k", 9)]) (N := ["bag", "top", "coins", "tubes", "found", "turn", "paid", "price", "coin", "k"]) (sc := defScope s__law_parts) (by decide +kernel)) (by decide) (fun _ _ _ _ _ => (pg_name (i := 9) sc__law_parts.nd rfl (Or.inl rfl))) (fun _ _ _ _ _ => ts_nil) (fun _ _ _ _ _ => (e_tup (a_cons (v_ 9) (a_cons e_int a_nil))))) a_nil)) a_nil)) a_nil))))))))))))
    fun ws G Q E mQ mE h => ?_
  · obtain ⟨b, t, v, rfl, _⟩ := h; rfl
  · obtain ⟨b, t, v, rfl, hb, hv, h1, h2, h⟩ := h
    walk_at "go"
    refine ⟨b, t, v, rfl, hb, hv, h1, h2, fun cs v1 hv1 c1 c2 cu => ?_⟩
    walk_at "clo"
    refine lc_bag b (fun i r => 0 ≤ r ∧ r ≤ 4) (by rw [List.length_map]; omega) put_same hv1 (fun _ => True.intro) (fun i w D acc v' P hw hv' nD nDb hP => ?_) fun ts v2 p hv2 hl2 hR np npb => ?_
    · obtain ⟨c, hc, rfl⟩ := List.mem_map.mp (mapm hw)
      walk_at "go"
      intro s ns
      walk_at "go"
      refine ⟨b, s, [0, 1, 2, 3, 4], v', rfl, ?_, hv', ?_, put_same, by simp, by simp, fun r v3 hv3 hr => .mk ⟨put (put G b (.lst v1)) b (.lst v3), ?_, ?_, hP r v3 (by simp at hr; omega) hv3⟩⟩
      · simp only [put] at ns ⊢; grind
      · rintro rfl; simp only [put] at ns; grind
      · simp only [put] at nD ⊢; grind
      · simp only [put] at ns; walk_at "le"
    walk_at "go"
    refine ⟨_, put_same, ?_⟩
    walk_at "go"
    rw [put_put]
    intro p4 np4
    have f4 : G p4 = none ∧ p4 ≠ b ∧ p4 ≠ p := by simp only [put] at np4; grind
    walk_at "go"
    refine ⟨b, 5, v2, rfl, by walk_at "at", hv2, by omega, by omega, fun r v3 hv3 r0 r1 => ?_⟩
    walk_at "clo"
    refine ⟨⟨by omega, by omega⟩, ?_⟩
    walk_at "go"
    refine ⟨fun i τ G' => ∃ a c d e f L v', τ = [some (.ref b), some (.int t), some (tiv cs), some (tiv ts), some (.ref p4), a, c, d, e, f] ∧ IsBag v' ∧ G' = put (put G b (.lst v')) p4 (.lst (L.map eK)) ∧ KindsOk cs L ∧ L.length ≤ i ∧ (1 ≤ i → 1 ≤ L.length),
      ⟨_, put (put G b (.lst v3)) p4 (.lst ([].map eK)), LeS.refl, ?_, _, _, _, _, _, [], v3, rfl, hv3, rfl, fun i k hk => by simp at hk, by simp, by simp⟩, fun i τ G' _ _ => True.intro, fun i w τ G' hw ⟨a, c, d, e, f, L, v', e1, hv', e2, l1, l2, l3⟩ => ?_, fun τ G' ⟨a, c, d, e, f, L, v', e1, hv', e2, l1, l2, l3⟩ => ?_⟩
    · have fp : G p = none := by simp only [put] at np; grind
      rw [show (([] : List (Int × List Int)).map eK) = [] from rfl]
      intro x o e
      unfold put at e ⊢
      grind
    · subst e1; subst e2
      have hi5 : i < 5 := by
        have := (List.getElem?_eq_some_iff.mp hw).1
        rw [rng_length] at this
        omega
      walk_at "go"
      refine lc_bag b (fun i r => 0 ≤ r ∧ r ≤ 4) (by rw [List.length_map]; omega) (v0 := v') (by walk_at "at") hv' (fun _ => True.intro) (fun i w D acc v5 P hw hv5 nD nDb hP => ?_) fun ps v6 p6 hv6 hl6 hR6 np6 npb6 => ?_
      · obtain ⟨c, hc, rfl⟩ := List.mem_map.mp (mapm hw)
        walk_at "go"
        intro s ns
        walk_at "go"
        refine ⟨b, s, [0, 0, 1, 1, 2, 4], v5, rfl, ?_, hv5, ?_, put_same, by simp, by simp, fun r v7 hv7 hr => .mk ⟨put (put (put G b (.lst v')) p4 (.lst (L.map eK))) b (.lst v7), ?_, ?_, hP r v7 (by simp at hr; omega) hv7⟩⟩
        · simp only [put] at ns ⊢; grind
        · rintro rfl; simp only [put] at ns; grind
        · simp only [put] at nD ⊢; grind
        · simp only [put] at ns; walk_at "le"
      have f6 : G p6 = none ∧ p6 ≠ b ∧ p6 ≠ p4 := by simp only [put] at np6; grind
      have hps : ∀ x ∈ ps, 0 ≤ x ∧ x ≤ 4 := fun x hx => let ⟨i, hi⟩ := List.mem_iff_getElem?.mp hx; hR6 i x hi
      have hpl : ps.length = cs.length := by rw [hl6, List.length_map]
      have hcs : ∀ x ∈ cs, 0 ≤ x ∧ x ≤ 100 := fun x hx => by
        obtain ⟨i, hi⟩ := List.mem_iff_getElem?.mp hx
        obtain ⟨y1, y2, _⟩ := cu i x hi
        omega
      obtain ⟨w0, w1⟩ := worth_le hcs hps
      have hS := coins_small cu c2
      walk_at "go"
      refine ⟨_, put_same, ?_⟩
      walk_at "go"
      refine ⟨cs, ps, rfl, hS, ?_⟩
      walk_at "clo"
      refine ⟨b, _, v6, rfl, by walk_at "at", hv6, by omega, by omega, fun r v7 hv7 r0 r1 => ?_⟩
      walk_at "clo"
      refine ⟨cs, ps, rfl, hS, ?_⟩
      walk_at "clo"
      dsimp only
      have hp1 : min 200 r ≤ worth cs ps := by omega
      rw [decide_eq_true hp1]
      walk_at "go"
      refine ⟨L.map eK, ?_, ⟨nb_eK (min 200 r, ps), nb_eKs L⟩, ?_⟩
      · walk_at "at"
      cases hm : decide (eK (min 200 r, ps) ∈ L.map eK) with
      | true =>
        walk_at "go"
        refine ⟨_, put (put G b (.lst v7)) p4 (.lst (L.map eK)), LeS.refl, ?_, _, _, _, _, _, L, v7, rfl, hv7, rfl, l1, by omega, ?_⟩
        · walk_at "le"
        · obtain ⟨z, hz, _⟩ := List.mem_map.mp (of_decide_eq_true hm)
          intro _
          exact List.length_pos_iff.mpr fun e => by rw [e] at hz; cases hz
      | false =>
        walk_at "go"
        have ep : put (put (put (put (put G b (.lst v')) p4 (.lst (L.map eK))) b (.lst v6)) p6 (.lst (ivs ps))) b (.lst v7) p4 = some (.lst (L.map eK)) := by walk_at "at"
        refine ⟨⟨_, ep⟩, ?_⟩
        walk_at "go"
        refine ⟨_, ep, by rw [List.length_map, sizeLine_eq]; omega, ?_⟩
        walk_at "go"
        refine ⟨_, put (put G b (.lst v7)) p4 (.lst ((L ++ [(min 200 r, ps)]).map eK)), LeS.refl, ?_, _, _, _, _, _, L ++ [(min 200 r, ps)], v7, rfl, hv7, rfl, fun j k hk => ?_, by rw [List.length_append]; simp; omega, fun _ => by rw [List.length_append]; simp⟩
        · rw [List.map_append]
          show Le (put (put G b (.lst v7)) p4 (.lst (L.map eK ++ [eK (min 200 r, ps)]))) _
          walk_at "le"
        · by_cases hj : j < L.length
          · rw [List.getElem?_append_left hj] at hk
            rw [List.take_append_of_le_length (by omega)]
            exact l1 j k hk
          · rw [List.getElem?_append_right (by omega)] at hk
            have z : j - L.length = 0 := by
              have := (List.getElem?_eq_some_iff.mp hk).1
              simp at this; omega
            rw [z] at hk
            cases hk
            have z2 : j = L.length := by omega
            rw [z2, List.take_left]
            exact ⟨by show 0 ≤ min 200 r; omega, by show min 200 r ≤ 200; omega, hpl, by omega, hps, hS, hp1, fun hin => by
              have hm := of_decide_eq_false hm
              exact hm (List.mem_map.mpr ⟨_, hin, rfl⟩)⟩
    · subst e1; subst e2
      rw [rng_length] at l2 l3
      walk_at "go"
      refine ⟨_, put_same, ?_⟩
      walk_at "go"
      refine ⟨_, .inl put_same, ?_⟩
      walk_at "go"
      refine ⟨⟨by omega, by rw [List.length_map]; omega⟩, ?_⟩
      rw [Int.toNat_natCast, List.length_map]
      refine lc_map (List.range L.length) (fun i => .int (0 + (i : Nat))) (fun i => .tup [.int (0 + (i : Nat)), .int 0]) rfl (by rw [List.length_range]; omega) True.intro (fun i x D acc P hx nD hP => ?_) fun p8 np8 => ?_
      · walk_at "go"
        exact ⟨_, nD, Le.refl, hP⟩
      · walk_at "go"
        refine ⟨_, put_same, ?_⟩
        walk_at "go"
        have f8 : G p8 = none ∧ p8 ≠ b ∧ p8 ≠ p4 := by simp only [put] at np8; grind
        have er : (List.range L.length).map (fun i => Dv.tup [.int (0 + (i : Nat)), .int 0]) = ((List.range L.length).map fun i => (((i : Nat) : Int), (0 : Int))).map eI := by
          rw [List.map_map]
          exact List.map_congr_left fun i _ => by show Dv.tup [.int (0 + (i : Nat)), .int 0] = Dv.tup [.int (i : Nat), .int 0]; rw [Int.zero_add]
        rw [er]
        have hcs : ∀ x ∈ ts, 0 ≤ x ∧ x ≤ 4 := fun x hx => let ⟨i, hi⟩ := List.mem_iff_getElem?.mp hx; hR i x hi
        rw [List.length_map] at hl2
        refine mQ _ _ _ ?_ (h cs ts L v' hv' ⟨c1, c2, cu, hl2, hcs, ?_, ?_, l1, Nat.le_refl 1, by show 1 ≤ 3; omega, ?_⟩ ?_)
        · walk_at "le"
        · exact l3 (by omega)
        · omega
        · exact any_ok (l3 (by omega)) (by omega)
        · omega
end L3
namespace L3
open PySem PySem.Spec PyProof.Rows L2
local macro_rules | `(tactic| walk_at "go") => `(tactic| conv => whnf)
local macro_rules | `(tactic| walk_at "le") => `(tactic| (intro a o e; simp only [put] at e ⊢; grind))
local macro_rules | `(tactic| walk_at "at") => `(tactic| (simp only [put]; grind))
local macro_rules | `(tactic| walk_at "clo") => `(tactic| (refine Clo.mk ?_; conv => whnf))
local macro_rules | `(tactic| walk_at "ix") => `(tactic| (refine ⟨_, rfl, ?_⟩; conv => whnf))
variable {P : Program} {w : World} {K : PySem.W.Frag} {mg : Str → Option Value} {base : Heap}


def eParts (cs ts : List Int) (ks : List (Int × List Int)) (pt : List (List (Int × Int))) : Dv := .tup [tiv cs, tiv ts, eKs ks, ePat pt]
def sp__law_machine (T : Txt K mg base) : Sq := fun ws G Q _ => ∃ (cs ts : List Int) (ks : List (Int × List Int)) (pt : List (List (Int × Int))), ws = [eParts cs ts ks pt] ∧ Tb T G ∧ Mach cs ts ks pt ∧ ∀ x, G x = none → Q (.ref x) (put G x (.ins T.C_Machine (machF cs ts ks pt)))
theorem ok__law_machine (T : Txt K mg base) : Fn P w K mg base CX0 11 T.f__law_machine T.d__law_machine ["parts"] (sp__law_machine T) := by
  refine fn_okA T.F__law_machine sc__law_machine (fun ws G Q E h => ?_) (fun cdv A outer s H E hr =>
    (ss_one (s_ret (e_make T.mk_Machine (ok_Machine___init__ T) (hr.mono (by decide)) (by rfl) T.g_Machine T.b_Machine___init__ .nil (fun _ => .nil) pass0 (a_cons (e_ix ix_any (v_ 0) e_int) (a_cons (e_ix ix_any (v_ 0) e_int) (a_cons (e_ix ix_any (v_ 0) e_int) (a_cons (e_ix ix_any (v_ 0) e_int) a_nil))))))))
    fun ws G Q E mQ mE h => ?_
  · obtain ⟨cs, ts, ks, pt, rfl, _⟩ := h; rfl
  · obtain ⟨cs, ts, ks, pt, rfl, hT, hM, h⟩ := h
    walk_at "go"
    walk_at "ix"
    walk_at "ix"
    walk_at "ix"
    walk_at "ix"
    intro x nx
    refine ⟨x, cs, ts, ks, pt, _, rfl, .inr rfl, hT.le (Le.refl.put nx), hM, put_same, .mk ⟨rfl, ?_⟩⟩
    rw [put_put]
    exact h x nx
/-! ### the law's sales: a pruned search -/
def prune (due m : Int) (pr : List Int) : Nat → List (List Int)
  | 0 => [[]]
  | n + 1 => (prune due m pr n).flatMap fun l => (ext m l).filter fun l' => decide (worth (pr.take (n + 1)) l' ≤ due)
theorem prune_in {due m : Int} {pr : List Int} : ∀ {n : Nat} {l : List Int}, l ∈ prune due m pr n → l ∈ lots m n
  | 0, l, h => h
  | n + 1, l, h => by
    obtain ⟨l0, h1, h2⟩ := List.mem_flatMap.mp h
    exact List.mem_flatMap.mpr ⟨l0, prune_in h1, (List.mem_filter.mp h2).1⟩
theorem prune_len {due m : Int} {pr : List Int} (h0 : 0 ≤ m) : ∀ n : Nat, ((prune due m pr n).length : Int) ≤ (m + 1) ^ n
  | 0 => by simp [prune]
  | n + 1 => by
    have h1 := prune_len (due := due) (pr := pr) h0 n
    have h2 : (prune due m pr (n + 1)).length ≤ (prune due m pr n).length * (m + 1).toNat := flat_len fun l hl => by
      obtain ⟨_, b, _, _⟩ := lots_in (prune_in hl) h0
      have : ((ext m l).filter fun l' => decide (worth (pr.take (n + 1)) l' ≤ due)).length ≤ (ext m l).length := List.length_filter_le _ _
      have e : (ext m l).length = (m - l.sum + 1).toNat := by unfold ext; rw [List.length_map, List.length_range]
      omega
    have h3 : ((prune due m pr (n + 1)).length : Int) ≤ (prune due m pr n).length * (m + 1) := by
      have : ((m + 1).toNat : Int) = m + 1 := by omega
      rw [← this]
      exact_mod_cast h2
    calc ((prune due m pr (n + 1)).length : Int) ≤ (prune due m pr n).length * (m + 1) := h3
      _ ≤ (m + 1) ^ n * (m + 1) := Int.mul_le_mul_of_nonneg_right h1 (by omega)
      _ = (m + 1) ^ (n + 1) := by rw [Int.pow_succ]
theorem worth_next {pr l : List Int} {p v : Int} (hl : l.length = pr.length) : worth (pr ++ [p]) (l ++ [v]) = worth pr l + p * v := by
  unfold worth
  rw [List.zip_append hl.symm, List.map_append, List.sum_append]
  simp
theorem prune_filter {due m : Int} {pr : List Int} (h0 : 0 ≤ m) (hp : ∀ p ∈ pr, 0 ≤ p) : ∀ n, n ≤ pr.length → (prune due m pr n).filter (fun l => decide (worth (pr.take n) l ≤ due)) = (lots m n).filter (fun l => decide (worth (pr.take n) l ≤ due))
  | 0, _ => rfl
  | n + 1, hn => by
    have ih := prune_filter (due := due) h0 hp n (by omega)
    have e1 : (prune due m pr (n + 1)).filter (fun l => decide (worth (pr.take (n + 1)) l ≤ due)) = (prune due m pr n).flatMap fun l => (ext m l).filter fun l' => decide (worth (pr.take (n + 1)) l' ≤ due) := by
      show ((prune due m pr n).flatMap _).filter _ = _
      rw [List.filter_flatMap]
      congr 1
      funext l
      rw [List.filter_filter]
      congr 1
      funext l'
      simp
    have e2 : (lots m (n + 1)).filter (fun l => decide (worth (pr.take (n + 1)) l ≤ due)) = (lots m n).flatMap fun l => (ext m l).filter fun l' => decide (worth (pr.take (n + 1)) l' ≤ due) := by
      show ((lots m n).flatMap _).filter _ = _
      rw [List.filter_flatMap]
    rw [e1, e2]
    have key : ∀ xs : List (List Int), (∀ l ∈ xs, l ∈ lots m n) → (xs.flatMap fun l => (ext m l).filter fun l' => decide (worth (pr.take (n + 1)) l' ≤ due)) = ((xs.filter fun l => decide (worth (pr.take n) l ≤ due)).flatMap fun l => (ext m l).filter fun l' => decide (worth (pr.take (n + 1)) l' ≤ due)) := by
      intro xs
      induction xs with
      | nil => intro _; rfl
      | cons x xs ih2 =>
        intro hx
        rw [List.flatMap_cons, ih2 fun l hl => hx l (by simp [hl]), List.filter_cons]
        cases hd : decide (worth (pr.take n) x ≤ due) with
        | true => simp
        | false =>
          have hd := of_decide_eq_false hd
          have z : (ext m x).filter (fun l' => decide (worth (pr.take (n + 1)) l' ≤ due)) = [] := by
            rw [List.filter_eq_nil_iff]
            intro l' hl'
            obtain ⟨i, _, rfl⟩ := List.mem_map.mp hl'
            have xl := (lots_in (hx x (by simp)) h0).1
            obtain ⟨p, hpn⟩ : ∃ p, pr[n]? = some p := ⟨_, List.getElem?_eq_getElem (by omega)⟩
            rw [List.take_add_one, hpn]
            show ¬ (decide (worth (pr.take n ++ [p]) (x ++ [(i : Int)]) ≤ due) = true)
            rw [worth_next (by rw [xl, List.length_take]; omega)]
            have hp0 := hp p (mapm hpn)
            have : 0 ≤ p * (i : Int) := Int.mul_nonneg hp0 (by omega)
            simp only [decide_eq_true_eq]
            omega
          rw [z]; simp
    rw [key _ fun l hl => prune_in hl, key (lots m n) fun l hl => hl, ih]
/-- what the search ends with -/
theorem prune_end {due m : Int} {pr : List Int} (h0 : 0 ≤ m) (hp : ∀ p ∈ pr, 0 ≤ p) : (prune due m pr pr.length).filter (fun l => decide (worth pr l = due)) = (lots m pr.length).filter (fun l => decide (worth pr l = due)) := by
  have z := prune_filter (due := due) h0 hp pr.length (Nat.le_refl _)
  rw [List.take_length] at z
  have f : ∀ xs : List (List Int), xs.filter (fun l => decide (worth pr l = due)) = (xs.filter fun l => decide (worth pr l ≤ due)).filter (fun l => decide (worth pr l = due)) := fun xs => by
    rw [List.filter_filter]
    congr 1
    funext l
    by_cases h : worth pr l = due
    · simp [h]
    · simp [h]
  rw [f, z, ← f]
end L3
namespace L3
open PySem PySem.Spec PyProof.Rows L2
local macro_rules | `(tactic| walk_at "go") => `(tactic| conv => whnf)
local macro_rules | `(tactic| walk_at "le") => `(tactic| (intro a o e; simp only [put] at e ⊢; grind))
local macro_rules | `(tactic| walk_at "at") => `(tactic| (simp only [put]; grind))
local macro_rules | `(tactic| walk_at "clo") => `(tactic| (refine Clo.mk ?_; conv => whnf))
local macro_rules | `(tactic| walk_at "ix") => `(tactic| (refine ⟨_, rfl, ?_⟩; conv => whnf))
variable {P : Program} {w : World} {K : PySem.W.Frag} {mg : Str → Option Value} {base : Heap}



/-- an entry of the search: a lot, its sum, its worth -/
def eS (pr : List Int) (l : List Int) : Dv := .tup [tiv l, .int l.sum, .int (worth pr l)]
def sp__law_sales : Sq := fun ws G Q _ => ∃ (cs ts : List Int) (ks : List (Int × List Int)) (pt : List (List (Int × Int))) (st ns : List Int) (m : Int), ws = [eParts cs ts ks pt, tiv st, tiv ns, .int m] ∧ Small cs ∧ 0 ≤ m ∧ m ≤ 12 ∧ (m + 1) ^ ks.length ≤ 200000 ∧ ks.length ≤ 6 ∧ (∀ k ∈ ks, 0 ≤ k.1 ∧ k.1 ≤ 200) ∧
  Q (.tup ((salesOf cs ks st ns m).map tiv)) G
theorem ok__law_sales (T : Txt K mg base) : Fn P w K mg base CX0 2 T.f__law_sales T.d__law_sales ["parts", "stock", "count", "most"] (sp__law_sales) := by
  refine fn_okA T.F__law_sales sc__law_sales (fun ws G Q E h => ?_) (fun cdv A outer s H E hr =>
    (ss_cons (s_set (i := 4) sc__law_sales.nd (e_op or_sub (e_call (ok__law_worth T) (hr.mono (by decide)) (by rfl) T.g__law_worth T.F__law_worth.kp T.b__law_worth .nil (fun _ => .nil) pass0 (a_cons (e_ix ix_any (v_ 0) e_int) (a_cons (v_ 2) a_nil))) (e_call (ok__law_worth T) (hr.mono (by decide)) (by rfl) T.g__law_worth T.F__law_worth.kp T.b__law_worth .nil (fun _ => .nil) pass0 (a_cons (e_ix ix_any (v_ 0) e_int) (a_cons (v_ 1) a_nil)))))
    (ss_cons (s_set (i := 5) sc__law_sales.nd (e_lst (a_cons (e_tup (a_cons (e_tup a_nil) (a_cons e_int (a_cons e_int a_nil)))) a_nil)))
    (ss_cons (s_for PassesOwn.never rfl (i_seq (e_ix ix_any (v_ 0) e_int)) (g_tup (n := 2) rfl (gs_cons (g_name (i := 6) sc__law_sales.nd) (gs_cons (g_name (i := 7) sc__law_sales.nd) gs_nil))) (ss_cons (s_set (i := 8) sc__law_sales.nd (e_lst a_nil))
    (ss_cons (s_for PassesOwn.never rfl (i_seq (v_ 5)) (g_tup (n := 3) rfl (gs_cons (g_name (i := 9) sc__law_sales.nd) (gs_cons (g_name (i := 10) sc__law_sales.nd) (gs_cons (g_name (i := 11) sc__law_sales.nd) gs_nil)))) (ss_one (s_for PassesOwn.never rfl (i_range1 (by rfl) T.z_range (a_cons (e_op or_add (e_op or_sub (v_ 3) (v_ 10)) e_int) a_nil)) (g_name (i := 12) sc__law_sales.nd) (ss_one (s_if (t_cmp or_le (e_op or_add (v_ 11) (e_op or_mulN (v_ 12) (v_ 6))) (v_ 4) (nomark _)) (ss_one (s_expr (e_mth PySem.F.slot_list_append PySem.F.type_list_append mr_app (v_ 8) (a_cons (e_tup (a_cons (e_op or_add (v_ 9) (e_tup (a_cons (v_ 12) a_nil))) (a_cons (e_op or_add (v_ 10) (v_ 12)) (a_cons (e_op or_add (v_ 11) (e_op or_mulN (v_ 12) (v_ 6))) a_nil)))) a_nil)))) ss_nil)))))
    (ss_one (s_set (i := 5) sc__law_sales.nd (v_ 8))))))
    (ss_one (s_ret (e_callTy cr_tuple (by rfl) T.z_tuple (by decide +kernel) (a_cons (e_lc rfl sc__law_sales.nd (i_seq (v_ 5)) (m := (.many (.cons (.one 9) (.cons (.one 10) (.cons (.one 11) .nil))))) (blkOk_by (own := [("some", 9), ("many", 10), ("whole", 11)]) (N := ["parts", "stock", "count", "most", "due", "found", "price", "paid", "longer", "some", "many", "whole", "own"]) (sc := defScope s__law_sales) (by decide +kernel)) (by decide) (fun _ _ _ _ _ => (pg_tup (n := 3) rfl (pgs_cons (pg_name (i := 9) sc__law_sales.nd rfl (Or.inl rfl)) (pgs_cons (pg_name (i := 10) sc__law_sales.nd rfl (Or.inl rfl)) (pgs_cons (pg_name (i := 11) sc__law_sales.nd rfl (Or.inl rfl)) pgs_nil))))) (fun _ _ _ _ _ => (ts_one (t_cmp (or_eq hr.units) (v_ 11) (v_ 4) (nomark _)))) (fun _ _ _ _ _ => (v_ 9))) a_nil))))))))
    fun ws G Q E mQ mE h => ?_
  · obtain ⟨cs, ts, ks, pt, st, ns, m, rfl, _⟩ := h; rfl
  · obtain ⟨cs, ts, ks, pt, st, ns, m, rfl, hS, h0, h1, h2, h3, hk, h⟩ := h
    generalize hpr : ks.map (·.1) = pr
    have hprl : pr.length = ks.length := by rw [← hpr, List.length_map]
    have hpr0 : ∀ p ∈ pr, 0 ≤ p ∧ p ≤ 200 := fun p hp => by
      rw [← hpr] at hp
      obtain ⟨k, hk2, rfl⟩ := List.mem_map.mp hp
      exact hk k hk2
    walk_at "go"
    walk_at "ix"
    refine ⟨cs, ns, rfl, hS, ?_⟩
    walk_at "clo"
    walk_at "ix"
    refine ⟨cs, st, rfl, hS, ?_⟩
    walk_at "clo"
    intro p0 np0
    walk_at "go"
    walk_at "ix"
    generalize hdue : worth cs ns - worth cs st = due
    refine ⟨fun i τ G' => ∃ a b c d e f g q, τ = [some (eParts cs ts ks pt), some (tiv st), some (tiv ns), some (.int m), some (.int due), some (.ref q), a, b, c, d, e, f, g] ∧ G q = none ∧ G' = put G q (.lst ((prune due m pr i).map (eS (pr.take i)))),
      ⟨_, _, LeS.refl, Le.refl, _, _, _, _, _, _, _, p0, by simp only [← hdue]; rfl, np0, rfl⟩, fun i τ G' _ _ => True.intro, fun i w τ G' hw ⟨a, b, c, d, e, f, g, q, e1, nq, e2⟩ => ?_, fun τ G' ⟨a, b, c, d, e, f, g, q, e1, nq, e2⟩ => ?_⟩
    · subst e1; subst e2
      rw [List.getElem?_map] at hw
      cases ek : ks[i]? with
      | none => rw [ek] at hw; cases hw
      | some k =>
        rw [ek] at hw; cases hw
        have hi : i < ks.length := (List.getElem?_eq_some_iff.mp ek).1
        have ep : pr[i]? = some k.1 := by rw [← hpr, List.getElem?_map, ek]; rfl
        have et : pr.take (i + 1) = pr.take i ++ [k.1] := by rw [List.take_add_one, ep]; rfl
        have kb := hk k (mapm ek)
        have total : (prune due m pr (i + 1)).length ≤ 200000 := by
          have z1 := prune_len (due := due) (pr := pr) h0 (i + 1)
          have z2 := pow_up h0 (show i + 1 ≤ ks.length by omega)
          omega
        walk_at "go"
        intro q2 nq2
        have f2 : G q2 = none ∧ q2 ≠ q := by simp only [put] at nq2; grind
        walk_at "go"
        refine ⟨_, .inl ⟨put_ne (Ne.symm f2.2) |>.trans put_same, ?_⟩⟩
        walk_at "go"
        refine ⟨fun j τ G' => ∃ a b c d, τ = [some (eParts cs ts ks pt), some (tiv st), some (tiv ns), some (.int m), some (.int due), some (.ref q), some (.int k.1), some (tiv k.2), some (.ref q2), a, b, c, d] ∧
            G' = put (put G q (.lst ((prune due m pr i).map (eS (pr.take i))))) q2 (.lst ((((prune due m pr i).take j).flatMap fun l => (ext m l).filter fun l' => decide (worth (pr.take (i + 1)) l' ≤ due)).map (eS (pr.take (i + 1))))),
          ⟨_, _, LeS.refl, Le.refl, _, _, _, _, rfl, rfl⟩, fun j τ G' _ ⟨a, b, c, d, e1, e2⟩ => ?_, fun j w τ G' hw ⟨a, b, c, d, e1, e2⟩ => ?_, fun τ G' ⟨a, b, c, d, e1, e2⟩ => ?_⟩
        · subst e2
          exact put_ne (Ne.symm f2.2) |>.trans put_same
        · subst e1; subst e2
          rw [List.getElem?_map] at hw
          cases ex : (prune due m pr i)[j]? with
          | none => rw [ex] at hw; cases hw
          | some x =>
            rw [ex] at hw; cases hw
            obtain ⟨x1, x2, x3, x4⟩ := lots_in (prune_in (mapm ex)) h0
            generalize hst : (fun l => (ext m l).filter fun l' => decide (worth (pr.take (i + 1)) l' ≤ due)) = stp at *
            have hA : ((prune due m pr i).take (j + 1)).flatMap stp = ((prune due m pr i).take j).flatMap stp ++ stp x := by
              rw [List.take_add_one, ex, List.flatMap_append]; simp
            generalize hacc : ((prune due m pr i).take j).flatMap stp = acc at *
            have hb : acc.length ≤ 200000 := by
              have z : ((prune due m pr i).flatMap stp).length = (((prune due m pr i).take j).flatMap stp).length + (((prune due m pr i).drop j).flatMap stp).length := by
                rw [← List.length_append, ← List.flatMap_append, List.take_append_drop]
              have z3 : (prune due m pr (i + 1)).length = ((prune due m pr i).flatMap stp).length := by rw [← hst]; rfl
              rw [hacc] at z
              omega
            walk_at "go"
            refine ⟨⟨by omega, by omega⟩, ?_⟩
            walk_at "go"
            refine ⟨fun n τ G' => ∃ d, τ = [some (eParts cs ts ks pt), some (tiv st), some (tiv ns), some (.int m), some (.int due), some (.ref q), some (.int k.1), some (tiv k.2), some (.ref q2), some (tiv x), some (.int x.sum), some (.int (worth (pr.take i) x)), d] ∧
                G' = put (put G q (.lst ((prune due m pr i).map (eS (pr.take i))))) q2 (.lst ((acc ++ ((List.range n).map fun (v : Nat) => x ++ [(v : Int)]).filter fun l' => decide (worth (pr.take (i + 1)) l' ≤ due)).map (eS (pr.take (i + 1))))),
              ⟨_, _, LeS.refl, Le.refl, _, rfl, by simp⟩, fun n τ G' _ _ => True.intro, fun n w τ G' hw ⟨d, e1, e2⟩ => ?_, fun τ G' ⟨d, e1, e2⟩ => ?_⟩
            · subst e1; subst e2
              have hn : n < (m - x.sum + 1).toNat := by
                have := (List.getElem?_eq_some_iff.mp hw).1
                rwa [rng_length] at this
              rw [rng_get hn] at hw
              cases hw
              have ew : worth (pr.take (i + 1)) (x ++ [(n : Int)]) = worth (pr.take i) x + (0 + (n : Int)) * k.1 := by
                rw [et, worth_next (by rw [x1, List.length_take]; omega), Int.zero_add, Int.mul_comm]
              walk_at "go"
              refine ⟨.inr ⟨by omega, by omega⟩, ?_⟩
              walk_at "go"
              dsimp only
              rw [← ew]
              generalize hF : ((List.range n).map fun (v : Nat) => x ++ [(v : Int)]).filter (fun l' => decide (worth (pr.take (i + 1)) l' ≤ due)) = F
              have hFl : F.length ≤ n := by
                rw [← hF]
                exact Nat.le_trans (List.length_filter_le _ _) (by rw [List.length_map, List.length_range]; exact Nat.le_refl _)
              have hF2 : ((List.range (n + 1)).map fun (v : Nat) => x ++ [(v : Int)]).filter (fun l' => decide (worth (pr.take (i + 1)) l' ≤ due)) = F ++ if decide (worth (pr.take (i + 1)) (x ++ [(n : Int)]) ≤ due) = true then [x ++ [(n : Int)]] else [] := by
                rw [List.range_succ, List.map_append, List.filter_append, hF]
                congr 1
                rw [List.map_singleton, List.filter_cons]; rfl
              cases hd : decide (worth (pr.take (i + 1)) (x ++ [(n : Int)]) ≤ due) with
              | false =>
                rw [hd, if_neg Bool.false_ne_true, List.append_nil] at hF2
                walk_at "go"
                exact ⟨_, _, LeS.refl, Le.refl, _, rfl, by rw [hF2]⟩
              | true =>
                rw [hd, if_pos rfl] at hF2
                walk_at "go"
                refine ⟨⟨_, put_same⟩, ?_⟩
                walk_at "go"
                refine ⟨by rw [List.length_map, x1, sizeLine_eq]; show i + 1 ≤ _; omega, ?_⟩
                walk_at "go"
                refine ⟨.inr ⟨by omega, by omega⟩, ?_⟩
                walk_at "go"
                refine ⟨_, put_same, by rw [List.length_map, List.length_append, sizeLine_eq]; omega, ?_⟩
                rw [put_put]
                walk_at "go"
                refine ⟨_, _, LeS.refl, Le.refl, _, rfl, ?_⟩
                rw [hF2, ← List.append_assoc, List.map_append (l₂ := [x ++ [(n : Int)]]), List.map_singleton]
                have ee : eS (pr.take (i + 1)) (x ++ [(n : Int)]) = .tup [.tup (ivs x ++ [.int (0 + (n : Int))]), .int (x.sum + (0 + (n : Int))), .int (worth (pr.take i) x + (0 + (n : Int)) * k.1)] := by
                  unfold eS
                  have e3 : tiv (x ++ [(n : Int)]) = Dv.tup (ivs x ++ [Dv.int n]) := congrArg Dv.tup (ivs_app x [(n : Int)])
                  have e4 : (x ++ [(n : Int)]).sum = x.sum + n := by simp
                  rw [ew, Int.zero_add, e3, e4]
                rw [ee]
            · subst e1; subst e2
              rw [rng_length]
              refine ⟨_, _, LeS.refl, Le.refl, _, _, _, _, rfl, ?_⟩
              rw [hA, ← hst]
              rfl
        · subst e1; subst e2
          rw [List.length_map, List.take_length]
          walk_at "go"
          refine ⟨_, put G q2 (.lst ((prune due m pr (i + 1)).map (eS (pr.take (i + 1))))), LeS.refl, ?_, _, _, _, _, _, _, _, q2, rfl, f2.1, rfl⟩
          show Le _ (put (put G q _) q2 (.lst ((prune due m pr (i + 1)).map (eS (pr.take (i + 1))))))
          exact Le.put2 (Le.refl.put nq)
    · subst e1; subst e2
      rw [List.length_map, show pr.take ks.length = pr by rw [← hprl, List.take_length]]
      walk_at "go"
      refine ⟨_, .inl ⟨put_same, ?_⟩⟩
      walk_at "go"
      refine lc_pureL (prune due m pr ks.length) (eS pr) (fun l => if decide (worth pr l = due) = true then some (tiv l) else none) rfl ?_ put_same (fun i l D acc P hq nD hP => ?_) fun p np => ?_
      · have z1 := prune_len (due := due) (pr := pr) h0 ks.length
        rw [sizeLine_eq]; omega
      · walk_at "go"
        cases hd : decide (worth pr l = due) with
        | true =>
          rw [hd, if_pos rfl] at hP
          walk_at "go"
          exact ⟨_, nD, Le.refl, hP⟩
        | false =>
          rw [hd, if_neg Bool.false_ne_true] at hP
          walk_at "go"
          exact ⟨_, nD, Le.refl, by simpa using hP⟩
      · walk_at "go"
        refine ⟨_, put_same, ?_⟩
        have eq : (prune due m pr ks.length).filter (fun l => decide (worth pr l = due)) = salesOf cs ks st ns m := by
          have z := prune_end (due := due) h0 fun p hp => (hpr0 p hp).1
          rw [hprl] at z
          rw [z]; unfold salesOf; rw [hpr, hdue]
        rw [filter_fm, eq]
        exact mQ _ _ _ ((Le.refl.put nq).put (put_none.mp np).2) h
end L3
namespace L3
open PySem PySem.Spec PyProof.Rows L2
local macro_rules | `(tactic| walk_at "go") => `(tactic| conv => whnf)
local macro_rules | `(tactic| walk_at "le") => `(tactic| (intro a o e; simp only [put] at e ⊢; grind))
local macro_rules | `(tactic| walk_at "at") => `(tactic| (simp only [put]; grind))
local macro_rules | `(tactic| walk_at "clo") => `(tactic| (refine Clo.mk ?_; conv => whnf))
local macro_rules | `(tactic| walk_at "ix") => `(tactic| (refine ⟨_, rfl, ?_⟩; conv => whnf))
variable {P : Program} {w : World} {K : PySem.W.Frag} {mg : Str → Option Value} {base : Heap}



def sp__law_bag : Sq := fun ws G Q _ => ∃ (s : Addr) (ns : List Int) (n : Nat), ws = [.ref s, .int n] ∧ (G s = some (.lst (ivs ns)) ∨ G s = some (.rol (ivs ns))) ∧ ns.length ≤ 63 ∧ n ≤ 63 ∧ ∀ (b : Addr) (v : List Dv), IsBag v → G b = none → Q (.ref b) (put G b (.lst v))
theorem ok__law_bag (T : Txt K mg base) : Fn P w K mg base CX0 1 T.f__law_bag T.d__law_bag ["script", "lap"] (sp__law_bag) := by
  refine fn_okA T.F__law_bag sc__law_bag (fun ws G Q E h => ?_) (fun cdv A outer s H E hr =>
    (ss_cons (s_set (i := 2) sc__law_bag.nd (e_op or_add e_int (e_op or_mulN e_int (v_ 1))))
    (ss_cons (s_for PassesOwn.never rfl (i_seq (e_slice sl_any (v_ 0) o_none (o_some e_int))) (g_name (i := 3) sc__law_bag.nd) (ss_one (s_set (i := 2) sc__law_bag.nd (e_op or_mod (e_callTy cr_int (by rfl) T.z_int (by decide +kernel) (a_cons (e_op or_add (e_op or_add (e_op or_mulN (v_ 2) e_int) (e_op or_mod (e_callTy cr_int (by rfl) T.z_int (by decide +kernel) (a_cons (v_ 3) a_nil)) e_int)) e_int) a_nil)) e_int))))
    (ss_cons (s_set (i := 4) sc__law_bag.nd (e_if (t_cmp or_lt (v_ 1) (e_callB cr_len (by rfl) T.z_len (by decide +kernel) (a_cons (v_ 0) a_nil)) (nomark _)) (e_callTy cr_int (by rfl) T.z_int (by decide +kernel) (a_cons (e_ix ix_any (v_ 0) (v_ 1)) a_nil)) e_int))
    (ss_cons (s_set (i := 2) sc__law_bag.nd (e_op or_mod (e_callTy cr_int (by rfl) T.z_int (by decide +kernel) (a_cons (e_op or_add (e_op or_add (e_op or_mulN (v_ 2) e_int) (e_op or_mulN (e_op or_mod (e_callTy cr_int (by rfl) T.z_int (by decide +kernel) (a_cons (v_ 4) a_nil)) e_int) e_int)) e_int) a_nil)) e_int))
    (ss_one (s_ret (e_lst (a_cons (e_if (Pw.toT (w_or (t_cmp or_lt (v_ 4) e_int (nomark _)) (w_or1 (t_cmp or_ge (v_ 4) (e_op or_pow e_int e_int) (nomark _))))) (e_callB cr_abs (by rfl) T.z_abs (by decide +kernel) (a_cons (v_ 4) a_nil)) e_int) (a_cons (v_ 2) (a_cons e_int a_nil)))))))))))
    fun ws G Q E mQ mE h => ?_
  · obtain ⟨b, v, n, rfl, _⟩ := h; rfl
  · obtain ⟨s, ns, n, rfl, hs, hl, hn, h⟩ := h
    walk_at "go"
    refine ⟨.inl ⟨by omega, by omega⟩, ?_⟩
    walk_at "go"
    refine ⟨_, hs, fun p np => ?_⟩
    have nsp : p ≠ s := by rintro rfl; rcases hs with z | z <;> rw [np] at z <;> cases z
    have hs2 : ∀ o, put G p o s = some (.lst (ivs ns)) ∨ put G p o s = some (.rol (ivs ns)) := fun o => by rw [put_ne (Ne.symm nsp)]; exact hs
    have hcut : ∀ w ∈ cut (ivs ns) none (some 16), ∃ i : Int, w = .int i := fun w hw => by
      have z : w ∈ ivs ns := List.mem_of_mem_drop (List.mem_of_mem_take hw)
      obtain ⟨i, _, rfl⟩ := List.mem_map.mp z
      exact ⟨i, rfl⟩
    generalize cut (ivs ns) none (some 16) = ct at *
    walk_at "go"
    refine ⟨_, .inl ⟨put_same, ?_⟩⟩
    walk_at "go"
    refine ⟨fun i τ G' => ∃ x a c, τ = [some (.ref s), some (.int n), some (.int x), a, c] ∧ G' = put G p (.lst ct), ⟨_, _, LeS.refl, Le.refl, _, _, _, rfl, rfl⟩, fun i τ G' _ ⟨x, a, c, e1, e2⟩ => by subst e2; exact put_same, fun i w τ G' hw ⟨x, a, c, e1, e2⟩ => ?_, fun τ G' ⟨x, a, c, e1, e2⟩ => ?_⟩
    · subst e1; subst e2
      obtain ⟨y, rfl⟩ := hcut w (mapm hw)
      walk_at "go"
      refine ⟨.inr ⟨by omega, by omega⟩, ?_⟩
      walk_at "go"
      refine ⟨by omega, ?_⟩
      walk_at "go"
      refine ⟨by omega, ?_⟩
      walk_at "go"
      exact ⟨_, _, LeS.refl, Le.refl, _, _, _, rfl, rfl⟩
    · subst e1; subst e2
      walk_at "go"
      refine ⟨_, hs2 _, ?_⟩
      walk_at "go"
      dsimp only
      cases hd : decide ((n : Int) < (ivs ns).length) with
      | true =>
        have hd := of_decide_eq_true hd
        rw [List.length_map] at hd
        have hn2 : n < ns.length := by omega
        walk_at "go"
        refine ⟨_, _, hs2 _, atI_ivs (atI_nat (List.getElem?_eq_getElem hn2)), ?_⟩
        generalize ns[n] = y
        walk_at "go"
        refine ⟨.inr ⟨by omega, by omega⟩, ?_⟩
        walk_at "go"
        refine ⟨by omega, ?_⟩
        walk_at "go"
        refine ⟨.inr ⟨by omega, by omega⟩, ?_⟩
        walk_at "go"
        refine ⟨by omega, ?_⟩
        walk_at "go"
        dsimp only
        cases hd2 : decide (y < 0) with
        | true =>
          walk_at "go"
          exact fun p2 np2 => mQ _ _ _ (Le.put2 (Le.refl.put np)) (h p2 _ ⟨_, _, _, rfl⟩ (put_none.mp np2).2)
        | false =>
          walk_at "go"
          refine ⟨⟨by omega, by omega, by decide⟩, ?_⟩
          walk_at "go"
          try dsimp only
          cases hd3 : decide (y ≥ 10 ^ (15 : Int).toNat) with
          | true =>
            walk_at "go"
            exact fun p2 np2 => mQ _ _ _ (Le.put2 (Le.refl.put np)) (h p2 _ ⟨_, _, _, rfl⟩ (put_none.mp np2).2)
          | false =>
            walk_at "go"
            exact fun p2 np2 => mQ _ _ _ (Le.put2 (Le.refl.put np)) (h p2 _ ⟨_, _, _, rfl⟩ (put_none.mp np2).2)
      | false =>
        walk_at "go"
        refine ⟨.inr ⟨by omega, by omega⟩, ?_⟩
        walk_at "go"
        refine ⟨by omega, ?_⟩
        walk_at "go"
        refine ⟨.inr ⟨by omega, by omega⟩, ?_⟩
        walk_at "go"
        refine ⟨by omega, ?_⟩
        walk_at "go"
        refine ⟨⟨by omega, by omega, by decide⟩, ?_⟩
        walk_at "go"
        exact fun p2 np2 => mQ _ _ _ (Le.put2 (Le.refl.put np)) (h p2 _ ⟨_, _, _, rfl⟩ (put_none.mp np2).2)
def sp__law_count : Sq := fun ws G Q _ => ∃ (b : Addr) (v : List Dv) (cs ts : List Int) (ks : List (Int × List Int)) (pt : List (List (Int × Int))) (st : List Int) (m : Int), ws = [.ref b, eParts cs ts ks pt, tiv st, .int m] ∧ G b = some (.lst v) ∧ IsBag v ∧ CoinsUp cs ∧ 1 ≤ cs.length ∧ cs.length ≤ 3 ∧ 0 ≤ worth cs st ∧
  0 ≤ m ∧ m ≤ 12 ∧ ks.length ≤ 6 ∧ (∀ k ∈ ks, 0 ≤ k.1 ∧ k.1 ≤ 200) ∧ ∀ (ns : List Int) (v' : List Dv), IsBag v' → ns.length = cs.length → (∀ n ∈ ns, 0 ≤ n ∧ n ≤ 99) → Q (tiv ns) (put G b (.lst v'))
theorem ok__law_count (T : Txt K mg base) : Fn P w K mg base CX0 2 T.f__law_count T.d__law_count ["bag", "parts", "stock", "most"] (sp__law_count) := by
  refine fn_okA T.F__law_count sc__law_count (fun ws G Q E h => ?_) (fun cdv A outer s H E hr =>
    (ss_cons (s_par (i := 4) (j := 5) rfl sc__law_count.nd (by decide) (a_cons (e_call (ok__law_worth T) (hr.mono (by decide)) (by rfl) T.g__law_worth T.F__law_worth.kp T.b__law_worth .nil (fun _ => .nil) pass0 (a_cons (e_ix ix_any (v_ 1) e_int) (a_cons (v_ 2) a_nil))) (a_cons (v_ 3) a_nil)) (by rfl))
    (ss_cons (s_for PassesOwn.never rfl (i_seq (e_ix ix_any (v_ 1) e_int)) (g_tup (n := 2) rfl (gs_cons (g_name (i := 6) sc__law_count.nd) (gs_cons (g_name (i := 7) sc__law_count.nd) gs_nil))) (ss_cons (s_set (i := 8) sc__law_count.nd (e_call (ok__law_take T) (hr.mono (by decide)) (by rfl) T.g__law_take T.F__law_take.kp T.b__law_take .nil (fun _ => .nil) pass0 (a_cons (v_ 0) (a_cons (e_op or_add (v_ 5) e_int) a_nil))))
    (ss_one (s_par (i := 4) (j := 5) rfl sc__law_count.nd (by decide) (a_cons (e_op or_add (v_ 4) (e_op or_mulN (v_ 8) (v_ 6))) (a_cons (e_op or_sub (v_ 5) (v_ 8)) a_nil)) (by rfl)))))
    (ss_cons (s_par (i := 9) (j := 10) rfl sc__law_count.nd (by decide) (a_cons (e_lst a_nil) (a_cons (v_ 4) a_nil)) (by rfl))
    (ss_cons (s_for PassesOwn.never rfl (i_seq (e_rev (e_ix ix_any (v_ 1) e_int))) (g_name (i := 11) sc__law_count.nd) (ss_cons (s_set (i := 8) sc__law_count.nd (e_callB (cr_minA rfl) (by rfl) T.z_min (by decide +kernel) (a_cons e_int (a_cons (e_op or_fdiv (v_ 10) (v_ 11)) a_nil))))
    (ss_cons (s_expr (e_mth PySem.F.slot_list_append PySem.F.type_list_append mr_app (v_ 9) (a_cons (v_ 8) a_nil)))
    (ss_one (s_set (i := 10) sc__law_count.nd (e_op or_sub (v_ 10) (e_op or_mulN (v_ 8) (v_ 11))))))))
    (ss_cons (s_set (i := 9) sc__law_count.nd (e_rev (v_ 9)))
    (ss_cons (s_if (t_cmp (or_eq hr.units) (e_call (ok__law_take T) (hr.mono (by decide)) (by rfl) T.g__law_take T.F__law_take.kp T.b__law_take .nil (fun _ => .nil) pass0 (a_cons (v_ 0) (a_cons e_int a_nil))) e_int (nomark _)) (ss_one (s_asg (e_callB (cr_minA rfl) (by rfl) T.z_min (by decide +kernel) (a_cons e_int (a_cons (e_op or_add (e_ix ix_any (v_ 9) e_int) (e_call (ok__law_take T) (hr.mono (by decide)) (by rfl) T.g__law_take T.F__law_take.kp T.b__law_take .nil (fun _ => .nil) pass0 (a_cons (v_ 0) (a_cons e_int a_nil)))) a_nil))) (g_sub (v_ 9) e_int st_any))) ss_nil)
    (ss_one (s_ret (e_callTy cr_tuple (by rfl) T.z_tuple (by decide +kernel) (a_cons (v_ 9) a_nil)))))))))))
    fun ws G Q E mQ mE h => ?_
  · obtain ⟨b, v, cs, ts, ks, pt, st, m, rfl, _⟩ := h; rfl
  · obtain ⟨b, v, cs, ts, ks, pt, st, m, rfl, hb, hv, cu, c1, c2, w0, m0, m1, kl, kp, h⟩ := h
    walk_at "go"
    walk_at "ix"
    refine ⟨cs, st, rfl, coins_small cu c2, ?_⟩
    walk_at "clo"
    walk_at "ix"
    refine ⟨fun i τ G' => ∃ wh lf a c d e f g v', τ = [some (.ref b), some (eParts cs ts ks pt), some (tiv st), some (.int m), some (.int wh), some (.int lf), a, c, d, e, f, g] ∧ IsBag v' ∧ 0 ≤ wh ∧ 0 ≤ lf ∧ lf ≤ m ∧ G' = put G b (.lst v'),
      ⟨_, _, LeS.refl, Le.refl, _, _, _, _, _, _, _, _, v, rfl, hv, w0, m0, Int.le_refl _, (put_eq hb).symm⟩, fun i τ G' _ _ => True.intro, fun i w τ G' hw ⟨wh, lf, a, c, d, e, f, g, v', e1, hv', w1, l0, l1, e2⟩ => ?_, fun τ G' ⟨wh, lf, a, c, d, e, f, g, v', e1, hv', w1, l0, l1, e2⟩ => ?_⟩
    · subst e1; subst e2
      obtain ⟨k, hk, rfl⟩ := List.mem_map.mp (mapm hw)
      have kb := kp k hk
      walk_at "go"
      refine ⟨b, _, v', rfl, put_same, hv', by omega, by omega, fun r v2 hv2 r0 r1 => ?_⟩
      walk_at "clo"
      refine ⟨.inr ⟨by omega, by omega⟩, ?_⟩
      walk_at "go"
      refine ⟨_, _, LeS.refl, Le.refl, _, _, _, _, _, _, _, _, v2, rfl, hv2, ?_, by omega, by omega, put_put⟩
      have := Int.mul_nonneg r0 kb.1
      omega
    · subst e1; subst e2
      walk_at "go"
      intro p np
      have fp : G p = none ∧ p ≠ b := by simp only [put] at np; grind
      walk_at "go"
      walk_at "ix"
      refine ⟨fun i τ G' => ∃ a c d re x ns, τ = [some (.ref b), some (eParts cs ts ks pt), some (tiv st), some (.int m), some (.int wh), some (.int lf), a, c, d, some (.ref p), some (.int re), x] ∧ 0 ≤ re ∧ ns.length = i ∧ (∀ n ∈ ns, 0 ≤ n ∧ n ≤ 99) ∧ G' = put (put G b (.lst v')) p (.lst (ivs ns)),
        ⟨_, _, LeS.refl, Le.refl, _, _, _, _, _, [], rfl, w1, rfl, by simp, rfl⟩, fun i τ G' _ _ => True.intro, fun i w τ G' hw ⟨a, c, d, re, x, ns, e1, r0, n0, n1, e2⟩ => ?_, fun τ G' ⟨a, c, d, re, x, ns, e1, r0, n0, n1, e2⟩ => ?_⟩
      · subst e1; subst e2
        obtain ⟨co, hco, rfl⟩ := List.mem_map.mp (List.mem_reverse.mp (mapm hw))
        have hi : i < 3 := by
          have := (List.getElem?_eq_some_iff.mp hw).1
          rw [List.length_reverse, List.length_map] at this
          omega
        obtain ⟨j, hj⟩ := List.mem_iff_getElem?.mp hco
        obtain ⟨q1, q2, _⟩ := cu j co hj
        walk_at "go"
        refine ⟨⟨by omega, by omega⟩, ?_⟩
        walk_at "go"
        refine ⟨⟨_, put_same⟩, ?_⟩
        walk_at "go"
        refine ⟨_, put_same, by rw [List.length_map, sizeLine_eq]; omega, ?_⟩
        rw [put_put]
        walk_at "go"
        refine ⟨.inr ⟨by omega, by omega⟩, ?_⟩
        walk_at "go"
        have d0 : 0 ≤ re / co := Int.ediv_nonneg r0 (by omega)
        have d1 : re / co * co ≤ re := Int.ediv_mul_le _ (by omega)
        have d2 : min 99 (re / co) * co ≤ re / co * co := Int.mul_le_mul_of_nonneg_right (by omega) (by omega)
        refine ⟨_, _, LeS.refl, Le.refl, _, _, _, _, _, ns ++ [min 99 (re / co)], rfl, by omega, by rw [List.length_append, n0]; rfl, fun n hn => ?_, by rw [ivs_app]; rfl⟩
        rcases List.mem_append.mp hn with z | z
        · exact n1 n z
        · have z : n = min 99 (re / co) := by simpa using z
          omega
      · subst e1; subst e2
        rw [List.length_reverse, List.length_map] at n0
        walk_at "go"
        refine ⟨_, put_same, fun p2 np2 => ?_⟩
        have f2 : G p2 = none ∧ p2 ≠ b ∧ p2 ≠ p := by simp only [put] at np2; grind
        rw [show (ivs ns).reverse = ivs ns.reverse from (List.map_reverse ..).symm]
        have hrl : ns.reverse.length = cs.length := by rw [List.length_reverse]; exact n0
        have hr1 : ∀ n ∈ ns.reverse, 0 ≤ n ∧ n ≤ 99 := fun n hn => n1 n (List.mem_reverse.mp hn)
        generalize ns.reverse = rv at *
        walk_at "go"
        refine ⟨b, 5, v', rfl, by walk_at "at", hv', by omega, by omega, fun r v2 hv2 r0 r1 => ?_⟩
        walk_at "clo"
        cases hd : decide (r = 0) with
        | false =>
          walk_at "go"
          refine ⟨_, by rw [put_ne f2.2.1, put_same], mQ _ _ _ ?_ (h rv v2 hv2 hrl hr1)⟩
          walk_at "le"
        | true =>
          cases rv with
          | nil => simp at hrl; omega
          | cons a0 rv =>
            walk_at "go"
            refine ⟨_, _, .inl (by rw [put_ne f2.2.1, put_same]), atI_ivs (atI_nat (xs := a0 :: rv) (j := 0) rfl), ?_⟩
            walk_at "go"
            refine ⟨b, 3, v2, rfl, by walk_at "at", hv2, by omega, by omega, fun r3 v3 hv3 s0 s1 => ?_⟩
            walk_at "clo"
            refine ⟨ivs (a0 :: rv), 0, by rw [put_ne f2.2.1, put_ne f2.2.1, put_same], by rw [List.length_map, List.length_cons]; unfold ixN; rw [if_pos (by decide), if_pos (by omega)]; rfl, ?_⟩
            walk_at "go"
            have z := hr1 a0 (by simp)
            refine ⟨_, put_same, mQ _ _ _ ?_ (h (min 99 (a0 + r3) :: rv) v3 hv3 (by simpa using hrl) fun n hn => ?_)⟩
            · walk_at "le"
            · rcases List.mem_cons.mp hn with z2 | z2
              · omega
              · exact hr1 n (by simp [z2])
end L3
namespace L3
open PySem PySem.Spec PyProof.Rows L2
local macro_rules | `(tactic| walk_at "go") => `(tactic| conv => whnf)
local macro_rules | `(tactic| walk_at "le") => `(tactic| (intro a o e; simp only [put] at e ⊢; grind))
local macro_rules | `(tactic| walk_at "at") => `(tactic| (simp only [put]; grind))
local macro_rules | `(tactic| walk_at "clo") => `(tactic| (refine Clo.mk ?_; conv => whnf))
local macro_rules | `(tactic| walk_at "ix") => `(tactic| (refine ⟨_, rfl, ?_⟩; conv => whnf))
variable {P : Program} {w : World} {K : PySem.W.Frag} {mg : Str → Option Value} {base : Heap}



/-! ### strictly sorted lists -/
abbrev SS (xs : List (List Int)) : Prop := xs.Pairwise (· < ·)
theorem lt_app_same {a : List Int} {x y : Int} (h : x < y) : a ++ [x] < a ++ [y] := by
  induction a with
  | nil => exact List.cons_lt_cons_iff.mpr (.inl h)
  | cons z a ih => exact List.cons_lt_cons_iff.mpr (.inr ⟨rfl, ih⟩)
theorem lt_app {a b : List Int} (h : a < b) (hl : a.length = b.length) (x y : Int) : a ++ [x] < b ++ [y] := by
  induction a generalizing b with
  | nil =>
    cases b with
    | nil => exact absurd h (by simp)
    | cons _ _ => simp at hl
  | cons z a ih =>
    cases b with
    | nil => simp at hl
    | cons w b =>
      rcases List.cons_lt_cons_iff.mp h with h | ⟨h1, h2⟩
      · exact List.cons_lt_cons_iff.mpr (.inl h)
      · exact List.cons_lt_cons_iff.mpr (.inr ⟨h1, ih h2 (by simpa using hl)⟩)
theorem lots_ss {m : Int} (h0 : 0 ≤ m) : ∀ n, SS (lots m n)
  | 0 => by simp [lots]
  | n + 1 => by
    have ih := lots_ss h0 n
    show ((lots m n).flatMap (ext m)).Pairwise (· < ·)
    rw [List.pairwise_flatMap]
    refine ⟨fun l _ => ?_, ?_⟩
    · unfold ext
      rw [List.pairwise_map]
      refine List.Pairwise.imp (fun {a b} h => lt_app_same (by omega)) List.pairwise_lt_range
    · refine List.Pairwise.imp_of_mem (fun {a b} ha hb h => fun x hx y hy => ?_) ih
      obtain ⟨i, _, rfl⟩ := List.mem_map.mp hx
      obtain ⟨j, _, rfl⟩ := List.mem_map.mp hy
      exact lt_app h (by rw [(lots_in ha h0).1, (lots_in hb h0).1]) _ _
theorem lots_mem {m : Int} (h0 : 0 ≤ m) : ∀ {n : Nat} {l : List Int}, l ∈ lots m n ↔ l.length = n ∧ l.sum ≤ m ∧ ∀ v ∈ l, 0 ≤ v := fun {n l} => by
  constructor
  · intro h
    obtain ⟨a, _, b, c⟩ := lots_in h h0
    exact ⟨a, b, c⟩
  · induction n generalizing l with
    | zero =>
      rintro ⟨h1, _, _⟩
      have : l = [] := List.length_eq_zero_iff.mp h1
      subst this; simp [lots]
    | succ n ih =>
      rintro ⟨h1, h2, h3⟩
      have hne : l ≠ [] := fun z => by rw [z] at h1; simp at h1
      have e := List.dropLast_concat_getLast hne
      have hv := h3 _ (List.getLast_mem hne)
      generalize l.getLast hne = v at *
      generalize l.dropLast = d at *
      subst e
      rw [List.length_append] at h1
      have hs : (d ++ [v]).sum = d.sum + v := by simp
      refine List.mem_flatMap.mpr ⟨d, ih ⟨by simpa using h1, by omega, fun x hx => h3 x (by simp [hx])⟩, ?_⟩
      unfold ext
      exact List.mem_map.mpr ⟨v.toNat, List.mem_range.mpr (by omega), by rw [show ((v.toNat : Nat) : Int) = v by omega]⟩
theorem ss_irr {a : List Int} : ¬ a < a := List.lt_irrefl a
theorem ss_nodup {xs : List (List Int)} (h : SS xs) : xs.Nodup := List.Pairwise.imp (fun {a b} h e => by rw [e] at h; exact ss_irr h) h
theorem ss_ext : ∀ {xs ys : List (List Int)}, SS xs → SS ys → (∀ a, a ∈ xs ↔ a ∈ ys) → xs = ys
  | [], [], _, _, _ => rfl
  | [], y :: ys, _, _, h => absurd ((h y).mpr (by simp)) (by simp)
  | x :: xs, [], _, _, h => absurd ((h x).mp (by simp)) (by simp)
  | x :: xs, y :: ys, hx, hy, h => by
    obtain ⟨x1, x2⟩ := List.pairwise_cons.mp hx
    obtain ⟨y1, y2⟩ := List.pairwise_cons.mp hy
    have e : x = y := by
      rcases List.mem_cons.mp ((h x).mp (by simp)) with z | z
      · exact z
      · rcases List.mem_cons.mp ((h y).mpr (by simp)) with z2 | z2
        · exact z2.symm
        · exact absurd (List.lt_trans (y1 x z) (x1 y z2)) ss_irr
    subst e
    rw [ss_ext x2 y2 fun a => ?_]
    have := h a
    constructor
    · intro ha
      rcases List.mem_cons.mp (this.mp (by simp [ha])) with z | z
      · subst z; exact absurd (x1 a ha) ss_irr
      · exact z
    · intro ha
      rcases List.mem_cons.mp (this.mpr (by simp [ha])) with z | z
      · subst z; exact absurd (y1 a ha) ss_irr
      · exact z
/-! ### sorted tuples of ints -/
theorem py_tiv (l : List Int) : py (tiv l) = .tuple (l.map .int) := by
  show PyData.tuple (pys (ivs l)) = _
  rw [pys_map, List.map_map]; rfl
theorem le_tiv (a b : List Int) : PySem.W.dataLe false py (tiv a) (tiv b) = decide (a ≤ b) := by
  show (!PySem.W.dataLt (py (tiv b)) (py (tiv a))) = _
  rw [py_tiv, py_tiv, PySem.W.dataLt_tuple]
  show (!PySem.W.rowLt (b.map .int) (a.map .int)) = _
  rw [PySem.W.dataLt_ints]
  by_cases h : b < a
  · rw [decide_eq_true h, decide_eq_false (List.not_le.mpr h)]; rfl
  · rw [decide_eq_false h, decide_eq_true (List.not_lt.mp h)]; rfl
theorem sort_rows {xs ys : List (List Int)} (hy : SS ys) (hd : xs.Nodup) (hm : ∀ a, a ∈ xs ↔ a ∈ ys) : (xs.map tiv).mergeSort (PySem.W.dataLe false py) = ys.map tiv := by
  have e := List.map_mergeSort (r := fun a b : List Int => decide (a ≤ b)) (s := PySem.W.dataLe false py) (f := tiv) (l := xs) fun a _ b _ => (le_tiv a b).symm
  rw [← e]
  congr 1
  have hp := List.mergeSort_perm xs fun a b : List Int => decide (a ≤ b)
  have hs := List.pairwise_mergeSort (le := fun a b : List Int => decide (a ≤ b)) (fun a b c h1 h2 => by
    simp only [decide_eq_true_eq] at h1 h2 ⊢
    exact List.le_trans h1 h2) (fun a b => by
    simp only [Bool.or_eq_true, decide_eq_true_eq]
    exact List.le_total a b) xs
  refine ss_ext ?_ hy fun a => (hp.mem_iff).trans (hm a)
  have hn : (xs.mergeSort fun a b : List Int => decide (a ≤ b)).Nodup := hp.nodup_iff.mpr hd
  refine List.Pairwise.imp (fun {a b} h => ?_) (List.Pairwise.and hs hn)
  obtain ⟨h1, h2⟩ := h
  have h1 : a ≤ b := of_decide_eq_true h1
  rcases List.le_iff_lt_or_eq.mp h1 with z | z
  · exact z
  · exact absurd z h2
theorem all_tiv {xs : List (List Int)} {n : Nat} (hn : ∀ a ∈ xs, a.length = n + 1) : PySem.W.AllAlike ((xs.map tiv).map py) ∧ PySem.W.Sortable ((xs.map tiv).map py) := by
  have e : (xs.map tiv).map py = xs.map fun l => PyData.tuple (l.map .int) := by
    rw [List.map_map]
    exact List.map_congr_left fun l _ => py_tiv l
  rw [e]
  refine ⟨PySem.W.AllAlike.of fun a b => PySem.W.alike_ints a b, .inl fun d hd => ?_⟩
  obtain ⟨l, hl, rfl⟩ := List.mem_map.mp hd
  have := hn l hl
  cases l with
  | nil => simp at this
  | cons x r => exact ⟨_, _, rfl⟩
end L3
namespace L3
open PySem PySem.Spec PyProof.Rows L2
local macro_rules | `(tactic| walk_at "go") => `(tactic| conv => whnf)
local macro_rules | `(tactic| walk_at "le") => `(tactic| (intro a o e; simp only [put] at e ⊢; grind))
local macro_rules | `(tactic| walk_at "at") => `(tactic| (simp only [put]; grind))
local macro_rules | `(tactic| walk_at "clo") => `(tactic| (refine Clo.mk ?_; conv => whnf))
local macro_rules | `(tactic| walk_at "ix") => `(tactic| (refine ⟨_, rfl, ?_⟩; conv => whnf))
variable {P : Program} {w : World} {K : PySem.W.Frag} {mg : Str → Option Value} {base : Heap}



/-! ### kinds -/
theorem KindOk.to {cs : List Int} {k : Int × List Int} {a b : List (Int × List Int)} (h : KindOk cs k a) (n : k ∉ b) : KindOk cs k b := ⟨h.p0, h.p1, h.len, h.few, h.all, h.sm, h.pays, n⟩
theorem kindsOk_iff {cs : List Int} {ks : List (Int × List Int)} : KindsOk cs ks ↔ (∀ k ∈ ks, KindOk cs k []) ∧ ks.Nodup := by
  constructor
  · intro h
    refine ⟨fun k hk => ?_, ?_⟩
    · obtain ⟨i, hi⟩ := List.mem_iff_getElem?.mp hk
      exact (h i k hi).to (by simp)
    · refine List.pairwise_iff_getElem.mpr fun i j hi hj hij e => ?_
      refine (h j _ (List.getElem?_eq_getElem hj)).new ?_
      rw [← e]
      exact List.mem_take_iff_getElem.mpr ⟨i, by omega, rfl⟩
  · rintro ⟨h1, h2⟩ i k hk
    refine (h1 k (mapm hk)).to fun hin => ?_
    obtain ⟨j, hj, e⟩ := List.mem_take_iff_getElem.mp hin
    obtain ⟨hi, e2⟩ := List.getElem?_eq_some_iff.mp hk
    exact List.pairwise_iff_getElem.mp h2 j i (by omega) hi (by omega) (e.trans e2.symm)
theorem Mach.kp {cs ts : List Int} {ks : List (Int × List Int)} {pt : List (List (Int × Int))} (M : Mach cs ts ks pt) : ∀ k ∈ ks, 0 ≤ k.1 ∧ k.1 ≤ 200 := fun k hk => by
  have := (kindsOk_iff.mp M.kk).1 k hk
  exact ⟨this.p0, this.p1⟩
theorem Mach.of {cs ts : List Int} {ks ks' : List (Int × List Int)} {pt : List (List (Int × Int))} (M : Mach cs ts ks pt) (h1 : 1 ≤ ks'.length) (h2 : ks'.length ≤ 6) (hk : ∀ k ∈ ks', KindOk cs k []) (hn : ks'.Nodup) : Mach cs ts ks' (anyRow ks'.length) :=
  ⟨M.c1, M.c2, M.up, M.tl, M.tb, h1, h2, kindsOk_iff.mpr ⟨hk, hn⟩, Nat.le_refl 1, by show 1 ≤ 3; omega, any_ok h1 (by omega)⟩
theorem Mach.rev {cs ts : List Int} {ks : List (Int × List Int)} {pt : List (List (Int × Int))} (M : Mach cs ts ks pt) : Mach cs ts ks.reverse (anyRow ks.reverse.length) :=
  M.of (by rw [List.length_reverse]; exact M.k1) (by rw [List.length_reverse]; exact M.k2) (fun k hk => (kindsOk_iff.mp M.kk).1 k (List.mem_reverse.mp hk)) ((List.reverse_perm ks).nodup_iff.mpr (kindsOk_iff.mp M.kk).2)
/-! ### sales -/
theorem sales_mem {cs : List Int} {ks : List (Int × List Int)} {st ns : List Int} {m : Int} (h0 : 0 ≤ m) {l : List Int} : l ∈ salesOf cs ks st ns m ↔ l.length = ks.length ∧ l.sum ≤ m ∧ (∀ v ∈ l, 0 ≤ v) ∧ worth (ks.map (·.1)) l = worth cs ns - worth cs st := by
  unfold salesOf
  rw [List.mem_filter, lots_mem h0, decide_eq_true_eq]
  constructor
  · rintro ⟨⟨a, b, c⟩, d⟩; exact ⟨a, b, c, d⟩
  · rintro ⟨a, b, c, d⟩; exact ⟨⟨a, b, c⟩, d⟩
theorem sales_ss {cs : List Int} {ks : List (Int × List Int)} {st ns : List Int} {m : Int} (h0 : 0 ≤ m) : SS (salesOf cs ks st ns m) := List.Pairwise.filter _ (lots_ss h0 _)
theorem worth_cons {c p : Int} {cs ps : List Int} : worth (c :: cs) (p :: ps) = c * p + worth cs ps := by simp [worth]
theorem worth_rev : ∀ {a b : List Int}, a.length = b.length → worth a.reverse b.reverse = worth a b
  | [], [], _ => rfl
  | [], _ :: _, h => by simp at h
  | _ :: _, [], h => by simp at h
  | x :: a, y :: b, h => by
    have hl : a.length = b.length := by simpa using h
    rw [List.reverse_cons, List.reverse_cons, worth_next (by rw [List.length_reverse, List.length_reverse, hl]), worth_rev hl, worth_cons]
    omega
theorem sum_rev (l : List Int) : l.reverse.sum = l.sum := by
  induction l with
  | nil => rfl
  | cons x l ih => rw [List.reverse_cons, List.sum_append, ih, List.sum_cons]; simp; omega
section
variable {cs : List Int} {ks : List (Int × List Int)} {st ns : List Int} {m : Int}
theorem rev_mem (h0 : 0 ≤ m) {l : List Int} : l ∈ salesOf cs ks.reverse st ns m ↔ l.reverse ∈ salesOf cs ks st ns m := by
  rw [sales_mem h0, sales_mem h0, List.length_reverse, List.length_reverse, sum_rev, List.map_reverse]
  have key : l.length = ks.length → worth (ks.map (·.1)).reverse l = worth (ks.map (·.1)) l.reverse := fun hl => by
    have := worth_rev (a := ks.map (·.1)) (b := l.reverse) (by rw [List.length_map, List.length_reverse, hl])
    rw [List.reverse_reverse] at this
    exact this
  constructor
  · rintro ⟨a, b, c, d⟩
    exact ⟨a, b, fun v hv => c v (List.mem_reverse.mp hv), by rw [← key a]; exact d⟩
  · rintro ⟨a, b, c, d⟩
    exact ⟨a, b, fun v hv => c v (List.mem_reverse.mpr hv), by rw [key a]; exact d⟩
theorem sales_rev (h0 : 0 ≤ m) : (((salesOf cs ks st ns m).map List.reverse).map tiv).mergeSort (PySem.W.dataLe false py) = (salesOf cs ks.reverse st ns m).map tiv := by
  refine sort_rows (sales_ss h0) ?_ fun a => ?_
  · refine List.Pairwise.map _ (fun a b h e => h ?_) (ss_nodup (sales_ss (cs := cs) (ks := ks) (st := st) (ns := ns) h0))
    have := congrArg List.reverse e
    simpa using this
  · rw [rev_mem h0]
    constructor
    · intro h
      obtain ⟨b, hb, rfl⟩ := List.mem_map.mp h
      rw [List.reverse_reverse]; exact hb
    · intro h
      exact List.mem_map.mpr ⟨_, h, by rw [List.reverse_reverse]⟩
theorem span_ext {a b : List Int} (h : ∀ x, x ∈ a ↔ x ∈ b) : spanOf a = spanOf b := by
  cases a with
  | nil =>
    cases b with
    | nil => rfl
    | cons y b => exact absurd ((h y).mpr (by simp)) (by simp)
  | cons x a =>
    cases b with
    | nil => exact absurd ((h x).mp (by simp)) (by simp)
    | cons y b =>
      have e1 : minI (x :: a) = minI (y :: b) := Int.le_antisymm (minI_le ((h _).mpr (minI_mem (by simp)))) (minI_le ((h _).mp (minI_mem (by simp))))
      have e2 : maxI (x :: a) = maxI (y :: b) := Int.le_antisymm (le_maxI ((h _).mp (maxI_mem (by simp)))) (le_maxI ((h _).mpr (maxI_mem (by simp))))
      unfold spanOf
      simp only [e1, e2]
theorem getD_rev {l : List Int} {n k : Nat} (hl : l.length = n) (hk : k < n) : l.reverse.getD (n - 1 - k) 0 = l.getD k 0 := by
  rw [List.getD_eq_getElem?_getD, List.getD_eq_getElem?_getD, List.getElem?_reverse (by omega)]
  congr 2
  omega
theorem span_rev (h0 : 0 ≤ m) {k : Nat} (hk : k < ks.length) : spanOf ((salesOf cs ks st ns m).map fun l => l.getD k 0) = spanOf ((salesOf cs ks.reverse st ns m).map fun l => l.getD (ks.length - 1 - k) 0) := by
  refine span_ext fun x => ?_
  rw [List.mem_map, List.mem_map]
  constructor
  · rintro ⟨l, hl, rfl⟩
    refine ⟨l.reverse, (rev_mem h0).mpr (by rw [List.reverse_reverse]; exact hl), getD_rev ((sales_mem h0).mp hl).1 hk⟩
  · rintro ⟨l, hl, rfl⟩
    have z := (rev_mem h0).mp hl
    refine ⟨l.reverse, z, ?_⟩
    have := getD_rev ((sales_mem h0).mp z).1 hk
    rw [List.reverse_reverse] at this
    exact this.symm
/-! ### the last kind split in two -/
def lastI (l : List Int) : Int := l.getLast?.getD 0
def splits (s : List Int) : List (List Int) := (List.range (lastI s + 1).toNat).map fun (k : Nat) => s.dropLast ++ [lastI s - k, (k : Int)]
theorem last_form {l : List Int} (h : l ≠ []) : l = l.dropLast ++ [lastI l] := by
  have e := (List.dropLast_concat_getLast h).symm
  have e2 : lastI l = l.getLast h := by unfold lastI; rw [List.getLast?_eq_getLast h]; rfl
  rw [e2]; exact e
end
end L3
namespace L3
open PySem PySem.Spec PyProof.Rows L2
section
variable {cs : List Int} {ks ks' : List (Int × List Int)} {st ns : List Int} {m : Int}
theorem sales_congr (h : ks.map (·.1) = ks'.map (·.1)) : salesOf cs ks st ns m = salesOf cs ks' st ns m := by
  have hl : ks.length = ks'.length := by simpa using congrArg List.length h
  unfold salesOf
  rw [h, hl]
/-- without the k-th -/
def dropK {α : Type} (k : Nat) (l : List α) : List α := l.take k ++ l.drop (k + 1)
theorem dropK_0 {α : Type} (x : α) (l : List α) : dropK 0 (x :: l) = l := by simp [dropK]
theorem dropK_s {α : Type} (k : Nat) (x : α) (l : List α) : dropK (k + 1) (x :: l) = x :: dropK k l := by simp [dropK]
theorem dropK_map {α β : Type} (f : α → β) (k : Nat) (l : List α) : (dropK k l).map f = dropK k (l.map f) := by simp [dropK, List.map_take, List.map_drop]
theorem dropK_len {α : Type} {k : Nat} {l : List α} (h : k < l.length) : (dropK k l).length = l.length - 1 := by simp [dropK]; omega
theorem worth_dropK : ∀ {k : Nat} {pr l : List Int}, l.length = pr.length → k < l.length → l.getD k 0 = 0 → worth (dropK k pr) (dropK k l) = worth pr l
  | _, [], [], _, h, _ => by simp at h
  | _, [], _ :: _, h, _, _ => by simp at h
  | _, _ :: _, [], h, _, _ => by simp at h
  | 0, p :: pr, x :: l, _, _, h0 => by
    have h0 : x = 0 := by simpa using h0
    rw [dropK_0, dropK_0, worth_cons, h0]; omega
  | k + 1, p :: pr, x :: l, hl, hk, h0 => by
    rw [dropK_s, dropK_s, worth_cons, worth_cons, worth_dropK (by simpa using hl) (by simpa using hk) (by simpa using h0)]
theorem sum_dropK : ∀ {k : Nat} {l : List Int}, k < l.length → l.getD k 0 = 0 → (dropK k l).sum = l.sum
  | _, [], h, _ => by simp at h
  | 0, x :: l, _, h0 => by
    have h0 : x = 0 := by simpa using h0
    rw [dropK_0, List.sum_cons, h0]; omega
  | k + 1, x :: l, hk, h0 => by
    rw [dropK_s, List.sum_cons, List.sum_cons, sum_dropK (by simpa using hk) (by simpa using h0)]
/-- with 0 put in as the k-th -/
def insK (k : Nat) (l : List Int) : List Int := l.take k ++ 0 :: l.drop k
theorem insK_s (k : Nat) (x : Int) (l : List Int) : insK (k + 1) (x :: l) = x :: insK k l := by simp [insK]
theorem drop_ins : ∀ {k : Nat} {l : List Int}, k ≤ l.length → dropK k (insK k l) = l ∧ (insK k l).getD k 0 = 0 ∧ (insK k l).length = l.length + 1
  | 0, l, _ => by simp [insK, dropK]
  | k + 1, [], h => by simp at h
  | k + 1, x :: l, h => by
    obtain ⟨a, b, c⟩ := drop_ins (k := k) (l := l) (by simpa using h)
    rw [insK_s, dropK_s, a]
    exact ⟨rfl, by simpa using b, by simpa using c⟩
theorem mem_insK {k : Nat} {l : List Int} {v : Int} (h : v ∈ insK k l) : v = 0 ∨ v ∈ l := by
  rcases List.mem_append.mp h with z | z
  · exact .inr (List.mem_of_mem_take z)
  · rcases List.mem_cons.mp z with z | z
    · exact .inl z
    · exact .inr (List.mem_of_mem_drop z)
theorem mem_dropK {α : Type} {k : Nat} {l : List α} {v : α} (h : v ∈ dropK k l) : v ∈ l := by
  rcases List.mem_append.mp h with z | z
  · exact List.mem_of_mem_take z
  · exact List.mem_of_mem_drop z
theorem lt_dropK : ∀ {k : Nat} {a b : List Int}, a.length = b.length → k < a.length → a.getD k 0 = 0 → b.getD k 0 = 0 → a < b → dropK k a < dropK k b
  | _, [], _, _, h, _, _, _ => by simp at h
  | _, _ :: _, [], h, _, _, _, _ => by simp at h
  | 0, x :: a, y :: b, _, _, ha, hb, h => by
    have ha : x = 0 := by simpa using ha
    have hb : y = 0 := by simpa using hb
    rw [dropK_0, dropK_0]
    rcases List.cons_lt_cons_iff.mp h with z | ⟨_, z⟩
    · omega
    · exact z
  | k + 1, x :: a, y :: b, hl, hk, ha, hb, h => by
    rw [dropK_s, dropK_s]
    rcases List.cons_lt_cons_iff.mp h with z | ⟨z1, z2⟩
    · exact List.cons_lt_cons_iff.mpr (.inl z)
    · exact List.cons_lt_cons_iff.mpr (.inr ⟨z1, lt_dropK (by simpa using hl) (by simpa using hk) (by simpa using ha) (by simpa using hb) z2⟩)
theorem sales_dropK (h0 : 0 ≤ m) {k : Nat} (hk : k < ks.length) : salesOf cs (dropK k ks) st ns m = ((salesOf cs ks st ns m).filter fun l => decide (l.getD k 0 = 0)).map (dropK k) := by
  refine ss_ext (sales_ss h0) ?_ fun a => ?_
  · show (((salesOf cs ks st ns m).filter fun l => decide (l.getD k 0 = 0)).map (dropK k)).Pairwise (· < ·)
    rw [List.pairwise_map]
    refine List.Pairwise.imp_of_mem (fun {a b} ha hb h => ?_) (List.Pairwise.filter _ (sales_ss (cs := cs) (ks := ks) (st := st) (ns := ns) h0))
    obtain ⟨a1, a2⟩ := List.mem_filter.mp ha
    obtain ⟨b1, b2⟩ := List.mem_filter.mp hb
    have la := ((sales_mem h0).mp a1).1
    have lb := ((sales_mem h0).mp b1).1
    exact lt_dropK (by omega) (by omega) (by simpa using a2) (by simpa using b2) h
  · rw [sales_mem h0, dropK_len hk, dropK_map]
    constructor
    · rintro ⟨a1, a2, a3, a4⟩
      obtain ⟨b1, b2, b3⟩ := drop_ins (k := k) (l := a) (by omega)
      refine List.mem_map.mpr ⟨insK k a, List.mem_filter.mpr ⟨(sales_mem h0).mpr ⟨by omega, ?_, fun v hv => ?_, ?_⟩, by simpa using b2⟩, b1⟩
      · have := sum_dropK (k := k) (l := insK k a) (by omega) b2
        rw [b1] at this; omega
      · rcases mem_insK hv with z | z
        · omega
        · exact a3 v z
      · have := worth_dropK (k := k) (pr := ks.map (·.1)) (l := insK k a) (by rw [List.length_map]; omega) (by omega) b2
        rw [b1] at this; omega
    · intro h
      obtain ⟨l, hl, rfl⟩ := List.mem_map.mp h
      obtain ⟨l1, l2⟩ := List.mem_filter.mp hl
      have l2 : l.getD k 0 = 0 := by simpa using l2
      obtain ⟨a1, a2, a3, a4⟩ := (sales_mem h0).mp l1
      refine ⟨by rw [dropK_len (by omega)]; omega, by rw [sum_dropK (by omega) l2]; exact a2, fun v hv => a3 v (mem_dropK hv), ?_⟩
      rw [worth_dropK (by rw [List.length_map]; exact a1) (by omega) l2]; exact a4
theorem zip_worth : ∀ (l : List Int) (ks : List (Int × List Int)), ((l.zip ks).map fun q => q.1 * q.2.1).sum = worth (ks.map (·.1)) l
  | [], ks => by cases ks <;> simp [worth]
  | _ :: _, [] => by simp [worth]
  | x :: l, k :: ks => by
    rw [List.zip_cons_cons, List.map_cons, List.map_cons, List.sum_cons, worth_cons, zip_worth l ks, Int.mul_comm]
theorem worth_zeros : ∀ (cs : List Int) (n : Nat), worth cs (List.replicate n 0) = 0
  | [], _ => by simp [worth]
  | _ :: _, 0 => by simp [worth]
  | c :: cs, n + 1 => by rw [List.replicate_succ, worth_cons, worth_zeros cs n]; omega
theorem zeros_free (h0 : 0 ≤ m) : List.replicate ks.length 0 ∈ salesOf cs ks st st m :=
  (sales_mem h0).mpr ⟨by simp, by simpa using h0, fun v hv => by rw [(List.mem_replicate.mp hv).2]; omega, by rw [worth_zeros]; omega⟩
/-- one coin less -/
def decK (k : Nat) (l : List Int) : List Int := l.take k ++ [l.getD k 0 - 1] ++ l.drop (k + 1)
theorem worth_decK : ∀ {k : Nat} {cs st : List Int}, st.length = cs.length → k < st.length → worth cs (decK k st) = worth cs st - cs.getD k 0
  | _, [], [], _, h => by simp at h
  | _, [], _ :: _, h, _ => by simp at h
  | _, _ :: _, [], h, _ => by simp at h
  | 0, c :: cs, x :: st, _, _ => by
    have : decK 0 (x :: st) = (x - 1) :: st := by simp [decK]
    rw [this, worth_cons, worth_cons, Int.mul_sub]
    simp; omega
  | k + 1, c :: cs, x :: st, hl, hk => by
    have : decK (k + 1) (x :: st) = x :: decK k st := by simp [decK]
    rw [this, worth_cons, worth_cons, worth_decK (by simpa using hl) (by simpa using hk)]
    simp; omega
theorem worth_nn : ∀ {pr l : List Int}, (∀ p ∈ pr, 0 ≤ p) → (∀ v ∈ l, 0 ≤ v) → 0 ≤ worth pr l
  | [], _, _, _ => by simp [worth]
  | _ :: _, [], _, _ => by simp [worth]
  | p :: pr, x :: l, h1, h2 => by
    rw [worth_cons]
    have a := Int.mul_nonneg (h1 p (by simp)) (h2 x (by simp))
    have b := worth_nn (pr := pr) (l := l) (fun q hq => h1 q (by simp [hq])) fun q hq => h2 q (by simp [hq])
    omega
theorem sales_below (h0 : 0 ≤ m) (hp : ∀ k ∈ ks, 0 ≤ k.1) (h : worth cs ns < worth cs st) : salesOf cs ks st ns m = [] := by
  refine List.eq_nil_iff_forall_not_mem.mpr fun l hl => ?_
  obtain ⟨_, _, a3, a4⟩ := (sales_mem h0).mp hl
  have := worth_nn (pr := ks.map (·.1)) (l := l) (fun p hp' => by obtain ⟨k, hk, rfl⟩ := List.mem_map.mp hp'; exact hp k hk) a3
  omega
theorem decK_len {k : Nat} {l : List Int} (h : k < l.length) : (decK k l).length = l.length := by simp [decK]; omega
theorem decK_mem {k : Nat} {l : List Int} {v : Int} (h : v ∈ decK k l) : v = l.getD k 0 - 1 ∨ v ∈ l := by
  unfold decK at h
  simp only [List.mem_append, List.mem_singleton] at h
  rcases h with (z | z) | z
  · exact .inr (List.mem_of_mem_take z)
  · exact .inl z
  · exact .inr (List.mem_of_mem_drop z)
/-- of numbers whose sum is above 0 some is above 0 -/
theorem some_pos : ∀ {l : List Int}, 0 < l.sum → ∃ j, j < l.length ∧ 0 < l.getD j 0
  | [], h => by simp at h
  | x :: l, h => by
    rw [List.sum_cons] at h
    by_cases hx : 0 < x
    · exact ⟨0, by simp, by simpa using hx⟩
    · obtain ⟨j, a, b⟩ := some_pos (l := l) (by omega)
      exact ⟨j + 1, by simpa using a, by simpa using b⟩
end
end L3
namespace L3
open PySem PySem.Spec PyProof.Rows L2
local macro_rules | `(tactic| walk_at "go") => `(tactic| conv => whnf)
local macro_rules | `(tactic| walk_at "le") => `(tactic| (intro a o e; simp only [put] at e ⊢; grind))
local macro_rules | `(tactic| walk_at "at") => `(tactic| (simp only [put]; grind))
local macro_rules | `(tactic| walk_at "clo") => `(tactic| (refine Clo.mk ?_; conv => whnf))
local macro_rules | `(tactic| walk_at "ix") => `(tactic| (refine ⟨_, rfl, ?_⟩; conv => whnf))
variable {P : Program} {w : World} {K : PySem.W.Frag} {mg : Str → Option Value} {base : Heap}



theorem asked_of {T : Txt K mg base} {G : Hq} {x : Addr} {cs ts : List Int} {ks : List (Int × List Int)} {pt pt' : List (List (Int × Int))} {st ns : List Int} {m : Int} (hT : Tb T G) (M : Mach cs ts ks pt) (hx : G x = some (.ins T.C_Machine (machF cs ts ks pt'))) (hs : StockOk ts st) (hl : ns.length = cs.length) (hn : ∀ n ∈ ns, 0 ≤ n ∧ n ≤ 99) (m0 : 0 ≤ m) (m1 : m ≤ 12) (hf : (m + 1) ^ ks.length ≤ 200000) : Asked T G x cs ts ks st ns m :=
  ⟨hT, ⟨pt', hx⟩, M.tl, M.c2, M.up, hs, hl, hn, m0, m1, hf, M.k2, M.kp⟩
theorem Asked.le {T : Txt K mg base} {G G' : Hq} {x : Addr} {cs ts : List Int} {ks : List (Int × List Int)} {st ns : List Int} {m : Int} (h : Asked T G x cs ts ks st ns m) (l : Le G G') : Asked T G' x cs ts ks st ns m :=
  ⟨h.tb.le l, h.mx.le l, h.tl, h.cl, h.cu, h.st, h.nl, h.n0, h.m0, h.m1, h.few, h.kl, h.kp⟩
theorem stock_le {ts st : List Int} (h : StockOk ts st) (ht : ∀ t ∈ ts, 0 ≤ t ∧ t ≤ 4) : ∀ s ∈ st, 0 ≤ s ∧ s ≤ 4 := fun s hs => by
  obtain ⟨i, hi⟩ := List.mem_iff_getElem?.mp hs
  have b1 := (List.getElem?_eq_some_iff.mp hi).1
  have e : (st.zip ts)[i]? = some (s, ts[i]'(by have := h.1; omega)) := by rw [List.getElem?_zip_eq_some]; exact ⟨hi, List.getElem?_eq_getElem _⟩
  have := h.2 _ (mapm e)
  have := ht _ (List.getElem_mem (by have := h.1; omega : i < ts.length))
  simp only at *
  omega
theorem coins_100 {cs : List Int} (h : CoinsUp cs) : ∀ c ∈ cs, 0 ≤ c ∧ c ≤ 100 := fun c hc => by
  obtain ⟨i, hi⟩ := List.mem_iff_getElem?.mp hc
  obtain ⟨a, b, _⟩ := h i c hi
  omega
theorem sales_len {cs : List Int} {ks : List (Int × List Int)} {st ns : List Int} {m : Int} (h0 : 0 ≤ m) (hf : (m + 1) ^ ks.length ≤ 200000) : (salesOf cs ks st ns m).length ≤ 200000 := by
  have z0 : (salesOf cs ks st ns m).length ≤ (lots m ks.length).length := List.length_filter_le _ _
  have z1 := lots_len h0 ks.length
  omega
theorem rep_one (n : Nat) (v : Int) : (List.replicate n [Dv.int v]).flatten = ivs (List.replicate n v) := by
  induction n with
  | zero => rfl
  | succ n ih => rw [List.replicate_succ, List.flatten_cons, ih, List.replicate_succ]; rfl
theorem worth_more : ∀ {cs a : List Int}, (∀ c ∈ cs, 0 ≤ c ∧ c ≤ 100) → (∀ v ∈ a, 0 ≤ v ∧ v ≤ 4) → worth cs a ≤ worth cs (a.map fun v => min 4 (v + 1))
  | [], _, _, _ => by simp [worth]
  | _ :: _, [], _, _ => by simp [worth]
  | c :: cs, v :: a, h1, h2 => by
    have z := worth_more (cs := cs) (a := a) (fun x hx => h1 x (by simp [hx])) fun x hx => h2 x (by simp [hx])
    have hc := h1 c (by simp)
    have hv := h2 v (by simp)
    rw [List.map_cons, worth_cons, worth_cons]
    have := Int.mul_le_mul_of_nonneg_left (show v ≤ min 4 (v + 1) by omega) hc.1
    omega
theorem sum_nn : ∀ {d : List Int}, (∀ v ∈ d, 0 ≤ v) → 0 ≤ d.sum
  | [], _ => by simp
  | x :: d, h => by
    rw [List.sum_cons]
    have := h x (by simp)
    have := sum_nn (d := d) fun v hv => h v (by simp [hv])
    omega
/-- paid otherwise -/
def mk1 (k : Int × List Int) : Int × List Int := (k.1, k.2.map fun v => min 4 (v + 1))
theorem mk1_prices (ks : List (Int × List Int)) : (ks.map mk1).map (·.1) = ks.map (·.1) := by rw [List.map_map]; rfl
theorem eKs_tu {ks : List (Int × List Int)} : (ks.map eK).all isTu = true := by
  rw [List.all_eq_true]; intro x hx; obtain ⟨k, _, rfl⟩ := List.mem_map.mp hx; rfl
theorem eKs_nn {ks : List (Int × List Int)} : (ks.map eK).all (nn 8) = true := by
  rw [List.all_eq_true]; intro x hx; obtain ⟨k, _, rfl⟩ := List.mem_map.mp hx
  show ([Dv.int k.1, tiv k.2].all (nn 7)) = true
  simp only [List.all_cons, List.all_nil, Bool.and_true, Bool.and_eq_true]
  refine ⟨rfl, ?_⟩
  show ((k.2.map Dv.int).all (nn 6)) = true
  rw [List.all_eq_true]; intro y hy; obtain ⟨z, _, rfl⟩ := List.mem_map.mp hy; rfl
theorem eKs_nodup {ks : List (Int × List Int)} (h : (ks.map eK).Nodup) : ks.Nodup := List.Pairwise.of_map eK (fun a b hne e => hne (congrArg eK e)) h
theorem Mach.mk1 {cs ts : List Int} {ks : List (Int × List Int)} {pt : List (List (Int × Int))} (M : Mach cs ts ks pt) (h : (ks.map L3.mk1).Nodup) : Mach cs ts (ks.map L3.mk1) pt :=
  ⟨M.c1, M.c2, M.up, M.tl, M.tb, by rw [List.length_map]; exact M.k1, by rw [List.length_map]; exact M.k2, kindsOk_iff.mpr ⟨fun k hk => by
    obtain ⟨k0, hk0, rfl⟩ := List.mem_map.mp hk
    have ka := (kindsOk_iff.mp M.kk).1 k0 hk0
    refine ⟨ka.p0, ka.p1, by show (k0.2.map _).length = _; rw [List.length_map]; exact ka.len, ka.few, fun n hn => ?_, ka.sm, Int.le_trans ka.pays (worth_more (coins_100 M.up) ka.all), by simp⟩
    obtain ⟨v, hv, rfl⟩ := List.mem_map.mp (show n ∈ k0.2.map _ from hn)
    have := ka.all v hv
    omega, h⟩, M.p1, M.p2, by rw [List.length_map]; exact M.pp⟩
theorem Mach.dropK {cs ts : List Int} {ks : List (Int × List Int)} {pt : List (List (Int × Int))} (M : Mach cs ts ks pt) {k : Nat} (hk : k < ks.length) (h : 1 < ks.length) : Mach cs ts (L3.dropK k ks) (anyRow (L3.dropK k ks).length) :=
  M.of (by rw [dropK_len hk]; omega) (by rw [dropK_len hk]; have := M.k2; omega) (fun q hq => (kindsOk_iff.mp M.kk).1 q (mem_dropK hq)) (by
    have n := (kindsOk_iff.mp M.kk).2
    unfold L3.dropK
    refine List.nodup_append.mpr ⟨List.Sublist.nodup (List.take_sublist _ _) n, List.Sublist.nodup (List.drop_sublist _ _) n, fun x hx y hy e => ?_⟩
    subst e
    have n2 := n
    rw [← List.take_append_drop k ks] at n2
    exact (List.nodup_append.mp n2).2.2 x hx x (by rw [← List.drop_drop] at hy; exact List.mem_of_mem_drop hy) rfl)
theorem Mach.wide {cs ts : List Int} {ks : List (Int × List Int)} {pt : List (List (Int × Int))} (M : Mach cs ts ks pt) : Mach cs (List.replicate cs.length 4) ks pt :=
  ⟨M.c1, M.c2, M.up, by simp, fun t ht => by rw [(List.mem_replicate.mp ht).2]; omega, M.k1, M.k2, M.kk, M.p1, M.p2, M.pp⟩
theorem stock_wide {cs ts st : List Int} (h : StockOk ts st) (hl : ts.length = cs.length) (ht : ∀ t ∈ ts, 0 ≤ t ∧ t ≤ 4) : StockOk (List.replicate cs.length 4) st := ⟨by rw [h.1, hl]; simp, fun q hq => by
  have h4 := stock_le h ht _ (List.of_mem_zip hq).1
  have := (List.mem_replicate.mp (List.of_mem_zip hq).2).2
  omega⟩
theorem Tb.put {T : Txt K mg base} {G : Hq} {b : Addr} {v : List Dv} {o : Ho} (h : Tb T G) (hb : G b = some (.lst v)) : Tb T (L3.put G b o) := by
  have ne : ∀ {p q}, G p = some (.tab q) → p ≠ b := fun {p q} z e => by rw [e, hb] at z; cases z
  exact ⟨by rw [put_ne (ne h.t)]; exact h.t, by rw [put_ne (ne h.k)]; exact h.k, by rw [put_ne (ne h.s)]; exact h.s, by rw [put_ne (ne h.n)]; exact h.n⟩
theorem Asked.put {T : Txt K mg base} {G : Hq} {x b : Addr} {cs ts : List Int} {ks : List (Int × List Int)} {st ns : List Int} {m : Int} {v : List Dv} {o : Ho} (h : Asked T G x cs ts ks st ns m) (hb : G b = some (.lst v)) : Asked T (L3.put G b o) x cs ts ks st ns m :=
  ⟨h.tb.put hb, by
    obtain ⟨pt, hx⟩ := h.mx
    exact ⟨pt, by rw [put_ne (fun e => by rw [e, hb] at hx; cases hx)]; exact hx⟩, h.tl, h.cl, h.cu, h.st, h.nl, h.n0, h.m0, h.m1, h.few, h.kl, h.kp⟩
theorem cut_drop {α : Type} (f : α → Dv) (xs : List α) {k : Nat} (h : k < xs.length) : cut (xs.map f) none (some (k : Int)) ++ cut (xs.map f) (some ((k : Int) + 1)) none = (dropK k xs).map f := by
  rw [cut_to (by rw [List.length_map]; omega), show ((k : Int) + 1) = ((k + 1 : Nat) : Int) by omega, cut_from (by rw [List.length_map]; omega), dropK_map]; rfl
theorem cut_len {us : List Dv} {k : Nat} (h : k < us.length) : (cut us none (some (k : Int))).length + (cut us (some ((k : Int) + 1)) none).length ≤ us.length := by
  rw [cut_to (by omega), show ((k : Int) + 1) = ((k + 1 : Nat) : Int) by omega, cut_from (by omega), List.length_take, List.length_drop]; omega
theorem getD_is {f : List Int} {i : Nat} (h : i < f.length) : f[i]? = some (f.getD i 0) := by rw [List.getD_eq_getElem?_getD, List.getElem?_eq_getElem h]; rfl
theorem first_pos {st : List Int} (h : 0 < st.sum) : ∃ (j : Nat) (r : List Dv), (List.range st.length).filterMap (fun j => if decide (st.getD j 0 > 0) = true then some (Dv.int (j : Nat)) else none) = .int (j : Nat) :: r ∧ j < st.length ∧ 0 < st.getD j 0 := by
  rw [filter_fm]
  obtain ⟨j, a, b⟩ := some_pos h
  have hm : j ∈ (List.range st.length).filter fun j => decide (st.getD j 0 > 0) := List.mem_filter.mpr ⟨List.mem_range.mpr a, decide_eq_true b⟩
  cases e : (List.range st.length).filter fun j => decide (st.getD j 0 > 0) with
  | nil => rw [e] at hm; simp at hm
  | cons j0 r =>
    have h0 : j0 ∈ (List.range st.length).filter fun j => decide (st.getD j 0 > 0) := by rw [e]; simp
    obtain ⟨c, d⟩ := List.mem_filter.mp h0
    exact ⟨j0, _, rfl, List.mem_range.mp c, of_decide_eq_true d⟩
def sp__law_right (T : Txt K mg base) : Sq := fun ws G Q _ => ∃ (b : Addr) (v : List Dv), ws = [.ref b] ∧ G b = some (.lst v) ∧ IsBag v ∧ Tb T G ∧ ∀ v', IsBag v' → Q (.bl true) (put G b (.lst v'))
theorem ok__law_right (T : Txt K mg base) : Fn P w K mg base CX0 12 T.f__law_right T.d__law_right ["bag"] (sp__law_right T) := by
  refine fn_okA T.F__law_right sc__law_right (fun ws G Q E h => ?_) (fun cdv A outer s H E hr =>
    (ss_cons (s_asg (e_tup (a_cons (e_call (ok__law_parts T) (hr.mono (by decide)) (by rfl) T.g__law_parts T.F__law_parts.kp T.b__law_parts .nil (fun _ => .nil) pass0 (a_cons (v_ 0) (a_cons (e_call (ok__law_pull T) (hr.mono (by decide)) (by rfl) T.g__law_pull T.F__law_pull.kp T.b__law_pull .nil (fun _ => .nil) pass0 (a_cons (v_ 0) (a_cons (e_lst (a_cons e_int (a_cons e_int (a_cons e_int a_nil)))) a_nil))) a_nil))) (a_cons (e_call (ok__law_pull T) (hr.mono (by decide)) (by rfl) T.g__law_pull T.F__law_pull.kp T.b__law_pull .nil (fun _ => .nil) pass0 (a_cons (v_ 0) (a_cons (e_lst (a_cons e_int (a_cons e_int (a_cons e_int (a_cons e_int (a_cons e_int a_nil)))))) a_nil))) a_nil))) (g_tup (n := 2) rfl (gs_cons (g_name (i := 1) sc__law_right.nd) (gs_cons (g_name (i := 2) sc__law_right.nd) gs_nil))))
    (ss_cons (s_asg (e_tup (a_cons (e_call (ok__law_machine T) (hr.mono (by decide)) (by rfl) T.g__law_machine T.F__law_machine.kp T.b__law_machine .nil (fun _ => .nil) pass0 (a_cons (v_ 1) a_nil)) (a_cons (e_call (ok__law_stock T) (hr.mono (by decide)) (by rfl) T.g__law_stock T.F__law_stock.kp T.b__law_stock .nil (fun _ => .nil) pass0 (a_cons (v_ 0) (a_cons (v_ 1) a_nil))) a_nil))) (g_tup (n := 2) rfl (gs_cons (g_name (i := 3) sc__law_right.nd) (gs_cons (g_name (i := 4) sc__law_right.nd) gs_nil))))
    (ss_cons (s_set (i := 5) sc__law_right.nd (e_call (ok__law_count T) (hr.mono (by decide)) (by rfl) T.g__law_count T.F__law_count.kp T.b__law_count .nil (fun _ => .nil) pass0 (a_cons (v_ 0) (a_cons (v_ 1) (a_cons (v_ 4) (a_cons (v_ 2) a_nil))))))
    (ss_cons (s_set (i := 6) sc__law_right.nd (e_call (ok__law_sales T) (hr.mono (by decide)) (by rfl) T.g__law_sales T.F__law_sales.kp T.b__law_sales .nil (fun _ => .nil) pass0 (a_cons (v_ 1) (a_cons (v_ 4) (a_cons (v_ 5) (a_cons (v_ 2) a_nil))))))
    (ss_cons (s_if (t_cmp (or_ne hr.units) (e_call (ok_sales T) (hr.mono (by decide)) (by rfl) T.g_sales T.F_sales.kp T.b_sales .nil (fun _ => .nil) pass0 (a_cons (v_ 3) (a_cons (v_ 4) (a_cons (v_ 5) (a_cons (v_ 2) a_nil))))) (v_ 6) (nomark _)) (ss_one (s_ret e_bl)) ss_nil)
    (ss_cons (s_set (i := 7) sc__law_right.nd (e_make T.mk_Machine (ok_Machine___init__ T) (hr.mono (by decide)) (by rfl) T.g_Machine T.b_Machine___init__ .nil (fun _ => .nil) pass0 (a_cons (e_ix ix_any (v_ 1) e_int) (a_cons (e_op or_mulN (e_tup (a_cons e_int a_nil)) (e_callB cr_len (by rfl) T.z_len (by decide +kernel) (a_cons (e_ix ix_any (v_ 1) e_int) a_nil))) (a_cons (e_ix ix_any (v_ 1) e_int) (a_cons (e_ix ix_any (v_ 1) e_int) a_nil))))))
    (ss_cons (s_if (t_cmp (or_ne hr.units) (e_call (ok_sales T) (hr.mono (by decide)) (by rfl) T.g_sales T.F_sales.kp T.b_sales .nil (fun _ => .nil) pass0 (a_cons (v_ 7) (a_cons (v_ 4) (a_cons (v_ 5) (a_cons (v_ 2) a_nil))))) (v_ 6) (nomark _)) (ss_one (s_ret e_bl)) ss_nil)
    (ss_cons (s_setLc (i := 8) rfl sc__law_right.nd (sw_true rfl rfl rfl (by decide +kernel)) (i_seq (e_ix ix_any (v_ 1) e_int)) (m := (.many (.cons (.one 14) (.cons (.one 15) .nil)))) (blkOk_by (own := [("price", 14), ("paid", 15)]) (N := ["bag", "parts", "most", "machine", "stock", "count", "due", "wide", "kinds", "other", "k", "less", "free", "below", "price", "paid", "many", "sale", "j"]) (sc := defScope s__law_right) (by decide +kernel)) (by decide) (fun _ _ _ _ _ => (pg_tup (n := 2) rfl (pgs_cons (pg_name (i := 14) sc__law_right.nd rfl (Or.inl rfl)) (pgs_cons (pg_name (i := 15) sc__law_right.nd rfl (Or.inl rfl)) pgs_nil)))) (fun _ _ _ _ _ => ts_nil) (fun _ _ _ _ _ => (e_tup (a_cons (v_ 14) (a_cons (e_callTy cr_tuple (by rfl) T.z_tuple (by decide +kernel) (a_cons (e_lc rfl sc__law_right.nd (i_seq (v_ 15)) (m := (.one 16)) (blkOk_by (own := [("many", 16)]) (by rfl)) (by decide) (fun _ _ _ _ _ => (pg_name (i := 16) sc__law_right.nd rfl (Or.inl rfl))) (fun _ _ _ _ _ => ts_nil) (fun _ _ _ _ _ => (e_callB (cr_minA rfl) (by rfl) T.z_min (by decide +kernel) (a_cons e_int (a_cons (e_op or_add (v_ 16) e_int) a_nil))))) a_nil)) a_nil)))))
    (ss_cut (s_set (i := 9) sc__law_right.nd (e_if (t_cmp (or_eq hr.units) (e_lenSet rfl hr.units (by rfl) T.z_len (by rfl) T.z_set (v_ 8)) (e_callB cr_len (by rfl) T.z_len (by decide +kernel) (a_cons (v_ 8) a_nil)) (nomark _)) (e_make T.mk_Machine (ok_Machine___init__ T) (hr.mono (by decide)) (by rfl) T.g_Machine T.b_Machine___init__ .nil (fun _ => .nil) pass0 (a_cons (e_ix ix_any (v_ 1) e_int) (a_cons (e_ix ix_any (v_ 1) e_int) (a_cons (e_callTy cr_tuple (by rfl) T.z_tuple (by decide +kernel) (a_cons (v_ 8) a_nil)) (a_cons (e_ix ix_any (v_ 1) e_int) a_nil))))) (v_ 3)))
    (ss_cons (s_if (t_cmp (or_ne hr.units) (e_call (ok_sales T) (hr.mono (by decide)) (by rfl) T.g_sales T.F_sales.kp T.b_sales .nil (fun _ => .nil) pass0 (a_cons (v_ 9) (a_cons (v_ 4) (a_cons (v_ 5) (a_cons (v_ 2) a_nil))))) (v_ 6) (nomark _)) (ss_one (s_ret e_bl)) ss_nil)
    (ss_cut (s_if (t_cmp or_gt (e_callB cr_len (by rfl) T.z_len (by decide +kernel) (a_cons (v_ 8) a_nil)) e_int (nomark _)) (ss_cons (s_set (i := 10) sc__law_right.nd (e_call (ok__law_take T) (hr.mono (by decide)) (by rfl) T.g__law_take T.F__law_take.kp T.b__law_take .nil (fun _ => .nil) pass0 (a_cons (v_ 0) (a_cons (e_callB cr_len (by rfl) T.z_len (by decide +kernel) (a_cons (v_ 8) a_nil)) a_nil))))
    (ss_cons (s_set (i := 11) sc__law_right.nd (e_make T.mk_Machine (ok_Machine___init__ T) (hr.mono (by decide)) (by rfl) T.g_Machine T.b1_Machine___init__ T.v1_Machine___init__ (fun _ => .cons .non .nil) pass0 (a_cons (e_ix ix_any (v_ 1) e_int) (a_cons (e_ix ix_any (v_ 1) e_int) (a_cons (e_op or_add (e_slice sl_any (e_ix ix_any (v_ 1) e_int) o_none (o_some (v_ 10))) (e_slice sl_any (e_ix ix_any (v_ 1) e_int) (o_some (e_op or_add (v_ 10) e_int)) o_none)) a_nil)))))
    (ss_one (s_if (t_cmp (or_ne hr.units) (e_call (ok_sales T) (hr.mono (by decide)) (by rfl) T.g_sales T.F_sales.kp T.b_sales .nil (fun _ => .nil) pass0 (a_cons (v_ 11) (a_cons (v_ 4) (a_cons (v_ 5) (a_cons (v_ 2) a_nil))))) (e_callTy cr_tuple (by rfl) T.z_tuple (by decide +kernel) (a_cons (e_lc rfl sc__law_right.nd (i_seq (v_ 6)) (m := (.one 17)) (blkOk_by (own := [("sale", 17)]) (N := ["bag", "parts", "most", "machine", "stock", "count", "due", "wide", "kinds", "other", "k", "less", "free", "below", "price", "paid", "many", "sale", "j"]) (sc := defScope s__law_right) (by decide +kernel)) (by decide) (fun _ _ _ _ _ => (pg_name (i := 17) sc__law_right.nd rfl (Or.inl rfl))) (fun _ _ _ _ _ => (ts_one (t_cmp (or_eq hr.units) (e_ix ix_any (v_ 17) (v_ 10)) e_int (nomark _)))) (fun _ _ _ _ _ => (e_op or_add (e_slice sl_any (v_ 17) o_none (o_some (v_ 10))) (e_slice sl_any (v_ 17) (o_some (e_op or_add (v_ 10) e_int)) o_none)))) a_nil)) (nomark _)) (ss_one (s_ret e_bl)) ss_nil)))) ss_nil)
    (ss_cons (s_set (i := 12) sc__law_right.nd (e_call (ok_sales T) (hr.mono (by decide)) (by rfl) T.g_sales T.F_sales.kp T.b_sales .nil (fun _ => .nil) pass0 (a_cons (v_ 3) (a_cons (v_ 4) (a_cons (v_ 4) (a_cons (v_ 2) a_nil))))))
    (ss_cons (s_if (t_cmp (or_ne hr.units) (e_lc rfl sc__law_right.nd (i_seq (v_ 12)) (m := (.one 17)) (blkOk_by (own := [("sale", 17)]) (N := ["bag", "parts", "most", "machine", "stock", "count", "due", "wide", "kinds", "other", "k", "less", "free", "below", "price", "paid", "many", "sale", "j"]) (sc := defScope s__law_right) (by decide +kernel)) (by decide) (fun _ _ _ _ _ => (pg_name (i := 17) sc__law_right.nd rfl (Or.inl rfl))) (fun _ _ _ _ _ => (ts_one (t_cmp or_gt (e_callB (cr_sumA rfl) (by rfl) T.z_sum (by decide +kernel) (a_cons (e_lc rfl sc__law_right.nd (i_zip2 (by rfl) T.z_zip (a_cons (v_ 17) (a_cons (e_ix ix_any (v_ 1) e_int) a_nil))) (m := (.many (.cons (.one 16) (.cons (.many (.cons (.one 14) (.cons (.one 15) .nil))) .nil)))) (blkOk_by (own := [("many", 16), ("price", 14), ("paid", 15)]) (by rfl)) (by decide) (fun _ _ _ _ _ => (pg_tup (n := 2) rfl (pgs_cons (pg_name (i := 16) sc__law_right.nd rfl (Or.inl rfl)) (pgs_cons (pg_tup (n := 2) rfl (pgs_cons (pg_name (i := 14) sc__law_right.nd rfl (Or.inl rfl)) (pgs_cons (pg_name (i := 15) sc__law_right.nd rfl (Or.inl rfl)) pgs_nil))) pgs_nil)))) (fun _ _ _ _ _ => ts_nil) (fun _ _ _ _ _ => (e_op or_mulN (v_ 16) (v_ 14)))) a_nil)) e_int (nomark _)))) (fun _ _ _ _ _ => (v_ 17))) (e_lst a_nil) (nomark _)) (ss_one (s_ret e_bl)) ss_nil)
    (ss_cons (s_if (t_cmp (or_nin hr.units) (e_op or_mulN (e_tup (a_cons e_int a_nil)) (e_callB cr_len (by rfl) T.z_len (by decide +kernel) (a_cons (v_ 8) a_nil))) (v_ 12) (by rfl)) (ss_one (s_ret e_bl)) ss_nil)
    (ss_cons (s_if (t_cmp or_gt (e_callB (cr_sumA rfl) (by rfl) T.z_sum (by decide +kernel) (a_cons (v_ 4) a_nil)) e_int (nomark _)) (ss_cons (s_set (i := 10) sc__law_right.nd (e_ix ix_any (e_lc rfl sc__law_right.nd (i_range1 (by rfl) T.z_range (a_cons (e_callB cr_len (by rfl) T.z_len (by decide +kernel) (a_cons (v_ 4) a_nil)) a_nil)) (m := (.one 18)) (blkOk_by (own := [("j", 18)]) (N := ["bag", "parts", "most", "machine", "stock", "count", "due", "wide", "kinds", "other", "k", "less", "free", "below", "price", "paid", "many", "sale", "j"]) (sc := defScope s__law_right) (by decide +kernel)) (by decide) (fun _ _ _ _ _ => (pg_name (i := 18) sc__law_right.nd rfl (Or.inl rfl))) (fun _ _ _ _ _ => (ts_one (t_cmp or_gt (e_ix ix_any (v_ 4) (v_ 18)) e_int (nomark _)))) (fun _ _ _ _ _ => (v_ 18))) e_int))
    (ss_cons (s_set (i := 13) sc__law_right.nd (e_op or_add (e_op or_add (e_slice sl_any (v_ 4) o_none (o_some (v_ 10))) (e_tup (a_cons (e_op or_sub (e_ix ix_any (v_ 4) (v_ 10)) e_int) a_nil))) (e_slice sl_any (v_ 4) (o_some (e_op or_add (v_ 10) e_int)) o_none)))
    (ss_one (s_if (Pw.toT (w_or (t_cmp (or_ne hr.units) (e_call (ok_sales T) (hr.mono (by decide)) (by rfl) T.g_sales T.F_sales.kp T.b_sales .nil (fun _ => .nil) pass0 (a_cons (v_ 3) (a_cons (v_ 4) (a_cons (v_ 13) (a_cons (v_ 2) a_nil))))) (e_tup a_nil) (nomark _)) (w_or1 (t_cmp or_isn (e_call (ok_worths T) (hr.mono (by decide)) (by rfl) T.g_worths T.F_worths.kp T.b_worths .nil (fun _ => .nil) pass0 (a_cons (v_ 3) (a_cons (v_ 4) (a_cons (v_ 13) (a_cons (v_ 2) (a_cons e_int a_nil)))))) e_non (nomark _))))) (ss_one (s_ret e_bl)) ss_nil)))) ss_nil)
    (ss_one (s_ret e_bl))))))))))))))))))
    fun ws G Q E mQ mE h => ?_
  · obtain ⟨b, v, rfl, _⟩ := h; rfl
  · obtain ⟨b, v, rfl, hb, hv, hT, h⟩ := h
    have hTb : ∀ o, Tb T (put G b o) := fun o => by
      have ne : ∀ {p q}, G p = some (.tab q) → p ≠ b := fun {p q} z e => by rw [e, hb] at z; cases z
      exact ⟨by rw [put_ne (ne hT.t)]; exact hT.t, by rw [put_ne (ne hT.k)]; exact hT.k, by rw [put_ne (ne hT.s)]; exact hT.s, by rw [put_ne (ne hT.n)]; exact hT.n⟩
    walk_at "go"
    intro s1 ns1
    have f1 : G s1 = none ∧ s1 ≠ b := ⟨ns1, by rintro rfl; rw [hb] at ns1; cases ns1⟩
    walk_at "go"
    refine ⟨b, s1, [4, 12, 40], v, rfl, by rw [put_ne (Ne.symm f1.2)]; exact hb, hv, f1.2, put_same, by simp, by simp, fun t v1 hv1 ht => ?_⟩
    walk_at "clo"
    have ht2 : 0 < t ∧ t ≤ 100 := by simp at ht; omega
    refine ⟨b, t, v1, rfl, put_same, hv1, ht2.1, ht2.2, fun cs ts ks v2 hv2 M hk5 => ?_⟩
    walk_at "clo"
    rw [put_put]
    intro s2 ns2
    have f2 : G s2 = none ∧ s2 ≠ b ∧ s2 ≠ s1 := by simp only [put] at ns2; grind
    walk_at "go"
    refine ⟨b, s2, [0, 1, 2, 4, 6], v2, rfl, by walk_at "at", hv2, f2.2.1, put_same, by simp, by simp, fun m v3 hv3 hm => ?_⟩
    have hm6 : 0 ≤ m ∧ m ≤ 6 := by simp at hm; omega
    walk_at "clo"
    have LV : Le (put G b (.lst v3)) (put (put (put (put G s1 (.lst [.int 4, .int 12, .int 40])) b (.lst v2)) s2 (.lst [.int 0, .int 1, .int 2, .int 4, .int 6])) b (.lst v3)) := by walk_at "le"
    generalize put (put (put (put G s1 (.lst [.int 4, .int 12, .int 40])) b (.lst v2)) s2 (.lst [.int 0, .int 1, .int 2, .int 4, .int 6])) b (.lst v3) = V at *
    have hVb : V b = some (.lst v3) := LV _ _ put_same
    refine ⟨cs, ts, ks, _, rfl, (hTb _).le LV, M, fun x nx => ?_⟩
    have nxb : x ≠ b := by rintro rfl; rw [hVb] at nx; cases nx
    walk_at "clo"
    refine ⟨b, v3, ts, _, _, _, rfl, by rw [put_ne (Ne.symm nxb)]; exact hVb, hv3, by rw [M.tl]; exact M.c2, M.tb, fun st v4 hv4 hst => ?_⟩
    walk_at "clo"
    have hst4 := stock_le hst M.tb
    have hw0 := (worth_le (coins_100 M.up) hst4).1
    refine ⟨b, v4, cs, ts, ks, _, st, m, rfl, put_same, hv4, M.up, M.c1, M.c2, hw0, hm6.1, by omega, M.k2, M.kp, fun ns v5 hv5 hnl hn9 => ?_⟩
    walk_at "clo"
    rw [put_put]
    have LW : Le (put G b (.lst v5)) (put (put V x (.ins T.C_Machine (machF cs ts ks (anyRow ks.length)))) b (.lst v5)) := by
      intro a o e
      by_cases ha : a = b
      · subst ha; rw [put_same] at e ⊢; exact e
      · rw [put_ne ha] at e ⊢
        have e2 : V a = some o := LV a o (by rw [put_ne ha]; exact e)
        rw [put_ne]; exact e2
        rintro rfl; rw [nx] at e2; cases e2
    have hWx : put (put V x (.ins T.C_Machine (machF cs ts ks (anyRow ks.length)))) b (.lst v5) x = some (.ins T.C_Machine (machF cs ts ks (anyRow ks.length))) := by rw [put_ne nxb, put_same]
    have hTW := (hTb (.lst v5)).le LW
    have hWb : (put (put V x (.ins T.C_Machine (machF cs ts ks (anyRow ks.length)))) b (.lst v5)) b = some (.lst v5) := put_same
    have hQ : ∀ v' W', IsBag v' → Le (put (put (put V x (.ins T.C_Machine (machF cs ts ks (anyRow ks.length)))) b (.lst v5)) b (.lst v')) W' → Q (.bl true) W' := fun v' W' hv' l => mQ _ _ _ (Le.trans (fun a o e => by
      by_cases ha : a = b
      · subst ha; rw [put_same] at e ⊢; exact e
      · rw [put_ne ha] at e ⊢; exact LW a o (by rw [put_ne ha]; exact e) : Le (put G b (.lst v')) (put (put (put V x (.ins T.C_Machine (machF cs ts ks (anyRow ks.length)))) b (.lst v5)) b (.lst v'))) l) (h v' hv')
    generalize put (put V x (.ins T.C_Machine (machF cs ts ks (anyRow ks.length)))) b (.lst v5) = W at *
    have hf5 : (m + 1) ^ ks.length ≤ 200000 := by
      have z1 : (m + 1) ^ ks.length ≤ (m + 1) ^ 5 := pow_up hm6.1 hk5
      simp at hm
      rcases hm with rfl | rfl | rfl | rfl | rfl <;> omega
    have hA := asked_of (ns := ns) hTW M hWx hst hnl hn9 hm6.1 (by omega) hf5
    refine ⟨cs, ts, ks, _, st, ns, m, rfl, coins_small M.up M.c2, hm6.1, by omega, hf5, M.k2, M.kp, ?_⟩
    walk_at "clo"
    refine ⟨x, cs, ts, ks, st, ns, m, rfl, hA, ?_⟩
    walk_at "clo"
    refine ⟨⟨nb_tivs 7 _, nb_tivs 7 _⟩, ?_⟩
    rw [decide_eq_true rfl]
    walk_at "go"
    walk_at "ix"
    walk_at "ix"
    refine ⟨⟨by simp, by rw [List.length_map]; have := M.c1; omega, by rw [List.length_map]; have := M.c2; omega, by simp⟩, ?_⟩
    rw [show (((ivs cs).length : Nat) : Int).toNat = cs.length by rw [List.length_map]; omega, rep_one]
    walk_at "go"
    walk_at "ix"
    walk_at "ix"
    intro y ny
    refine ⟨y, cs, List.replicate cs.length 4, ks, anyRow ks.length, _, rfl, .inr rfl, hTW.le (Le.refl.put ny), M.wide, put_same, .mk ⟨rfl, ?_⟩⟩
    rw [put_put]
    have L1 : Le W (put W y (.ins T.C_Machine (machF cs (List.replicate cs.length 4) ks (anyRow ks.length)))) := Le.refl.put ny
    have hyb : y ≠ b := by rintro rfl; rw [hWb] at ny; cases ny
    have hB := asked_of (ns := ns) (hTW.le L1) M.wide put_same (stock_wide hst M.tl M.tb) hnl hn9 hm6.1 (by omega) hf5
    have hA := hA.le L1
    have hWb := L1 _ _ hWb
    have hWx := L1 _ _ hWx
    have hQ : ∀ v' W', IsBag v' → Le (put (put W y (.ins T.C_Machine (machF cs (List.replicate cs.length 4) ks (anyRow ks.length)))) b (.lst v')) W' → Q (.bl true) W' := fun v' W' hv' l => hQ v' W' hv' ((Le.put2 L1).trans l)
    have hTX := hTW.le L1
    clear hTW LW L1 ny
    generalize put W y (.ins T.C_Machine (machF cs (List.replicate cs.length 4) ks (anyRow ks.length))) = W1 at *
    walk_at "go"
    refine ⟨y, cs, _, ks, st, ns, m, rfl, hB, ?_⟩
    walk_at "clo"
    refine ⟨⟨nb_tivs 7 _, nb_tivs 7 _⟩, ?_⟩
    rw [decide_eq_true rfl]
    walk_at "go"
    walk_at "ix"
    refine lc_pureL ks eK (fun k => some (eK (mk1 k))) rfl (by rw [sizeLine_eq]; have := M.k2; omega) True.intro (fun i k D acc P hk nD hP => ?_) fun q nq => ?_
    · have hkl : k.2.length ≤ 1000 := by have := (kindsOk_iff.mp M.kk).1 k (mapm hk); have a := this.len; have b := this.few; omega
      walk_at "go"
      refine lc_map k.2 Dv.int (fun v => .int (min 4 (v + 1))) rfl hkl True.intro (fun i v D2 acc2 P2 hv nD2 hP2 => ?_) fun q2 nq2 => ?_
      · walk_at "go"
        exact ⟨_, nD2, Le.refl, hP2⟩
      · walk_at "go"
        refine ⟨_, put_same, ?_⟩
        walk_at "go"
        have ev : eK (mk1 k) = .tup [.int k.1, .tup (k.2.map fun v => .int (min 4 (v + 1)))] := by
          show Dv.tup [.int k.1, .tup ((k.2.map _).map Dv.int)] = _
          rw [List.map_map]; rfl
        have hP := hP
        rw [ev] at hP
        exact ⟨_, nD, Le.refl.put nq2, hP⟩
    have ef : ks.filterMap (fun k => some (eK (mk1 k))) = (ks.map mk1).map eK := by
      rw [List.map_map]
      generalize ks = L
      induction L with
      | nil => rfl
      | cons x L ih => rw [List.filterMap_cons, List.map_cons, ih]; rfl
    rw [ef]
    walk_at "go"
    have hl6 : (ks.map mk1).length ≤ 5 := by rw [List.length_map]; exact hk5
    have L2 : Le W1 (put W1 q (.lst ((ks.map mk1).map eK))) := Le.refl.put nq
    have hqb : q ≠ b := by rintro rfl; rw [hWb] at nq; cases nq
    have hWq : put W1 q (.lst ((ks.map mk1).map eK)) q = some (.lst ((ks.map mk1).map eK)) := put_same
    have hA := hA.le L2
    have hWb := L2 _ _ hWb
    have hWx := L2 _ _ hWx
    have hTX := hTX.le L2
    have hQ : ∀ v' W', IsBag v' → Le (put (put W1 q (.lst ((ks.map mk1).map eK))) b (.lst v')) W' → Q (.bl true) W' := fun v' W' hv' l => hQ v' W' hv' ((Le.put2 L2).trans l)
    clear L2 nq
    generalize put W1 q (.lst ((ks.map mk1).map eK)) = W2 at *
    refine ⟨fun τ' G' => ∃ (o : Addr) (kso : List (Int × List Int)), τ' = [some (.ref b), some (eParts cs ts ks (anyRow ks.length)), some (.int m), some (.ref x), some (tiv st), some (tiv ns), some (.tup ((salesOf cs ks st ns m).map tiv)), some (.ref y), some (.ref q), some (.ref o), none, none, none, none, none, none, none, none, none] ∧ kso.map (·.1) = ks.map (·.1) ∧ Asked T G' o cs ts kso st ns m ∧ Le W2 G', ?_, ?_⟩
    · walk_at "go"
      refine ⟨_, hWq, by rw [List.length_map]; omega, eKs_tu, eKs_nn, fun n hn => ?_⟩
      walk_at "go"
      refine ⟨_, .inl hWq, ?_⟩
      walk_at "go"
      cases hd : decide ((n : Int) = ((ks.map mk1).map eK).length) with
      | true =>
        have hnd := eKs_nodup (hn.mp (by have := of_decide_eq_true hd; omega))
        walk_at "go"
        walk_at "ix"
        walk_at "ix"
        refine ⟨_, hWq, ?_⟩
        walk_at "go"
        walk_at "ix"
        intro o no
        refine ⟨o, cs, ts, ks.map mk1, anyRow ks.length, _, rfl, .inr rfl, hTX.le (Le.refl.put no), M.mk1 hnd, put_same, .mk ⟨rfl, ?_⟩⟩
        rw [put_put]
        have L3 : Le W2 (put W2 o (.ins T.C_Machine (machF cs ts (ks.map mk1) (anyRow ks.length)))) := Le.refl.put no
        exact ⟨o, _, rfl, mk1_prices ks, asked_of (ns := ns) (hTX.le L3) (M.mk1 hnd) put_same hst hnl hn9 hm6.1 (by omega) (by rw [List.length_map]; exact hf5), L3⟩
      | false =>
        walk_at "go"
        exact ⟨x, ks, rfl, rfl, hA, Le.refl⟩
    rintro τ' W3 ⟨o, kso, rfl, hpr, hO, L3⟩
    have hA := hA.le L3
    have hWb := L3 _ _ hWb
    have hWq := L3 _ _ hWq
    have hTX := hTX.le L3
    have hQ : ∀ v' W', IsBag v' → Le (put W3 b (.lst v')) W' → Q (.bl true) W' := fun v' W' hv' l => hQ v' W' hv' ((Le.put2 L3).trans l)
    clear L3 hWx
    walk_at "go"
    refine ⟨_, cs, ts, _, st, ns, m, rfl, hO, ?_⟩
    walk_at "clo"
    refine ⟨⟨nb_tivs 7 _, nb_tivs 7 _⟩, ?_⟩
    rw [sales_congr hpr, decide_eq_true rfl]
    walk_at "go"
    refine ⟨fun τ' G' => ∃ s5 s6 s7 s9 s10 s11 v', τ' = [some (.ref b), some (eParts cs ts ks (anyRow ks.length)), some (.int m), some (.ref x), some (tiv st), s5, s6, s7, some (.ref q), s9, s10, s11, none, none, none, none, none, none, none] ∧ IsBag v' ∧ G' b = some (.lst v') ∧ Asked T G' x cs ts ks st ns m ∧ G' q = some (.lst ((ks.map mk1).map eK)) ∧ (∀ v'' W', IsBag v'' → Le (put G' b (.lst v'')) W' → Q (.bl true) W'), ?_, ?_⟩
    · walk_at "go"
      refine ⟨_, .inl hWq, ?_⟩
      walk_at "go"
      try dsimp only
      cases hd2 : decide ((((ks.map mk1).map eK).length : Int) > 1) with
      | true =>
        have h1k : 1 < ks.length := by have := of_decide_eq_true hd2; rw [List.length_map, List.length_map] at this; omega
        walk_at "go"
        refine ⟨_, .inl hWq, ?_⟩
        walk_at "go"
        refine ⟨b, _, v5, rfl, hWb, hv5, by rw [List.length_map, List.length_map]; omega, by rw [List.length_map, List.length_map]; omega, fun r v6 hv6 r0 r1 => ?_⟩
        rw [List.length_map, List.length_map] at r1
        obtain ⟨k, rfl⟩ : ∃ k : Nat, r = k := ⟨r.toNat, by omega⟩
        have hk : k < ks.length := by omega
        have hA := hA.put hWb (o := .lst v6)
        have hTX := hTX.put hWb (o := .lst v6)
        have hWq : put W3 b (.lst v6) q = _ := (put_ne hqb).trans hWq
        have hQ : ∀ v' W', IsBag v' → Le (put (put W3 b (.lst v6)) b (.lst v')) W' → Q (.bl true) W' := fun v' W' hv' l => hQ v' W' hv' (by rw [put_put] at l; exact l)
        have hWb : put W3 b (.lst v6) b = some (.lst v6) := put_same
        clear hO hWx
        generalize put W3 b (.lst v6) = W4 at *
        walk_at "clo"
        walk_at "ix"
        walk_at "ix"
        walk_at "ix"
        walk_at "ix"
        have kl := cut_len (us := ks.map eK) (k := k) (by rw [List.length_map]; exact hk)
        rw [List.length_map] at kl
        refine ⟨by rw [sizeLine_eq]; have := M.k2; omega, ?_⟩
        rw [cut_drop eK ks hk]
        walk_at "go"
        intro z nz
        have MD := M.dropK hk h1k
        refine ⟨z, cs, ts, dropK k ks, anyRow (dropK k ks).length, .non, rfl, .inl ⟨rfl, rfl⟩, hTX.le (Le.refl.put nz), MD, put_same, .mk ⟨rfl, ?_⟩⟩
        rw [put_put]
        have L4 : Le W4 (put W4 z (.ins T.C_Machine (machF cs ts (dropK k ks) (anyRow (dropK k ks).length)))) := Le.refl.put nz
        have hC := asked_of (ns := ns) (hTX.le L4) MD put_same hst hnl hn9 hm6.1 (by omega) (by rw [dropK_len hk]; exact Int.le_trans (pow_up hm6.1 (by omega)) hf5)
        have hA := hA.le L4
        have hWb := L4 _ _ hWb
        have hWq := L4 _ _ hWq
        have hTX := hTX.le L4
        have hQ : ∀ v' W', IsBag v' → Le (put (put W4 z (.ins T.C_Machine (machF cs ts (dropK k ks) (anyRow (dropK k ks).length)))) b (.lst v')) W' → Q (.bl true) W' := fun v' W' hv' l => hQ v' W' hv' ((Le.put2 L4).trans l)
        clear L4 nz
        generalize put W4 z (.ins T.C_Machine (machF cs ts (dropK k ks) (anyRow (dropK k ks).length))) = W5 at *
        walk_at "go"
        refine ⟨_, cs, ts, _, st, ns, m, rfl, hC, ?_⟩
        walk_at "clo"
        have hSl := sales_len (cs := cs) (ks := ks) (st := st) (ns := ns) hm6.1 hf5
        refine lc_pureL (salesOf cs ks st ns m) tiv (fun l => if decide (l.getD k 0 = 0) = true then some (tiv (dropK k l)) else none) rfl (by rw [sizeLine_eq]; omega) True.intro (fun i l D acc P hl nD hP => ?_) fun q1 nq1 => ?_
        · have hll := ((sales_mem hm6.1).mp (mapm hl)).1
          walk_at "go"
          refine ⟨_, atI_ivs (atI_nat (getD_is (by omega))), ?_⟩
          walk_at "go"
          cases hd3 : decide (l.getD k 0 = 0) with
          | true =>
            rw [hd3, if_pos rfl] at hP
            walk_at "go"
            have kl := cut_len (us := l.map Dv.int) (k := k) (by rw [List.length_map]; omega)
            rw [List.length_map] at kl
            refine ⟨by rw [sizeLine_eq]; have := M.k2; omega, _, nD, Le.refl, ?_⟩
            rw [show cut (ivs l) none (some (k : Int)) ++ cut (ivs l) (some ((k : Int) + 1)) none = ivs (dropK k l) from cut_drop Dv.int l (by omega)]
            exact hP
          | false =>
            rw [hd3, if_neg Bool.false_ne_true] at hP
            exact ⟨_, nD, Le.refl, by simpa using hP⟩
        have eS : (salesOf cs ks st ns m).filterMap (fun l => if decide (l.getD k 0 = 0) = true then some (tiv (dropK k l)) else none) = (salesOf cs (dropK k ks) st ns m).map tiv := by
          rw [sales_dropK hm6.1 hk, List.map_map]; exact filter_fm _ _ _
        rw [eS]
        walk_at "go"
        refine ⟨_, put_same, ?_⟩
        walk_at "go"
        refine ⟨⟨nb_tivs 7 _, nb_tivs 7 _⟩, ?_⟩
        rw [decide_eq_true rfl]
        have L5 : Le W5 (put W5 q1 (.lst ((salesOf cs (dropK k ks) st ns m).map tiv))) := Le.refl.put nq1
        have hA := hA.le L5
        have hWb := L5 _ _ hWb
        have hWq := L5 _ _ hWq
        have hTX := hTX.le L5
        have hQ : ∀ v' W', IsBag v' → Le (put (put W5 q1 (.lst ((salesOf cs (dropK k ks) st ns m).map tiv))) b (.lst v')) W' → Q (.bl true) W' := fun v' W' hv' l => hQ v' W' hv' ((Le.put2 L5).trans l)
        clear L5 nq1
        generalize put W5 q1 (.lst ((salesOf cs (dropK k ks) st ns m).map tiv)) = W6 at *
        exact ⟨_, _, _, _, _, _, _, rfl, hv6, hWb, hA, hWq, hQ⟩
      | false => exact ⟨_, _, _, _, _, _, _, rfl, hv5, hWb, hA, hWq, hQ⟩
    rintro τ' W6 ⟨s5, s6, s7, s9, s10, s11, v6, rfl, hv6, hWb, hA, hWq, hQ⟩
    walk_at "go"
    have hst99 : ∀ s ∈ st, 0 ≤ s ∧ s ≤ 99 := fun s hs => by have := hst4 s hs; omega
    have hF : Asked T W6 x cs ts ks st st m := ⟨hA.tb, hA.mx, hA.tl, hA.cl, hA.cu, hA.st, by rw [hst.1]; exact M.tl, hst99, hA.m0, hA.m1, hA.few, hA.kl, hA.kp⟩
    refine ⟨x, cs, ts, ks, st, st, m, rfl, hF, ?_⟩
    walk_at "clo"
    have hFl := sales_len (cs := cs) (ks := ks) (st := st) (ns := st) hm6.1 hf5
    refine lc_pureL (salesOf cs ks st st m) tiv (fun _ => none) rfl (by rw [sizeLine_eq]; omega) True.intro (fun i l D acc P hl nD hP => ?_) fun p9 np9 => ?_
    · have hlm := (sales_mem hm6.1).mp (mapm hl)
      walk_at "go"
      walk_at "ix"
      refine lc_map (l.zip ks) (fun q => .tup [.int q.1, eK q.2]) (fun q => .int (q.1 * q.2.1)) (by unfold zp; rw [List.zip_map, List.map_map]; rfl) (by rw [List.length_zip]; have := M.k2; omega) ⟨True.intro, True.intro⟩ (fun i q D2 acc2 P2 hq nD2 hP2 => ?_) fun p4 np4 => ?_
      · walk_at "go"
        have := M.kp q.2 (List.of_mem_zip (mapm hq)).2
        exact ⟨.inr ⟨by omega, by omega⟩, _, nD2, Le.refl, hP2⟩
      · walk_at "go"
        refine ⟨(l.zip ks).map fun q : Int × (Int × List Int) => q.1 * q.2.1, by rw [put_same, List.map_map]; rfl, ?_⟩
        walk_at "go"
        try dsimp only
        rw [zip_worth, decide_eq_false (show ¬ worth (ks.map (·.1)) l > 0 by have := hlm.2.2.2; omega)]
        walk_at "go"
        exact ⟨_, nD, Le.refl.put np4, by simpa using hP⟩
    rw [show (salesOf cs ks st st m).filterMap (fun _ => (none : Option Dv)) = [] by simp]
    walk_at "go"
    intro p8 np8
    walk_at "go"
    have ne8 := (put_none.mp np8).1
    refine ⟨_, _, ⟨by rw [put_ne (Ne.symm ne8), put_same], put_same⟩, ⟨rfl, rfl⟩, ?_⟩
    walk_at "go"
    have L7 : Le W6 (put (put W6 p9 (.lst [])) p8 (.lst [])) := (Le.refl.put np9).put (put_none.mp np8).2
    have hA := hA.le L7
    have hWb := L7 _ _ hWb
    have hWq := L7 _ _ hWq
    have hQ : ∀ v' W', IsBag v' → Le (put (put (put W6 p9 (.lst [])) p8 (.lst [])) b (.lst v')) W' → Q (.bl true) W' := fun v' W' hv' l => hQ v' W' hv' ((Le.put2 L7).trans l)
    clear L7 np8 np9 ne8
    generalize put (put W6 p9 (.lst [])) p8 (.lst []) = W7 at *
    refine ⟨_, .inl hWq, ?_⟩
    walk_at "go"
    refine ⟨⟨by simp, by rw [List.length_map, List.length_map]; have := M.k1; omega, by rw [List.length_map, List.length_map]; have := M.k2; omega, by simp⟩, ?_⟩
    rw [show ((((ks.map mk1).map eK).length : Nat) : Int).toNat = ks.length by rw [List.length_map, List.length_map]; omega, rep_one]
    walk_at "go"
    refine ⟨⟨nb_ivs 7 _, nb_tivs 7 _⟩, ?_⟩
    rw [decide_eq_true (List.mem_map.mpr ⟨_, zeros_free hm6.1, rfl⟩)]
    walk_at "go"
    refine ⟨st, rfl, ?_⟩
    walk_at "go"
    try dsimp only
    cases hd9 : decide (st.sum > 0) with
    | false => exact hQ v6 _ hv6 (by rw [put_eq hWb]; exact Le.refl)
    | true =>
      have hpos := of_decide_eq_true hd9
      walk_at "go"
      have hsl : st.length ≤ 3 := by have := hst.1; have := M.tl; have := M.c2; omega
      refine ⟨⟨by omega, by rw [List.length_map]; omega⟩, ?_⟩
      rw [Int.toNat_natCast, List.length_map]
      refine lc_pureL (List.range st.length) (fun i => .int (0 + (i : Nat))) (fun j => if decide (st.getD j 0 > 0) = true then some (Dv.int (j : Nat)) else none) rfl (by rw [List.length_range, sizeLine_eq]; omega) True.intro (fun i j D acc P hj nD hP => ?_) fun p5 np5 => ?_
      · have hj2 : j < st.length := List.mem_range.mp (mapm hj)
        rw [Int.zero_add]
        walk_at "go"
        refine ⟨_, atI_ivs (atI_nat (getD_is hj2)), ?_⟩
        walk_at "go"
        try dsimp only
        cases hd5 : decide (st.getD j 0 > 0) with
        | true => rw [hd5, if_pos rfl] at hP; exact ⟨_, nD, Le.refl, hP⟩
        | false => rw [hd5, if_neg Bool.false_ne_true] at hP; exact ⟨_, nD, Le.refl, by simpa using hP⟩
      obtain ⟨k, r, ek, hk, hk0⟩ := first_pos hpos
      rw [ek]
      walk_at "go"
      refine ⟨_, _, .inl put_same, atI_nat (xs := Dv.int (k : Nat) :: r) (j := 0) rfl, ?_⟩
      walk_at "go"
      refine ⟨_, atI_ivs (atI_nat (getD_is hk)), ?_⟩
      walk_at "go"
      have c1 : cut (st.map Dv.int) none (some (k : Int)) = ivs (st.take k) := by rw [cut_to (by rw [List.length_map]; omega)]; exact (List.map_take ..).symm
      have c2 : cut (st.map Dv.int) (some ((k : Int) + 1)) none = ivs (st.drop (k + 1)) := by
        rw [show ((k : Int) + 1) = ((k + 1 : Nat) : Int) by omega, cut_from (by rw [List.length_map]; omega)]; exact (List.map_drop ..).symm
      rw [c1]
      refine ⟨by rw [List.length_map, List.length_take, sizeLine_eq]; simp; omega, ?_⟩
      walk_at "go"
      rw [c2]
      refine ⟨by rw [List.length_append, List.length_map, List.length_map, List.length_take, List.length_drop, sizeLine_eq]; simp; omega, ?_⟩
      rw [show ivs (st.take k) ++ [(fun i j => Dv.int (i - j)) (st.getD k 0) 1] ++ ivs (st.drop (k + 1)) = ivs (decK k st) by unfold decK; rw [ivs_app, ivs_app]; rfl]
      have L8 : Le W7 (put W7 p5 (.lst (Dv.int (k : Nat) :: r))) := Le.refl.put np5
      have hA := hA.le L8
      have hWb := L8 _ _ hWb
      have hQ : ∀ v' W', IsBag v' → Le (put (put W7 p5 (.lst (Dv.int (k : Nat) :: r))) b (.lst v')) W' → Q (.bl true) W' := fun v' W' hv' l => hQ v' W' hv' ((Le.put2 L8).trans l)
      generalize put W7 p5 (.lst (Dv.int (k : Nat) :: r)) = W8 at *
      have hD : Asked T W8 x cs ts ks st (decK k st) m := ⟨hA.tb, hA.mx, hA.tl, hA.cl, hA.cu, hA.st, by rw [decK_len hk, hst.1]; exact M.tl, fun n hn => by
        rcases decK_mem hn with z | z
        · have := hst4 (st.getD k 0) (by have := getD_is hk; exact mapm this)
          omega
        · exact hst99 n z, hA.m0, hA.m1, hA.few, hA.kl, hA.kp⟩
      have hcl : k < cs.length := by have := hst.1; have := M.tl; omega
      have hc1 := (M.up k _ (getD_is hcl)).1
      have hE : salesOf cs ks st (decK k st) m = [] := sales_below hm6.1 (fun k hk => (M.kp k hk).1) (by rw [worth_decK (by rw [hst.1]; exact M.tl) hk]; omega)
      walk_at "go"
      refine ⟨x, cs, ts, ks, st, _, m, rfl, hD, ?_⟩
      walk_at "clo"
      rw [hE]
      refine ⟨⟨rfl, rfl⟩, ?_⟩
      walk_at "go"
      refine ⟨x, cs, ts, ks, st, _, m, 0, rfl, hD, M.k1, ?_⟩
      walk_at "clo"
      rw [hE]
      walk_at "go"
      exact hQ v6 _ hv6 (by rw [put_eq hWb]; exact Le.refl)
end L3
namespace L3
open PySem PySem.Spec PyProof.Rows L2
local macro_rules | `(tactic| walk_at "go") => `(tactic| conv => whnf)
local macro_rules | `(tactic| walk_at "le") => `(tactic| (intro a o e; simp only [put] at e ⊢; grind))
local macro_rules | `(tactic| walk_at "at") => `(tactic| (simp only [put]; grind))
local macro_rules | `(tactic| walk_at "clo") => `(tactic| (refine Clo.mk ?_; conv => whnf))
local macro_rules | `(tactic| walk_at "ix") => `(tactic| (refine ⟨_, rfl, ?_⟩; conv => whnf))
variable {P : Program} {w : World} {K : PySem.W.Frag} {mg : Str → Option Value} {base : Heap}



def sp_law (T : Txt K mg base) : Sq := fun ws G Q _ => ∃ (s : Addr) (ns : List Int), ws = [.ref s] ∧ (G s = some (.lst (ivs ns)) ∨ G s = some (.rol (ivs ns))) ∧ ns.length ≤ 63 ∧ Tb T G ∧ Q (.bl true) G
theorem ok_law (T : Txt K mg base) : Fn P w K mg base CX0 13 T.f_law T.d_law ["script"] (sp_law T) := by
  refine fn_okA T.F_law sc_law (fun ws G Q E h => ?_) (fun cdv A outer s H E hr =>
    (ss_cons (s_for PassesOwn.never rfl (i_range1 (by rfl) T.z_range (a_cons (e_callB (cr_maxA rfl) (by rfl) T.z_max (by decide +kernel) (a_cons e_int (a_cons (e_callB (cr_minA rfl) (by rfl) T.z_min (by decide +kernel) (a_cons (e_callB cr_len (by rfl) T.z_len (by decide +kernel) (a_cons (v_ 0) a_nil)) (a_cons e_int a_nil))) a_nil))) a_nil)) (g_name (i := 1) sc_law.nd) (ss_cons (s_set (i := 2) sc_law.nd (e_call (ok__law_bag T) (hr.mono (by decide)) (by rfl) T.g__law_bag T.F__law_bag.kp T.b__law_bag .nil (fun _ => .nil) pass0 (a_cons (v_ 0) (a_cons (v_ 1) a_nil))))
    (ss_one (s_if (t_not (t_tru (e_callB (cr_allA rfl) (by rfl) T.z_all (by decide +kernel) (a_cons (e_lc rfl sc_law.nd (i_range1 (by rfl) T.z_range (a_cons e_int a_nil)) (m := (.one 3)) (blkOk_by (own := [("turn", 3)]) (N := ["script", "lap", "bag", "turn"]) (sc := defScope s_law) (by decide +kernel)) (by decide) (fun _ _ _ _ _ => (pg_name (i := 3) sc_law.nd rfl (Or.inl rfl))) (fun _ _ _ _ _ => ts_nil) (fun _ _ _ _ _ => (e_call (ok__law_right T) (hr.mono (by decide)) (by rfl) T.g__law_right T.F__law_right.kp T.b__law_right .nil (fun _ => .nil) pass0 (a_cons (v_ 2) a_nil)))) a_nil)))) (ss_one (s_ret e_bl)) ss_nil))))
    (ss_one (s_ret e_bl))))
    fun ws G Q E mQ mE h => ?_
  · obtain ⟨s, ns, rfl, _⟩ := h; rfl
  · obtain ⟨s, ns, rfl, hs, hl, hT, h⟩ := h
    walk_at "go"
    refine ⟨_, hs, ?_⟩
    walk_at "go"
    rw [List.length_map]
    refine ⟨⟨by omega, by omega⟩, ?_⟩
    have hn : (max 2 (min (ns.length : Int) 3)).toNat ≤ 63 := by omega
    generalize (max 2 (min (ns.length : Int) 3)).toNat = n at *
    walk_at "go"
    refine ⟨fun i τ G' => ∃ a c d, τ = [some (.ref s), a, c, d] ∧ G' = G, ⟨_, _, LeS.refl, Le.refl, _, _, _, rfl, rfl⟩, fun i τ G' _ _ => True.intro, fun i w τ G' hw ⟨a, c, d, e1, e2⟩ => ?_, fun τ G' ⟨a, c, d, e1, e2⟩ => ?_⟩
    · subst e1; subst e2
      have hi : i < n := by
        have := (List.getElem?_eq_some_iff.mp hw).1
        rwa [rng_length] at this
      rw [rng_get hi, Int.zero_add] at hw
      cases hw
      walk_at "go"
      refine ⟨s, ns, i, rfl, hs, hl, by omega, fun b v hv nb => ?_⟩
      walk_at "clo"
      refine ⟨⟨by omega, by omega⟩, ?_⟩
      walk_at "go"
      refine lc_go (by rw [rng_length, sizeLine_eq]; decide) fun D nD => ⟨fun j acc G'' => ∃ v', IsBag v' ∧ G'' = put G' b (.lst v') ∧ acc = (List.replicate j true).map Dv.bl, ⟨v, hv, rfl, rfl⟩, fun j acc G'' ⟨v', hv', e, _⟩ => ?_, fun j w acc G'' hw ⟨v', hv', e, ea⟩ => ?_, fun acc G'' ⟨v', hv', e, ea⟩ => ?_⟩
      · subst e
        exact ⟨True.intro, by simp only [put] at nD ⊢; grind⟩
      · subst e; subst ea
        walk_at "go"
        have nDb : D ≠ b := (put_none.mp nD).1
        have nDG : G' D = none := (put_none.mp nD).2
        refine ⟨b, v', rfl, by rw [put_ne (Ne.symm nDb), put_same], hv', hT.le ((Le.refl.put nb).put nDG), fun v2 hv2 => .mk ⟨put G' b (.lst v2), put_none.mpr ⟨nDb, nDG⟩, by walk_at "le", v2, hv2, rfl, ?_⟩⟩
        rw [List.replicate_succ', List.map_append]; rfl
      · subst e; subst ea
        walk_at "go"
        refine ⟨_, put_same, ?_⟩
        rw [rng_length, all_rep]
        walk_at "go"
        refine ⟨_, G', LeS.refl, ?_, _, _, _, rfl, rfl⟩
        exact (Le.refl.put nb).put (put_none.mp nD).2
    · subst e1; subst e2
      walk_at "go"
      exact h
end L3
namespace L3
open PySem PySem.Spec PyProof.Rows L2
theorem binds_of {K : PySem.W.Frag} {fd : FuncData} {ps : List Str} (h : ∀ us : List Value, us.length = ps.length → bindArgs fd ⟨us, []⟩ = pure (ps.zip us)) : Binds K fd ps [] := .all h
/-- the last parameters left out: their defaults -/
theorem binds_dfl {K : PySem.W.Frag} {T : Addr} {tc : Value} {td : Option Addr} {its : List Value} {tn : Nat} {ts : Array (Option Value)} {fd : FuncData} {ps : List Str} {n : Nat} (lT : K.lookup T = some ⟨tc, td, .seq its.toArray tn, ts⟩) (hn : n + its.length = ps.length)
    (h : ∀ us : List Value, us.length = n → ∃ k, bindArgs fd ⟨us, []⟩ = seqItems? (.ref T) >>= k ∧ k (some its.toArray) = pure (ps.zip (us ++ its))) : Binds K fd ps its := fun s us X hl => by
  obtain ⟨k, e1, e2⟩ := h us (by rw [List.length_append] at hl; omega)
  refine BindsTo.of_looks fun M => ?_
  rw [e1]
  exact looks_items X lT rfl (.of_pure e2)
/-- all written, though there are defaults -/
theorem binds_full {K : PySem.W.Frag} {T : Addr} {tc : Value} {td : Option Addr} {its : List Value} {tn : Nat} {ts : Array (Option Value)} {fd : FuncData} {ps : List Str} (lT : K.lookup T = some ⟨tc, td, .seq its.toArray tn, ts⟩)
    (h : ∀ us : List Value, us.length = ps.length → ∃ k, bindArgs fd ⟨us, []⟩ = seqItems? (.ref T) >>= k ∧ k (some its.toArray) = pure (ps.zip us)) : Binds K fd ps [] := fun s us X hl => by
  rw [List.append_nil] at hl ⊢
  obtain ⟨k, e1, e2⟩ := h us hl
  refine BindsTo.of_looks fun M => ?_
  rw [e1]
  exact looks_items X lT rfl (.of_pure e2)
theorem mem_look {a : Addr} {o : Obj} : ∀ {l : List (Addr × Obj)}, l.lookup a = some o → (a, o) ∈ l
  | [], h => by simp at h
  | (b, u) :: l, h => by
    rw [List.lookup_cons] at h
    cases e : a == b with
    | true => rw [e] at h; cases h; rw [beq_iff_eq.mp e]; simp
    | false => rw [e] at h; exact List.mem_cons_of_mem _ (mem_look h)
theorem mem_tabsK {K : PySem.W.Frag} {c P : Addr} (e : PySem.W.codeHdIn K c P = true) : P ∈ tabsK K := by
  unfold PySem.W.codeHdIn at e
  split at e
  · rename_i vs _ hk
    simp only [Bool.and_eq_true] at e
    obtain ⟨⟨⟨⟨⟨e1, _⟩, _⟩, _⟩, _⟩, _⟩ := e
    split at e1
    · rename_i P' h11
      have hP : P' = P := beq_iff_eq.mp e1
      subst hP
      refine List.mem_filterMap.mpr ⟨_, mem_look hk, ?_⟩
      show (match (vs[11]? : Option Value) with | some (.ref P) => some P | _ => none) = _
      rw [h11]
    · cases e1
  · cases e
def noListK (K : PySem.W.Frag) : Bool := K.all fun p => match p.2.cls with | .type "list" => false | _ => true
theorem noList {K : PySem.W.Frag} (h : noListK K = true) {a : Addr} {o : Obj} (l : K.lookup a = some o) : o.cls ≠ .type "list" := fun z => by
  have := List.all_eq_true.mp h _ (mem_look l)
  simp only [z] at this
  cases this
theorem all_mk {l : PySem.W.OpenLaw} {w : World} {K : PySem.W.Frag} {h : Heap} {mg : Str → Option Value} {fa : Addr} (X : K.In h) (G : h.Ns mainGlobals mg) (hfa : mg "law" = some (.ref fa))
    {C_Machine : Addr}
    {f_is_whole : Addr} {od_is_whole an_is_whole : Option Addr} {sl_is_whole : Array (Option Value)} {oc_is_whole kV_is_whole dc_is_whole pm_is_whole ct_is_whole : Value}
    {cd_is_whole : Value}
    {f_is_number : Addr} {od_is_number an_is_number : Option Addr} {sl_is_number : Array (Option Value)} {oc_is_number kV_is_number dc_is_number pm_is_number ct_is_number : Value}
    {T_is_number : Addr} {tc_is_number : Value} {td_is_number : Option Addr} {tn_is_number : Nat} {ts_is_number : Array (Option Value)}
    {cd_is_number : Value}
    {u0_is_number : Tok}
    {f_is_between : Addr} {od_is_between an_is_between : Option Addr} {sl_is_between : Array (Option Value)} {oc_is_between kV_is_between dc_is_between pm_is_between ct_is_between : Value}
    {cd_is_between : Value}
    {f_is_tuple_of : Addr} {od_is_tuple_of an_is_tuple_of : Option Addr} {sl_is_tuple_of : Array (Option Value)} {oc_is_tuple_of kV_is_tuple_of dc_is_tuple_of pm_is_tuple_of ct_is_tuple_of : Value}
    {cd_is_tuple_of : Value}
    {f_is_row : Addr} {od_is_row an_is_row : Option Addr} {sl_is_row : Array (Option Value)} {oc_is_row kV_is_row dc_is_row pm_is_row ct_is_row : Value}
    {cd_is_row : Value}
    {f_first_wrong : Addr} {od_first_wrong an_first_wrong : Option Addr} {sl_first_wrong : Array (Option Value)} {oc_first_wrong kV_first_wrong dc_first_wrong pm_first_wrong ct_first_wrong : Value}
    {cd_first_wrong : Value}
    {f_worth_of : Addr} {od_worth_of an_worth_of : Option Addr} {sl_worth_of : Array (Option Value)} {oc_worth_of kV_worth_of dc_worth_of pm_worth_of ct_worth_of : Value}
    {cd_worth_of : Value}
    {f_are_numbers : Addr} {od_are_numbers an_are_numbers : Option Addr} {sl_are_numbers : Array (Option Value)} {oc_are_numbers kV_are_numbers dc_are_numbers pm_are_numbers ct_are_numbers : Value}
    {T_are_numbers : Addr} {tc_are_numbers : Value} {td_are_numbers : Option Addr} {tn_are_numbers : Nat} {ts_are_numbers : Array (Option Value)}
    {cd_are_numbers : Value}
    {f_is_coin_behind : Addr} {od_is_coin_behind an_is_coin_behind : Option Addr} {sl_is_coin_behind : Array (Option Value)} {oc_is_coin_behind kV_is_coin_behind dc_is_coin_behind pm_is_coin_behind ct_is_coin_behind : Value}
    {cd_is_coin_behind : Value}
    {f_wrong_coin : Addr} {od_wrong_coin an_wrong_coin : Option Addr} {sl_wrong_coin : Array (Option Value)} {oc_wrong_coin kV_wrong_coin dc_wrong_coin pm_wrong_coin ct_wrong_coin : Value}
    {cd_wrong_coin : Value}
    {f_wrong_tube : Addr} {od_wrong_tube an_wrong_tube : Option Addr} {sl_wrong_tube : Array (Option Value)} {oc_wrong_tube kV_wrong_tube dc_wrong_tube pm_wrong_tube ct_wrong_tube : Value}
    {c_wrong_tube P_wrong_tube : Addr}
    {f_is_kind_behind : Addr} {od_is_kind_behind an_is_kind_behind : Option Addr} {sl_is_kind_behind : Array (Option Value)} {oc_is_kind_behind kV_is_kind_behind dc_is_kind_behind pm_is_kind_behind ct_is_kind_behind : Value}
    {cd_is_kind_behind : Value}
    {f_wrong_kind : Addr} {od_wrong_kind an_wrong_kind : Option Addr} {sl_wrong_kind : Array (Option Value)} {oc_wrong_kind kV_wrong_kind dc_wrong_kind pm_wrong_kind ct_wrong_kind : Value}
    {c_wrong_kind P_wrong_kind : Addr}
    {f_is_pair : Addr} {od_is_pair an_is_pair : Option Addr} {sl_is_pair : Array (Option Value)} {oc_is_pair kV_is_pair dc_is_pair pm_is_pair ct_is_pair : Value}
    {cd_is_pair : Value}
    {f_is_stop_row : Addr} {od_is_stop_row an_is_stop_row : Option Addr} {sl_is_stop_row : Array (Option Value)} {oc_is_stop_row kV_is_stop_row dc_is_stop_row pm_is_stop_row ct_is_stop_row : Value}
    {cd_is_stop_row : Value}
    {f_wrong_stop : Addr} {od_wrong_stop an_wrong_stop : Option Addr} {sl_wrong_stop : Array (Option Value)} {oc_wrong_stop kV_wrong_stop dc_wrong_stop pm_wrong_stop ct_wrong_stop : Value}
    {c_wrong_stop P_wrong_stop : Addr}
    {f_check_coins : Addr} {od_check_coins an_check_coins : Option Addr} {sl_check_coins : Array (Option Value)} {oc_check_coins kV_check_coins dc_check_coins pm_check_coins ct_check_coins : Value}
    {cd_check_coins : Value}
    {f_check_tubes : Addr} {od_check_tubes an_check_tubes : Option Addr} {sl_check_tubes : Array (Option Value)} {oc_check_tubes kV_check_tubes dc_check_tubes pm_check_tubes ct_check_tubes : Value}
    {cd_check_tubes : Value}
    {f_check_kinds : Addr} {od_check_kinds an_check_kinds : Option Addr} {sl_check_kinds : Array (Option Value)} {oc_check_kinds kV_check_kinds dc_check_kinds pm_check_kinds ct_check_kinds : Value}
    {cd_check_kinds : Value}
    {f_check_pattern : Addr} {od_check_pattern an_check_pattern : Option Addr} {sl_check_pattern : Array (Option Value)} {oc_check_pattern kV_check_pattern dc_check_pattern pm_check_pattern ct_check_pattern : Value}
    {cd_check_pattern : Value}
    {f_any_row : Addr} {od_any_row an_any_row : Option Addr} {sl_any_row : Array (Option Value)} {oc_any_row kV_any_row dc_any_row pm_any_row ct_any_row : Value}
    {cd_any_row : Value}
    {f_check_machine : Addr} {od_check_machine an_check_machine : Option Addr} {sl_check_machine : Array (Option Value)} {oc_check_machine kV_check_machine dc_check_machine pm_check_machine ct_check_machine : Value}
    {cd_check_machine : Value}
    {f_is_stock : Addr} {od_is_stock an_is_stock : Option Addr} {sl_is_stock : Array (Option Value)} {oc_is_stock kV_is_stock dc_is_stock pm_is_stock ct_is_stock : Value}
    {cd_is_stock : Value}
    {f_check_stock : Addr} {od_check_stock an_check_stock : Option Addr} {sl_check_stock : Array (Option Value)} {oc_check_stock kV_check_stock dc_check_stock pm_check_stock ct_check_stock : Value}
    {cd_check_stock : Value}
    {f_is_kind : Addr} {od_is_kind an_is_kind : Option Addr} {sl_is_kind : Array (Option Value)} {oc_is_kind kV_is_kind dc_is_kind pm_is_kind ct_is_kind : Value}
    {cd_is_kind : Value}
    {f_check_kind : Addr} {od_check_kind an_check_kind : Option Addr} {sl_check_kind : Array (Option Value)} {oc_check_kind kV_check_kind dc_check_kind pm_check_kind ct_check_kind : Value}
    {cd_check_kind : Value}
    {f_wrong_number : Addr} {od_wrong_number an_wrong_number : Option Addr} {sl_wrong_number : Array (Option Value)} {oc_wrong_number kV_wrong_number dc_wrong_number pm_wrong_number ct_wrong_number : Value}
    {c_wrong_number P_wrong_number : Addr}
    {f_check_count : Addr} {od_check_count an_check_count : Option Addr} {sl_check_count : Array (Option Value)} {oc_check_count kV_check_count dc_check_count pm_check_count ct_check_count : Value}
    {cd_check_count : Value}
    {f_is_most : Addr} {od_is_most an_is_most : Option Addr} {sl_is_most : Array (Option Value)} {oc_is_most kV_is_most dc_is_most pm_is_most ct_is_most : Value}
    {cd_is_most : Value}
    {f_lots_sold : Addr} {od_lots_sold an_lots_sold : Option Addr} {sl_lots_sold : Array (Option Value)} {oc_lots_sold kV_lots_sold dc_lots_sold pm_lots_sold ct_lots_sold : Value}
    {cd_lots_sold : Value}
    {f_sales_by : Addr} {od_sales_by an_sales_by : Option Addr} {sl_sales_by : Array (Option Value)} {oc_sales_by kV_sales_by dc_sales_by pm_sales_by ct_sales_by : Value}
    {cd_sales_by : Value}
    {f_check_counted : Addr} {od_check_counted an_check_counted : Option Addr} {sl_check_counted : Array (Option Value)} {oc_check_counted kV_check_counted dc_check_counted pm_check_counted ct_check_counted : Value}
    {cd_check_counted : Value}
    {f_sales : Addr} {od_sales an_sales : Option Addr} {sl_sales : Array (Option Value)} {oc_sales kV_sales dc_sales pm_sales ct_sales : Value}
    {cd_sales : Value}
    {f_worths : Addr} {od_worths an_worths : Option Addr} {sl_worths : Array (Option Value)} {oc_worths kV_worths dc_worths pm_worths ct_worths : Value}
    {cd_worths : Value}
    {f__law_bag : Addr} {od__law_bag an__law_bag : Option Addr} {sl__law_bag : Array (Option Value)} {oc__law_bag kV__law_bag dc__law_bag pm__law_bag ct__law_bag : Value}
    {cd__law_bag : Value}
    {f__law_take : Addr} {od__law_take an__law_take : Option Addr} {sl__law_take : Array (Option Value)} {oc__law_take kV__law_take dc__law_take pm__law_take ct__law_take : Value}
    {cd__law_take : Value}
    {f__law_pull : Addr} {od__law_pull an__law_pull : Option Addr} {sl__law_pull : Array (Option Value)} {oc__law_pull kV__law_pull dc__law_pull pm__law_pull ct__law_pull : Value}
    {cd__law_pull : Value}
    {f__law_coins : Addr} {od__law_coins an__law_coins : Option Addr} {sl__law_coins : Array (Option Value)} {oc__law_coins kV__law_coins dc__law_coins pm__law_coins ct__law_coins : Value}
    {cd__law_coins : Value}
    {f__law_worth : Addr} {od__law_worth an__law_worth : Option Addr} {sl__law_worth : Array (Option Value)} {oc__law_worth kV__law_worth dc__law_worth pm__law_worth ct__law_worth : Value}
    {cd__law_worth : Value}
    {f__law_parts : Addr} {od__law_parts an__law_parts : Option Addr} {sl__law_parts : Array (Option Value)} {oc__law_parts kV__law_parts dc__law_parts pm__law_parts ct__law_parts : Value}
    {cd__law_parts : Value}
    {f__law_machine : Addr} {od__law_machine an__law_machine : Option Addr} {sl__law_machine : Array (Option Value)} {oc__law_machine kV__law_machine dc__law_machine pm__law_machine ct__law_machine : Value}
    {cd__law_machine : Value}
    {f__law_stock : Addr} {od__law_stock an__law_stock : Option Addr} {sl__law_stock : Array (Option Value)} {oc__law_stock kV__law_stock dc__law_stock pm__law_stock ct__law_stock : Value}
    {cd__law_stock : Value}
    {f__law_sales : Addr} {od__law_sales an__law_sales : Option Addr} {sl__law_sales : Array (Option Value)} {oc__law_sales kV__law_sales dc__law_sales pm__law_sales ct__law_sales : Value}
    {cd__law_sales : Value}
    {f__law_count : Addr} {od__law_count an__law_count : Option Addr} {sl__law_count : Array (Option Value)} {oc__law_count kV__law_count dc__law_count pm__law_count ct__law_count : Value}
    {cd__law_count : Value}
    {f__law_right : Addr} {od__law_right an__law_right : Option Addr} {sl__law_right : Array (Option Value)} {oc__law_right kV__law_right dc__law_right pm__law_right ct__law_right : Value}
    {cd__law_right : Value}
    {f_law : Addr} {od_law an_law : Option Addr} {sl_law : Array (Option Value)} {oc_law kV_law dc_law pm_law ct_law : Value}
    {cd_law : Value}
    {f_Machine___init__ : Addr} {od_Machine___init__ an_Machine___init__ : Option Addr} {sl_Machine___init__ : Array (Option Value)} {oc_Machine___init__ kV_Machine___init__ dc_Machine___init__ pm_Machine___init__ ct_Machine___init__ : Value}
    {T_Machine___init__ : Addr} {tc_Machine___init__ : Value} {td_Machine___init__ : Option Addr} {tn_Machine___init__ : Nat} {ts_Machine___init__ : Array (Option Value)}
    {cd_Machine___init__ : Value}
    {tk_MOST_COINS : Tok}
    {tk_MOST_VALUE : Tok}
    {tk_MOST_IN_TUBE : Tok}
    {tk_MOST_KINDS : Tok}
    {tk_MOST_PRICE : Tok}
    {tk_MOST_PAID : Tok}
    {tk_MOST_STOPS : Tok}
    {tk_MOST_COUNTED : Tok}
    {tk_MOST_CUSTOMERS : Tok}
    (aC_Machine : PySem.W.nsIn K mainGlobals "Machine" = some (some (.ref C_Machine)))
    (a_is_whole : PySem.W.nsIn K mainGlobals "is_whole" = some (some (.ref f_is_whole)))
    (l_is_whole : K.lookup f_is_whole = some ⟨oc_is_whole, od_is_whole, .func (PySem.W.fnOf "is_whole" "is_whole" (defArgs s_is_whole) (defBody s_is_whole) (defScope s_is_whole) .none kV_is_whole dc_is_whole pm_is_whole an_is_whole cd_is_whole ct_is_whole), sl_is_whole⟩)
    (c_is_whole : PySem.W.codeIn K cd_is_whole "is_whole" = true)
    (k_is_whole : PySem.W.keepIn K (.ref f_is_whole) = true)
    (a_is_number : PySem.W.nsIn K mainGlobals "is_number" = some (some (.ref f_is_number)))
    (l_is_number : K.lookup f_is_number = some ⟨oc_is_number, od_is_number, .func (PySem.W.fnOf "is_number" "is_number" (defArgs s_is_number) (defBody s_is_number) (defScope s_is_number) (.ref T_is_number) kV_is_number dc_is_number pm_is_number an_is_number cd_is_number ct_is_number), sl_is_number⟩)
    (c_is_number : PySem.W.codeIn K cd_is_number "is_number" = true)
    (k_is_number : PySem.W.keepIn K (.ref f_is_number) = true)
    (t_is_number : K.lookup T_is_number = some ⟨tc_is_number, td_is_number, .seq #[.int 0 u0_is_number, .none] tn_is_number, ts_is_number⟩)
    (a_is_between : PySem.W.nsIn K mainGlobals "is_between" = some (some (.ref f_is_between)))
    (l_is_between : K.lookup f_is_between = some ⟨oc_is_between, od_is_between, .func (PySem.W.fnOf "is_between" "is_between" (defArgs s_is_between) (defBody s_is_between) (defScope s_is_between) .none kV_is_between dc_is_between pm_is_between an_is_between cd_is_between ct_is_between), sl_is_between⟩)
    (c_is_between : PySem.W.codeIn K cd_is_between "is_between" = true)
    (k_is_between : PySem.W.keepIn K (.ref f_is_between) = true)
    (a_is_tuple_of : PySem.W.nsIn K mainGlobals "is_tuple_of" = some (some (.ref f_is_tuple_of)))
    (l_is_tuple_of : K.lookup f_is_tuple_of = some ⟨oc_is_tuple_of, od_is_tuple_of, .func (PySem.W.fnOf "is_tuple_of" "is_tuple_of" (defArgs s_is_tuple_of) (defBody s_is_tuple_of) (defScope s_is_tuple_of) .none kV_is_tuple_of dc_is_tuple_of pm_is_tuple_of an_is_tuple_of cd_is_tuple_of ct_is_tuple_of), sl_is_tuple_of⟩)
    (c_is_tuple_of : PySem.W.codeIn K cd_is_tuple_of "is_tuple_of" = true)
    (k_is_tuple_of : PySem.W.keepIn K (.ref f_is_tuple_of) = true)
    (a_is_row : PySem.W.nsIn K mainGlobals "is_row" = some (some (.ref f_is_row)))
    (l_is_row : K.lookup f_is_row = some ⟨oc_is_row, od_is_row, .func (PySem.W.fnOf "is_row" "is_row" (defArgs s_is_row) (defBody s_is_row) (defScope s_is_row) .none kV_is_row dc_is_row pm_is_row an_is_row cd_is_row ct_is_row), sl_is_row⟩)
    (c_is_row : PySem.W.codeIn K cd_is_row "is_row" = true)
    (k_is_row : PySem.W.keepIn K (.ref f_is_row) = true)
    (a_first_wrong : PySem.W.nsIn K mainGlobals "first_wrong" = some (some (.ref f_first_wrong)))
    (l_first_wrong : K.lookup f_first_wrong = some ⟨oc_first_wrong, od_first_wrong, .func (PySem.W.fnOf "first_wrong" "first_wrong" (defArgs s_first_wrong) (defBody s_first_wrong) (defScope s_first_wrong) .none kV_first_wrong dc_first_wrong pm_first_wrong an_first_wrong cd_first_wrong ct_first_wrong), sl_first_wrong⟩)
    (c_first_wrong : PySem.W.codeIn K cd_first_wrong "first_wrong" = true)
    (k_first_wrong : PySem.W.keepIn K (.ref f_first_wrong) = true)
    (a_worth_of : PySem.W.nsIn K mainGlobals "worth_of" = some (some (.ref f_worth_of)))
    (l_worth_of : K.lookup f_worth_of = some ⟨oc_worth_of, od_worth_of, .func (PySem.W.fnOf "worth_of" "worth_of" (defArgs s_worth_of) (defBody s_worth_of) (defScope s_worth_of) .none kV_worth_of dc_worth_of pm_worth_of an_worth_of cd_worth_of ct_worth_of), sl_worth_of⟩)
    (c_worth_of : PySem.W.codeIn K cd_worth_of "worth_of" = true)
    (k_worth_of : PySem.W.keepIn K (.ref f_worth_of) = true)
    (a_are_numbers : PySem.W.nsIn K mainGlobals "are_numbers" = some (some (.ref f_are_numbers)))
    (l_are_numbers : K.lookup f_are_numbers = some ⟨oc_are_numbers, od_are_numbers, .func (PySem.W.fnOf "are_numbers" "are_numbers" (defArgs s_are_numbers) (defBody s_are_numbers) (defScope s_are_numbers) (.ref T_are_numbers) kV_are_numbers dc_are_numbers pm_are_numbers an_are_numbers cd_are_numbers ct_are_numbers), sl_are_numbers⟩)
    (c_are_numbers : PySem.W.codeIn K cd_are_numbers "are_numbers" = true)
    (k_are_numbers : PySem.W.keepIn K (.ref f_are_numbers) = true)
    (t_are_numbers : K.lookup T_are_numbers = some ⟨tc_are_numbers, td_are_numbers, .seq #[.none] tn_are_numbers, ts_are_numbers⟩)
    (a_is_coin_behind : PySem.W.nsIn K mainGlobals "is_coin_behind" = some (some (.ref f_is_coin_behind)))
    (l_is_coin_behind : K.lookup f_is_coin_behind = some ⟨oc_is_coin_behind, od_is_coin_behind, .func (PySem.W.fnOf "is_coin_behind" "is_coin_behind" (defArgs s_is_coin_behind) (defBody s_is_coin_behind) (defScope s_is_coin_behind) .none kV_is_coin_behind dc_is_coin_behind pm_is_coin_behind an_is_coin_behind cd_is_coin_behind ct_is_coin_behind), sl_is_coin_behind⟩)
    (c_is_coin_behind : PySem.W.codeIn K cd_is_coin_behind "is_coin_behind" = true)
    (k_is_coin_behind : PySem.W.keepIn K (.ref f_is_coin_behind) = true)
    (a_wrong_coin : PySem.W.nsIn K mainGlobals "wrong_coin" = some (some (.ref f_wrong_coin)))
    (l_wrong_coin : K.lookup f_wrong_coin = some ⟨oc_wrong_coin, od_wrong_coin, .func (PySem.W.fnOf "wrong_coin" "wrong_coin" (defArgs s_wrong_coin) (defBody s_wrong_coin) (defScope s_wrong_coin) .none kV_wrong_coin dc_wrong_coin pm_wrong_coin an_wrong_coin cd_wrong_coin ct_wrong_coin), sl_wrong_coin⟩)
    (c_wrong_coin : PySem.W.codeIn K cd_wrong_coin "wrong_coin" = true)
    (k_wrong_coin : PySem.W.keepIn K (.ref f_wrong_coin) = true)
    (a_wrong_tube : PySem.W.nsIn K mainGlobals "wrong_tube" = some (some (.ref f_wrong_tube)))
    (l_wrong_tube : K.lookup f_wrong_tube = some ⟨oc_wrong_tube, od_wrong_tube, .func (PySem.W.fnOf "wrong_tube" "wrong_tube" (defArgs s_wrong_tube) (defBody s_wrong_tube) (defScope s_wrong_tube) .none kV_wrong_tube dc_wrong_tube pm_wrong_tube an_wrong_tube (.ref c_wrong_tube) ct_wrong_tube), sl_wrong_tube⟩)
    (cc_wrong_tube : PySem.W.codeIn K (.ref c_wrong_tube) "wrong_tube" = true)
    (k_wrong_tube : PySem.W.keepIn K (.ref f_wrong_tube) = true)
    (h_wrong_tube : PySem.W.codeHdIn K c_wrong_tube P_wrong_tube = true)
    (n_wrong_tube : K.lookup P_wrong_tube = none)
    (e_wrong_tube : h.get? P_wrong_tube = some { cls := .none, data := .fields #[] })
    (a_is_kind_behind : PySem.W.nsIn K mainGlobals "is_kind_behind" = some (some (.ref f_is_kind_behind)))
    (l_is_kind_behind : K.lookup f_is_kind_behind = some ⟨oc_is_kind_behind, od_is_kind_behind, .func (PySem.W.fnOf "is_kind_behind" "is_kind_behind" (defArgs s_is_kind_behind) (defBody s_is_kind_behind) (defScope s_is_kind_behind) .none kV_is_kind_behind dc_is_kind_behind pm_is_kind_behind an_is_kind_behind cd_is_kind_behind ct_is_kind_behind), sl_is_kind_behind⟩)
    (c_is_kind_behind : PySem.W.codeIn K cd_is_kind_behind "is_kind_behind" = true)
    (k_is_kind_behind : PySem.W.keepIn K (.ref f_is_kind_behind) = true)
    (a_wrong_kind : PySem.W.nsIn K mainGlobals "wrong_kind" = some (some (.ref f_wrong_kind)))
    (l_wrong_kind : K.lookup f_wrong_kind = some ⟨oc_wrong_kind, od_wrong_kind, .func (PySem.W.fnOf "wrong_kind" "wrong_kind" (defArgs s_wrong_kind) (defBody s_wrong_kind) (defScope s_wrong_kind) .none kV_wrong_kind dc_wrong_kind pm_wrong_kind an_wrong_kind (.ref c_wrong_kind) ct_wrong_kind), sl_wrong_kind⟩)
    (cc_wrong_kind : PySem.W.codeIn K (.ref c_wrong_kind) "wrong_kind" = true)
    (k_wrong_kind : PySem.W.keepIn K (.ref f_wrong_kind) = true)
    (h_wrong_kind : PySem.W.codeHdIn K c_wrong_kind P_wrong_kind = true)
    (n_wrong_kind : K.lookup P_wrong_kind = none)
    (e_wrong_kind : h.get? P_wrong_kind = some { cls := .none, data := .fields #[] })
    (a_is_pair : PySem.W.nsIn K mainGlobals "is_pair" = some (some (.ref f_is_pair)))
    (l_is_pair : K.lookup f_is_pair = some ⟨oc_is_pair, od_is_pair, .func (PySem.W.fnOf "is_pair" "is_pair" (defArgs s_is_pair) (defBody s_is_pair) (defScope s_is_pair) .none kV_is_pair dc_is_pair pm_is_pair an_is_pair cd_is_pair ct_is_pair), sl_is_pair⟩)
    (c_is_pair : PySem.W.codeIn K cd_is_pair "is_pair" = true)
    (k_is_pair : PySem.W.keepIn K (.ref f_is_pair) = true)
    (a_is_stop_row : PySem.W.nsIn K mainGlobals "is_stop_row" = some (some (.ref f_is_stop_row)))
    (l_is_stop_row : K.lookup f_is_stop_row = some ⟨oc_is_stop_row, od_is_stop_row, .func (PySem.W.fnOf "is_stop_row" "is_stop_row" (defArgs s_is_stop_row) (defBody s_is_stop_row) (defScope s_is_stop_row) .none kV_is_stop_row dc_is_stop_row pm_is_stop_row an_is_stop_row cd_is_stop_row ct_is_stop_row), sl_is_stop_row⟩)
    (c_is_stop_row : PySem.W.codeIn K cd_is_stop_row "is_stop_row" = true)
    (k_is_stop_row : PySem.W.keepIn K (.ref f_is_stop_row) = true)
    (a_wrong_stop : PySem.W.nsIn K mainGlobals "wrong_stop" = some (some (.ref f_wrong_stop)))
    (l_wrong_stop : K.lookup f_wrong_stop = some ⟨oc_wrong_stop, od_wrong_stop, .func (PySem.W.fnOf "wrong_stop" "wrong_stop" (defArgs s_wrong_stop) (defBody s_wrong_stop) (defScope s_wrong_stop) .none kV_wrong_stop dc_wrong_stop pm_wrong_stop an_wrong_stop (.ref c_wrong_stop) ct_wrong_stop), sl_wrong_stop⟩)
    (cc_wrong_stop : PySem.W.codeIn K (.ref c_wrong_stop) "wrong_stop" = true)
    (k_wrong_stop : PySem.W.keepIn K (.ref f_wrong_stop) = true)
    (h_wrong_stop : PySem.W.codeHdIn K c_wrong_stop P_wrong_stop = true)
    (n_wrong_stop : K.lookup P_wrong_stop = none)
    (e_wrong_stop : h.get? P_wrong_stop = some { cls := .none, data := .fields #[] })
    (a_check_coins : PySem.W.nsIn K mainGlobals "check_coins" = some (some (.ref f_check_coins)))
    (l_check_coins : K.lookup f_check_coins = some ⟨oc_check_coins, od_check_coins, .func (PySem.W.fnOf "check_coins" "check_coins" (defArgs s_check_coins) (defBody s_check_coins) (defScope s_check_coins) .none kV_check_coins dc_check_coins pm_check_coins an_check_coins cd_check_coins ct_check_coins), sl_check_coins⟩)
    (c_check_coins : PySem.W.codeIn K cd_check_coins "check_coins" = true)
    (k_check_coins : PySem.W.keepIn K (.ref f_check_coins) = true)
    (a_check_tubes : PySem.W.nsIn K mainGlobals "check_tubes" = some (some (.ref f_check_tubes)))
    (l_check_tubes : K.lookup f_check_tubes = some ⟨oc_check_tubes, od_check_tubes, .func (PySem.W.fnOf "check_tubes" "check_tubes" (defArgs s_check_tubes) (defBody s_check_tubes) (defScope s_check_tubes) .none kV_check_tubes dc_check_tubes pm_check_tubes an_check_tubes cd_check_tubes ct_check_tubes), sl_check_tubes⟩)
    (c_check_tubes : PySem.W.codeIn K cd_check_tubes "check_tubes" = true)
    (k_check_tubes : PySem.W.keepIn K (.ref f_check_tubes) = true)
    (a_check_kinds : PySem.W.nsIn K mainGlobals "check_kinds" = some (some (.ref f_check_kinds)))
    (l_check_kinds : K.lookup f_check_kinds = some ⟨oc_check_kinds, od_check_kinds, .func (PySem.W.fnOf "check_kinds" "check_kinds" (defArgs s_check_kinds) (defBody s_check_kinds) (defScope s_check_kinds) .none kV_check_kinds dc_check_kinds pm_check_kinds an_check_kinds cd_check_kinds ct_check_kinds), sl_check_kinds⟩)
    (c_check_kinds : PySem.W.codeIn K cd_check_kinds "check_kinds" = true)
    (k_check_kinds : PySem.W.keepIn K (.ref f_check_kinds) = true)
    (a_check_pattern : PySem.W.nsIn K mainGlobals "check_pattern" = some (some (.ref f_check_pattern)))
    (l_check_pattern : K.lookup f_check_pattern = some ⟨oc_check_pattern, od_check_pattern, .func (PySem.W.fnOf "check_pattern" "check_pattern" (defArgs s_check_pattern) (defBody s_check_pattern) (defScope s_check_pattern) .none kV_check_pattern dc_check_pattern pm_check_pattern an_check_pattern cd_check_pattern ct_check_pattern), sl_check_pattern⟩)
    (c_check_pattern : PySem.W.codeIn K cd_check_pattern "check_pattern" = true)
    (k_check_pattern : PySem.W.keepIn K (.ref f_check_pattern) = true)
    (a_any_row : PySem.W.nsIn K mainGlobals "any_row" = some (some (.ref f_any_row)))
    (l_any_row : K.lookup f_any_row = some ⟨oc_any_row, od_any_row, .func (PySem.W.fnOf "any_row" "any_row" (defArgs s_any_row) (defBody s_any_row) (defScope s_any_row) .none kV_any_row dc_any_row pm_any_row an_any_row cd_any_row ct_any_row), sl_any_row⟩)
    (c_any_row : PySem.W.codeIn K cd_any_row "any_row" = true)
    (k_any_row : PySem.W.keepIn K (.ref f_any_row) = true)
    (a_check_machine : PySem.W.nsIn K mainGlobals "check_machine" = some (some (.ref f_check_machine)))
    (l_check_machine : K.lookup f_check_machine = some ⟨oc_check_machine, od_check_machine, .func (PySem.W.fnOf "check_machine" "check_machine" (defArgs s_check_machine) (defBody s_check_machine) (defScope s_check_machine) .none kV_check_machine dc_check_machine pm_check_machine an_check_machine cd_check_machine ct_check_machine), sl_check_machine⟩)
    (c_check_machine : PySem.W.codeIn K cd_check_machine "check_machine" = true)
    (k_check_machine : PySem.W.keepIn K (.ref f_check_machine) = true)
    (a_is_stock : PySem.W.nsIn K mainGlobals "is_stock" = some (some (.ref f_is_stock)))
    (l_is_stock : K.lookup f_is_stock = some ⟨oc_is_stock, od_is_stock, .func (PySem.W.fnOf "is_stock" "is_stock" (defArgs s_is_stock) (defBody s_is_stock) (defScope s_is_stock) .none kV_is_stock dc_is_stock pm_is_stock an_is_stock cd_is_stock ct_is_stock), sl_is_stock⟩)
    (c_is_stock : PySem.W.codeIn K cd_is_stock "is_stock" = true)
    (k_is_stock : PySem.W.keepIn K (.ref f_is_stock) = true)
    (a_check_stock : PySem.W.nsIn K mainGlobals "check_stock" = some (some (.ref f_check_stock)))
    (l_check_stock : K.lookup f_check_stock = some ⟨oc_check_stock, od_check_stock, .func (PySem.W.fnOf "check_stock" "check_stock" (defArgs s_check_stock) (defBody s_check_stock) (defScope s_check_stock) .none kV_check_stock dc_check_stock pm_check_stock an_check_stock cd_check_stock ct_check_stock), sl_check_stock⟩)
    (c_check_stock : PySem.W.codeIn K cd_check_stock "check_stock" = true)
    (k_check_stock : PySem.W.keepIn K (.ref f_check_stock) = true)
    (a_is_kind : PySem.W.nsIn K mainGlobals "is_kind" = some (some (.ref f_is_kind)))
    (l_is_kind : K.lookup f_is_kind = some ⟨oc_is_kind, od_is_kind, .func (PySem.W.fnOf "is_kind" "is_kind" (defArgs s_is_kind) (defBody s_is_kind) (defScope s_is_kind) .none kV_is_kind dc_is_kind pm_is_kind an_is_kind cd_is_kind ct_is_kind), sl_is_kind⟩)
    (c_is_kind : PySem.W.codeIn K cd_is_kind "is_kind" = true)
    (k_is_kind : PySem.W.keepIn K (.ref f_is_kind) = true)
    (a_check_kind : PySem.W.nsIn K mainGlobals "check_kind" = some (some (.ref f_check_kind)))
    (l_check_kind : K.lookup f_check_kind = some ⟨oc_check_kind, od_check_kind, .func (PySem.W.fnOf "check_kind" "check_kind" (defArgs s_check_kind) (defBody s_check_kind) (defScope s_check_kind) .none kV_check_kind dc_check_kind pm_check_kind an_check_kind cd_check_kind ct_check_kind), sl_check_kind⟩)
    (c_check_kind : PySem.W.codeIn K cd_check_kind "check_kind" = true)
    (k_check_kind : PySem.W.keepIn K (.ref f_check_kind) = true)
    (a_wrong_number : PySem.W.nsIn K mainGlobals "wrong_number" = some (some (.ref f_wrong_number)))
    (l_wrong_number : K.lookup f_wrong_number = some ⟨oc_wrong_number, od_wrong_number, .func (PySem.W.fnOf "wrong_number" "wrong_number" (defArgs s_wrong_number) (defBody s_wrong_number) (defScope s_wrong_number) .none kV_wrong_number dc_wrong_number pm_wrong_number an_wrong_number (.ref c_wrong_number) ct_wrong_number), sl_wrong_number⟩)
    (cc_wrong_number : PySem.W.codeIn K (.ref c_wrong_number) "wrong_number" = true)
    (k_wrong_number : PySem.W.keepIn K (.ref f_wrong_number) = true)
    (h_wrong_number : PySem.W.codeHdIn K c_wrong_number P_wrong_number = true)
    (n_wrong_number : K.lookup P_wrong_number = none)
    (e_wrong_number : h.get? P_wrong_number = some { cls := .none, data := .fields #[] })
    (a_check_count : PySem.W.nsIn K mainGlobals "check_count" = some (some (.ref f_check_count)))
    (l_check_count : K.lookup f_check_count = some ⟨oc_check_count, od_check_count, .func (PySem.W.fnOf "check_count" "check_count" (defArgs s_check_count) (defBody s_check_count) (defScope s_check_count) .none kV_check_count dc_check_count pm_check_count an_check_count cd_check_count ct_check_count), sl_check_count⟩)
    (c_check_count : PySem.W.codeIn K cd_check_count "check_count" = true)
    (k_check_count : PySem.W.keepIn K (.ref f_check_count) = true)
    (a_is_most : PySem.W.nsIn K mainGlobals "is_most" = some (some (.ref f_is_most)))
    (l_is_most : K.lookup f_is_most = some ⟨oc_is_most, od_is_most, .func (PySem.W.fnOf "is_most" "is_most" (defArgs s_is_most) (defBody s_is_most) (defScope s_is_most) .none kV_is_most dc_is_most pm_is_most an_is_most cd_is_most ct_is_most), sl_is_most⟩)
    (c_is_most : PySem.W.codeIn K cd_is_most "is_most" = true)
    (k_is_most : PySem.W.keepIn K (.ref f_is_most) = true)
    (a_lots_sold : PySem.W.nsIn K mainGlobals "lots_sold" = some (some (.ref f_lots_sold)))
    (l_lots_sold : K.lookup f_lots_sold = some ⟨oc_lots_sold, od_lots_sold, .func (PySem.W.fnOf "lots_sold" "lots_sold" (defArgs s_lots_sold) (defBody s_lots_sold) (defScope s_lots_sold) .none kV_lots_sold dc_lots_sold pm_lots_sold an_lots_sold cd_lots_sold ct_lots_sold), sl_lots_sold⟩)
    (c_lots_sold : PySem.W.codeIn K cd_lots_sold "lots_sold" = true)
    (k_lots_sold : PySem.W.keepIn K (.ref f_lots_sold) = true)
    (a_sales_by : PySem.W.nsIn K mainGlobals "sales_by" = some (some (.ref f_sales_by)))
    (l_sales_by : K.lookup f_sales_by = some ⟨oc_sales_by, od_sales_by, .func (PySem.W.fnOf "sales_by" "sales_by" (defArgs s_sales_by) (defBody s_sales_by) (defScope s_sales_by) .none kV_sales_by dc_sales_by pm_sales_by an_sales_by cd_sales_by ct_sales_by), sl_sales_by⟩)
    (c_sales_by : PySem.W.codeIn K cd_sales_by "sales_by" = true)
    (k_sales_by : PySem.W.keepIn K (.ref f_sales_by) = true)
    (a_check_counted : PySem.W.nsIn K mainGlobals "check_counted" = some (some (.ref f_check_counted)))
    (l_check_counted : K.lookup f_check_counted = some ⟨oc_check_counted, od_check_counted, .func (PySem.W.fnOf "check_counted" "check_counted" (defArgs s_check_counted) (defBody s_check_counted) (defScope s_check_counted) .none kV_check_counted dc_check_counted pm_check_counted an_check_counted cd_check_counted ct_check_counted), sl_check_counted⟩)
    (c_check_counted : PySem.W.codeIn K cd_check_counted "check_counted" = true)
    (k_check_counted : PySem.W.keepIn K (.ref f_check_counted) = true)
    (a_sales : PySem.W.nsIn K mainGlobals "sales" = some (some (.ref f_sales)))
    (l_sales : K.lookup f_sales = some ⟨oc_sales, od_sales, .func (PySem.W.fnOf "sales" "sales" (defArgs s_sales) (defBody s_sales) (defScope s_sales) .none kV_sales dc_sales pm_sales an_sales cd_sales ct_sales), sl_sales⟩)
    (c_sales : PySem.W.codeIn K cd_sales "sales" = true)
    (k_sales : PySem.W.keepIn K (.ref f_sales) = true)
    (a_worths : PySem.W.nsIn K mainGlobals "worths" = some (some (.ref f_worths)))
    (l_worths : K.lookup f_worths = some ⟨oc_worths, od_worths, .func (PySem.W.fnOf "worths" "worths" (defArgs s_worths) (defBody s_worths) (defScope s_worths) .none kV_worths dc_worths pm_worths an_worths cd_worths ct_worths), sl_worths⟩)
    (c_worths : PySem.W.codeIn K cd_worths "worths" = true)
    (k_worths : PySem.W.keepIn K (.ref f_worths) = true)
    (a__law_bag : PySem.W.nsIn K mainGlobals "_law_bag" = some (some (.ref f__law_bag)))
    (l__law_bag : K.lookup f__law_bag = some ⟨oc__law_bag, od__law_bag, .func (PySem.W.fnOf "_law_bag" "_law_bag" (defArgs s__law_bag) (defBody s__law_bag) (defScope s__law_bag) .none kV__law_bag dc__law_bag pm__law_bag an__law_bag cd__law_bag ct__law_bag), sl__law_bag⟩)
    (c__law_bag : PySem.W.codeIn K cd__law_bag "_law_bag" = true)
    (k__law_bag : PySem.W.keepIn K (.ref f__law_bag) = true)
    (a__law_take : PySem.W.nsIn K mainGlobals "_law_take" = some (some (.ref f__law_take)))
    (l__law_take : K.lookup f__law_take = some ⟨oc__law_take, od__law_take, .func (PySem.W.fnOf "_law_take" "_law_take" (defArgs s__law_take) (defBody s__law_take) (defScope s__law_take) .none kV__law_take dc__law_take pm__law_take an__law_take cd__law_take ct__law_take), sl__law_take⟩)
    (c__law_take : PySem.W.codeIn K cd__law_take "_law_take" = true)
    (k__law_take : PySem.W.keepIn K (.ref f__law_take) = true)
    (a__law_pull : PySem.W.nsIn K mainGlobals "_law_pull" = some (some (.ref f__law_pull)))
    (l__law_pull : K.lookup f__law_pull = some ⟨oc__law_pull, od__law_pull, .func (PySem.W.fnOf "_law_pull" "_law_pull" (defArgs s__law_pull) (defBody s__law_pull) (defScope s__law_pull) .none kV__law_pull dc__law_pull pm__law_pull an__law_pull cd__law_pull ct__law_pull), sl__law_pull⟩)
    (c__law_pull : PySem.W.codeIn K cd__law_pull "_law_pull" = true)
    (k__law_pull : PySem.W.keepIn K (.ref f__law_pull) = true)
    (a__law_coins : PySem.W.nsIn K mainGlobals "_law_coins" = some (some (.ref f__law_coins)))
    (l__law_coins : K.lookup f__law_coins = some ⟨oc__law_coins, od__law_coins, .func (PySem.W.fnOf "_law_coins" "_law_coins" (defArgs s__law_coins) (defBody s__law_coins) (defScope s__law_coins) .none kV__law_coins dc__law_coins pm__law_coins an__law_coins cd__law_coins ct__law_coins), sl__law_coins⟩)
    (c__law_coins : PySem.W.codeIn K cd__law_coins "_law_coins" = true)
    (k__law_coins : PySem.W.keepIn K (.ref f__law_coins) = true)
    (a__law_worth : PySem.W.nsIn K mainGlobals "_law_worth" = some (some (.ref f__law_worth)))
    (l__law_worth : K.lookup f__law_worth = some ⟨oc__law_worth, od__law_worth, .func (PySem.W.fnOf "_law_worth" "_law_worth" (defArgs s__law_worth) (defBody s__law_worth) (defScope s__law_worth) .none kV__law_worth dc__law_worth pm__law_worth an__law_worth cd__law_worth ct__law_worth), sl__law_worth⟩)
    (c__law_worth : PySem.W.codeIn K cd__law_worth "_law_worth" = true)
    (k__law_worth : PySem.W.keepIn K (.ref f__law_worth) = true)
    (a__law_parts : PySem.W.nsIn K mainGlobals "_law_parts" = some (some (.ref f__law_parts)))
    (l__law_parts : K.lookup f__law_parts = some ⟨oc__law_parts, od__law_parts, .func (PySem.W.fnOf "_law_parts" "_law_parts" (defArgs s__law_parts) (defBody s__law_parts) (defScope s__law_parts) .none kV__law_parts dc__law_parts pm__law_parts an__law_parts cd__law_parts ct__law_parts), sl__law_parts⟩)
    (c__law_parts : PySem.W.codeIn K cd__law_parts "_law_parts" = true)
    (k__law_parts : PySem.W.keepIn K (.ref f__law_parts) = true)
    (a__law_machine : PySem.W.nsIn K mainGlobals "_law_machine" = some (some (.ref f__law_machine)))
    (l__law_machine : K.lookup f__law_machine = some ⟨oc__law_machine, od__law_machine, .func (PySem.W.fnOf "_law_machine" "_law_machine" (defArgs s__law_machine) (defBody s__law_machine) (defScope s__law_machine) .none kV__law_machine dc__law_machine pm__law_machine an__law_machine cd__law_machine ct__law_machine), sl__law_machine⟩)
    (c__law_machine : PySem.W.codeIn K cd__law_machine "_law_machine" = true)
    (k__law_machine : PySem.W.keepIn K (.ref f__law_machine) = true)
    (a__law_stock : PySem.W.nsIn K mainGlobals "_law_stock" = some (some (.ref f__law_stock)))
    (l__law_stock : K.lookup f__law_stock = some ⟨oc__law_stock, od__law_stock, .func (PySem.W.fnOf "_law_stock" "_law_stock" (defArgs s__law_stock) (defBody s__law_stock) (defScope s__law_stock) .none kV__law_stock dc__law_stock pm__law_stock an__law_stock cd__law_stock ct__law_stock), sl__law_stock⟩)
    (c__law_stock : PySem.W.codeIn K cd__law_stock "_law_stock" = true)
    (k__law_stock : PySem.W.keepIn K (.ref f__law_stock) = true)
    (a__law_sales : PySem.W.nsIn K mainGlobals "_law_sales" = some (some (.ref f__law_sales)))
    (l__law_sales : K.lookup f__law_sales = some ⟨oc__law_sales, od__law_sales, .func (PySem.W.fnOf "_law_sales" "_law_sales" (defArgs s__law_sales) (defBody s__law_sales) (defScope s__law_sales) .none kV__law_sales dc__law_sales pm__law_sales an__law_sales cd__law_sales ct__law_sales), sl__law_sales⟩)
    (c__law_sales : PySem.W.codeIn K cd__law_sales "_law_sales" = true)
    (k__law_sales : PySem.W.keepIn K (.ref f__law_sales) = true)
    (a__law_count : PySem.W.nsIn K mainGlobals "_law_count" = some (some (.ref f__law_count)))
    (l__law_count : K.lookup f__law_count = some ⟨oc__law_count, od__law_count, .func (PySem.W.fnOf "_law_count" "_law_count" (defArgs s__law_count) (defBody s__law_count) (defScope s__law_count) .none kV__law_count dc__law_count pm__law_count an__law_count cd__law_count ct__law_count), sl__law_count⟩)
    (c__law_count : PySem.W.codeIn K cd__law_count "_law_count" = true)
    (k__law_count : PySem.W.keepIn K (.ref f__law_count) = true)
    (a__law_right : PySem.W.nsIn K mainGlobals "_law_right" = some (some (.ref f__law_right)))
    (l__law_right : K.lookup f__law_right = some ⟨oc__law_right, od__law_right, .func (PySem.W.fnOf "_law_right" "_law_right" (defArgs s__law_right) (defBody s__law_right) (defScope s__law_right) .none kV__law_right dc__law_right pm__law_right an__law_right cd__law_right ct__law_right), sl__law_right⟩)
    (c__law_right : PySem.W.codeIn K cd__law_right "_law_right" = true)
    (k__law_right : PySem.W.keepIn K (.ref f__law_right) = true)
    (a_law : PySem.W.nsIn K mainGlobals "law" = some (some (.ref f_law)))
    (l_law : K.lookup f_law = some ⟨oc_law, od_law, .func (PySem.W.fnOf "law" "law" (defArgs s_law) (defBody s_law) (defScope s_law) .none kV_law dc_law pm_law an_law cd_law ct_law), sl_law⟩)
    (c_law : PySem.W.codeIn K cd_law "law" = true)
    (k_law : PySem.W.keepIn K (.ref f_law) = true)
    (a_Machine___init__ : PySem.W.findIn K (.ref C_Machine) "__init__" = some (some (.ref f_Machine___init__)))
    (i_Machine___init__ : PySem.W.isFn K (.ref f_Machine___init__) = true)
    (l_Machine___init__ : K.lookup f_Machine___init__ = some ⟨oc_Machine___init__, od_Machine___init__, .func (PySem.W.fnOf "__init__" "Machine.__init__" (defArgs s_Machine___init__) (defBody s_Machine___init__) (defScope s_Machine___init__) (.ref T_Machine___init__) kV_Machine___init__ dc_Machine___init__ pm_Machine___init__ an_Machine___init__ cd_Machine___init__ ct_Machine___init__), sl_Machine___init__⟩)
    (c_Machine___init__ : PySem.W.codeIn K cd_Machine___init__ "Machine.__init__" = true)
    (k_Machine___init__ : PySem.W.keepIn K (.ref f_Machine___init__) = true)
    (t_Machine___init__ : K.lookup T_Machine___init__ = some ⟨tc_Machine___init__, td_Machine___init__, .seq #[.none] tn_Machine___init__, ts_Machine___init__⟩)
    (pg_Machine : PySem.W.plainGet K C_Machine Str.empty = true)
    (hd_Machine : PySem.W.hasDictIn K C_Machine = true)
    (po_Machine : PySem.W.plainOver K C_Machine = true)
    (sa_Machine : PySem.W.findIn K (.ref C_Machine) "__setattr__" = some (some (.builtin "object.__setattr__")))
    (mk_Machine : PySem.W.makesIn K C_Machine = true)
    (kc_Machine : PySem.W.keepIn K (.ref C_Machine) = true)
    (i1_Machine : PySem.W.findIn K (.ref C_Machine) "__class__" = some (some (.builtin "object.__class__")))
    (i4_Machine : PySem.W.mroIn K C_Machine (.type "object") = some true)
    (i2_Machine : PySem.W.specialIn K (.builtin "object.__class__") "__get__" = some (some (.builtin "getset_descriptor.__get__")))
    (i3_Machine : PySem.W.takesIn K (.builtin "object.__class__") = some true)
    (i5_Machine : PySem.W.kitOne K (.ref C_Machine) (.ref C_Machine) = some true)
    (nf_coins : PySem.W.findIn K (.ref C_Machine) "coins" = some none)
    (nf_tubes : PySem.W.findIn K (.ref C_Machine) "tubes" = some none)
    (nf_kinds : PySem.W.findIn K (.ref C_Machine) "kinds" = some none)
    (nf_pattern : PySem.W.findIn K (.ref C_Machine) "pattern" = some none)
    (g_MOST_COINS : PySem.W.nsIn K mainGlobals "MOST_COINS" = some (some (.int 3 tk_MOST_COINS)))
    (g_MOST_VALUE : PySem.W.nsIn K mainGlobals "MOST_VALUE" = some (some (.int 100 tk_MOST_VALUE)))
    (g_MOST_IN_TUBE : PySem.W.nsIn K mainGlobals "MOST_IN_TUBE" = some (some (.int 4 tk_MOST_IN_TUBE)))
    (g_MOST_KINDS : PySem.W.nsIn K mainGlobals "MOST_KINDS" = some (some (.int 6 tk_MOST_KINDS)))
    (g_MOST_PRICE : PySem.W.nsIn K mainGlobals "MOST_PRICE" = some (some (.int 200 tk_MOST_PRICE)))
    (g_MOST_PAID : PySem.W.nsIn K mainGlobals "MOST_PAID" = some (some (.int 4 tk_MOST_PAID)))
    (g_MOST_STOPS : PySem.W.nsIn K mainGlobals "MOST_STOPS" = some (some (.int 3 tk_MOST_STOPS)))
    (g_MOST_COUNTED : PySem.W.nsIn K mainGlobals "MOST_COUNTED" = some (some (.int 99 tk_MOST_COUNTED)))
    (g_MOST_CUSTOMERS : PySem.W.nsIn K mainGlobals "MOST_CUSTOMERS" = some (some (.int 12 tk_MOST_CUSTOMERS)))
    (z_abs : PySem.W.nsIn K mainGlobals "abs" = some none)
    (z_all : PySem.W.nsIn K mainGlobals "all" = some none)
    (z_bool : PySem.W.nsIn K mainGlobals "bool" = some none)
    (z_divmod : PySem.W.nsIn K mainGlobals "divmod" = some none)
    (z_enumerate : PySem.W.nsIn K mainGlobals "enumerate" = some none)
    (z_int : PySem.W.nsIn K mainGlobals "int" = some none)
    (z_isinstance : PySem.W.nsIn K mainGlobals "isinstance" = some none)
    (z_len : PySem.W.nsIn K mainGlobals "len" = some none)
    (z_max : PySem.W.nsIn K mainGlobals "max" = some none)
    (z_min : PySem.W.nsIn K mainGlobals "min" = some none)
    (z_range : PySem.W.nsIn K mainGlobals "range" = some none)
    (z_set : PySem.W.nsIn K mainGlobals "set" = some none)
    (z_sorted : PySem.W.nsIn K mainGlobals "sorted" = some none)
    (z_sum : PySem.W.nsIn K mainGlobals "sum" = some none)
    (z_tuple : PySem.W.nsIn K mainGlobals "tuple" = some none)
    (z_zip : PySem.W.nsIn K mainGlobals "zip" = some none)
    (nl : noListK K = true)
    (dP : [P_wrong_tube, P_wrong_kind, P_wrong_stop, P_wrong_number].Nodup) :
    LamX.LawAtS l w K CX0 16 63 "script" mg fa h := by
  have e := hfa.symm.trans (PySem.W.mg_of X G a_law)
  cases e
  refine ⟨(PySem.W.fnOf "law" "law" (defArgs s_law) (defBody s_law) (defScope s_law) .none kV_law dc_law pm_law an_law cd_law ct_law), [(c_wrong_tube, P_wrong_tube), (c_wrong_kind, P_wrong_kind), (c_wrong_stop, P_wrong_stop), (c_wrong_number, P_wrong_number)], fun vs H Q _ => ∃ (a : Addr) (ns : List Int), vs = [.ref a] ∧ SqL K H a (ns.map V.int) ∧ ns.length ≤ 63 ∧ (∀ p ∈ ([(c_wrong_tube, P_wrong_tube), (c_wrong_kind, P_wrong_kind), (c_wrong_stop, P_wrong_stop), (c_wrong_number, P_wrong_number)] : List (Addr × Addr)), H p.2 = some (.tbl #[])) ∧ ∀ H', Q (.bl true) H', ?_, ?_, ?_, fun s v => .of_eq rfl, fun H a ns hl _ hH hS => ⟨a, ns, rfl, hS, hl, hH, fun _ => rfl⟩, fun base KB GB TB => ?_⟩
  · intro p hp; simp only [List.mem_cons, List.not_mem_nil, or_false] at hp; rcases hp with rfl | rfl | rfl | rfl
    · exact e_wrong_tube
    · exact e_wrong_kind
    · exact e_wrong_stop
    · exact e_wrong_number
  · intro p hp; simp only [List.mem_cons, List.not_mem_nil, or_false] at hp; rcases hp with rfl | rfl | rfl | rfl
    · exact n_wrong_tube
    · exact n_wrong_kind
    · exact n_wrong_stop
    · exact n_wrong_number
  · intro p hp; simp only [List.mem_cons, List.not_mem_nil, or_false] at hp; rcases hp with rfl | rfl | rfl | rfl
    · exact PySem.W.codeHd_of_K X h_wrong_tube
    · exact PySem.W.codeHd_of_K X h_wrong_kind
    · exact PySem.W.codeHd_of_K X h_wrong_stop
    · exact PySem.W.codeHd_of_K X h_wrong_number
  let T : Txt K mg base := {
    f_is_whole := f_is_whole
    d_is_whole := (PySem.W.fnOf "is_whole" "is_whole" (defArgs s_is_whole) (defBody s_is_whole) (defScope s_is_whole) .none kV_is_whole dc_is_whole pm_is_whole an_is_whole cd_is_whole ct_is_whole)
    F_is_whole := ⟨⟨_, _, _, _, _, _, _, _, _, _, rfl, l_is_whole, c_is_whole⟩, k_is_whole⟩
    b_is_whole := binds_of fun us hl => match us, hl with | [_], _ => rfl
    g_is_whole := PySem.W.mg_of X G a_is_whole
    f_is_number := f_is_number
    d_is_number := (PySem.W.fnOf "is_number" "is_number" (defArgs s_is_number) (defBody s_is_number) (defScope s_is_number) (.ref T_is_number) kV_is_number dc_is_number pm_is_number an_is_number cd_is_number ct_is_number)
    F_is_number := ⟨⟨_, _, _, _, _, _, _, _, _, _, rfl, l_is_number, c_is_number⟩, k_is_number⟩
    b_is_number := binds_full t_is_number fun us hl => match us, hl with | [_, _, _], _ => ⟨_, rfl, rfl⟩
    g_is_number := PySem.W.mg_of X G a_is_number
    ds2_is_number := [.int 0 u0_is_number, .none]
    b2_is_number := binds_dfl (n := 1) t_is_number rfl fun us hl => match us, hl with | [_], _ => ⟨_, rfl, rfl⟩
    v2_is_number := .cons ⟨_, rfl⟩ (.cons rfl .nil)
    f_is_between := f_is_between
    d_is_between := (PySem.W.fnOf "is_between" "is_between" (defArgs s_is_between) (defBody s_is_between) (defScope s_is_between) .none kV_is_between dc_is_between pm_is_between an_is_between cd_is_between ct_is_between)
    F_is_between := ⟨⟨_, _, _, _, _, _, _, _, _, _, rfl, l_is_between, c_is_between⟩, k_is_between⟩
    b_is_between := binds_of fun us hl => match us, hl with | [_, _, _], _ => rfl
    g_is_between := PySem.W.mg_of X G a_is_between
    f_is_tuple_of := f_is_tuple_of
    d_is_tuple_of := (PySem.W.fnOf "is_tuple_of" "is_tuple_of" (defArgs s_is_tuple_of) (defBody s_is_tuple_of) (defScope s_is_tuple_of) .none kV_is_tuple_of dc_is_tuple_of pm_is_tuple_of an_is_tuple_of cd_is_tuple_of ct_is_tuple_of)
    F_is_tuple_of := ⟨⟨_, _, _, _, _, _, _, _, _, _, rfl, l_is_tuple_of, c_is_tuple_of⟩, k_is_tuple_of⟩
    b_is_tuple_of := binds_of fun us hl => match us, hl with | [_, _], _ => rfl
    g_is_tuple_of := PySem.W.mg_of X G a_is_tuple_of
    f_is_row := f_is_row
    d_is_row := (PySem.W.fnOf "is_row" "is_row" (defArgs s_is_row) (defBody s_is_row) (defScope s_is_row) .none kV_is_row dc_is_row pm_is_row an_is_row cd_is_row ct_is_row)
    F_is_row := ⟨⟨_, _, _, _, _, _, _, _, _, _, rfl, l_is_row, c_is_row⟩, k_is_row⟩
    b_is_row := binds_of fun us hl => match us, hl with | [_, _, _], _ => rfl
    g_is_row := PySem.W.mg_of X G a_is_row
    f_first_wrong := f_first_wrong
    d_first_wrong := (PySem.W.fnOf "first_wrong" "first_wrong" (defArgs s_first_wrong) (defBody s_first_wrong) (defScope s_first_wrong) .none kV_first_wrong dc_first_wrong pm_first_wrong an_first_wrong cd_first_wrong ct_first_wrong)
    F_first_wrong := ⟨⟨_, _, _, _, _, _, _, _, _, _, rfl, l_first_wrong, c_first_wrong⟩, k_first_wrong⟩
    b_first_wrong := binds_of fun us hl => match us, hl with | [_, _], _ => rfl
    g_first_wrong := PySem.W.mg_of X G a_first_wrong
    f_worth_of := f_worth_of
    d_worth_of := (PySem.W.fnOf "worth_of" "worth_of" (defArgs s_worth_of) (defBody s_worth_of) (defScope s_worth_of) .none kV_worth_of dc_worth_of pm_worth_of an_worth_of cd_worth_of ct_worth_of)
    F_worth_of := ⟨⟨_, _, _, _, _, _, _, _, _, _, rfl, l_worth_of, c_worth_of⟩, k_worth_of⟩
    b_worth_of := binds_of fun us hl => match us, hl with | [_, _], _ => rfl
    g_worth_of := PySem.W.mg_of X G a_worth_of
    f_are_numbers := f_are_numbers
    d_are_numbers := (PySem.W.fnOf "are_numbers" "are_numbers" (defArgs s_are_numbers) (defBody s_are_numbers) (defScope s_are_numbers) (.ref T_are_numbers) kV_are_numbers dc_are_numbers pm_are_numbers an_are_numbers cd_are_numbers ct_are_numbers)
    F_are_numbers := ⟨⟨_, _, _, _, _, _, _, _, _, _, rfl, l_are_numbers, c_are_numbers⟩, k_are_numbers⟩
    b_are_numbers := binds_full t_are_numbers fun us hl => match us, hl with | [_, _, _], _ => ⟨_, rfl, rfl⟩
    g_are_numbers := PySem.W.mg_of X G a_are_numbers
    f_is_coin_behind := f_is_coin_behind
    d_is_coin_behind := (PySem.W.fnOf "is_coin_behind" "is_coin_behind" (defArgs s_is_coin_behind) (defBody s_is_coin_behind) (defScope s_is_coin_behind) .none kV_is_coin_behind dc_is_coin_behind pm_is_coin_behind an_is_coin_behind cd_is_coin_behind ct_is_coin_behind)
    F_is_coin_behind := ⟨⟨_, _, _, _, _, _, _, _, _, _, rfl, l_is_coin_behind, c_is_coin_behind⟩, k_is_coin_behind⟩
    b_is_coin_behind := binds_of fun us hl => match us, hl with | [_, _], _ => rfl
    g_is_coin_behind := PySem.W.mg_of X G a_is_coin_behind
    f_wrong_coin := f_wrong_coin
    d_wrong_coin := (PySem.W.fnOf "wrong_coin" "wrong_coin" (defArgs s_wrong_coin) (defBody s_wrong_coin) (defScope s_wrong_coin) .none kV_wrong_coin dc_wrong_coin pm_wrong_coin an_wrong_coin cd_wrong_coin ct_wrong_coin)
    F_wrong_coin := ⟨⟨_, _, _, _, _, _, _, _, _, _, rfl, l_wrong_coin, c_wrong_coin⟩, k_wrong_coin⟩
    b_wrong_coin := binds_of fun us hl => match us, hl with | [_], _ => rfl
    g_wrong_coin := PySem.W.mg_of X G a_wrong_coin
    f_wrong_tube := f_wrong_tube
    d_wrong_tube := (PySem.W.fnOf "wrong_tube" "wrong_tube" (defArgs s_wrong_tube) (defBody s_wrong_tube) (defScope s_wrong_tube) .none kV_wrong_tube dc_wrong_tube pm_wrong_tube an_wrong_tube (.ref c_wrong_tube) ct_wrong_tube)
    c_wrong_tube := c_wrong_tube
    P_wrong_tube := P_wrong_tube
    L_wrong_tube := ⟨⟨_, _, _, _, _, _, _, _, _, rfl, l_wrong_tube, cc_wrong_tube⟩, k_wrong_tube⟩
    TB_wrong_tube := TB (c_wrong_tube, P_wrong_tube) (by simp)
    F_wrong_tube := ⟨⟨_, _, _, _, _, _, _, _, _, _, rfl, l_wrong_tube, cc_wrong_tube⟩, k_wrong_tube⟩
    b_wrong_tube := binds_of fun us hl => match us, hl with | [_], _ => rfl
    g_wrong_tube := PySem.W.mg_of X G a_wrong_tube
    f_is_kind_behind := f_is_kind_behind
    d_is_kind_behind := (PySem.W.fnOf "is_kind_behind" "is_kind_behind" (defArgs s_is_kind_behind) (defBody s_is_kind_behind) (defScope s_is_kind_behind) .none kV_is_kind_behind dc_is_kind_behind pm_is_kind_behind an_is_kind_behind cd_is_kind_behind ct_is_kind_behind)
    F_is_kind_behind := ⟨⟨_, _, _, _, _, _, _, _, _, _, rfl, l_is_kind_behind, c_is_kind_behind⟩, k_is_kind_behind⟩
    b_is_kind_behind := binds_of fun us hl => match us, hl with | [_, _, _], _ => rfl
    g_is_kind_behind := PySem.W.mg_of X G a_is_kind_behind
    f_wrong_kind := f_wrong_kind
    d_wrong_kind := (PySem.W.fnOf "wrong_kind" "wrong_kind" (defArgs s_wrong_kind) (defBody s_wrong_kind) (defScope s_wrong_kind) .none kV_wrong_kind dc_wrong_kind pm_wrong_kind an_wrong_kind (.ref c_wrong_kind) ct_wrong_kind)
    c_wrong_kind := c_wrong_kind
    P_wrong_kind := P_wrong_kind
    L_wrong_kind := ⟨⟨_, _, _, _, _, _, _, _, _, rfl, l_wrong_kind, cc_wrong_kind⟩, k_wrong_kind⟩
    TB_wrong_kind := TB (c_wrong_kind, P_wrong_kind) (by simp)
    F_wrong_kind := ⟨⟨_, _, _, _, _, _, _, _, _, _, rfl, l_wrong_kind, cc_wrong_kind⟩, k_wrong_kind⟩
    b_wrong_kind := binds_of fun us hl => match us, hl with | [_, _], _ => rfl
    g_wrong_kind := PySem.W.mg_of X G a_wrong_kind
    f_is_pair := f_is_pair
    d_is_pair := (PySem.W.fnOf "is_pair" "is_pair" (defArgs s_is_pair) (defBody s_is_pair) (defScope s_is_pair) .none kV_is_pair dc_is_pair pm_is_pair an_is_pair cd_is_pair ct_is_pair)
    F_is_pair := ⟨⟨_, _, _, _, _, _, _, _, _, _, rfl, l_is_pair, c_is_pair⟩, k_is_pair⟩
    b_is_pair := binds_of fun us hl => match us, hl with | [_, _, _], _ => rfl
    g_is_pair := PySem.W.mg_of X G a_is_pair
    f_is_stop_row := f_is_stop_row
    d_is_stop_row := (PySem.W.fnOf "is_stop_row" "is_stop_row" (defArgs s_is_stop_row) (defBody s_is_stop_row) (defScope s_is_stop_row) .none kV_is_stop_row dc_is_stop_row pm_is_stop_row an_is_stop_row cd_is_stop_row ct_is_stop_row)
    F_is_stop_row := ⟨⟨_, _, _, _, _, _, _, _, _, _, rfl, l_is_stop_row, c_is_stop_row⟩, k_is_stop_row⟩
    b_is_stop_row := binds_of fun us hl => match us, hl with | [_, _, _], _ => rfl
    g_is_stop_row := PySem.W.mg_of X G a_is_stop_row
    f_wrong_stop := f_wrong_stop
    d_wrong_stop := (PySem.W.fnOf "wrong_stop" "wrong_stop" (defArgs s_wrong_stop) (defBody s_wrong_stop) (defScope s_wrong_stop) .none kV_wrong_stop dc_wrong_stop pm_wrong_stop an_wrong_stop (.ref c_wrong_stop) ct_wrong_stop)
    c_wrong_stop := c_wrong_stop
    P_wrong_stop := P_wrong_stop
    L_wrong_stop := ⟨⟨_, _, _, _, _, _, _, _, _, rfl, l_wrong_stop, cc_wrong_stop⟩, k_wrong_stop⟩
    TB_wrong_stop := TB (c_wrong_stop, P_wrong_stop) (by simp)
    F_wrong_stop := ⟨⟨_, _, _, _, _, _, _, _, _, _, rfl, l_wrong_stop, cc_wrong_stop⟩, k_wrong_stop⟩
    b_wrong_stop := binds_of fun us hl => match us, hl with | [_, _], _ => rfl
    g_wrong_stop := PySem.W.mg_of X G a_wrong_stop
    f_check_coins := f_check_coins
    d_check_coins := (PySem.W.fnOf "check_coins" "check_coins" (defArgs s_check_coins) (defBody s_check_coins) (defScope s_check_coins) .none kV_check_coins dc_check_coins pm_check_coins an_check_coins cd_check_coins ct_check_coins)
    F_check_coins := ⟨⟨_, _, _, _, _, _, _, _, _, _, rfl, l_check_coins, c_check_coins⟩, k_check_coins⟩
    b_check_coins := binds_of fun us hl => match us, hl with | [_], _ => rfl
    g_check_coins := PySem.W.mg_of X G a_check_coins
    f_check_tubes := f_check_tubes
    d_check_tubes := (PySem.W.fnOf "check_tubes" "check_tubes" (defArgs s_check_tubes) (defBody s_check_tubes) (defScope s_check_tubes) .none kV_check_tubes dc_check_tubes pm_check_tubes an_check_tubes cd_check_tubes ct_check_tubes)
    F_check_tubes := ⟨⟨_, _, _, _, _, _, _, _, _, _, rfl, l_check_tubes, c_check_tubes⟩, k_check_tubes⟩
    b_check_tubes := binds_of fun us hl => match us, hl with | [_, _], _ => rfl
    g_check_tubes := PySem.W.mg_of X G a_check_tubes
    f_check_kinds := f_check_kinds
    d_check_kinds := (PySem.W.fnOf "check_kinds" "check_kinds" (defArgs s_check_kinds) (defBody s_check_kinds) (defScope s_check_kinds) .none kV_check_kinds dc_check_kinds pm_check_kinds an_check_kinds cd_check_kinds ct_check_kinds)
    F_check_kinds := ⟨⟨_, _, _, _, _, _, _, _, _, _, rfl, l_check_kinds, c_check_kinds⟩, k_check_kinds⟩
    b_check_kinds := binds_of fun us hl => match us, hl with | [_, _], _ => rfl
    g_check_kinds := PySem.W.mg_of X G a_check_kinds
    f_check_pattern := f_check_pattern
    d_check_pattern := (PySem.W.fnOf "check_pattern" "check_pattern" (defArgs s_check_pattern) (defBody s_check_pattern) (defScope s_check_pattern) .none kV_check_pattern dc_check_pattern pm_check_pattern an_check_pattern cd_check_pattern ct_check_pattern)
    F_check_pattern := ⟨⟨_, _, _, _, _, _, _, _, _, _, rfl, l_check_pattern, c_check_pattern⟩, k_check_pattern⟩
    b_check_pattern := binds_of fun us hl => match us, hl with | [_, _], _ => rfl
    g_check_pattern := PySem.W.mg_of X G a_check_pattern
    f_any_row := f_any_row
    d_any_row := (PySem.W.fnOf "any_row" "any_row" (defArgs s_any_row) (defBody s_any_row) (defScope s_any_row) .none kV_any_row dc_any_row pm_any_row an_any_row cd_any_row ct_any_row)
    F_any_row := ⟨⟨_, _, _, _, _, _, _, _, _, _, rfl, l_any_row, c_any_row⟩, k_any_row⟩
    b_any_row := binds_of fun us hl => match us, hl with | [_], _ => rfl
    g_any_row := PySem.W.mg_of X G a_any_row
    f_check_machine := f_check_machine
    d_check_machine := (PySem.W.fnOf "check_machine" "check_machine" (defArgs s_check_machine) (defBody s_check_machine) (defScope s_check_machine) .none kV_check_machine dc_check_machine pm_check_machine an_check_machine cd_check_machine ct_check_machine)
    F_check_machine := ⟨⟨_, _, _, _, _, _, _, _, _, _, rfl, l_check_machine, c_check_machine⟩, k_check_machine⟩
    b_check_machine := binds_of fun us hl => match us, hl with | [_], _ => rfl
    g_check_machine := PySem.W.mg_of X G a_check_machine
    f_is_stock := f_is_stock
    d_is_stock := (PySem.W.fnOf "is_stock" "is_stock" (defArgs s_is_stock) (defBody s_is_stock) (defScope s_is_stock) .none kV_is_stock dc_is_stock pm_is_stock an_is_stock cd_is_stock ct_is_stock)
    F_is_stock := ⟨⟨_, _, _, _, _, _, _, _, _, _, rfl, l_is_stock, c_is_stock⟩, k_is_stock⟩
    b_is_stock := binds_of fun us hl => match us, hl with | [_, _], _ => rfl
    g_is_stock := PySem.W.mg_of X G a_is_stock
    f_check_stock := f_check_stock
    d_check_stock := (PySem.W.fnOf "check_stock" "check_stock" (defArgs s_check_stock) (defBody s_check_stock) (defScope s_check_stock) .none kV_check_stock dc_check_stock pm_check_stock an_check_stock cd_check_stock ct_check_stock)
    F_check_stock := ⟨⟨_, _, _, _, _, _, _, _, _, _, rfl, l_check_stock, c_check_stock⟩, k_check_stock⟩
    b_check_stock := binds_of fun us hl => match us, hl with | [_, _], _ => rfl
    g_check_stock := PySem.W.mg_of X G a_check_stock
    f_is_kind := f_is_kind
    d_is_kind := (PySem.W.fnOf "is_kind" "is_kind" (defArgs s_is_kind) (defBody s_is_kind) (defScope s_is_kind) .none kV_is_kind dc_is_kind pm_is_kind an_is_kind cd_is_kind ct_is_kind)
    F_is_kind := ⟨⟨_, _, _, _, _, _, _, _, _, _, rfl, l_is_kind, c_is_kind⟩, k_is_kind⟩
    b_is_kind := binds_of fun us hl => match us, hl with | [_, _], _ => rfl
    g_is_kind := PySem.W.mg_of X G a_is_kind
    f_check_kind := f_check_kind
    d_check_kind := (PySem.W.fnOf "check_kind" "check_kind" (defArgs s_check_kind) (defBody s_check_kind) (defScope s_check_kind) .none kV_check_kind dc_check_kind pm_check_kind an_check_kind cd_check_kind ct_check_kind)
    F_check_kind := ⟨⟨_, _, _, _, _, _, _, _, _, _, rfl, l_check_kind, c_check_kind⟩, k_check_kind⟩
    b_check_kind := binds_of fun us hl => match us, hl with | [_, _], _ => rfl
    g_check_kind := PySem.W.mg_of X G a_check_kind
    f_wrong_number := f_wrong_number
    d_wrong_number := (PySem.W.fnOf "wrong_number" "wrong_number" (defArgs s_wrong_number) (defBody s_wrong_number) (defScope s_wrong_number) .none kV_wrong_number dc_wrong_number pm_wrong_number an_wrong_number (.ref c_wrong_number) ct_wrong_number)
    c_wrong_number := c_wrong_number
    P_wrong_number := P_wrong_number
    L_wrong_number := ⟨⟨_, _, _, _, _, _, _, _, _, rfl, l_wrong_number, cc_wrong_number⟩, k_wrong_number⟩
    TB_wrong_number := TB (c_wrong_number, P_wrong_number) (by simp)
    F_wrong_number := ⟨⟨_, _, _, _, _, _, _, _, _, _, rfl, l_wrong_number, cc_wrong_number⟩, k_wrong_number⟩
    b_wrong_number := binds_of fun us hl => match us, hl with | [_], _ => rfl
    g_wrong_number := PySem.W.mg_of X G a_wrong_number
    f_check_count := f_check_count
    d_check_count := (PySem.W.fnOf "check_count" "check_count" (defArgs s_check_count) (defBody s_check_count) (defScope s_check_count) .none kV_check_count dc_check_count pm_check_count an_check_count cd_check_count ct_check_count)
    F_check_count := ⟨⟨_, _, _, _, _, _, _, _, _, _, rfl, l_check_count, c_check_count⟩, k_check_count⟩
    b_check_count := binds_of fun us hl => match us, hl with | [_, _], _ => rfl
    g_check_count := PySem.W.mg_of X G a_check_count
    f_is_most := f_is_most
    d_is_most := (PySem.W.fnOf "is_most" "is_most" (defArgs s_is_most) (defBody s_is_most) (defScope s_is_most) .none kV_is_most dc_is_most pm_is_most an_is_most cd_is_most ct_is_most)
    F_is_most := ⟨⟨_, _, _, _, _, _, _, _, _, _, rfl, l_is_most, c_is_most⟩, k_is_most⟩
    b_is_most := binds_of fun us hl => match us, hl with | [_], _ => rfl
    g_is_most := PySem.W.mg_of X G a_is_most
    f_lots_sold := f_lots_sold
    d_lots_sold := (PySem.W.fnOf "lots_sold" "lots_sold" (defArgs s_lots_sold) (defBody s_lots_sold) (defScope s_lots_sold) .none kV_lots_sold dc_lots_sold pm_lots_sold an_lots_sold cd_lots_sold ct_lots_sold)
    F_lots_sold := ⟨⟨_, _, _, _, _, _, _, _, _, _, rfl, l_lots_sold, c_lots_sold⟩, k_lots_sold⟩
    b_lots_sold := binds_of fun us hl => match us, hl with | [_, _], _ => rfl
    g_lots_sold := PySem.W.mg_of X G a_lots_sold
    f_sales_by := f_sales_by
    d_sales_by := (PySem.W.fnOf "sales_by" "sales_by" (defArgs s_sales_by) (defBody s_sales_by) (defScope s_sales_by) .none kV_sales_by dc_sales_by pm_sales_by an_sales_by cd_sales_by ct_sales_by)
    F_sales_by := ⟨⟨_, _, _, _, _, _, _, _, _, _, rfl, l_sales_by, c_sales_by⟩, k_sales_by⟩
    b_sales_by := binds_of fun us hl => match us, hl with | [_, _, _, _], _ => rfl
    g_sales_by := PySem.W.mg_of X G a_sales_by
    f_check_counted := f_check_counted
    d_check_counted := (PySem.W.fnOf "check_counted" "check_counted" (defArgs s_check_counted) (defBody s_check_counted) (defScope s_check_counted) .none kV_check_counted dc_check_counted pm_check_counted an_check_counted cd_check_counted ct_check_counted)
    F_check_counted := ⟨⟨_, _, _, _, _, _, _, _, _, _, rfl, l_check_counted, c_check_counted⟩, k_check_counted⟩
    b_check_counted := binds_of fun us hl => match us, hl with | [_, _, _, _], _ => rfl
    g_check_counted := PySem.W.mg_of X G a_check_counted
    f_sales := f_sales
    d_sales := (PySem.W.fnOf "sales" "sales" (defArgs s_sales) (defBody s_sales) (defScope s_sales) .none kV_sales dc_sales pm_sales an_sales cd_sales ct_sales)
    F_sales := ⟨⟨_, _, _, _, _, _, _, _, _, _, rfl, l_sales, c_sales⟩, k_sales⟩
    b_sales := binds_of fun us hl => match us, hl with | [_, _, _, _], _ => rfl
    g_sales := PySem.W.mg_of X G a_sales
    f_worths := f_worths
    d_worths := (PySem.W.fnOf "worths" "worths" (defArgs s_worths) (defBody s_worths) (defScope s_worths) .none kV_worths dc_worths pm_worths an_worths cd_worths ct_worths)
    F_worths := ⟨⟨_, _, _, _, _, _, _, _, _, _, rfl, l_worths, c_worths⟩, k_worths⟩
    b_worths := binds_of fun us hl => match us, hl with | [_, _, _, _, _], _ => rfl
    g_worths := PySem.W.mg_of X G a_worths
    f__law_bag := f__law_bag
    d__law_bag := (PySem.W.fnOf "_law_bag" "_law_bag" (defArgs s__law_bag) (defBody s__law_bag) (defScope s__law_bag) .none kV__law_bag dc__law_bag pm__law_bag an__law_bag cd__law_bag ct__law_bag)
    F__law_bag := ⟨⟨_, _, _, _, _, _, _, _, _, _, rfl, l__law_bag, c__law_bag⟩, k__law_bag⟩
    b__law_bag := binds_of fun us hl => match us, hl with | [_, _], _ => rfl
    g__law_bag := PySem.W.mg_of X G a__law_bag
    f__law_take := f__law_take
    d__law_take := (PySem.W.fnOf "_law_take" "_law_take" (defArgs s__law_take) (defBody s__law_take) (defScope s__law_take) .none kV__law_take dc__law_take pm__law_take an__law_take cd__law_take ct__law_take)
    F__law_take := ⟨⟨_, _, _, _, _, _, _, _, _, _, rfl, l__law_take, c__law_take⟩, k__law_take⟩
    b__law_take := binds_of fun us hl => match us, hl with | [_, _], _ => rfl
    g__law_take := PySem.W.mg_of X G a__law_take
    f__law_pull := f__law_pull
    d__law_pull := (PySem.W.fnOf "_law_pull" "_law_pull" (defArgs s__law_pull) (defBody s__law_pull) (defScope s__law_pull) .none kV__law_pull dc__law_pull pm__law_pull an__law_pull cd__law_pull ct__law_pull)
    F__law_pull := ⟨⟨_, _, _, _, _, _, _, _, _, _, rfl, l__law_pull, c__law_pull⟩, k__law_pull⟩
    b__law_pull := binds_of fun us hl => match us, hl with | [_, _], _ => rfl
    g__law_pull := PySem.W.mg_of X G a__law_pull
    f__law_coins := f__law_coins
    d__law_coins := (PySem.W.fnOf "_law_coins" "_law_coins" (defArgs s__law_coins) (defBody s__law_coins) (defScope s__law_coins) .none kV__law_coins dc__law_coins pm__law_coins an__law_coins cd__law_coins ct__law_coins)
    F__law_coins := ⟨⟨_, _, _, _, _, _, _, _, _, _, rfl, l__law_coins, c__law_coins⟩, k__law_coins⟩
    b__law_coins := binds_of fun us hl => match us, hl with | [_, _], _ => rfl
    g__law_coins := PySem.W.mg_of X G a__law_coins
    f__law_worth := f__law_worth
    d__law_worth := (PySem.W.fnOf "_law_worth" "_law_worth" (defArgs s__law_worth) (defBody s__law_worth) (defScope s__law_worth) .none kV__law_worth dc__law_worth pm__law_worth an__law_worth cd__law_worth ct__law_worth)
    F__law_worth := ⟨⟨_, _, _, _, _, _, _, _, _, _, rfl, l__law_worth, c__law_worth⟩, k__law_worth⟩
    b__law_worth := binds_of fun us hl => match us, hl with | [_, _], _ => rfl
    g__law_worth := PySem.W.mg_of X G a__law_worth
    f__law_parts := f__law_parts
    d__law_parts := (PySem.W.fnOf "_law_parts" "_law_parts" (defArgs s__law_parts) (defBody s__law_parts) (defScope s__law_parts) .none kV__law_parts dc__law_parts pm__law_parts an__law_parts cd__law_parts ct__law_parts)
    F__law_parts := ⟨⟨_, _, _, _, _, _, _, _, _, _, rfl, l__law_parts, c__law_parts⟩, k__law_parts⟩
    b__law_parts := binds_of fun us hl => match us, hl with | [_, _], _ => rfl
    g__law_parts := PySem.W.mg_of X G a__law_parts
    f__law_machine := f__law_machine
    d__law_machine := (PySem.W.fnOf "_law_machine" "_law_machine" (defArgs s__law_machine) (defBody s__law_machine) (defScope s__law_machine) .none kV__law_machine dc__law_machine pm__law_machine an__law_machine cd__law_machine ct__law_machine)
    F__law_machine := ⟨⟨_, _, _, _, _, _, _, _, _, _, rfl, l__law_machine, c__law_machine⟩, k__law_machine⟩
    b__law_machine := binds_of fun us hl => match us, hl with | [_], _ => rfl
    g__law_machine := PySem.W.mg_of X G a__law_machine
    f__law_stock := f__law_stock
    d__law_stock := (PySem.W.fnOf "_law_stock" "_law_stock" (defArgs s__law_stock) (defBody s__law_stock) (defScope s__law_stock) .none kV__law_stock dc__law_stock pm__law_stock an__law_stock cd__law_stock ct__law_stock)
    F__law_stock := ⟨⟨_, _, _, _, _, _, _, _, _, _, rfl, l__law_stock, c__law_stock⟩, k__law_stock⟩
    b__law_stock := binds_of fun us hl => match us, hl with | [_, _], _ => rfl
    g__law_stock := PySem.W.mg_of X G a__law_stock
    f__law_sales := f__law_sales
    d__law_sales := (PySem.W.fnOf "_law_sales" "_law_sales" (defArgs s__law_sales) (defBody s__law_sales) (defScope s__law_sales) .none kV__law_sales dc__law_sales pm__law_sales an__law_sales cd__law_sales ct__law_sales)
    F__law_sales := ⟨⟨_, _, _, _, _, _, _, _, _, _, rfl, l__law_sales, c__law_sales⟩, k__law_sales⟩
    b__law_sales := binds_of fun us hl => match us, hl with | [_, _, _, _], _ => rfl
    g__law_sales := PySem.W.mg_of X G a__law_sales
    f__law_count := f__law_count
    d__law_count := (PySem.W.fnOf "_law_count" "_law_count" (defArgs s__law_count) (defBody s__law_count) (defScope s__law_count) .none kV__law_count dc__law_count pm__law_count an__law_count cd__law_count ct__law_count)
    F__law_count := ⟨⟨_, _, _, _, _, _, _, _, _, _, rfl, l__law_count, c__law_count⟩, k__law_count⟩
    b__law_count := binds_of fun us hl => match us, hl with | [_, _, _, _], _ => rfl
    g__law_count := PySem.W.mg_of X G a__law_count
    f__law_right := f__law_right
    d__law_right := (PySem.W.fnOf "_law_right" "_law_right" (defArgs s__law_right) (defBody s__law_right) (defScope s__law_right) .none kV__law_right dc__law_right pm__law_right an__law_right cd__law_right ct__law_right)
    F__law_right := ⟨⟨_, _, _, _, _, _, _, _, _, _, rfl, l__law_right, c__law_right⟩, k__law_right⟩
    b__law_right := binds_of fun us hl => match us, hl with | [_], _ => rfl
    g__law_right := PySem.W.mg_of X G a__law_right
    f_law := fa
    d_law := (PySem.W.fnOf "law" "law" (defArgs s_law) (defBody s_law) (defScope s_law) .none kV_law dc_law pm_law an_law cd_law ct_law)
    F_law := ⟨⟨_, _, _, _, _, _, _, _, _, _, rfl, l_law, c_law⟩, k_law⟩
    b_law := binds_of fun us hl => match us, hl with | [_], _ => rfl
    g_law := PySem.W.mg_of X G a_law
    f_Machine___init__ := f_Machine___init__
    d_Machine___init__ := (PySem.W.fnOf "__init__" "Machine.__init__" (defArgs s_Machine___init__) (defBody s_Machine___init__) (defScope s_Machine___init__) (.ref T_Machine___init__) kV_Machine___init__ dc_Machine___init__ pm_Machine___init__ an_Machine___init__ cd_Machine___init__ ct_Machine___init__)
    F_Machine___init__ := ⟨⟨_, _, _, _, _, _, _, _, _, _, rfl, l_Machine___init__, c_Machine___init__⟩, k_Machine___init__⟩
    b_Machine___init__ := binds_full t_Machine___init__ fun us hl => match us, hl with | [_, _, _, _, _], _ => ⟨_, rfl, rfl⟩
    ds1_Machine___init__ := [.none]
    b1_Machine___init__ := binds_dfl (n := 4) t_Machine___init__ rfl fun us hl => match us, hl with | [_, _, _, _], _ => ⟨_, rfl, rfl⟩
    v1_Machine___init__ := .cons rfl .nil
    C_Machine := C_Machine
    g_Machine := PySem.W.mg_of X G aC_Machine
    cls_Machine := ⟨pg_Machine, hd_Machine, po_Machine, sa_Machine⟩
    mk_Machine := ⟨mk_Machine, a_Machine___init__, i_Machine___init__, kc_Machine⟩
    is_Machine := ⟨⟨pg_Machine, hd_Machine, po_Machine, sa_Machine⟩, i1_Machine, i2_Machine, i3_Machine, i4_Machine, i5_Machine⟩
    na_coins := nf_coins
    na_tubes := nf_tubes
    na_kinds := nf_kinds
    na_pattern := nf_pattern
    t_MOST_COINS := tk_MOST_COINS
    g_MOST_COINS := PySem.W.mg_of X G g_MOST_COINS
    t_MOST_VALUE := tk_MOST_VALUE
    g_MOST_VALUE := PySem.W.mg_of X G g_MOST_VALUE
    t_MOST_IN_TUBE := tk_MOST_IN_TUBE
    g_MOST_IN_TUBE := PySem.W.mg_of X G g_MOST_IN_TUBE
    t_MOST_KINDS := tk_MOST_KINDS
    g_MOST_KINDS := PySem.W.mg_of X G g_MOST_KINDS
    t_MOST_PRICE := tk_MOST_PRICE
    g_MOST_PRICE := PySem.W.mg_of X G g_MOST_PRICE
    t_MOST_PAID := tk_MOST_PAID
    g_MOST_PAID := PySem.W.mg_of X G g_MOST_PAID
    t_MOST_STOPS := tk_MOST_STOPS
    g_MOST_STOPS := PySem.W.mg_of X G g_MOST_STOPS
    t_MOST_COUNTED := tk_MOST_COUNTED
    g_MOST_COUNTED := PySem.W.mg_of X G g_MOST_COUNTED
    t_MOST_CUSTOMERS := tk_MOST_CUSTOMERS
    g_MOST_CUSTOMERS := PySem.W.mg_of X G g_MOST_CUSTOMERS
    z_abs := PySem.W.mg_none_of X G z_abs
    z_all := PySem.W.mg_none_of X G z_all
    z_bool := PySem.W.mg_none_of X G z_bool
    z_divmod := PySem.W.mg_none_of X G z_divmod
    z_enumerate := PySem.W.mg_none_of X G z_enumerate
    z_int := PySem.W.mg_none_of X G z_int
    z_isinstance := PySem.W.mg_none_of X G z_isinstance
    z_len := PySem.W.mg_none_of X G z_len
    z_max := PySem.W.mg_none_of X G z_max
    z_min := PySem.W.mg_none_of X G z_min
    z_range := PySem.W.mg_none_of X G z_range
    z_set := PySem.W.mg_none_of X G z_set
    z_sorted := PySem.W.mg_none_of X G z_sorted
    z_sum := PySem.W.mg_none_of X G z_sum
    z_tuple := PySem.W.mg_none_of X G z_tuple
    z_zip := PySem.W.mg_none_of X G z_zip }
  refine ((ok_law (P := l.prog) (w := w) T).fn.mono (by decide)).imp fun vs H Q E ⟨a, ns, e, hS, hl, hH, q⟩ => ?_
  subst e
  have hR : (∃ vs, H a = some (.lst vs) ∧ vs = ns.map V.int) ∨ ∃ o vs, H a = some (.frz o (.lst vs)) ∧ vs = ns.map V.int := by
    rcases hS with (z | ⟨o, z⟩) | ⟨o, its, n, z1, z2, _⟩
    · exact .inl ⟨_, z, rfl⟩
    · exact .inr ⟨o, _, z, rfl⟩
    · exact absurd z2 (noList nl z1)
  have hne : ∀ P, H P = some (.tbl #[]) → P ≠ a := fun P hP z => by
    rw [z] at hP
    rcases hR with ⟨vs, z, _⟩ | ⟨o, vs, z, _⟩ <;> rw [hP] at z <;> cases z
  let G0 : Hq := put (put (put (put (fun _ => none) P_wrong_tube (.tab (tq "wrong_tube"))) P_wrong_kind (.tab (tq "wrong_kind"))) P_wrong_stop (.tab (tq "wrong_stop"))) P_wrong_number (.tab (tq "wrong_number"))
  have hP : ∀ p ∈ ([(c_wrong_tube, P_wrong_tube), (c_wrong_kind, P_wrong_kind), (c_wrong_stop, P_wrong_stop), (c_wrong_number, P_wrong_number)] : List (Addr × Addr)), H p.2 = some (.tbl #[]) := hH
  have ht := hP (c_wrong_tube, P_wrong_tube) (by simp)
  have hk := hP (c_wrong_kind, P_wrong_kind) (by simp)
  have hs := hP (c_wrong_stop, P_wrong_stop) (by simp)
  have hn := hP (c_wrong_number, P_wrong_number) (by simp)
  simp only [List.nodup_cons, List.mem_cons, List.not_mem_nil, or_false, not_or, List.nodup_nil, and_true, not_false_eq_true] at dP
  have hG0 : ∀ b o, G0 b = some o → AbO ⟨l.prog, w, K, base.objs.size⟩ H b o := fun b o e => by
    simp only [G0, put] at e
    split at e
    · rename_i z; cases e; subst z; exact ⟨mem_tabsK h_wrong_number, LamX.TabS.nil hn⟩
    split at e
    · rename_i z; cases e; subst z; exact ⟨mem_tabsK h_wrong_stop, LamX.TabS.nil hs⟩
    split at e
    · rename_i z; cases e; subst z; exact ⟨mem_tabsK h_wrong_kind, LamX.TabS.nil hk⟩
    split at e
    · rename_i z; cases e; subst z; exact ⟨mem_tabsK h_wrong_tube, LamX.TabS.nil ht⟩
    · cases e
  have hTb : ∀ o, Tb T (put G0 a o) := fun o => by
    refine ⟨?_, ?_, ?_, ?_⟩
    · show put G0 a o P_wrong_tube = _
      rw [put_ne (hne _ ht)]; simp only [G0, put]; grind
    · show put G0 a o P_wrong_kind = _
      rw [put_ne (hne _ hk)]; simp only [G0, put]; grind
    · show put G0 a o P_wrong_stop = _
      rw [put_ne (hne _ hs)]; simp only [G0, put]; grind
    · show put G0 a o P_wrong_number = _
      rw [put_ne (hne _ hn)]; simp only [G0, put]; grind
  have fin : ∀ (o : Ho), (o = .lst (ivs ns) ∨ o = .rol (ivs ns)) → AbO ⟨l.prog, w, K, base.objs.size⟩ H a o → upP ⟨l.prog, w, K, base.objs.size⟩ (sp_law T) [V.ref a] H Q E := fun o ho hA =>
    ⟨[.ref a], put G0 a o, fun w _ => w = .bl true, X0, .cons .ref .nil, fun b u e => by
      by_cases hb : b = a
      · subst hb; rw [put_same] at e; cases e; exact hA
      · rw [put_ne hb] at e; exact hG0 b u e, ⟨a, ns, rfl, by
      rcases ho with rfl | rfl
      · exact .inl put_same
      · exact .inr put_same, hl, hTb o, .mk rfl⟩, fun v H1 w G1 t r g e => by subst e; cases r; exact q H1, CnX.zero⟩
  rcases hR with ⟨vs, z, rfl⟩ | ⟨o, vs, z, rfl⟩
  · exact fin (.lst (ivs ns)) (.inl rfl) ⟨_, z, Rps.of_ints⟩
  · exact fin (.rol (ivs ns)) (.inr rfl) ⟨o, _, z, Rps.of_ints⟩
end L3
open PySem PySem.W PyProof.Rows
set_option maxHeartbeats 0 in
theorem PySem.Challenge.cw_changegiven_k75_whole_counts_of_one_wort_holds : PySem.Challenge.rw_changegiven_k75_whole_counts_of_one_wort.Holds := by
  w_on; o_law; k_head; (case hw => w_witness2)
  k_fill
  refine LamX.walk_ofTs (l := PySem.Challenge.rw_changegiven_k75_whole_counts_of_one_wort) (n := 63) (k := 16) (x := "script") (CX := fun _ => L2.CX0) rfl (by decide) rfl ⟨rfl, by decide, by decide⟩ (fun w h Y => PySem.W.km_in_of Y) ?F (fun _ _ _ _ _ z => z)
  case F =>
    intro w mg fa h Y KX G hmg
    have TT := PySem.W.km_tabs_of Y
    refine' L3.all_mk (P_wrong_tube := 249) (P_wrong_kind := 263) (P_wrong_stop := 282) (P_wrong_number := 391) KX G hmg ?aC_Machine ?a_is_whole ?l_is_whole ?c_is_whole ?k_is_whole ?a_is_number ?l_is_number ?c_is_number ?k_is_number ?t_is_number ?a_is_between ?l_is_between ?c_is_between ?k_is_between ?a_is_tuple_of ?l_is_tuple_of ?c_is_tuple_of ?k_is_tuple_of ?a_is_row ?l_is_row ?c_is_row ?k_is_row ?a_first_wrong ?l_first_wrong ?c_first_wrong ?k_first_wrong ?a_worth_of ?l_worth_of ?c_worth_of ?k_worth_of ?a_are_numbers ?l_are_numbers ?c_are_numbers ?k_are_numbers ?t_are_numbers ?a_is_coin_behind ?l_is_coin_behind ?c_is_coin_behind ?k_is_coin_behind ?a_wrong_coin ?l_wrong_coin ?c_wrong_coin ?k_wrong_coin ?a_wrong_tube ?l_wrong_tube ?cc_wrong_tube ?k_wrong_tube ?h_wrong_tube ?n_wrong_tube ?e_wrong_tube ?a_is_kind_behind ?l_is_kind_behind ?c_is_kind_behind ?k_is_kind_behind ?a_wrong_kind ?l_wrong_kind ?cc_wrong_kind ?k_wrong_kind ?h_wrong_kind ?n_wrong_kind ?e_wrong_kind ?a_is_pair ?l_is_pair ?c_is_pair ?k_is_pair ?a_is_stop_row ?l_is_stop_row ?c_is_stop_row ?k_is_stop_row ?a_wrong_stop ?l_wrong_stop ?cc_wrong_stop ?k_wrong_stop ?h_wrong_stop ?n_wrong_stop ?e_wrong_stop ?a_check_coins ?l_check_coins ?c_check_coins ?k_check_coins ?a_check_tubes ?l_check_tubes ?c_check_tubes ?k_check_tubes ?a_check_kinds ?l_check_kinds ?c_check_kinds ?k_check_kinds ?a_check_pattern ?l_check_pattern ?c_check_pattern ?k_check_pattern ?a_any_row ?l_any_row ?c_any_row ?k_any_row ?a_check_machine ?l_check_machine ?c_check_machine ?k_check_machine ?a_is_stock ?l_is_stock ?c_is_stock ?k_is_stock ?a_check_stock ?l_check_stock ?c_check_stock ?k_check_stock ?a_is_kind ?l_is_kind ?c_is_kind ?k_is_kind ?a_check_kind ?l_check_kind ?c_check_kind ?k_check_kind ?a_wrong_number ?l_wrong_number ?cc_wrong_number ?k_wrong_number ?h_wrong_number ?n_wrong_number ?e_wrong_number ?a_check_count ?l_check_count ?c_check_count ?k_check_count ?a_is_most ?l_is_most ?c_is_most ?k_is_most ?a_lots_sold ?l_lots_sold ?c_lots_sold ?k_lots_sold ?a_sales_by ?l_sales_by ?c_sales_by ?k_sales_by ?a_check_counted ?l_check_counted ?c_check_counted ?k_check_counted ?a_sales ?l_sales ?c_sales ?k_sales ?a_worths ?l_worths ?c_worths ?k_worths ?a__law_bag ?l__law_bag ?c__law_bag ?k__law_bag ?a__law_take ?l__law_take ?c__law_take ?k__law_take ?a__law_pull ?l__law_pull ?c__law_pull ?k__law_pull ?a__law_coins ?l__law_coins ?c__law_coins ?k__law_coins ?a__law_worth ?l__law_worth ?c__law_worth ?k__law_worth ?a__law_parts ?l__law_parts ?c__law_parts ?k__law_parts ?a__law_machine ?l__law_machine ?c__law_machine ?k__law_machine ?a__law_stock ?l__law_stock ?c__law_stock ?k__law_stock ?a__law_sales ?l__law_sales ?c__law_sales ?k__law_sales ?a__law_count ?l__law_count ?c__law_count ?k__law_count ?a__law_right ?l__law_right ?c__law_right ?k__law_right ?a_law ?l_law ?c_law ?k_law ?a_Machine___init__ ?i_Machine___init__ ?l_Machine___init__ ?c_Machine___init__ ?k_Machine___init__ ?t_Machine___init__ ?pg_Machine ?hd_Machine ?po_Machine ?sa_Machine ?mk_Machine ?kc_Machine ?i1_Machine ?i4_Machine ?i2_Machine ?i3_Machine ?i5_Machine ?nf_coins ?nf_tubes ?nf_kinds ?nf_pattern ?g_MOST_COINS ?g_MOST_VALUE ?g_MOST_IN_TUBE ?g_MOST_KINDS ?g_MOST_PRICE ?g_MOST_PAID ?g_MOST_STOPS ?g_MOST_COUNTED ?g_MOST_CUSTOMERS ?z_abs ?z_all ?z_bool ?z_divmod ?z_enumerate ?z_int ?z_isinstance ?z_len ?z_max ?z_min ?z_range ?z_set ?z_sorted ?z_sum ?z_tuple ?z_zip ?nl ?dP
    (case aC_Machine => k_is)
    (case a_is_whole => k_is)
    (case l_is_whole => k_is)
    (case c_is_whole => k_is)
    (case k_is_whole => k_is)
    (case a_is_number => k_is)
    (case l_is_number => k_is)
    (case c_is_number => k_is)
    (case k_is_number => k_is)
    (case t_is_number => k_is)
    (case a_is_between => k_is)
    (case l_is_between => k_is)
    (case c_is_between => k_is)
    (case k_is_between => k_is)
    (case a_is_tuple_of => k_is)
    (case l_is_tuple_of => k_is)
    (case c_is_tuple_of => k_is)
    (case k_is_tuple_of => k_is)
    (case a_is_row => k_is)
    (case l_is_row => k_is)
    (case c_is_row => k_is)
    (case k_is_row => k_is)
    (case a_first_wrong => k_is)
    (case l_first_wrong => k_is)
    (case c_first_wrong => k_is)
    (case k_first_wrong => k_is)
    (case a_worth_of => k_is)
    (case l_worth_of => k_is)
    (case c_worth_of => k_is)
    (case k_worth_of => k_is)
    (case a_are_numbers => k_is)
    (case l_are_numbers => k_is)
    (case c_are_numbers => k_is)
    (case k_are_numbers => k_is)
    (case t_are_numbers => k_is)
    (case a_is_coin_behind => k_is)
    (case l_is_coin_behind => k_is)
    (case c_is_coin_behind => k_is)
    (case k_is_coin_behind => k_is)
    (case a_wrong_coin => k_is)
    (case l_wrong_coin => k_is)
    (case c_wrong_coin => k_is)
    (case k_wrong_coin => k_is)
    (case a_wrong_tube => k_is)
    (case l_wrong_tube => k_is)
    (case cc_wrong_tube => k_is)
    (case k_wrong_tube => k_is)
    (case h_wrong_tube => first | kernel_rfl | rfl)
    (case n_wrong_tube => first | kernel_rfl | k_is | rfl)
    (case e_wrong_tube => exact TT _ (by simp))
    (case a_is_kind_behind => k_is)
    (case l_is_kind_behind => k_is)
    (case c_is_kind_behind => k_is)
    (case k_is_kind_behind => k_is)
    (case a_wrong_kind => k_is)
    (case l_wrong_kind => k_is)
    (case cc_wrong_kind => k_is)
    (case k_wrong_kind => k_is)
    (case h_wrong_kind => first | kernel_rfl | rfl)
    (case n_wrong_kind => first | kernel_rfl | k_is | rfl)
    (case e_wrong_kind => exact TT _ (by simp))
    (case a_is_pair => k_is)
    (case l_is_pair => k_is)
    (case c_is_pair => k_is)
    (case k_is_pair => k_is)
    (case a_is_stop_row => k_is)
    (case l_is_stop_row => k_is)
    (case c_is_stop_row => k_is)
    (case k_is_stop_row => k_is)
    (case a_wrong_stop => k_is)
    (case l_wrong_stop => k_is)
    (case cc_wrong_stop => k_is)
    (case k_wrong_stop => k_is)
    (case h_wrong_stop => first | kernel_rfl | rfl)
    (case n_wrong_stop => first | kernel_rfl | k_is | rfl)
    (case e_wrong_stop => exact TT _ (by simp))
    (case a_check_coins => k_is)
    (case l_check_coins => k_is)
    (case c_check_coins => k_is)
    (case k_check_coins => k_is)
    (case a_check_tubes => k_is)
    (case l_check_tubes => k_is)
    (case c_check_tubes => k_is)
    (case k_check_tubes => k_is)
    (case a_check_kinds => k_is)
    (case l_check_kinds => k_is)
    (case c_check_kinds => k_is)
    (case k_check_kinds => k_is)
    (case a_check_pattern => k_is)
    (case l_check_pattern => k_is)
    (case c_check_pattern => k_is)
    (case k_check_pattern => k_is)
    (case a_any_row => k_is)
    (case l_any_row => k_is)
    (case c_any_row => k_is)
    (case k_any_row => k_is)
    (case a_check_machine => k_is)
    (case l_check_machine => k_is)
    (case c_check_machine => k_is)
    (case k_check_machine => k_is)
    (case a_is_stock => k_is)
    (case l_is_stock => k_is)
    (case c_is_stock => k_is)
    (case k_is_stock => k_is)
    (case a_check_stock => k_is)
    (case l_check_stock => k_is)
    (case c_check_stock => k_is)
    (case k_check_stock => k_is)
    (case a_is_kind => k_is)
    (case l_is_kind => k_is)
    (case c_is_kind => k_is)
    (case k_is_kind => k_is)
    (case a_check_kind => k_is)
    (case l_check_kind => k_is)
    (case c_check_kind => k_is)
    (case k_check_kind => k_is)
    (case a_wrong_number => k_is)
    (case l_wrong_number => k_is)
    (case cc_wrong_number => k_is)
    (case k_wrong_number => k_is)
    (case h_wrong_number => first | kernel_rfl | rfl)
    (case n_wrong_number => first | kernel_rfl | k_is | rfl)
    (case e_wrong_number => exact TT _ (by simp))
    (case a_check_count => k_is)
    (case l_check_count => k_is)
    (case c_check_count => k_is)
    (case k_check_count => k_is)
    (case a_is_most => k_is)
    (case l_is_most => k_is)
    (case c_is_most => k_is)
    (case k_is_most => k_is)
    (case a_lots_sold => k_is)
    (case l_lots_sold => k_is)
    (case c_lots_sold => k_is)
    (case k_lots_sold => k_is)
    (case a_sales_by => k_is)
    (case l_sales_by => k_is)
    (case c_sales_by => k_is)
    (case k_sales_by => k_is)
    (case a_check_counted => k_is)
    (case l_check_counted => k_is)
    (case c_check_counted => k_is)
    (case k_check_counted => k_is)
    (case a_sales => k_is)
    (case l_sales => k_is)
    (case c_sales => k_is)
    (case k_sales => k_is)
    (case a_worths => k_is)
    (case l_worths => k_is)
    (case c_worths => k_is)
    (case k_worths => k_is)
    (case a__law_bag => k_is)
    (case l__law_bag => k_is)
    (case c__law_bag => k_is)
    (case k__law_bag => k_is)
    (case a__law_take => k_is)
    (case l__law_take => k_is)
    (case c__law_take => k_is)
    (case k__law_take => k_is)
    (case a__law_pull => k_is)
    (case l__law_pull => k_is)
    (case c__law_pull => k_is)
    (case k__law_pull => k_is)
    (case a__law_coins => k_is)
    (case l__law_coins => k_is)
    (case c__law_coins => k_is)
    (case k__law_coins => k_is)
    (case a__law_worth => k_is)
    (case l__law_worth => k_is)
    (case c__law_worth => k_is)
    (case k__law_worth => k_is)
    (case a__law_parts => k_is)
    (case l__law_parts => k_is)
    (case c__law_parts => k_is)
    (case k__law_parts => k_is)
    (case a__law_machine => k_is)
    (case l__law_machine => k_is)
    (case c__law_machine => k_is)
    (case k__law_machine => k_is)
    (case a__law_stock => k_is)
    (case l__law_stock => k_is)
    (case c__law_stock => k_is)
    (case k__law_stock => k_is)
    (case a__law_sales => k_is)
    (case l__law_sales => k_is)
    (case c__law_sales => k_is)
    (case k__law_sales => k_is)
    (case a__law_count => k_is)
    (case l__law_count => k_is)
    (case c__law_count => k_is)
    (case k__law_count => k_is)
    (case a__law_right => k_is)
    (case l__law_right => k_is)
    (case c__law_right => k_is)
    (case k__law_right => k_is)
    (case a_law => k_is)
    (case l_law => k_is)
    (case c_law => k_is)
    (case k_law => k_is)
    (case a_Machine___init__ => k_is)
    (case i_Machine___init__ => k_is)
    (case l_Machine___init__ => k_is)
    (case c_Machine___init__ => k_is)
    (case k_Machine___init__ => k_is)
    (case t_Machine___init__ => k_is)
    (case pg_Machine => k_is)
    (case hd_Machine => k_is)
    (case po_Machine => k_is)
    (case sa_Machine => k_is)
    (case mk_Machine => k_is)
    (case kc_Machine => k_is)
    (case i1_Machine => k_is)
    (case i4_Machine => k_is)
    (case i2_Machine => k_is)
    (case i3_Machine => k_is)
    (case i5_Machine => first | kernel_rfl | rfl)
    (case nf_coins => k_is)
    (case nf_tubes => k_is)
    (case nf_kinds => k_is)
    (case nf_pattern => k_is)
    (case g_MOST_COINS => k_is)
    (case g_MOST_VALUE => k_is)
    (case g_MOST_IN_TUBE => k_is)
    (case g_MOST_KINDS => k_is)
    (case g_MOST_PRICE => k_is)
    (case g_MOST_PAID => k_is)
    (case g_MOST_STOPS => k_is)
    (case g_MOST_COUNTED => k_is)
    (case g_MOST_CUSTOMERS => k_is)
    (case z_abs => k_is)
    (case z_all => k_is)
    (case z_bool => k_is)
    (case z_divmod => k_is)
    (case z_enumerate => k_is)
    (case z_int => k_is)
    (case z_isinstance => k_is)
    (case z_len => k_is)
    (case z_max => k_is)
    (case z_min => k_is)
    (case z_range => k_is)
    (case z_set => k_is)
    (case z_sorted => k_is)
    (case z_sum => k_is)
    (case z_tuple => k_is)
    (case z_zip => k_is)
    (case nl => first | kernel_rfl | rfl)
    (case dP => decide)

