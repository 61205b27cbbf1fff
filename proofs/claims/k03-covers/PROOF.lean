import PyProof.Rows.All
import Wide.All
import OpenK.AllK
import Wide.FinOn
import HandS.ForMost
import HandS.Flow
import HandS.Deep
import HandS.TupAny
import HandS.Wide
import HandS.Lambda
import HandS.Evl
import HandS.Conv
import HandS.Rev
import HandS.TupLen
import HandS.More
import HandS.SetFor
import KE.SortData
import KE.KDictSum
import HandS.IsInst
import HandS.Zip
import HandS.RevTup
import HandS.TupSets
import HandS.EndBits
import HandS.TupLe
import PySem.Challenge.RW_rankyard_k03_covers
set_option Elab.async false
set_option linter.all false
set_option maxRecDepth 100000
set_option maxHeartbeats 4000000
/-! The layer Rk: expressions and statements as plain functions over data. -/
namespace Rk
open PySem L2
abbrev Env := List (Option PyData)
/-- a slot's datum -/
def gt (G : Env) (i : Nat) : Option PyData := (G[i]?).join
/-! ### how data stand in the heap -/
mutual
inductive Dq (B : Hp) : V → PyData → Prop
  | non : Dq B .non .none
  | bl (b : Bool) : Dq B (.bl b) (.bool b)
  | int (i : Int) : Dq B (.int i) (.int i)
  | str (x : Str) : Dq B (.str x) (.str x)
  | lst {a : Addr} {xs : List V} {ds : List PyData} : Rd B a (.lst xs) → DqAll B xs ds → Dq B (.ref a) (.list ds)
  | tup {a : Addr} {xs : List V} {ds : List PyData} : B a = some (.tup xs) → DqAll B xs ds → Dq B (.ref a) (.tuple ds)
inductive DqAll (B : Hp) : List V → List PyData → Prop
  | nil : DqAll B [] []
  | cons {v : V} {vs : List V} {d : PyData} {ds : List PyData} : Dq B v d → DqAll B vs ds → DqAll B (v :: vs) (d :: ds)
end
section
inductive KI (B : Hp) : List (Key × V) → List (PyData × PyData) → Prop
  | nil : KI B [] []
  | cons {i : Int} {v : V} {d : PyData} {kv : List (Key × V)} {kd : List (PyData × PyData)} : Dq B v d → KI B kv kd → KI B ((Sum.inl i, v) :: kv) ((.int i, d) :: kd)
inductive KT (B : Hp) : List (List Key × V) → List (PyData × PyData) → Prop
  | nil : KT B [] []
  | cons {is : List Int} {v : V} {d : PyData} {kv : List (List Key × V)} {kd : List (PyData × PyData)} : Dq B v d → KT B kv kd → KT B ((is.map Sum.inl, v) :: kv) ((.tuple (is.map .int), d) :: kd)
/-- an object's content stands for d, its items in B -/
def AtO (B : Hp) : HO → PyData → Prop
  | .lst xs, .list ds => DqAll B xs ds
  | .dK kv, .dict kd => KI B kv kd
  | .dT kv, .dict kd => KT B kv kd
  | _, _ => False
/-- v stands for d, what it reaches is in B -/
def RepV (B : Hp) (v : V) (d : PyData) : Prop := Dq B v d ∨ ∃ a o, v = .ref a ∧ B a = some o ∧ AtO B o d
/-- v stands for d: its own object in H, its items in B -/
def RepA (B H : Hp) (v : V) (d : PyData) : Prop := Dq B v d ∨ ∃ a o, v = .ref a ∧ H a = some o ∧ AtO B o d
inductive RepVs (B : Hp) : List V → List PyData → Prop
  | nil : RepVs B [] []
  | cons {v : V} {d : PyData} {vs : List V} {ds : List PyData} : RepV B v d → RepVs B vs ds → RepVs B (v :: vs) (d :: ds)
end
def NoTb (o : HO) : Prop := ∀ ps, o ≠ .tbl ps
def NoTp (o : HO) : Prop := ∀ xs, o ≠ .tup xs
def Sub (B H : Hp) : Prop := ∀ a o, B a = some o → H a = some o ∧ NoTb o
abbrev Ex (B H : Hp) : Prop := Evl.Ex B H
theorem Ex.refl (B : Hp) : Ex B B := Evl.Ex.refl B
theorem Ex.trans {B C D : Hp} (p : Ex B C) (q : Ex C D) : Ex B D := Evl.Ex.trans p q
abbrev Tb := List (Addr × Str)
/-- the heap grows from (B, H) to (B', H') -/
structure Ext (T : Tb) (B H B' H' : Hp) : Prop where
  sub : Sub B' H'
  b : Ex B B'
  h : LamX.ExtN H H'
  dom : ∀ a, H a ≠ none → H' a ≠ none
  ag : ∀ a o, H a = some o → NoTb o → NoTp o → B' a = B a
  tb : LamX.Tabs T H → LamX.Tabs T H'
section
variable {T : Tb} {B H B1 H1 B2 H2 B' H' : Hp}
theorem Ext.refl (s : Sub B H) : Ext T B H B H := ⟨s, Ex.refl B, LamX.ExtN.refl H, fun _ h => h, fun _ _ _ _ _ => rfl, fun t => t⟩
theorem Ext.trans (a : Ext T B H B1 H1) (b : Ext T B1 H1 B2 H2) : Ext T B H B2 H2 :=
  ⟨b.sub, a.b.trans b.b, a.h.trans b.h, fun x h => b.dom x (a.dom x h), fun x o h n t => (b.ag x o (a.h x o h n) n t).trans (a.ag x o h n t), fun t => b.tb (a.tb t)⟩
theorem Ext.get (e : Ext T B H B' H') {a : Addr} {o : HO} (h : H a = some o) (n : NoTb o) : H' a = some o := e.h a o h n
theorem Ext.fresh (e : Ext T B H B' H') {a : Addr} (h : H' a = none) : H a = none := by
  cases q : H a with
  | none => rfl
  | some o => exact absurd h (e.dom a (by rw [q]; exact fun z => nomatch z))
theorem noTb_lst (xs : List V) : NoTb (.lst xs) := fun _ z => nomatch z
theorem noTb_tup (xs : List V) : NoTb (.tup xs) := fun _ z => nomatch z
theorem noTb_dK (xs : List (Key × V)) : NoTb (.dK xs) := fun _ z => nomatch z
theorem noTb_dT (xs : List (List Key × V)) : NoTb (.dT xs) := fun _ z => nomatch z
/-- a new object, hidden -/
theorem Ext.new0 {p : Addr} {o : HO} (s : Sub B H) (hp : H p = none) : Ext T B H B (upd H p o) :=
  ⟨fun a u e => ⟨by rw [upd_ne (ne_of_none (s a u e).1 hp)]; exact (s a u e).1, (s a u e).2⟩, Ex.refl B, fun a u e _ => by rw [upd_ne (ne_of_none e hp)]; exact e,
    fun a h => by
      by_cases q : a = p
      · subst q; exact absurd hp h
      · rw [upd_ne q]; exact h,
    fun _ _ _ _ _ => rfl, fun t => t.ext fun a u e => by rw [upd_ne (ne_of_none e hp)]; exact e⟩
/-- a hidden object becomes visible -/
theorem Ext.show {p : Addr} {o : HO} (e : Ext T B H B' H') (hp : H p = none) (hb : B' p = none) (ho : H' p = some o) (n : NoTb o) : Ext T B H (upd B' p o) H' :=
  ⟨fun a u q => by
      by_cases z : a = p
      · rw [z, upd_same] at q; cases q; rw [z]; exact ⟨ho, n⟩
      · rw [upd_ne z] at q; exact e.sub a u q,
    fun a u q => by rw [upd_ne (ne_of_none (e.b a u q) hb)]; exact e.b a u q, e.h, e.dom,
    fun a o' q n t => by rw [upd_ne (ne_of_none q hp)]; exact e.ag a o' q n t, e.tb⟩
theorem Sub.none (s : Sub B H) {p : Addr} (hp : H p = none) : B p = none := by
  cases q : B p with
  | none => rfl
  | some o => rw [(s p o q).1] at hp; cases hp
theorem Ext.new {p : Addr} {o : HO} (s : Sub B H) (hp : H p = none) (n : NoTb o) : Ext T B H (upd B p o) (upd H p o) := (Ext.new0 s hp).show hp (s.none hp) upd_same n
end
section
variable {B B' H H' : Hp}
theorem ex_rd (e : Ex B B') {a : Addr} {u : HO} (h : Rd B a u) : Rd B' a u := by
  rcases h with h | ⟨o, h⟩
  · exact Or.inl (e a _ h)
  · exact Or.inr ⟨o, e a _ h⟩
mutual
theorem Dq.mono (e : Ex B B') : ∀ {v : V} {d : PyData}, Dq B v d → Dq B' v d
  | _, _, .non => .non
  | _, _, .bl b => .bl b
  | _, _, .int i => .int i
  | _, _, .str x => .str x
  | _, _, .lst h a => .lst (ex_rd e h) (DqAll.mono e a)
  | _, _, .tup h a => .tup (e _ _ h) (DqAll.mono e a)
theorem DqAll.mono (e : Ex B B') : ∀ {vs : List V} {ds : List PyData}, DqAll B vs ds → DqAll B' vs ds
  | _, _, .nil => .nil
  | _, _, .cons h t => .cons (Dq.mono e h) (DqAll.mono e t)
end
theorem KI.mono (e : Ex B B') : ∀ {kv : List (Key × V)} {kd : List (PyData × PyData)}, KI B kv kd → KI B' kv kd
  | _, _, .nil => .nil
  | _, _, .cons h t => .cons (Dq.mono e h) (KI.mono e t)
theorem KT.mono (e : Ex B B') : ∀ {kv : List (List Key × V)} {kd : List (PyData × PyData)}, KT B kv kd → KT B' kv kd
  | _, _, .nil => .nil
  | _, _, .cons h t => .cons (Dq.mono e h) (KT.mono e t)
theorem AtO.mono (e : Ex B B') {o : HO} {d : PyData} (h : AtO B o d) : AtO B' o d := by
  unfold AtO at h
  split at h
  · exact DqAll.mono e h
  · exact KI.mono e h
  · exact KT.mono e h
  · exact h.elim
theorem AtO.noTb {o : HO} {d : PyData} (h : AtO B o d) : NoTb o := by
  unfold AtO at h
  split at h
  · exact noTb_lst _
  · exact noTb_dK _
  · exact noTb_dT _
  · exact h.elim
theorem noTp_lst (xs : List V) : NoTp (.lst xs) := fun _ z => nomatch z
theorem noTp_dK (xs : List (Key × V)) : NoTp (.dK xs) := fun _ z => nomatch z
theorem noTp_dT (xs : List (List Key × V)) : NoTp (.dT xs) := fun _ z => nomatch z
theorem AtO.noTp {o : HO} {d : PyData} (h : AtO B o d) : NoTp o := by
  unfold AtO at h
  split at h
  · exact noTp_lst _
  · exact noTp_dK _
  · exact noTp_dT _
  · exact h.elim
theorem RepV.mono (e : Ex B B') {v : V} {d : PyData} (h : RepV B v d) : RepV B' v d := by
  rcases h with h | ⟨a, o, h1, h2, h3⟩
  · exact .inl (Dq.mono e h)
  · exact .inr ⟨a, o, h1, e a o h2, h3.mono e⟩
theorem RepVs.mono (e : Ex B B') : ∀ {vs : List V} {ds : List PyData}, RepVs B vs ds → RepVs B' vs ds
  | _, _, .nil => .nil
  | _, _, .cons h t => .cons (h.mono e) (RepVs.mono e t)
theorem RepV.any (s : Sub B H) {v : V} {d : PyData} (h : RepV B v d) : RepA B H v d := by
  rcases h with h | ⟨a, o, h1, h2, h3⟩
  · exact .inl h
  · exact .inr ⟨a, o, h1, (s a o h2).1, h3⟩
theorem RepA.mono {T : Tb} (e : Ext T B H B' H') {v : V} {d : PyData} (h : RepA B H v d) : RepA B' H' v d := by
  rcases h with h | ⟨a, o, h1, h2, h3⟩
  · exact .inl (Dq.mono e.b h)
  · exact .inr ⟨a, o, h1, e.get h2 h3.noTb, h3.mono e.b⟩
theorem Sub.ex (s : Sub B H) : Ex B H := fun a o h => (s a o h).1
end
/-- what is known of a def's slots: O: the slots whose object is the slot's alone -/
structure Core (T : Tb) (O : List Nat) (B : Hp) (G : Env) (σ : St) (H : Hp) : Prop where
  sub : Sub B H
  len : σ.length = G.length
  val : ∀ i d, i ∉ O → gt G i = some d → ∃ v, σ[i]? = some (some v) ∧ RepV B v d
  own : ∀ i d, i ∈ O → gt G i = some d → ∃ a o, σ[i]? = some (some (.ref a)) ∧ H a = some o ∧ B a = none ∧ AtO B o d
  sep : ∀ i j d e a, i ∈ O → j ∈ O → gt G i = some d → gt G j = some e → σ[i]? = some (some (.ref a)) → σ[j]? = some (some (.ref a)) → i = j
  tabs : LamX.Tabs T H
section
variable {T : Tb} {O : List Nat} {B B' H H' : Hp} {G : Env} {σ : St}
theorem Core.mono (c : Core T O B G σ H) (e : Ext T B H B' H') : Core T O B' G σ H' :=
  ⟨e.sub, c.len, fun i d hi hg => by
      obtain ⟨v, h1, h2⟩ := c.val i d hi hg
      exact ⟨v, h1, h2.mono e.b⟩,
    fun i d hi hg => by
      obtain ⟨a, o, h1, h2, h3, h4⟩ := c.own i d hi hg
      exact ⟨a, o, h1, e.get h2 h4.noTb, (e.ag a o h2 h4.noTb h4.noTp).trans h3, h4.mono e.b⟩,
    c.sep, e.tb c.tabs⟩
theorem Core.any (c : Core T O B G σ H) {i : Nat} {d : PyData} (h : gt G i = some d) : ∃ v, σ[i]? = some (some v) ∧ RepA B H v d := by
  by_cases hi : i ∈ O
  · obtain ⟨a, o, h1, h2, h3, h4⟩ := c.own i d hi h
    exact ⟨_, h1, .inr ⟨a, o, rfl, h2, h4⟩⟩
  · obtain ⟨v, h1, h2⟩ := c.val i d hi h
    exact ⟨v, h1, h2.any c.sub⟩
end
/-! ### the judgements -/
abbrev Fx := Env → Option PyData
def tV (T : Tb) (O : List Nat) (f : Fx) : TE := fun σ H Q => ∃ B G d, Core T O B G σ H ∧ f G = some d ∧ ∀ v B' H', Ext T B H B' H' → RepV B' v d → Q v H'
def tA (T : Tb) (O : List Nat) (f : Fx) : TE := fun σ H Q => ∃ B G d, Core T O B G σ H ∧ f G = some d ∧ ∀ v B' H', Ext T B H B' H' → RepA B' H' v d → Q v H'
def tN (T : Tb) (O : List Nat) (f : Fx) : TE := fun σ H Q => ∃ B G d, Core T O B G σ H ∧ f G = some d ∧ ∀ p o B' H', Ext T B H B' H' → H p = none → B' p = none → H' p = some o → AtO B' o d → Q (.ref p) H'
def tT (T : Tb) (O : List Nat) (g : Env → Option Bool) : TT := fun σ H Q => ∃ B G b, Core T O B G σ H ∧ g G = some b ∧ ∀ B' H', Ext T B H B' H' → Q b H'
def tL (T : Tb) (O : List Nat) (f : Env → Option (List PyData)) : TA := fun σ H Q => ∃ B G ds, Core T O B G σ H ∧ f G = some ds ∧ ∀ vs B' H', Ext T B H B' H' → RepVs B' vs ds → Q vs H'
abbrev EV (X : Cx) (T : Tb) (O : List Nat) (e : Expr) (f : Fx) : Prop := PE X e (tV T O f)
abbrev EA (X : Cx) (T : Tb) (O : List Nat) (e : Expr) (f : Fx) : Prop := PE X e (tA T O f)
abbrev EN (X : Cx) (T : Tb) (O : List Nat) (e : Expr) (f : Fx) : Prop := PE X e (tN T O f)
abbrev GT (X : Cx) (T : Tb) (O : List Nat) (e : Expr) (g : Env → Option Bool) : Prop := PT X e (tT T O g)
abbrev EL (X : Cx) (T : Tb) (O : List Nat) (es : List Expr) (f : Env → Option (List PyData)) : Prop := PA X es (tL T O f)
section
variable {X : Cx} {T : Tb} {O : List Nat} {e a b : Expr} {es : List Expr} {f g : Fx}
theorem peI {t t' : TE} (h : PE X e t) (i : ∀ σ H Q, t' σ H Q → t σ H Q) : PE X e t' := ⟨fun pins s σ H Q I q => h.run pins s σ H Q I (i σ H Q q)⟩
theorem ptI {t t' : TT} (h : PT X e t) (i : ∀ σ H Q, t' σ H Q → t σ H Q) : PT X e t' := ⟨fun pins s σ H Q I q => h.run pins s σ H Q I (i σ H Q q)⟩
theorem paI {t t' : TA} (h : PA X es t) (i : ∀ σ H Q, t' σ H Q → t σ H Q) : PA X es t' := ⟨fun pos pins s σ H Q I q => h.run pos pins s σ H Q I (i σ H Q q)⟩
theorem EV.any (h : EV X T O e f) : EA X T O e f := peI h fun σ H Q ⟨B, G, d, c, hf, k⟩ => ⟨B, G, d, c, hf, fun v B' H' x r => k v B' H' x (r.any x.sub)⟩
theorem EN.val (h : EN X T O e f) : EV X T O e f := peI h fun σ H Q ⟨B, G, d, c, hf, k⟩ => ⟨B, G, d, c, hf, fun p o B' H' x hp hb ho r =>
  k (.ref p) (upd B' p o) H' (x.show hp hb ho r.noTb) (.inr ⟨p, o, rfl, upd_same, r.mono fun a u q => by rw [upd_ne (ne_of_none q hb)]; exact q⟩)⟩
end
end Rk

set_option Elab.async false
set_option linter.all false
set_option maxRecDepth 100000
set_option maxHeartbeats 4000000
namespace Rk
open PySem L2
section
variable {K : PySem.W.Frag} {B B' H H' : Hp}
mutual
theorem Dq.dp : ∀ {v : V} {d : PyData}, Dq B v d → Dp K B v d
  | _, _, .non => .non
  | _, _, .bl b => .bl b
  | _, _, .int i => .int i
  | _, _, .str x => .str x
  | _, _, .lst h a => .lst (.inl h) (DqAll.dp a)
  | _, _, .tup h a => .tup (SqT.of h) (DqAll.dp a)
theorem DqAll.dp : ∀ {vs : List V} {ds : List PyData}, DqAll B vs ds → DpAll K B vs ds
  | _, _, .nil => .nil
  | _, _, .cons h t => .cons (Dq.dp h) (DqAll.dp t)
end
theorem DqAll.length : ∀ {vs : List V} {ds : List PyData}, DqAll B vs ds → vs.length = ds.length
  | _, _, .nil => rfl
  | _, _, .cons _ t => congrArg (· + 1) (DqAll.length t)
theorem DqAll.get : ∀ {vs : List V} {ds : List PyData} {i : Nat} {v : V}, DqAll B vs ds → vs[i]? = some v → ∃ d, ds[i]? = some d ∧ Dq B v d
  | _, _, _, _, .nil, e => by simp at e
  | _, _, 0, _, .cons r _, e => by simp at e; subst e; exact ⟨_, rfl, r⟩
  | _, _, i + 1, x, .cons _ t, e => by
    obtain ⟨u, h1, h2⟩ := DqAll.get (i := i) (v := x) t (by simpa using e)
    exact ⟨u, by simpa using h1, h2⟩
theorem DqAll.get' : ∀ {vs : List V} {ds : List PyData} {i : Nat} {d : PyData}, DqAll B vs ds → ds[i]? = some d → ∃ v, vs[i]? = some v ∧ Dq B v d
  | _, _, _, _, .nil, e => by simp at e
  | _, _, 0, _, .cons r _, e => by simp at e; subst e; exact ⟨_, rfl, r⟩
  | _, _, i + 1, x, .cons _ t, e => by
    obtain ⟨u, h1, h2⟩ := DqAll.get' (i := i) (d := x) t (by simpa using e)
    exact ⟨u, by simpa using h1, h2⟩
theorem DqAll.append : ∀ {xs ys : List V} {ds es : List PyData}, DqAll B xs ds → DqAll B ys es → DqAll B (xs ++ ys) (ds ++ es)
  | _, _, _, _, .nil, s => s
  | _, _, _, _, .cons r t, s => .cons r (DqAll.append t s)
theorem DqAll.take : ∀ {xs : List V} {us : List PyData} (n : Nat), DqAll B xs us → DqAll B (xs.take n) (us.take n)
  | _, _, 0, _ => .nil
  | _, _, _ + 1, .nil => .nil
  | _, _, n + 1, .cons r t => .cons r (DqAll.take n t)
theorem DqAll.drop : ∀ {xs : List V} {us : List PyData} (n : Nat), DqAll B xs us → DqAll B (xs.drop n) (us.drop n)
  | _, _, 0, r => r
  | _, _, _ + 1, .nil => .nil
  | _, _, n + 1, .cons _ t => DqAll.drop n t
theorem DqAll.reverse : ∀ {xs : List V} {us : List PyData}, DqAll B xs us → DqAll B xs.reverse us.reverse
  | _, _, .nil => .nil
  | _, _, .cons r t => by
    rw [List.reverse_cons, List.reverse_cons]
    exact (DqAll.reverse t).append (.cons r .nil)
theorem DqAll.dropLast {xs : List V} {us : List PyData} (h : DqAll B xs us) : DqAll B xs.dropLast us.dropLast := by
  rw [List.dropLast_eq_take, List.dropLast_eq_take, h.length]
  exact h.take _
theorem DqAll.eraseIdx : ∀ {xs : List V} {us : List PyData} (i : Nat), DqAll B xs us → DqAll B (xs.eraseIdx i) (us.eraseIdx i)
  | _, _, _, .nil => .nil
  | _, _, 0, .cons _ t => t
  | _, _, i + 1, .cons r t => .cons r (DqAll.eraseIdx i t)
theorem DqAll.one {v : V} {d : PyData} (h : Dq B v d) : DqAll B [v] [d] := .cons h .nil
theorem DqAll.ints : ∀ (ns : List Int), DqAll B (ns.map V.int) (ns.map PyData.int)
  | [] => .nil
  | n :: ns => .cons (.int n) (DqAll.ints ns)
theorem DqAll.ints_inv : ∀ {ns : List Int} {vs : List V}, DqAll B vs (ns.map PyData.int) → vs = ns.map V.int
  | [], _, .nil => rfl
  | _ :: _, _, .cons (.int _) t => congrArg (_ :: ·) (DqAll.ints_inv t)
theorem DqAll.bls_inv : ∀ {ns : List Bool} {vs : List V}, DqAll B vs (ns.map PyData.bool) → vs = ns.map V.bl
  | [], _, .nil => rfl
  | _ :: _, _, .cons (.bl _) t => congrArg (_ :: ·) (DqAll.bls_inv t)
/-! ### what a datum tells of its value -/
theorem RepA.none {x : V} (h : RepA B H x .none) : x = .non := by
  rcases h with h | ⟨a, o, _, _, h⟩
  · cases h; rfl
  · cases o <;> exact h.elim
theorem RepA.bool {x : V} {b : Bool} (h : RepA B H x (.bool b)) : x = .bl b := by
  rcases h with h | ⟨a, o, _, _, h⟩
  · cases h; rfl
  · cases o <;> exact h.elim
theorem RepA.int {x : V} {i : Int} (h : RepA B H x (.int i)) : x = .int i := by
  rcases h with h | ⟨a, o, _, _, h⟩
  · cases h; rfl
  · cases o <;> exact h.elim
theorem RepA.str {x : V} {i : Str} (h : RepA B H x (.str i)) : x = .str i := by
  rcases h with h | ⟨a, o, _, _, h⟩
  · cases h; rfl
  · cases o <;> exact h.elim
theorem RepA.list (s : Sub B H) {x : V} {ds : List PyData} (h : RepA B H x (.list ds)) : ∃ a xs, x = .ref a ∧ Rd H a (.lst xs) ∧ DqAll B xs ds := by
  rcases h with h | ⟨a, o, e, ho, h⟩
  · cases h with
    | lst h1 h2 => exact ⟨_, _, rfl, ex_rd s.ex h1, h2⟩
  · cases o with
    | lst xs => exact ⟨a, xs, e, .inl ho, h⟩
    | _ => exact h.elim
theorem RepA.tuple (s : Sub B H) {x : V} {ds : List PyData} (h : RepA B H x (.tuple ds)) : ∃ a xs, x = .ref a ∧ B a = some (.tup xs) ∧ H a = some (.tup xs) ∧ DqAll B xs ds := by
  rcases h with h | ⟨a, o, e, ho, h⟩
  · cases h with
    | tup h1 h2 => exact ⟨_, _, rfl, h1, s.ex _ _ h1, h2⟩
  · cases o <;> exact h.elim
theorem RepA.dict {x : V} {kd : List (PyData × PyData)} (h : RepA B H x (.dict kd)) : ∃ a, x = .ref a ∧ ((∃ kv, H a = some (.dK kv) ∧ KI B kv kd) ∨ ∃ kv, H a = some (.dT kv) ∧ KT B kv kd) := by
  rcases h with h | ⟨a, o, e, ho, h⟩
  · cases h
  · cases o with
    | dK kv => exact ⟨a, e, .inl ⟨kv, ho, h⟩⟩
    | dT kv => exact ⟨a, e, .inr ⟨kv, ho, h⟩⟩
    | _ => exact h.elim
def isDict : PyData → Bool
  | .dict _ => true
  | _ => false
theorem RepA.dq (s : Sub B H) {x : V} {d : PyData} (n : isDict d = false) (h : RepA B H x d) : Dq H x d := by
  rcases h with h | ⟨a, o, e, ho, h⟩
  · exact Dq.mono s.ex h
  · subst e
    unfold AtO at h
    split at h
    · exact .lst (.inl ho) (DqAll.mono s.ex h)
    · exact absurd n (by simp [isDict])
    · exact absurd n (by simp [isDict])
    · exact h.elim
theorem RepV.of {v : V} {d : PyData} (h : Dq B v d) : RepV B v d := .inl h
theorem RepV.dq {v : V} {d : PyData} (n : isDict d = false) (h : RepV B v d) : Dq B v d := by
  rcases h with h | ⟨a, o, e, ho, h⟩
  · exact h
  · subst e
    unfold AtO at h
    split at h
    · exact .lst (.inl ho) h
    · exact absurd n (by simp [isDict])
    · exact absurd n (by simp [isDict])
    · exact h.elim
end
/-! ### operations by data -/
abbrev P1 := PyData → Option PyData
abbrev P2 := PyData → PyData → Option PyData
def rD (T : Tb) (p : P2) : R2 := fun x y H Q => ∃ B d e r, Sub B H ∧ RepA B H x d ∧ RepA B H y e ∧ p d e = some r ∧ ∀ v B' H', Ext T B H B' H' → RepV B' v r → Q v H'
def rDN (T : Tb) (p : P2) : R2 := fun x y H Q => ∃ B d e r, Sub B H ∧ RepA B H x d ∧ RepA B H y e ∧ p d e = some r ∧ ∀ q o B' H', Ext T B H B' H' → H q = none → B' q = none → H' q = some o → AtO B' o r → Q (.ref q) H'
def rU1 (T : Tb) (p : P1) : V → Hp → VK → Prop := fun x H Q => ∃ B d r, Sub B H ∧ RepA B H x d ∧ p d = some r ∧ ∀ v B' H', Ext T B H B' H' → RepV B' v r → Q v H'
def rC (T : Tb) (p : List PyData → Option PyData) : List V → Hp → VK → Prop := fun xs H Q => ∃ B ds r, Sub B H ∧ RepAs B H xs ds ∧ p ds = some r ∧ ∀ v B' H', Ext T B H B' H' → RepV B' v r → Q v H'
where RepAs (B H : Hp) : List V → List PyData → Prop
  | [], [] => True
  | v :: vs, d :: ds => RepA B H v d ∧ RepAs B H vs ds
  | _, _ => False
def rCN (T : Tb) (p : P1) : List V → Hp → VK → Prop := fun xs H Q => ∃ B x d r, xs = [x] ∧ Sub B H ∧ RepA B H x d ∧ p d = some r ∧ ∀ q o B' H', Ext T B H B' H' → H q = none → B' q = none → H' q = some o → AtO B' o r → Q (.ref q) H'
def rC1 (T : Tb) (p : P1) : List V → Hp → VK → Prop := fun xs H Q => ∃ B x d r, xs = [x] ∧ Sub B H ∧ RepA B H x d ∧ p d = some r ∧ ∀ v B' H', Ext T B H B' H' → RepV B' v r → Q v H'
def rC2 (T : Tb) (p : P2) : List V → Hp → VK → Prop := fun xs H Q => ∃ B x y d e r, xs = [x, y] ∧ Sub B H ∧ RepA B H x d ∧ RepA B H y e ∧ p d e = some r ∧ ∀ v B' H', Ext T B H B' H' → RepV B' v r → Q v H'
/-! ### the combinators -/
def cV (i : Nat) : Fx := fun G => gt G i
def cK (d : PyData) : Fx := fun _ => some d
def c1 (p : P1) (f : Fx) : Fx := fun G => (f G).bind p
def c2 (p : P2) (f g : Fx) : Fx := fun G => (f G).bind fun x => (g G).bind fun y => p x y
section
variable {X : Cx} {T : Tb} {O : List Nat} {e a b c : Expr} {es : List Expr} {f g h : Fx} {pos : Pos} {p p' : P2}
theorem bind2 {α β γ : Type} {x : Option α} {y : Option β} {k : α → β → Option γ} {d : γ} (h : (x.bind fun u => y.bind fun w => k u w) = some d) : ∃ u w, x = some u ∧ y = some w ∧ k u w = some d := by
  cases x with
  | none => cases h
  | some u =>
    cases y with
    | none => cases h
    | some w => exact ⟨u, w, rfl, rfl, h⟩
theorem bind1 {α γ : Type} {x : Option α} {k : α → Option γ} {d : γ} (h : x.bind k = some d) : ∃ u, x = some u ∧ k u = some d := by
  cases x with
  | none => cases h
  | some u => exact ⟨u, rfl, h⟩
theorem ev_var {i : Nat} {x : Str} (hO : i ∉ O) (hN : X.N[i]? = some x) (hv : Vis X.env.scope x) (hd : (x == ("__debug__" : Str)) = false := by decide) (hcd : (x == ("__classdict__" : Str)) = false := by decide) : EV X T O (.Name x pos) (cV i) :=
  peI (pe_var hN hv hd hcd) fun σ H Q ⟨B, G, d, c, hf, k⟩ => by
    obtain ⟨v, h1, h2⟩ := c.val i d hO hf
    exact ⟨v, h1, k v B H (Ext.refl c.sub) h2⟩
theorem ea_var {i : Nat} {x : Str} (hN : X.N[i]? = some x) (hv : Vis X.env.scope x) (hd : (x == ("__debug__" : Str)) = false := by decide) (hcd : (x == ("__classdict__" : Str)) = false := by decide) : EA X T O (.Name x pos) (cV i) :=
  peI (pe_var hN hv hd hcd) fun σ H Q ⟨B, G, d, c, hf, k⟩ => by
    obtain ⟨v, h1, h2⟩ := c.any hf
    exact ⟨v, h1, k v B H (Ext.refl c.sub) h2⟩
theorem ev_k {v : V} {d : PyData} (hp : PE X e (tC v)) (hr : ∀ B, Dq B v d) : EV X T O e (cK d) :=
  peI hp fun σ H Q ⟨B, G, d', c, hf, k⟩ => by
    cases hf
    exact k v B H (Ext.refl c.sub) (.inl (hr B))
theorem ev_int {i j} : EV X T O (.Constant (.int i) j pos) (cK (.int i)) := ev_k pe_int fun _ => .int i
theorem ev_bl {i j} : EV X T O (.Constant (.bool i) j pos) (cK (.bool i)) := ev_k pe_bl fun _ => .bl i
theorem ev_non {j} : EV X T O (.Constant .none j pos) (cK .none) := ev_k pe_non fun _ => .non
theorem ev_str {x j} : EV X T O (.Constant (.str x) j pos) (cK (.str x)) := ev_k pe_str fun _ => .str x
theorem tOp_of {σ : L2.St} {H : Hp} {Q : VK} (h : tV T O (c2 p f g) σ H Q) : tOp (rD T p) (tA T O f) (tA T O g) σ H Q := by
  obtain ⟨B, G, d, c, hf, k⟩ := h
  obtain ⟨x, y, hx, hy, hp⟩ := bind2 hf
  exact ⟨B, G, x, c, hx, fun v1 B1 H1 e1 r1 => ⟨B1, G, y, c.mono e1, hy, fun v2 B2 H2 e2 r2 => ⟨B2, x, y, d, e2.sub, r1.mono e2, r2, hp, fun v B3 H3 e3 r3 => k v B3 H3 ((e1.trans e2).trans e3) r3⟩⟩⟩
theorem tOpN_of {σ : L2.St} {H : Hp} {Q : VK} (h : tN T O (c2 p f g) σ H Q) : tOp (rDN T p) (tA T O f) (tA T O g) σ H Q := by
  obtain ⟨B, G, d, c, hf, k⟩ := h
  obtain ⟨x, y, hx, hy, hp⟩ := bind2 hf
  exact ⟨B, G, x, c, hx, fun v1 B1 H1 e1 r1 => ⟨B1, G, y, c.mono e1, hy, fun v2 B2 H2 e2 r2 => ⟨B2, x, y, d, e2.sub, r1.mono e2, r2, hp, fun q o B3 H3 e3 h1 h2 h3 h4 => k q o B3 H3 ((e1.trans e2).trans e3) ((e1.trans e2).fresh h1) h2 h3 h4⟩⟩⟩
theorem ev_bin {op : Operator} (ho : OpR X (binaryOp op) (rD T p)) (ha : EA X T O a f) (hb : EA X T O b g) : EV X T O (.BinOp a op b pos) (c2 p f g) := peI (pe_op ho ha hb) fun _ _ _ h => tOp_of h
theorem en_bin {op : Operator} (ho : OpR X (binaryOp op) (rDN T p)) (ha : EA X T O a f) (hb : EA X T O b g) : EN X T O (.BinOp a op b pos) (c2 p f g) := peI (pe_op ho ha hb) fun _ _ _ h => tOpN_of h
theorem ev_cmp {op : CmpOp} (ho : OpR X (compareOp op) (rD T p)) (ha : EA X T O a f) (hb : EA X T O b g) (hm : behindInMarks op b = false) : EV X T O (.Compare a [op] [b] pos) (c2 p f g) := peI (pe_cmpR ho ha hb hm) fun _ _ _ h => tOp_of h
theorem ev_ix (hr : IxR X (rD T p)) (ha : EA X T O a f) (hb : EA X T O b g) (hs : PlainIx b) : EV X T O (.Subscript a b pos) (c2 p f g) := peI (pe_ix hr ha hb hs) fun _ _ _ h => tOp_of h
theorem ev_un {op : UnaryOp} {p : P1} (ho : UnR X (unaryOp op) (rU1 T p)) (ha : EA X T O a f) : EV X T O (.UnaryOp op a pos) (c1 p f) := peI (pe_un ho ha) fun σ H Q ⟨B, G, d, c, hf, k⟩ => by
  obtain ⟨x, hx, hp⟩ := bind1 hf
  exact ⟨B, G, x, c, hx, fun v1 B1 H1 e1 r1 => ⟨B1, x, d, e1.sub, r1, hp, fun v B3 H3 e3 r3 => k v B3 H3 (e1.trans e3) r3⟩⟩
/-! ### int operations -/
def pI (C : Int → Int → Bool) (g : Int → Int → Int) : P2
  | .int i, .int j => if C i j = true then some (.int (g i j)) else none
  | _, _ => none
def pB (g : Int → Int → Bool) : P2
  | .int i, .int j => some (.bool (g i j))
  | _, _ => none
theorem pI_some {C : Int → Int → Bool} {g : Int → Int → Int} {d e r : PyData} (h : pI C g d e = some r) : ∃ i j, d = .int i ∧ e = .int j ∧ C i j = true ∧ r = .int (g i j) := by
  unfold pI at h
  split at h
  · split at h
    · exact ⟨_, _, rfl, rfl, by assumption, (Option.some.inj h).symm⟩
    · cases h
  · cases h
theorem pB_some {g : Int → Int → Bool} {d e r : PyData} (h : pB g d e = some r) : ∃ i j, d = .int i ∧ e = .int j ∧ r = .bool (g i j) := by
  unfold pB at h
  split at h
  · exact ⟨_, _, rfl, rfl, (Option.some.inj h).symm⟩
  · cases h
theorem opr_imp {F : Value → Value → Sem Value} {r r' : R2} (h : OpR X F r) (i : ∀ x y H Q, r' x y H Q → r x y H Q) : OpR X F r' := fun pins s σ H x y v u Q I rx ry q => h pins s σ H x y v u Q I rx ry (i x y H Q q)
theorem od_I {F : Value → Value → Sem Value} {C : Int → Int → Prop} {Cb : Int → Int → Bool} {g : Int → Int → Int} (h : OpR X F (rI C fun i j => .int (g i j))) (hc : ∀ i j, Cb i j = true → C i j) : OpR X F (rD T (pI Cb g)) :=
  opr_imp h fun x y H Q ⟨B, d, e, r, s, rx, ry, hp, k⟩ => by
    obtain ⟨i, j, rfl, rfl, hC, rfl⟩ := pI_some hp
    exact ⟨i, j, rx.int, ry.int, hc i j hC, k _ B H (Ext.refl s) (.inl (.int _))⟩
theorem od_I0 {F : Value → Value → Sem Value} {g : Int → Int → Int} (h : OpR X F (rI0 fun i j => .int (g i j))) : OpR X F (rD T (pI (fun _ _ => true) g)) :=
  opr_imp h fun x y H Q ⟨B, d, e, r, s, rx, ry, hp, k⟩ => by
    obtain ⟨i, j, rfl, rfl, hC, rfl⟩ := pI_some hp
    exact ⟨i, j, rx.int, ry.int, k _ B H (Ext.refl s) (.inl (.int _))⟩
theorem od_B {F : Value → Value → Sem Value} {g : Int → Int → Bool} (h : OpR X F (rI0 fun i j => .bl (g i j))) : OpR X F (rD T (pB g)) :=
  opr_imp h fun x y H Q ⟨B, d, e, r, s, rx, ry, hp, k⟩ => by
    obtain ⟨i, j, rfl, rfl, rfl⟩ := pB_some hp
    exact ⟨i, j, rx.int, ry.int, k _ B H (Ext.refl s) (.inl (.bl _))⟩
abbrev pSub : P2 := pI (fun _ _ => true) (· - ·)
def cMulB (i j : Int) : Bool := (decide (-(2 ^ 64) < i) && decide (i < 2 ^ 64)) || (decide (-(2 ^ 64) < j) && decide (j < 2 ^ 64))
abbrev pMul : P2 := pI cMulB (· * ·)
abbrev pMod : P2 := pI (fun _ j => decide (j ≠ 0)) Int.fmod
abbrev pDiv : P2 := pI (fun _ j => decide (j ≠ 0) && decide (j.natAbs < 1073741824)) Int.fdiv
abbrev pPow : P2 := pI (fun i j => decide (0 ≤ j) && decide (j ≤ 1000000) && decide (i.natAbs < 2 ^ 64)) fun i j => i ^ j.toNat
abbrev pShr : P2 := pI (fun _ j => decide (0 ≤ j)) fun i j => i / 2 ^ j.toNat
abbrev pAnd : P2 := pI (fun _ _ => true) Builtin.bitAnd
abbrev pLt : P2 := pB fun i j => decide (i < j)
abbrev pLe : P2 := pB fun i j => decide (i ≤ j)
abbrev pGt : P2 := pB fun i j => decide (j < i)
abbrev pGe : P2 := pB fun i j => decide (j ≤ i)
theorem od_sub : OpR X (binaryOp .Sub) (rD T pSub) := od_I0 op_sub
theorem od_mul : OpR X (binaryOp .Mult) (rD T pMul) := od_I op_mul fun i j h => by
  unfold cMulB at h
  simp only [Bool.or_eq_true, Bool.and_eq_true, decide_eq_true_eq] at h
  exact h
theorem od_mod : OpR X (binaryOp .Mod) (rD T pMod) := od_I op_modN fun i j h => of_decide_eq_true h
theorem od_div : OpR X (binaryOp .FloorDiv) (rD T pDiv) := od_I op_fdivN fun i j h => by
  simp only [Bool.and_eq_true, decide_eq_true_eq] at h
  exact h
theorem od_pow : OpR X (binaryOp .Pow) (rD T pPow) := od_I op_pow fun i j h => by
  simp only [Bool.and_eq_true, decide_eq_true_eq] at h
  exact ⟨h.1.1, h.1.2, h.2⟩
theorem od_shr : OpR X (binaryOp .RShift) (rD T pShr) := od_I op_shr fun i j h => of_decide_eq_true h
theorem od_and : OpR X (binaryOp .BitAnd) (rD T pAnd) := od_I0 op_and
theorem od_lt : OpR X (compareOp .Lt) (rD T pLt) := od_B op_lt
theorem od_le : OpR X (compareOp .LtE) (rD T pLe) := od_B op_le
theorem od_gt : OpR X (compareOp .Gt) (rD T pGt) := od_B op_gt
theorem od_ge : OpR X (compareOp .GtE) (rD T pGe) := od_B op_ge
def pNeg : P1
  | .int i => some (.int (-i))
  | _ => none
theorem od_neg : UnR X (unaryOp .USub) (rU1 T pNeg) := fun pins s σ H x v Q I rx ⟨B, d, r, sb, rd, hp, k⟩ => by
  unfold pNeg at hp
  split at hp
  · cases hp
    exact un_neg pins s σ H x v Q I rx ⟨_, rd.int, k _ B H (Ext.refl sb) (.inl (.int _))⟩
  · cases hp
/-- + of ints, of tuples -/
def pAdd : P2
  | .int i, .int j => some (.int (i + j))
  | .tuple xs, .tuple ys => if xs.length + ys.length ≤ sizeLine then some (.tuple (xs ++ ys)) else none
  | _, _ => none
theorem od_add : OpR X (binaryOp .Add) (rD T pAdd) := by
  intro pins s σ H x y v u Q I rx ry ⟨B, d, e, r, sb, r1, r2, hp, k⟩
  unfold pAdd at hp
  split at hp
  · cases hp
    exact op_add pins s σ H x y v u Q I rx ry ⟨_, _, r1.int, r2.int, k _ B H (Ext.refl sb) (.inl (.int _))⟩
  · split at hp
    · cases hp
      rename_i xs ys hl
      obtain ⟨a, vs, rfl, ha, ha', da⟩ := r1.tuple sb
      obtain ⟨b, ws, rfl, hb, hb', db⟩ := r2.tuple sb
      have l1 := da.length
      have l2 := db.length
      refine op_catA pins s σ H _ _ v u Q I rx ry ⟨a, b, vs, ws, rfl, rfl, SqT.of ha', SqT.of hb', by omega, fun e0 => ?_, fun n0 e0 => ?_, fun n0 n1 q hq => ?_⟩
      · subst e0
        cases da
        exact k _ B H (Ext.refl sb) (.inl (.tup hb db))
      · subst e0
        cases db
        rw [List.append_nil] at k
        exact k _ B H (Ext.refl sb) (.inl (.tup ha da))
      · have e1 : Ext T B H (upd B q (.tup (vs ++ ws))) (upd H q (.tup (vs ++ ws))) := Ext.new sb hq (noTb_tup _)
        exact k _ _ _ e1 (.inl (.tup upd_same (DqAll.mono e1.b (da.append db))))
    · cases hp
  · cases hp
/-! ### == and in over data -/
def okD (d : PyData) : Bool := SeqAt.shaped d && !isDict d
def pEq : P2 := fun d e => if okD d = true ∧ okD e = true then some (.bool (PyData.eqv d e)) else none
def pNe : P2 := fun d e => if okD d = true ∧ okD e = true then some (.bool (!PyData.eqv d e)) else none
theorem okD_s {d : PyData} (h : okD d = true) : SeqAt.shaped d = true ∧ isDict d = false := by
  unfold okD at h
  rw [Bool.and_eq_true, Bool.not_eq_true'] at h
  exact h
theorem od_eq (hu : X.A.units + 200 < cLine) : OpR X (compareOp .Eq) (rD T pEq) := opr_imp (op_eqD (by omega)) fun x y H Q ⟨B, d, e, r, s, rx, ry, hp, k⟩ => by
  unfold pEq at hp
  split at hp
  · rename_i h
    cases hp
    obtain ⟨d1, d2⟩ := okD_s h.1
    obtain ⟨e1, e2⟩ := okD_s h.2
    exact ⟨d, e, (rx.dq s d2).dp, (ry.dq s e2).dp, d1, e1, k _ B H (Ext.refl s) (.inl (.bl _))⟩
  · cases hp
theorem od_ne (hu : X.A.units + 200 < cLine) : OpR X (compareOp .NotEq) (rD T pNe) := opr_imp (op_neD (by omega)) fun x y H Q ⟨B, d, e, r, s, rx, ry, hp, k⟩ => by
  unfold pNe at hp
  split at hp
  · rename_i h
    cases hp
    obtain ⟨d1, d2⟩ := okD_s h.1
    obtain ⟨e1, e2⟩ := okD_s h.2
    exact ⟨d, e, (rx.dq s d2).dp, (ry.dq s e2).dp, d1, e1, k _ B H (Ext.refl s) (.inl (.bl _))⟩
  · cases hp
end
end Rk

set_option Elab.async false
set_option linter.all false
set_option maxRecDepth 100000
set_option maxHeartbeats 4000000
namespace Rk
open PySem L2
/-! ### dicts by data -/
def toInts : List PyData → Option (List Int)
  | [] => some []
  | .int i :: r => (toInts r).map (i :: ·)
  | _ :: _ => none
def isIK : PyData → Bool
  | .int _ => true
  | _ => false
def isTK : PyData → Bool
  | .tuple ds => (toInts ds).isSome
  | _ => false
def homK (k : PyData) (kd : List (PyData × PyData)) : Bool := (isIK k && kd.all fun p => isIK p.1) || (isTK k && kd.all fun p => isTK p.1)
def dFind (kd : List (PyData × PyData)) (k : PyData) : Option PyData := (kd.find? fun p => PyData.eqv p.1 k).map (·.2)
def dPut (kd : List (PyData × PyData)) (k v : PyData) : List (PyData × PyData) :=
  if (kd.any fun p => PyData.eqv p.1 k) = true then kd.map fun p => if PyData.eqv p.1 k = true then (p.1, v) else p else kd ++ [(k, v)]
theorem toInts_some : ∀ {ds : List PyData} {is : List Int}, toInts ds = some is → ds = is.map PyData.int
  | [], is, h => by cases h; rfl
  | .int i :: r, is, h => by
    unfold toInts at h
    cases q : toInts r with
    | none => rw [q] at h; cases h
    | some js =>
      rw [q] at h
      cases h
      rw [toInts_some q]
      rfl
  | .none :: _, _, h => by cases h
  | .bool _ :: _, _, h => by cases h
  | .str _ :: _, _, h => by cases h
  | .list _ :: _, _, h => by cases h
  | .tuple _ :: _, _, h => by cases h
  | .dict _ :: _, _, h => by cases h
theorem toInts_map : ∀ is : List Int, toInts (is.map PyData.int) = some is
  | [] => rfl
  | i :: r => by
    show (toInts (r.map PyData.int)).map (i :: ·) = _
    rw [toInts_map r]
    rfl
theorem isIK_some {k : PyData} (h : isIK k = true) : ∃ i, k = .int i := by
  cases k with
  | int i => exact ⟨i, rfl⟩
  | _ => cases h
theorem isTK_some {k : PyData} (h : isTK k = true) : ∃ is : List Int, k = .tuple (is.map .int) := by
  cases k with
  | tuple ds =>
    obtain ⟨is, e⟩ := Option.isSome_iff_exists.mp (show (toInts ds).isSome = true from h)
    exact ⟨is, by rw [toInts_some e]⟩
  | _ => cases h
theorem eqv_int (i j : Int) : PyData.eqv (.int i) (.int j) = decide (i = j) := by
  simp only [PyData.eqv, Bool.beq_eq_decide_eq]
theorem eqvAll_ints : ∀ is js : List Int, PyData.eqvAll (is.map .int) (js.map .int) = decide (is = js)
  | [], [] => by simp [PyData.eqvAll]
  | [], _ :: _ => by simp [PyData.eqvAll]
  | _ :: _, [] => by simp [PyData.eqvAll]
  | i :: is, j :: js => by
    rw [List.map_cons, List.map_cons, PyData.eqvAll, eqv_int, eqvAll_ints is js]
    by_cases h1 : i = j <;> by_cases h2 : is = js <;> simp [h1, h2]
theorem eqv_tup (is js : List Int) : PyData.eqv (.tuple (is.map .int)) (.tuple (js.map .int)) = decide (is = js) := by
  rw [PyData.eqv, eqvAll_ints]
theorem inls_inj : ∀ {a b : List Int}, (a.map Sum.inl : List Key) = b.map Sum.inl → a = b
  | [], [], _ => rfl
  | [], _ :: _, h => by cases h
  | _ :: _, [], h => by cases h
  | x :: a, y :: b, h => by
    rw [List.map_cons, List.map_cons] at h
    injection h with h1 h2
    injection h1 with h1
    rw [h1, inls_inj h2]
theorem kV_inls (is : List Int) : (is.map Sum.inl : List Key).map kV = is.map V.int := by
  rw [List.map_map]
  rfl
section
variable {B H : Hp}
theorem KI.find : ∀ {kv : List (Key × V)} {kd : List (PyData × PyData)} (i : Int), KI B kv kd → (dFind kd (.int i) = none ∧ valV kv (Sum.inl i) = none) ∨ ∃ d v, dFind kd (.int i) = some d ∧ valV kv (Sum.inl i) = some v ∧ Dq B v d
  | _, _, _, .nil => .inl ⟨rfl, rfl⟩
  | _, _, i, .cons (i := j) (v := v) (d := d) (kv := kv) (kd := kd) hv t => by
    by_cases h : j = i
    · subst h
      exact .inr ⟨d, v, by simp [dFind, List.find?_cons, eqv_int], valV_pos rfl, hv⟩
    · have h1 : dFind ((.int j, d) :: kd) (.int i) = dFind kd (.int i) := by simp [dFind, List.find?_cons, eqv_int, h]
      have h2 : valV ((Sum.inl j, v) :: kv : List (Key × V)) (Sum.inl i) = valV kv (Sum.inl i) := valV_neg fun z => h (Sum.inl.inj z)
      rw [h1, h2]
      exact KI.find i t
theorem KT.find : ∀ {kv : List (List Key × V)} {kd : List (PyData × PyData)} (is : List Int), KT B kv kd → (dFind kd (.tuple (is.map .int)) = none ∧ valV kv (is.map Sum.inl) = none) ∨ ∃ d v, dFind kd (.tuple (is.map .int)) = some d ∧ valV kv (is.map Sum.inl) = some v ∧ Dq B v d
  | _, _, _, .nil => .inl ⟨rfl, rfl⟩
  | _, _, is, .cons (is := js) (v := v) (d := d) (kv := kv) (kd := kd) hv t => by
    by_cases h : js = is
    · subst h
      exact .inr ⟨d, v, by simp [dFind, List.find?_cons, eqv_tup], valV_pos rfl, hv⟩
    · have h1 : dFind ((.tuple (js.map .int), d) :: kd) (.tuple (is.map .int)) = dFind kd (.tuple (is.map .int)) := by simp [dFind, List.find?_cons, eqv_tup, h]
      have h2 : valV ((js.map Sum.inl, v) :: kv : List (List Key × V)) (is.map Sum.inl) = valV kv (is.map Sum.inl) := valV_neg fun z => h (inls_inj z)
      rw [h1, h2]
      exact KT.find is t
theorem KI.app {kv : List (Key × V)} {kd : List (PyData × PyData)} {i : Int} {v : V} {d : PyData} (h : KI B kv kd) (hv : Dq B v d) : KI B (kv ++ [(Sum.inl i, v)]) (kd ++ [(.int i, d)]) := by
  induction h with
  | nil => exact .cons hv .nil
  | cons h1 _ ih => exact .cons h1 ih
theorem KT.app {kv : List (List Key × V)} {kd : List (PyData × PyData)} {is : List Int} {v : V} {d : PyData} (h : KT B kv kd) (hv : Dq B v d) : KT B (kv ++ [(is.map Sum.inl, v)]) (kd ++ [(.tuple (is.map .int), d)]) := by
  induction h with
  | nil => exact .cons hv .nil
  | cons h1 _ ih => exact .cons h1 ih
theorem KI.put {kv : List (Key × V)} {kd : List (PyData × PyData)} {i : Int} {v : V} {d : PyData} (h : KI B kv kd) (hv : Dq B v d) : KI B (putK kv (Sum.inl i) v) (dPut kd (.int i) d) := by
  have hany : (kd.any fun p => PyData.eqv p.1 (.int i)) = (kv.any fun p => decide (p.1 = (Sum.inl i : Key))) := by
    induction h with
    | nil => rfl
    | cons _ _ ih => rw [List.any_cons, List.any_cons, ih, eqv_int]; simp
  unfold putK dPut
  rw [hany]
  split
  · rename_i hs
    clear hany hs
    induction h with
    | nil => exact .nil
    | cons h1 _ ih =>
      rename_i j _ _ _ _ _
      rw [List.map_cons, List.map_cons]
      by_cases e : j = i
      · subst e
        rw [if_pos rfl, if_pos (by rw [eqv_int]; simp)]
        exact .cons hv ih
      · rw [if_neg (fun z => e (Sum.inl.inj z)), if_neg (by rw [eqv_int]; simp [e])]
        exact .cons h1 ih
  · exact h.app hv
theorem KT.put {kv : List (List Key × V)} {kd : List (PyData × PyData)} {is : List Int} {v : V} {d : PyData} (h : KT B kv kd) (hv : Dq B v d) : KT B (putK kv (is.map Sum.inl) v) (dPut kd (.tuple (is.map .int)) d) := by
  have hany : (kd.any fun p => PyData.eqv p.1 (.tuple (is.map .int))) = (kv.any fun p => decide (p.1 = (is.map Sum.inl : List Key))) := by
    induction h with
    | nil => rfl
    | cons _ _ ih =>
      rename_i js _ _ _ _ _ _
      rw [List.any_cons, List.any_cons, ih, eqv_tup]
      have : decide (js = is) = decide ((js.map Sum.inl : List Key) = is.map Sum.inl) := by
        by_cases e : js = is
        · subst e; simp
        · rw [decide_eq_false e, decide_eq_false fun z => e (inls_inj z)]
      rw [this]
  unfold putK dPut
  rw [hany]
  split
  · rename_i hs
    clear hany hs
    induction h with
    | nil => exact .nil
    | cons h1 _ ih =>
      rename_i js _ _ _ _ _
      rw [List.map_cons, List.map_cons]
      by_cases e : js = is
      · subst e
        rw [if_pos rfl, if_pos (by rw [eqv_tup]; simp)]
        exact .cons hv ih
      · rw [if_neg (fun z => e (inls_inj z)), if_neg (by rw [eqv_tup]; simp [e])]
        exact .cons h1 ih
  · exact h.app hv
theorem dPut_len (kd : List (PyData × PyData)) (k v : PyData) : (dPut kd k v).length ≤ kd.length + 1 := by
  unfold dPut
  split
  · rw [List.length_map]; omega
  · simp
theorem KI.length {kv : List (Key × V)} {kd : List (PyData × PyData)} (h : KI B kv kd) : kv.length = kd.length := by
  induction h with
  | nil => rfl
  | cons _ _ ih => exact congrArg (· + 1) ih
theorem KT.length {kv : List (List Key × V)} {kd : List (PyData × PyData)} (h : KT B kv kd) : kv.length = kd.length := by
  induction h with
  | nil => rfl
  | cons _ _ ih => exact congrArg (· + 1) ih
end
/-! ### an empty dict is of both kinds -/
section
variable {X : Cx} {pins : List (Addr × Obj)} {σ : L2.St} {H : Hp} {s : Shared} {a : Addr}
theorem inv_toT (I : Inv X pins σ H s) (e : H a = some (.dK [])) : Inv X pins σ (upd H a (.dT [])) s := by
  obtain ⟨z, hd, vs, rel, dd⟩ := dk_of I.hok e
  cases rel
  obtain ⟨o, es, ep, h1, h2, h3, h4, h5, h6⟩ := dd
  refine I.write (x := a) (e := a) (h' := s.heap) (t' := s.toks) (by rw [e]; trivial) (.inl rfl) (fun b u _ q => q) ⟨o, h1⟩ ⟨Nat.zero_le _, hd, [], .nil, o, es, ep, h1, h2, h3, ?_, List.nodup_nil⟩
  generalize es.toList = l at h5 ⊢
  cases l with
  | nil => rfl
  | cons _ _ => cases h5
theorem inv_toK (I : Inv X pins σ H s) (e : H a = some (.dT [])) : Inv X pins σ (upd H a (.dK [])) s := by
  obtain ⟨z, hd, xs, rel, dd⟩ := dt_of I.hok e
  cases rel
  obtain ⟨o, es, ep, h1, h2, h3, h4, h5⟩ := dd
  have h6 : es.toList = [] := h4
  refine I.write (x := a) (e := a) (h' := s.heap) (t' := s.toks) (by rw [e]; trivial) (.inl rfl) (fun b u _ q => q) ⟨o, h1⟩ ⟨Nat.zero_le _, hd, [], .nil, o, es, ep, h1, h2, h3, fun q hq => ?_, ?_, List.nodup_nil⟩
  · have hq' : q ∈ es.toList := by simpa using hq
    rw [h6] at hq'
    cases hq'
  · rw [h6]
    constructor
theorem upd_back {o u : HO} (e : H a = some o) : upd (upd H a u) a o = H := by
  funext b
  by_cases h : b = a
  · subst h; rw [upd_same, e]
  · rw [upd_ne h, upd_ne h]
end
end Rk

set_option Elab.async false
set_option linter.all false
set_option maxRecDepth 100000
set_option maxHeartbeats 4000000
namespace Rk
open PySem PySem.Spec L2
/-! ### in, not in -/
def pIn : P2 := fun x c => match c with
  | .list ds => if okD x = true ∧ okD (.list ds) = true then some (.bool (ds.any fun z => PyData.eqv z x)) else none
  | .tuple ds => if okD x = true ∧ okD (.tuple ds) = true then some (.bool (ds.any fun z => PyData.eqv z x)) else none
  | .dict kd => if homK x kd = true then some (.bool (dFind kd x).isSome) else none
  | _ => none
def pNin : P2 := fun x c => match pIn x c with
  | some (.bool b) => some (.bool (!b))
  | _ => none
theorem homK_or {k : PyData} {kd : List (PyData × PyData)} (h : homK k kd = true) : (isIK k = true ∧ (kd.all fun p => isIK p.1) = true) ∨ (isTK k = true ∧ (kd.all fun p => isTK p.1) = true) := by
  unfold homK at h
  rw [Bool.or_eq_true, Bool.and_eq_true, Bool.and_eq_true] at h
  exact h
theorem KI.noT {B : Hp} {kv : List (Key × V)} {kd : List (PyData × PyData)} (h : KI B kv kd) (a : (kd.all fun p => isTK p.1) = true) : kv = [] ∧ kd = [] := by
  cases h with
  | nil => exact ⟨rfl, rfl⟩
  | cons _ _ => rw [List.all_cons, Bool.and_eq_true] at a; cases a.1
theorem KT.noI {B : Hp} {kv : List (List Key × V)} {kd : List (PyData × PyData)} (h : KT B kv kd) (a : (kd.all fun p => isIK p.1) = true) : kv = [] ∧ kd = [] := by
  cases h with
  | nil => exact ⟨rfl, rfl⟩
  | cons _ _ => rw [List.all_cons, Bool.and_eq_true] at a; cases a.1
/-- an object that is a key, found in a dict -/
def Loc2 (B H : Hp) (a : Addr) (y : V) (kd : List (PyData × PyData)) (k : PyData) : Prop :=
  (dFind kd k = none ∧ DGet H a y none) ∨ (∃ d v, dFind kd k = some d ∧ DGet H a y (some v) ∧ Dq B v d)
theorem loc_dict {B H : Hp} (s : Sub B H) {x y : V} {kd : List (PyData × PyData)} {k : PyData} (rx : RepA B H x (.dict kd)) (ry : RepA B H y k) (h : homK k kd = true) :
    ∃ a, x = .ref a ∧ (Loc2 B H a y kd k ∨ (kd = [] ∧ H a = some (.dK []) ∧ Loc2 B (upd H a (.dT [])) a y kd k) ∨ (kd = [] ∧ H a = some (.dT []) ∧ Loc2 B (upd H a (.dK [])) a y kd k)) := by
  obtain ⟨a, ea, hd⟩ := rx.dict
  refine ⟨a, ea, ?_⟩
  rcases homK_or h with ⟨hk, ha⟩ | ⟨hk, ha⟩
  · obtain ⟨i, rfl⟩ := isIK_some hk
    have ey : y = .int i := ry.int
    subst ey
    rcases hd with ⟨kv, hH, hI⟩ | ⟨kv, hH, hT⟩
    · refine .inl ?_
      rcases hI.find i with ⟨h1, h2⟩ | ⟨d, v, h1, h2, h3⟩
      · exact .inl ⟨h1, h2 ▸ DGet.k (k := Sum.inl i) hH⟩
      · exact .inr ⟨d, v, h1, h2 ▸ DGet.k (k := Sum.inl i) hH, h3⟩
    · obtain ⟨rfl, rfl⟩ := hT.noI ha
      exact .inr (.inr ⟨rfl, hH, .inl ⟨rfl, DGet.k (k := Sum.inl i) (kvs := []) upd_same⟩⟩)
  · obtain ⟨is, rfl⟩ := isTK_some hk
    obtain ⟨b, xs, rfl, hb, hb', db⟩ := ry.tuple s
    have exs := db.ints_inv
    subst exs
    rcases hd with ⟨kv, hH, hI⟩ | ⟨kv, hH, hT⟩
    · obtain ⟨rfl, rfl⟩ := hI.noT ha
      refine .inr (.inl ⟨rfl, hH, .inl ⟨rfl, DGet.t (k := is.map Sum.inl) (kvs := []) upd_same ?_⟩⟩)
      rw [upd_ne (ne_of hb' hH (fun z => nomatch z)), kV_inls]
      exact hb'
    · refine .inl ?_
      rcases hT.find is with ⟨h1, h2⟩ | ⟨d, v, h1, h2, h3⟩
      · exact .inl ⟨h1, h2 ▸ DGet.t hH (by rw [kV_inls]; exact hb')⟩
      · exact .inr ⟨d, v, h1, h2 ▸ DGet.t hH (by rw [kV_inls]; exact hb'), h3⟩
section
variable {X : Cx} {T : Tb} {O : List Nat} {e a b c : Expr} {es : List Expr} {f g h : Fx} {pos : Pos}
theorem Loc2.in_ {B H : Hp} {q : Addr} {y : V} {kd : List (PyData × PyData)} {k : PyData} (l : Loc2 B H q y kd k) : ∃ o, DGet H q y o ∧ o.isSome = (dFind kd k).isSome := by
  rcases l with ⟨h1, h2⟩ | ⟨d, v, h1, h2, _⟩
  · exact ⟨_, h2, by rw [h1]; rfl⟩
  · exact ⟨_, h2, by rw [h1]; rfl⟩
theorem od_in_d (hu : X.A.units + 200 < cLine) {pins : List (Addr × Obj)} {s : Shared} {σ : L2.St} {B H : Hp} {x y : V} {v u : Value} {kd : List (PyData × PyData)} {k : PyData} {Q : VK} (I : Inv X pins σ H s) (sb : Sub B H) (rx : RelV x v) (ry : RelV y u)
    (r1 : RepA B H x k) (r2 : RepA B H y (.dict kd)) (hk : homK k kd = true) (q : Q (.bl (dFind kd k).isSome) H) : wpAny (model X.prog X.w) X.A (compareOp .In v u) (EP X pins σ Q) X.xe s := by
  obtain ⟨a, rfl, h⟩ := loc_dict sb r2 r1 hk
  cases ry
  rcases h with l | ⟨_, hH, l⟩ | ⟨_, hH, l⟩
  · obtain ⟨o, g, eo⟩ := l.in_
    exact d_in (by omega) I g rx fun s3 I3 => ⟨.bl _, H, I3, rfl, eo ▸ q⟩
  · obtain ⟨o, g, eo⟩ := l.in_
    exact d_in (by omega) (inv_toT I hH) g rx fun s3 I3 => ⟨.bl _, H, by have I4 := inv_toK I3 upd_same; rw [upd_back hH] at I4; exact I4, rfl, eo ▸ q⟩
  · obtain ⟨o, g, eo⟩ := l.in_
    exact d_in (by omega) (inv_toK I hH) g rx fun s3 I3 => ⟨.bl _, H, by have I4 := inv_toT I3 upd_same; rw [upd_back hH] at I4; exact I4, rfl, eo ▸ q⟩
theorem od_nin_d (hu : X.A.units + 200 < cLine) {pins : List (Addr × Obj)} {s : Shared} {σ : L2.St} {B H : Hp} {x y : V} {v u : Value} {kd : List (PyData × PyData)} {k : PyData} {Q : VK} (I : Inv X pins σ H s) (sb : Sub B H) (rx : RelV x v) (ry : RelV y u)
    (r1 : RepA B H x k) (r2 : RepA B H y (.dict kd)) (hk : homK k kd = true) (q : Q (.bl (!(dFind kd k).isSome)) H) : wpAny (model X.prog X.w) X.A (compareOp .NotIn v u) (EP X pins σ Q) X.xe s := by
  obtain ⟨a, rfl, h⟩ := loc_dict sb r2 r1 hk
  cases ry
  rcases h with l | ⟨_, hH, l⟩ | ⟨_, hH, l⟩
  · obtain ⟨o, g, eo⟩ := l.in_
    exact d_notIn (by omega) I g rx fun s3 I3 => ⟨.bl _, H, I3, rfl, eo ▸ q⟩
  · obtain ⟨o, g, eo⟩ := l.in_
    exact d_notIn (by omega) (inv_toT I hH) g rx fun s3 I3 => ⟨.bl _, H, by have I4 := inv_toK I3 upd_same; rw [upd_back hH] at I4; exact I4, rfl, eo ▸ q⟩
  · obtain ⟨o, g, eo⟩ := l.in_
    exact d_notIn (by omega) (inv_toK I hH) g rx fun s3 I3 => ⟨.bl _, H, by have I4 := inv_toT I3 upd_same; rw [upd_back hH] at I4; exact I4, rfl, eo ▸ q⟩
theorem od_in (hu : X.A.units + 200 < cLine) : OpR X (compareOp .In) (rD T pIn) := by
  intro pins s σ H x y v u Q I rx ry ⟨B, d, e, r, sb, r1, r2, hp, k⟩
  unfold pIn at hp
  split at hp
  · split at hp
    · rename_i h
      cases hp
      obtain ⟨d1, d2⟩ := okD_s h.1
      obtain ⟨e1, e2⟩ := okD_s h.2
      exact op_inD (by omega) pins s σ H x y v u Q I rx ry ⟨d, _, (r1.dq sb d2).dp, (r2.dq sb e2).dp, d1, e1, k _ B H (Ext.refl sb) (.inl (.bl _))⟩
    · cases hp
  · split at hp
    · rename_i h
      cases hp
      obtain ⟨d1, d2⟩ := okD_s h.1
      obtain ⟨e1, e2⟩ := okD_s h.2
      obtain ⟨as, q1⟩ := Dp.reads I d x v (r1.dq sb d2).dp rx
      obtain ⟨bs, q2⟩ := Dp.reads I _ y u (r2.dq sb e2).dp ry
      exact SeqAt.in_tuple_reads q2 q1 (SeqAt.canLay_of_shaped e1) (SeqAt.canLay_of_shaped d1) (PyProof.Rows.room_in_shaped d1 (by omega)) ⟨.bl _, H, I, rfl, k _ B H (Ext.refl sb) (.inl (.bl _))⟩
    · cases hp
  · split at hp
    · rename_i h
      cases hp
      exact od_in_d hu I sb rx ry r1 r2 h (k _ B H (Ext.refl sb) (.inl (.bl _)))
    · cases hp
  · cases hp
theorem od_nin (hu : X.A.units + 200 < cLine) : OpR X (compareOp .NotIn) (rD T pNin) := by
  intro pins s σ H x y v u Q I rx ry ⟨B, d, e, r, sb, r1, r2, hp, k⟩
  unfold pNin at hp
  split at hp
  · rename_i b hp'
    cases hp
    unfold pIn at hp'
    split at hp'
    · split at hp'
      · rename_i h
        cases hp'
        obtain ⟨d1, d2⟩ := okD_s h.1
        obtain ⟨e1, e2⟩ := okD_s h.2
        exact op_notInD (by omega) pins s σ H x y v u Q I rx ry ⟨d, _, (r1.dq sb d2).dp, (r2.dq sb e2).dp, d1, e1, k _ B H (Ext.refl sb) (.inl (.bl _))⟩
      · cases hp'
    · split at hp'
      · rename_i h
        cases hp'
        obtain ⟨d1, d2⟩ := okD_s h.1
        obtain ⟨e1, e2⟩ := okD_s h.2
        obtain ⟨as, q1⟩ := Dp.reads I d x v (r1.dq sb d2).dp rx
        obtain ⟨bs, q2⟩ := Dp.reads I _ y u (r2.dq sb e2).dp ry
        exact SeqAt.notIn_tuple_reads q2 q1 (SeqAt.canLay_of_shaped e1) (SeqAt.canLay_of_shaped d1) (PyProof.Rows.room_in_shaped d1 (by omega)) ⟨.bl _, H, I, rfl, k _ B H (Ext.refl sb) (.inl (.bl _))⟩
      · cases hp'
    · split at hp'
      · rename_i h
        cases hp'
        exact od_nin_d hu I sb rx ry r1 r2 h (k _ B H (Ext.refl sb) (.inl (.bl _)))
      · cases hp'
    · cases hp'
  · cases hp
/-! ### subscripts -/
def pIx : P2 := fun c i => match c with
  | .list ds => match i with
    | .int j => atI ds j
    | _ => none
  | .tuple ds => match i with
    | .int j => atI ds j
    | _ => none
  | .dict kd => if homK i kd = true then dFind kd i else none
  | _ => none
theorem DqAll.atI {B : Hp} {vs : List V} {ds : List PyData} {j : Int} {d : PyData} (h : DqAll B vs ds) (e : L2.atI ds j = some d) : ∃ v, L2.atI vs j = some v ∧ Dq B v d := by
  unfold L2.atI at e ⊢
  rw [h.length]
  obtain ⟨n, hn, e⟩ := bind1 e
  rw [hn]
  exact h.get' e
theorem ix_dict (hu : X.A.units + 200 < cLine) : IxR X (fun x y H Q => ∃ a v, x = .ref a ∧ DGet H a y (some v) ∧ Q v H) := by
  intro value slice pins s σ H x y v u Q I rx ry ⟨a, w, ex, g, q⟩ hs
  subst ex
  cases rx
  have hT := dict_typeIs I g
  have hg : wpAny (model X.prog X.w) X.A (getItem (.ref a) u) (EP X pins σ Q) X.xe s := d_getItem (by omega) I g ry fun w' s3 I3 rw' => ⟨w, H, I3, rw', q⟩
  unfold PyProof.Rows.subscriptTail
  refine wpAny_bind ?_
  rw [getitemInPython_of_ne hT.not_modules]
  refine wpAny_bind (wpAny_specialOf hT PySem.F.slot_dict_getitem.lookup ?_)
  have fin : wpAny (model X.prog X.w) X.A (subscripted slice false (.ref a) u) (fun r s₃ => wpAny (model X.prog X.w) X.A (letTemporaryGo value (.ref a) r >>= fun _ => pure r) (EP X pins σ Q) X.xe s₃) X.xe s := by
    rw [hs]
    exact wpAny_operating (wpAny_mono hg (fun r s₃ h₃ => wpAny_bind (wpAny_letTemporaryGo (wpAny_pure h₃))) fun _ _ x => x)
  first
    | exact wpAny_pure (wpAny_bind fin)
    | exact wpAny_bind (wpAny_pure (wpAny_bind fin))
    | exact wpAny_bind fin
theorem od_ix (hu : X.A.units + 200 < cLine) : IxR X (rD T pIx) := by
  intro value slice pins s σ H x y v u Q I rx ry ⟨B, d, e, r, sb, r1, r2, hp, k⟩ hs
  unfold pIx at hp
  split at hp
  · split at hp
    · obtain ⟨a, xs, rfl, hr, da⟩ := r1.list sb
      obtain ⟨z, hz, dz⟩ := da.atI hp
      exact ix_list value slice pins s σ H _ y v u Q I rx ry ⟨a, xs, _, z, rfl, r2.int, .inl hr, hz, k _ B H (Ext.refl sb) (.inl dz)⟩ hs
    · cases hp
  · split at hp
    · obtain ⟨a, xs, rfl, _, hr, da⟩ := r1.tuple sb
      obtain ⟨z, hz, dz⟩ := da.atI hp
      exact ix_tup value slice pins s σ H _ y v u Q I rx ry ⟨a, xs, _, z, rfl, r2.int, SqT.of hr, hz, k _ B H (Ext.refl sb) (.inl dz)⟩ hs
    · cases hp
  · split at hp
    · rename_i h
      obtain ⟨a, rfl, hl⟩ := loc_dict sb r1 r2 h
      rcases hl with l | ⟨rfl, _, _⟩ | ⟨rfl, _, _⟩
      · rcases l with ⟨h1, _⟩ | ⟨d', w, h1, h2, h3⟩
        · rw [h1] at hp; cases hp
        · rw [h1] at hp; cases hp
          exact ix_dict hu value slice pins s σ H _ y v u Q I rx ry ⟨a, w, rfl, h2, k _ B H (Ext.refl sb) (.inl h3)⟩ hs
      · cases hp
      · cases hp
    · cases hp
  · cases hp
end
end Rk

set_option Elab.async false
set_option linter.all false
set_option maxRecDepth 100000
set_option maxHeartbeats 4000000
namespace Rk
open PySem PySem.Spec L2
/-! ### slices -/
def cutG {α : Type} (xs : List α) (lo hi : Option Int) : List α := (xs.drop (HT.sIx xs.length 0 lo)).take (HT.sIx xs.length xs.length hi - HT.sIx xs.length 0 lo)
theorem DqAll.cut {B : Hp} {vs : List V} {ds : List PyData} (h : DqAll B vs ds) (lo hi : Option Int) : DqAll B (cutV vs lo hi) (cutG ds lo hi) := by
  unfold cutV cutG
  rw [h.length]
  exact (h.drop _).take _
def pSl (d : PyData) (lo hi : Option Int) : Option PyData := match d with
  | .list ds => some (.list (cutG ds lo hi))
  | .tuple ds => some (.tuple (cutG ds lo hi))
  | _ => none
def asI : P1 → PyData → Option (Option Int) := fun _ d => match d with
  | .int i => some (some i)
  | _ => none
def oInt (d : PyData) : Option Int := match d with
  | .int i => some i
  | _ => none
def tO (T : Tb) (O : List Nat) (f : Env → Option (Option Int)) : TO := fun σ H Q => ∃ B G o, Core T O B G σ H ∧ f G = some o ∧ ∀ B' H', Ext T B H B' H' → Q o H'
def cNo : Env → Option (Option Int) := fun _ => some none
def cPt (f : Fx) : Env → Option (Option Int) := fun G => (f G).bind fun d => (oInt d).map some
def cSl (f : Fx) (lo hi : Env → Option (Option Int)) : Fx := fun G => (f G).bind fun d => (lo G).bind fun l => (hi G).bind fun h => pSl d l h
section
variable {X : Cx} {T : Tb} {O : List Nat} {e a b c : Expr} {es : List Expr} {f g h : Fx} {pos : Pos}
theorem poI {e : Option Expr} {t t' : TO} (h : PO X e t) (i : ∀ σ H Q, t' σ H Q → t σ H Q) : PO X e t' := ⟨fun pins s σ H Q I q => h.run pins s σ H Q I (i σ H Q q)⟩
theorem eo_none : PO X none (tO T O cNo) := poI po_none fun σ H Q ⟨B, G, o, c, hf, k⟩ => by
  cases hf
  exact k B H (Ext.refl c.sub)
theorem eo_some (h : EA X T O e f) : PO X (some e) (tO T O (cPt f)) := poI (po_some h) fun σ H Q ⟨B, G, o, c, hf, k⟩ => by
  obtain ⟨d, hd, ho⟩ := bind1 hf
  cases d with
  | int i =>
    cases ho
    exact ⟨B, G, _, c, hd, fun v B' H' x r => ⟨i, r.int, k B' H' x⟩⟩
  | _ => cases ho
def rS (T : Tb) : V → Option Int → Option Int → Hp → VK → Prop := fun x lo hi H Q => ∃ B d r, Sub B H ∧ RepA B H x d ∧ pSl d lo hi = some r ∧ ∀ v B' H', Ext T B H B' H' → RepV B' v r → Q v H'
theorem sl_any : SlR X (rS T) := by
  intro pins s σ H x v vl vu lo hi sl Q I rx hs pl pu ⟨B, d, r, sb, r1, hp, k⟩
  unfold pSl at hp
  split at hp
  · cases hp
    obtain ⟨a, xs, rfl, hr, da⟩ := r1.list sb
    refine sl_list pins s σ H _ v vl vu lo hi sl Q I rx hs pl pu ⟨a, xs, rfl, .inl hr, fun p hp => ?_⟩
    have e1 : Ext T B H (upd B p (.lst (cutV xs lo hi))) (upd H p (.lst (cutV xs lo hi))) := Ext.new sb hp (noTb_lst _)
    exact k _ _ _ e1 (.inl (.lst (.inl upd_same) (DqAll.mono e1.b (da.cut lo hi))))
  · cases hp
    obtain ⟨a, xs, rfl, hb, hr, da⟩ := r1.tuple sb
    refine sl_tupA pins s σ H _ v vl vu lo hi sl Q I rx hs pl pu ⟨a, xs, rfl, SqT.of hr, fun hw => ?_, fun _ p hp => ?_⟩
    · have e0 : cutV xs lo hi = xs := by
        unfold cutV
        rw [hw.1, hw.2]
        simp
      have h1 := da.cut lo hi
      rw [e0] at h1
      exact k _ B H (Ext.refl sb) (.inl (.tup hb h1))
    · have e1 : Ext T B H (upd B p (.tup (cutV xs lo hi))) (upd H p (.tup (cutV xs lo hi))) := Ext.new sb hp (noTb_tup _)
      exact k _ _ _ e1 (.inl (.tup upd_same (DqAll.mono e1.b (da.cut lo hi))))
  · cases hp
theorem ev_slice {lo hi : Option Expr} {fl fh : Env → Option (Option Int)} {p2 : Pos} (he : EA X T O e f) (hl : PO X lo (tO T O fl)) (hh : PO X hi (tO T O fh)) : EV X T O (.Subscript e (.Slice lo hi none p2) pos) (cSl f fl fh) :=
  peI (pe_slice sl_any he hl hh) fun σ H Q ⟨B, G, d, c, hf, k⟩ => by
    obtain ⟨x, hx, h1⟩ := bind1 hf
    obtain ⟨l, hl, h2⟩ := bind1 h1
    obtain ⟨u, hu, h3⟩ := bind1 h2
    exact ⟨B, G, x, c, hx, fun v B1 H1 e1 r1 => ⟨B1, G, l, c.mono e1, hl, fun B2 H2 e2 => ⟨B2, G, u, (c.mono e1).mono e2, hu, fun B3 H3 e3 =>
      ⟨B3, x, d, e3.sub, (r1.mono e2).mono e3, h3, fun v B4 H4 e4 r4 => k v B4 H4 (((e1.trans e2).trans e3).trans e4) r4⟩⟩⟩⟩
/-! ### arguments, displays -/
abbrev Fs := Env → Option (List PyData)
def cNil : Fs := fun _ => some []
def cCons (f : Fx) (fs : Fs) : Fs := fun G => (f G).bind fun d => (fs G).bind fun ds => some (d :: ds)
theorem el_nil : EL X T O [] cNil := paI pa_nil fun σ H Q ⟨B, G, ds, c, hf, k⟩ => by
  cases hf
  exact k [] B H (Ext.refl c.sub) .nil
theorem el_cons {fs : Fs} (he : EV X T O e f) (hr : EL X T O es fs) (hs : starEach (e :: es) X.env = (false, eval e X.env) :: starEach es X.env := by rfl) : EL X T O (e :: es) (cCons f fs) :=
  paI (pa_cons he hr hs) fun σ H Q ⟨B, G, ds, c, hf, k⟩ => by
    obtain ⟨x, hx, h1⟩ := bind1 hf
    obtain ⟨l, hl, h2⟩ := bind1 h1
    cases h2
    exact ⟨B, G, x, c, hx, fun v B1 H1 e1 r1 => ⟨B1, G, l, c.mono e1, hl, fun vs B2 H2 e2 r2 => k _ B2 H2 (e1.trans e2) (.cons (r1.mono e2.b) r2)⟩⟩
def noDicts (ds : List PyData) : Bool := ds.all fun d => !isDict d
theorem RepVs.all {B : Hp} : ∀ {vs : List V} {ds : List PyData}, noDicts ds = true → RepVs B vs ds → DqAll B vs ds
  | _, _, _, .nil => .nil
  | _, _, h, .cons r t => by
    unfold noDicts at h
    rw [List.all_cons, Bool.and_eq_true, Bool.not_eq_true'] at h
    exact .cons (r.dq h.1) (RepVs.all h.2 t)
def okS (ds : List PyData) : Bool := noDicts ds && decide (ds.length ≤ sizeLine)
def cTup (fs : Fs) : Fx := fun G => (fs G).bind fun ds => if okS ds = true then some (.tuple ds) else none
def cLst (fs : Fs) : Fx := fun G => (fs G).bind fun ds => if okS ds = true then some (.list ds) else none
theorem okS_s {ds : List PyData} (h : okS ds = true) : noDicts ds = true ∧ ds.length ≤ sizeLine := by
  unfold okS at h
  rw [Bool.and_eq_true, decide_eq_true_eq] at h
  exact h
theorem ev_tup {fs : Fs} {x1} (h : EL X T O es fs) : EV X T O (.Tuple es x1 pos) (cTup fs) := peI (pe_tup h) fun σ H Q ⟨B, G, d, c, hf, k⟩ => by
  obtain ⟨ds, hd, h1⟩ := bind1 hf
  split at h1
  · rename_i ok
    cases h1
    obtain ⟨o1, o2⟩ := okS_s ok
    refine ⟨B, G, ds, c, hd, fun vs B1 H1 e1 r1 => ?_⟩
    have da := RepVs.all o1 r1
    refine ⟨by rw [da.length]; exact o2, fun p hp => ?_⟩
    have e2 : Ext T B1 H1 (upd B1 p (.tup vs)) (upd H1 p (.tup vs)) := Ext.new e1.sub hp (noTb_tup _)
    exact k _ _ _ (e1.trans e2) (.inl (.tup upd_same (DqAll.mono e2.b da)))
  · cases h1
theorem en_lst {fs : Fs} (h : EL X T O es fs) : EN X T O (.List es pos) (cLst fs) := peI (pe_lst h) fun σ H Q ⟨B, G, d, c, hf, k⟩ => by
  obtain ⟨ds, hd, h1⟩ := bind1 hf
  split at h1
  · rename_i ok
    cases h1
    obtain ⟨o1, o2⟩ := okS_s ok
    refine ⟨B, G, ds, c, hd, fun vs B1 H1 e1 r1 => ?_⟩
    have da := RepVs.all o1 r1
    refine ⟨by rw [da.length]; exact o2, fun p hp => ?_⟩
    exact k p (.lst vs) _ _ (e1.trans (Ext.new0 e1.sub hp)) (e1.fresh hp) (e1.sub.none hp) upd_same da
  · cases h1
def cD0 : Fx := fun _ => some (.dict [])
theorem en_d0 : EN X T O (.Dict [] [] pos) cD0 := peI pe_dnewK fun σ H Q ⟨B, G, d, c, hf, k⟩ p hp => by
  cases hf
  exact k p (.dK []) _ _ (Ext.new0 c.sub hp) hp (c.sub.none hp) upd_same .nil
def cD1 (f g : Fx) : Fx := fun G => (f G).bind fun k => (g G).bind fun v => if isIK k = true ∧ isDict v = false then some (.dict [(k, v)]) else none
theorem en_d1 {k v : Expr} (hk : EA X T O k f) (hv : EV X T O v g) : EN X T O (.Dict [some k] [v] pos) (cD1 f g) := peI (pe_disp (pps_cons hk hv pps_nil) (by rfl) (by rfl) (fun z => nomatch z) (by show 1 ≤ 15; decide)) fun σ H Q ⟨B, G, d, c, hf, kk⟩ p hp => by
  obtain ⟨x, y, hx, hy, h2⟩ := bind2 hf
  split at h2
  · rename_i ok
    cases h2
    obtain ⟨i, rfl⟩ := isIK_some ok.1
    have e0 : Ext T B H B (upd H p (.dK [])) := Ext.new0 c.sub hp
    refine ⟨B, G, _, c.mono e0, hx, fun v1 B1 H1 e1 r1 => ⟨B1, G, y, (c.mono e0).mono e1, hy, fun v2 B2 H2 e2 r2 => ?_⟩⟩
    have hp2 : H2 p = some (.dK []) := e2.get (e1.get upd_same (noTb_dK _)) (noTb_dK _)
    have e12 := (e0.trans e1).trans e2
    have hb2 : B2 p = none := ((e1.trans e2).ag p _ upd_same (noTb_dK _) (noTp_dK _)).trans (c.sub.none hp)
    have dq2 := r2.dq ok.2
    refine ⟨hp2, [(Sum.inl i, v2)], by rw [r1.int]; rfl, (by show 1 ≤ 15; decide), ?_⟩
    have em : mergeK [] [((Sum.inl i : Key), v2)] = [(Sum.inl i, v2)] := rfl
    rw [em]
    have s3 : Sub B2 (upd H2 p (.dK [(Sum.inl i, v2)])) := fun a o q => by
      have na : a ≠ p := ne_of_none q hb2
      rw [upd_ne na]
      exact e2.sub a o q
    have tt : LamX.Tabs T H2 → LamX.Tabs T (upd H2 p (.dK [(Sum.inl i, v2)])) := fun t r hr => by
      obtain ⟨ps, a1, a2, a3⟩ := t r hr
      refine ⟨ps, ?_, a2, fun pos cv hc => ?_⟩
      · rw [upd_ne (ne_of a1 hp2 (fun z => nomatch z))]
        exact a1
      · obtain ⟨c0, b1, b2⟩ := a3 pos cv hc
        exact ⟨c0, b1, by rw [upd_ne (ne_of b2 hp2 (fun z => by unfold LamX.CodeO at z; cases z))]; exact b2⟩
    refine kk p _ B2 _ ⟨s3, e12.b, fun a o q n => ?_, fun a q => ?_, e12.ag, fun t => tt (e12.tb t)⟩ hp hb2 upd_same (.cons dq2 .nil)
    · rw [upd_ne (ne_of_none q hp)]
      exact e12.h a o q n
    · by_cases z : a = p
      · rw [z, upd_same]; exact fun z => nomatch z
      · rw [upd_ne z]; exact e12.dom a q
  · cases h2
/-! ### built-in calls -/
section
variable {p1 : P1} {id : String} {x : Str} {pp : Pos} {N : String}
theorem cb1 {r : List V → Hp → VK → Prop} (ha : EA X T O e f) (h : PA X [e] (tCons (tA T O f) tNil) → PE X c (tCB (rC1 T p1) (tCons (tA T O f) tNil))) (hs : starEach [e] X.env = (false, eval e X.env) :: starEach [] X.env) : EV X T O c (c1 p1 f) :=
  peI (h (pa_cons ha pa_nil hs)) fun σ H Q ⟨B, G, d, c, hf, k⟩ => by
    obtain ⟨x, hx, hp⟩ := bind1 hf
    exact ⟨B, G, x, c, hx, fun v1 B1 H1 e1 r1 => ⟨B1, v1, x, d, rfl, e1.sub, r1, hp, fun v B3 H3 e3 r3 => k v B3 H3 (e1.trans e3) r3⟩⟩
theorem cbN {r : List V → Hp → VK → Prop} (ha : EA X T O e f) (h : PA X [e] (tCons (tA T O f) tNil) → PE X c (tCB (rCN T p1) (tCons (tA T O f) tNil))) (hs : starEach [e] X.env = (false, eval e X.env) :: starEach [] X.env) : EN X T O c (c1 p1 f) :=
  peI (h (pa_cons ha pa_nil hs)) fun σ H Q ⟨B, G, d, c, hf, k⟩ => by
    obtain ⟨x, hx, hp⟩ := bind1 hf
    exact ⟨B, G, x, c, hx, fun v1 B1 H1 e1 r1 => ⟨B1, v1, x, d, rfl, e1.sub, r1, hp, fun q o B3 H3 e3 h1 h2 h3 h4 => k q o B3 H3 (e1.trans e3) (e1.fresh h1) h2 h3 h4⟩⟩
theorem ev_cb (hc : CallR X (.builtin id) (rC1 T p1)) (hg : Gl X x) (hm : X.mg x = none) (hv : bootBuiltins x = some (.builtin id)) (ha : EA X T O e f) (hn : x ≠ "__name__" := by decide) (hdb : (x == ("__debug__" : Str)) = false := by decide)
    (hs : starEach [e] X.env = (false, eval e X.env) :: starEach [] X.env := by rfl) : EV X T O (.Call (.Name x pp) [e] [] pos) (c1 p1 f) := cb1 (r := fun _ _ _ => False) ha (fun a => pe_callB hc hg hm hv a hn hdb (by rw [hs])) hs
theorem ev_cty (hc : CallR X (.type N) (rC1 T p1)) (hg : Gl X x) (hm : X.mg x = none) (hv : bootBuiltins x = some (.type N)) (ha : EA X T O e f) (hn : x ≠ "__name__" := by decide) (hdb : (x == ("__debug__" : Str)) = false := by decide)
    (hs : starEach [e] X.env = (false, eval e X.env) :: starEach [] X.env := by rfl) : EV X T O (.Call (.Name x pp) [e] [] pos) (c1 p1 f) := cb1 (r := fun _ _ _ => False) ha (fun a => pe_callTy hc hg hm hv a hn hdb (by rw [hs])) hs
theorem en_cb (hc : CallR X (.builtin id) (rCN T p1)) (hg : Gl X x) (hm : X.mg x = none) (hv : bootBuiltins x = some (.builtin id)) (ha : EA X T O e f) (hn : x ≠ "__name__" := by decide) (hdb : (x == ("__debug__" : Str)) = false := by decide)
    (hs : starEach [e] X.env = (false, eval e X.env) :: starEach [] X.env := by rfl) : EN X T O (.Call (.Name x pp) [e] [] pos) (c1 p1 f) := cbN (r := fun _ _ _ => False) ha (fun a => pe_callB hc hg hm hv a hn hdb (by rw [hs])) hs
theorem en_cty (hc : CallR X (.type N) (rCN T p1)) (hg : Gl X x) (hm : X.mg x = none) (hv : bootBuiltins x = some (.type N)) (ha : EA X T O e f) (hn : x ≠ "__name__" := by decide) (hdb : (x == ("__debug__" : Str)) = false := by decide)
    (hs : starEach [e] X.env = (false, eval e X.env) :: starEach [] X.env := by rfl) : EN X T O (.Call (.Name x pp) [e] [] pos) (c1 p1 f) := cbN (r := fun _ _ _ => False) ha (fun a => pe_callTy hc hg hm hv a hn hdb (by rw [hs])) hs
end
/-! #### len, list, tuple, int -/
def pLen : P1
  | .list ds => some (.int ds.length)
  | .tuple ds => some (.int ds.length)
  | .dict kd => some (.int kd.length)
  | _ => none
theorem cr_len : CallR X (.builtin "len") (rC1 T pLen) := by
  intro pins s σ H xs us Q I rr ⟨B, x, d, r, ex, sb, r1, hp, k⟩
  subst ex
  unfold pLen at hp
  split at hp
  · cases hp
    obtain ⟨a, xs, rfl, hr, da⟩ := r1.list sb
    exact call_len_seq pins s σ H _ us Q I rr ⟨a, xs, rfl, .inl (.inl hr), k _ B H (Ext.refl sb) (by rw [da.length]; exact .inl (.int _))⟩
  · cases hp
    obtain ⟨a, xs, rfl, _, hr, da⟩ := r1.tuple sb
    exact call_len_seq pins s σ H _ us Q I rr ⟨a, xs, rfl, .inr (SqT.of hr), k _ B H (Ext.refl sb) (by rw [da.length]; exact .inl (.int _))⟩
  · cases hp
    obtain ⟨a, rfl, h⟩ := r1.dict
    rcases h with ⟨kv, h1, h2⟩ | ⟨kv, h1, h2⟩
    · exact call_lenD pins s σ H _ us Q I rr ⟨a, kv, rfl, h1, k _ B H (Ext.refl sb) (by rw [h2.length]; exact .inl (.int _))⟩
    · exact call_len_dT pins s σ H _ us Q I rr ⟨a, kv, rfl, h1, k _ B H (Ext.refl sb) (by rw [h2.length]; exact .inl (.int _))⟩
  · cases hp
def pList : P1
  | .list ds => some (.list ds)
  | .tuple ds => some (.list ds)
  | _ => none
theorem cr_list : CallR X (.type "list") (rCN T pList) := by
  intro pins s σ H xs us Q I rr ⟨B, x, d, r, ex, sb, r1, hp, k⟩
  subst ex
  unfold pList at hp
  split at hp
  · cases hp
    obtain ⟨a, xs, rfl, hr, da⟩ := r1.list sb
    exact call_list_of pins s σ H _ us Q I rr ⟨a, xs, rfl, .inl (.inl hr), fun l hl => k l _ B _ (Ext.new0 sb hl) hl (sb.none hl) upd_same da⟩
  · cases hp
    obtain ⟨a, xs, rfl, _, hr, da⟩ := r1.tuple sb
    exact call_list_of pins s σ H _ us Q I rr ⟨a, xs, rfl, .inr (SqT.of hr), fun l hl => k l _ B _ (Ext.new0 sb hl) hl (sb.none hl) upd_same da⟩
  · cases hp
def pTuple : P1
  | .list ds => some (.tuple ds)
  | .tuple ds => some (.tuple ds)
  | _ => none
theorem cr_tuple : CallR X (.type "tuple") (rC1 T pTuple) := by
  intro pins s σ H xs us Q I rr ⟨B, x, d, r, ex, sb, r1, hp, k⟩
  subst ex
  unfold pTuple at hp
  split at hp
  · cases hp
    obtain ⟨a, xs, rfl, hr, da⟩ := r1.list sb
    refine call_tuple_of pins s σ H _ us Q I rr ⟨a, xs, rfl, .inl ⟨.inl hr, fun p hp => ?_⟩⟩
    have e2 : Ext T B H (upd B p (.tup xs)) (upd H p (.tup xs)) := Ext.new sb hp (noTb_tup _)
    exact k _ _ _ e2 (.inl (.tup upd_same (DqAll.mono e2.b da)))
  · cases hp
    obtain ⟨a, xs, rfl, hb, hr, da⟩ := r1.tuple sb
    exact call_tuple_of pins s σ H _ us Q I rr ⟨a, xs, rfl, .inr ⟨SqT.of hr, k _ B H (Ext.refl sb) (.inl (.tup hb da))⟩⟩
  · cases hp
def pInt : P1
  | .int i => some (.int i)
  | .bool b => some (.int (if b then 1 else 0))
  | _ => none
theorem cr_int : CallR X (.type "int") (rC1 T pInt) := by
  intro pins s σ H xs us Q I rr ⟨B, x, d, r, ex, sb, r1, hp, k⟩
  subst ex
  unfold pInt at hp
  split at hp
  · cases hp
    rw [r1.int] at rr
    exact call_int1 pins s σ H _ us Q I rr (.inl ⟨_, rfl, k _ B H (Ext.refl sb) (.inl (.int _))⟩)
  · cases hp
    rw [r1.bool] at rr
    exact call_int1 pins s σ H _ us Q I rr (.inr ⟨_, rfl, k _ B H (Ext.refl sb) (.inl (.int _))⟩)
  · cases hp
/-! #### sum, max, min, all -/
def pSum : P1
  | .list ds => (toInts ds).map fun ns => .int ns.sum
  | _ => none
theorem cr_sumD (hc : X.calm = true) : CallR X (.builtin "sum") (rC1 T pSum) := by
  intro pins s σ H xs us Q I rr ⟨B, x, d, r, ex, sb, r1, hp, k⟩
  subst ex
  unfold pSum at hp
  split at hp
  · obtain ⟨ns, hn, hp⟩ := Option.map_eq_some_iff.mp hp
    subst hp
    obtain ⟨a, xs, rfl, hr, da⟩ := r1.list sb
    rw [toInts_some hn] at da
    rw [da.ints_inv] at hr
    exact cr_sum hc pins s σ H _ us Q I rr ⟨a, ns, rfl, .inl hr, k _ B H (Ext.refl sb) (.inl (.int _))⟩
  · cases hp
def maxI : Int → List Int → Int
  | a, [] => a
  | a, b :: r => maxI (if b > a then b else a) r
def minI : Int → List Int → Int
  | a, [] => a
  | a, b :: r => minI (if b < a then b else a) r
theorem maxI_spec : ∀ (r : List Int) (a : Int), maxI a r ∈ a :: r ∧ ∀ y ∈ a :: r, y ≤ maxI a r
  | [], a => ⟨by simp [maxI], fun y hy => by simp at hy; subst hy; exact Int.le_refl _⟩
  | b :: r, a => by
    have ih := maxI_spec r (if b > a then b else a)
    show maxI (if b > a then b else a) r ∈ _ ∧ ∀ y ∈ _, y ≤ maxI (if b > a then b else a) r
    generalize hm : (if b > a then b else a) = m at ih ⊢
    have hma : a ≤ m ∧ b ≤ m ∧ (m = a ∨ m = b) := by
      rw [← hm]; split <;> omega
    have hmm := ih.2 m (by simp)
    refine ⟨?_, fun y hy => ?_⟩
    · rcases List.mem_cons.mp ih.1 with e | e
      · rw [e]; rcases hma.2.2 with e | e <;> rw [e] <;> simp
      · exact List.mem_cons_of_mem _ (List.mem_cons_of_mem _ e)
    · rcases List.mem_cons.mp hy with e | hy
      · subst e; omega
      · rcases List.mem_cons.mp hy with e | hy
        · subst e; omega
        · exact ih.2 y (List.mem_cons_of_mem _ hy)
theorem minI_spec : ∀ (r : List Int) (a : Int), minI a r ∈ a :: r ∧ ∀ y ∈ a :: r, minI a r ≤ y
  | [], a => ⟨by simp [minI], fun y hy => by simp at hy; subst hy; exact Int.le_refl _⟩
  | b :: r, a => by
    have ih := minI_spec r (if b < a then b else a)
    show minI (if b < a then b else a) r ∈ _ ∧ ∀ y ∈ _, minI (if b < a then b else a) r ≤ y
    generalize hm : (if b < a then b else a) = m at ih ⊢
    have hma : m ≤ a ∧ m ≤ b ∧ (m = a ∨ m = b) := by
      rw [← hm]; split <;> omega
    have hmm := ih.2 m (by simp)
    refine ⟨?_, fun y hy => ?_⟩
    · rcases List.mem_cons.mp ih.1 with e | e
      · rw [e]; rcases hma.2.2 with e | e <;> rw [e] <;> simp
      · exact List.mem_cons_of_mem _ (List.mem_cons_of_mem _ e)
    · rcases List.mem_cons.mp hy with e | hy
      · subst e; omega
      · rcases List.mem_cons.mp hy with e | hy
        · subst e; omega
        · exact ih.2 y (List.mem_cons_of_mem _ hy)
def pMax1 : P1
  | .list ds => match toInts ds with
    | some (n :: ns) => some (.int (maxI n ns))
    | _ => none
  | _ => none
def pMin1 : P1
  | .list ds => match toInts ds with
    | some (n :: ns) => some (.int (minI n ns))
    | _ => none
  | _ => none
theorem cr_max1 (hc : X.calm = true) : CallR X (.builtin "max") (rC1 T pMax1) := by
  intro pins s σ H xs us Q I rr ⟨B, x, d, r, ex, sb, r1, hp, k⟩
  subst ex
  unfold pMax1 at hp
  split at hp
  · split at hp
    · rename_i n ns hn
      cases hp
      obtain ⟨a, xs, rfl, hr, da⟩ := r1.list sb
      rw [toInts_some hn] at da
      rw [da.ints_inv] at hr
      refine L2.cr_max hc pins s σ H _ us Q I rr ⟨a, n :: ns, rfl, .inl hr, by simp, fun m hm hle => ?_⟩
      obtain ⟨h1, h2⟩ := maxI_spec ns n
      have e : m = maxI n ns := Int.le_antisymm (h2 m hm) (hle _ h1)
      rw [e]
      exact k _ B H (Ext.refl sb) (.inl (.int _))
    · cases hp
  · cases hp
theorem cr_min1 (hc : X.calm = true) : CallR X (.builtin "min") (rC1 T pMin1) := by
  intro pins s σ H xs us Q I rr ⟨B, x, d, r, ex, sb, r1, hp, k⟩
  subst ex
  unfold pMin1 at hp
  split at hp
  · split at hp
    · rename_i n ns hn
      cases hp
      obtain ⟨a, xs, rfl, hr, da⟩ := r1.list sb
      rw [toInts_some hn] at da
      rw [da.ints_inv] at hr
      refine L2.cr_min hc pins s σ H _ us Q I rr ⟨a, n :: ns, rfl, .inl hr, by simp, fun m hm hle => ?_⟩
      obtain ⟨h1, h2⟩ := minI_spec ns n
      have e : m = minI n ns := Int.le_antisymm (hle _ h1) (h2 m hm)
      rw [e]
      exact k _ B H (Ext.refl sb) (.inl (.int _))
    · cases hp
  · cases hp
def toBls : List PyData → Option (List Bool)
  | [] => some []
  | .bool i :: r => (toBls r).map (i :: ·)
  | _ :: _ => none
theorem toBls_some : ∀ {ds : List PyData} {is : List Bool}, toBls ds = some is → ds = is.map PyData.bool
  | [], is, h => by cases h; rfl
  | .bool i :: r, is, h => by
    unfold toBls at h
    cases q : toBls r with
    | none => rw [q] at h; cases h
    | some js =>
      rw [q] at h
      cases h
      rw [toBls_some q]
      rfl
  | .none :: _, _, h => by cases h
  | .int _ :: _, _, h => by cases h
  | .str _ :: _, _, h => by cases h
  | .list _ :: _, _, h => by cases h
  | .tuple _ :: _, _, h => by cases h
  | .dict _ :: _, _, h => by cases h
theorem toBls_map : ∀ is : List Bool, toBls (is.map PyData.bool) = some is
  | [] => rfl
  | i :: r => by
    show (toBls (r.map PyData.bool)).map (i :: ·) = _
    rw [toBls_map r]
    rfl
def pAll : P1
  | .list ds => (toBls ds).map fun bs => .bool (bs.all id)
  | _ => none
theorem cr_allD (hc : X.calm = true) : CallR X (.builtin "all") (rC1 T pAll) := by
  intro pins s σ H xs us Q I rr ⟨B, x, d, r, ex, sb, r1, hp, k⟩
  subst ex
  unfold pAll at hp
  split at hp
  · obtain ⟨ns, hn, hp⟩ := Option.map_eq_some_iff.mp hp
    subst hp
    obtain ⟨a, xs, rfl, hr, da⟩ := r1.list sb
    rw [toBls_some hn] at da
    rw [da.bls_inv] at hr
    exact cr_all hc pins s σ H _ us Q I rr ⟨a, ns, rfl, .inl hr, k _ B H (Ext.refl sb) (.inl (.bl _))⟩
  · cases hp
end
end Rk

set_option Elab.async false
set_option linter.all false
set_option maxRecDepth 100000
set_option maxHeartbeats 4000000
namespace Rk
open PySem PySem.Spec L2
/-! ### tests -/
abbrev Bx := Rk.Env → Option Bool
def oBl : PyData → Option Bool
  | .bool b => some b
  | _ => none
def truthD : PyData → Option Bool
  | .none => some false
  | .bool b => some b
  | .int i => some (i != 0)
  | .list ds => some (!ds.isEmpty)
  | .tuple ds => some (!ds.isEmpty)
  | _ => none
def gB (f : Fx) : Bx := fun G => (f G).bind oBl
def gTr (f : Fx) : Bx := fun G => (f G).bind truthD
def gAnd (g h : Bx) : Bx := fun G => (g G).bind fun x => if x = true then h G else some false
def gOr (g h : Bx) : Bx := fun G => (g G).bind fun x => if x = true then some true else h G
def gNot (g : Bx) : Bx := fun G => (g G).map fun x => !x
def cChain (p p' : P2) (f g h : Fx) : Fx := fun G => (f G).bind fun x => (g G).bind fun y => (p x y).bind fun z => (oBl z).bind fun k => if k = true then (h G).bind fun w => p' y w else some (.bool false)
def cAnd (f g : Fx) : Fx := fun G => (f G).bind fun d => (oBl d).bind fun k => if k = true then g G else some (.bool false)
def cOr (f g : Fx) : Fx := fun G => (f G).bind fun d => (oBl d).bind fun k => if k = true then some (.bool true) else g G
def pNot : P1 := fun d => (oBl d).map fun k => .bool (!k)
theorem oBl_some {d : PyData} {k : Bool} (h : oBl d = some k) : d = .bool k := by
  cases d <;> first | (cases h; rfl) | cases h
section
variable {X : Cx} {T : Tb} {O : List Nat} {e a b c : Expr} {es rest : List Expr} {f g h : Fx} {pos : Pos} {G1 G2 : Bx}
abbrev GW (X : Cx) (T : Tb) (O : List Nat) (e : Expr) (g : Bx) : Prop := PW X e (tT T O g)
theorem pwI {t t' : TT} (h : PW X e t) (i : ∀ σ H Q, t' σ H Q → t σ H Q) : PW X e t' := ⟨fun wh pins s σ H Q I q => h.run wh pins s σ H Q I (i σ H Q q)⟩
theorem isEmpty_dq {B : Hp} {vs : List V} {ds : List PyData} (h : DqAll B vs ds) : vs.isEmpty = ds.isEmpty := by
  cases h <;> rfl
theorem gt_truth (ha : EA X T O e f) (he : ∀ whole, isTrue e X.env whole = (do let v ← whole; standAt e.pos; holding [v] (truthy v)) := by intro _; rfl) : GT X T O e (gTr f) :=
  ptI (pt_truth ha he) fun σ H Q ⟨B, G, k, c, hf, q⟩ => by
    obtain ⟨d, hd, ht⟩ := bind1 hf
    refine ⟨B, G, d, c, hd, fun v B' H' x r => ⟨k, ?_, q B' H' x⟩⟩
    cases d with
    | none => cases ht; rw [r.none]; rfl
    | bool b => cases ht; rw [r.bool]; rfl
    | int i => cases ht; rw [r.int]; rfl
    | str s => cases ht
    | dict _ => cases ht
    | list ds =>
      cases ht
      obtain ⟨a, xs, rfl, hr, da⟩ := r.list x.sub
      exact .inl ⟨xs, .inl hr, by rw [isEmpty_dq da]⟩
    | tuple ds =>
      cases ht
      obtain ⟨a, xs, rfl, _, hr, da⟩ := r.tuple x.sub
      exact .inr (.inl ⟨xs, SqT.of hr, by rw [isEmpty_dq da]⟩)
theorem gt_cmp {op : CmpOp} {p : P2} (ho : OpR X (compareOp op) (rD T p)) (ha : EA X T O a f) (hb : EA X T O b g) (hm : behindInMarks op b = false) : GT X T O (.Compare a [op] [b] pos) (gB (c2 p f g)) :=
  ptI (pt_cmpR ho ha hb hm) fun σ H Q ⟨B, G, k, c, hf, q⟩ => by
    obtain ⟨d, hd, ht⟩ := bind1 hf
    obtain rfl := oBl_some ht
    exact tOp_of ⟨B, G, _, c, hd, fun v B' H' x r => ⟨k, (r.any x.sub).bool, q B' H' x⟩⟩
theorem gw_and1 (ha : GT X T O a G1) : GW X T O (.BoolOp .And [a] pos) G1 := pw_and1 ha
theorem gw_or1 (ha : GT X T O a G1) : GW X T O (.BoolOp .Or [a] pos) G1 := pw_or1 ha
theorem gw_and (ha : GT X T O a G1) (hb : GW X T O (.BoolOp .And (b :: rest) pos) G2) : GW X T O (.BoolOp .And (a :: b :: rest) pos) (gAnd G1 G2) :=
  pwI (pw_and ha hb) fun σ H Q ⟨B, G, k, c, hf, q⟩ => by
    obtain ⟨x, hx, h2⟩ := bind1 hf
    refine ⟨B, G, x, c, hx, fun B1 H1 e1 => ?_⟩
    cases x with
    | true => exact ⟨B1, G, k, c.mono e1, h2, fun B2 H2 e2 => q B2 H2 (e1.trans e2)⟩
    | false => cases h2; exact q B1 H1 e1
theorem gw_or (ha : GT X T O a G1) (hb : GW X T O (.BoolOp .Or (b :: rest) pos) G2) : GW X T O (.BoolOp .Or (a :: b :: rest) pos) (gOr G1 G2) :=
  pwI (pw_or ha hb) fun σ H Q ⟨B, G, k, c, hf, q⟩ => by
    obtain ⟨x, hx, h2⟩ := bind1 hf
    refine ⟨B, G, x, c, hx, fun B1 H1 e1 => ?_⟩
    cases x with
    | false => exact ⟨B1, G, k, c.mono e1, h2, fun B2 H2 e2 => q B2 H2 (e1.trans e2)⟩
    | true => cases h2; exact q B1 H1 e1
theorem gt_bool (h : GW X T O e G1) : GT X T O e G1 := h.pt
theorem gt_not (ha : GT X T O a G1) : GT X T O (.UnaryOp .Not a pos) (gNot G1) := ptI (pt_not ha) fun σ H Q ⟨B, G, k, c, hf, q⟩ => by
  obtain ⟨x, hx, rfl⟩ := Option.map_eq_some_iff.mp hf
  exact ⟨B, G, x, c, hx, q⟩
theorem tChain_of {p p' : P2} {σ : L2.St} {H : Hp} {Q : VK} (h1 : tV T O (cChain p p' f g h) σ H Q) : tChain (rD T p) (rD T p') (tA T O f) (tA T O g) (tA T O h) σ H Q := by
  obtain ⟨B, G, d, c, hf, k⟩ := h1
  obtain ⟨x, hx, h1⟩ := bind1 hf
  obtain ⟨y, hy, h2⟩ := bind1 h1
  obtain ⟨z, hz, h3⟩ := bind1 h2
  obtain ⟨t, ht, h4⟩ := bind1 h3
  obtain rfl := oBl_some ht
  refine ⟨B, G, x, c, hx, fun v1 B1 H1 e1 r1 => ⟨B1, G, y, c.mono e1, hy, fun v2 B2 H2 e2 r2 => ⟨B2, x, y, _, e2.sub, r1.mono e2, r2, hz, fun v3 B3 H3 e3 r3 => ⟨t, (r3.any e3.sub).bool, ?_⟩⟩⟩⟩
  cases t with
  | true =>
    rw [if_pos rfl] at h4 ⊢
    obtain ⟨w, hw, h5⟩ := bind1 h4
    exact ⟨B3, G, w, ((c.mono e1).mono e2).mono e3, hw, fun v4 B4 H4 e4 r4 => ⟨B4, y, w, d, e4.sub, (r2.mono e3).mono e4, r4, h5, fun v5 B5 H5 e5 r5 => k v5 B5 H5 ((((e1.trans e2).trans e3).trans e4).trans e5) r5⟩⟩
  | false =>
    cases h4
    rw [if_neg Bool.false_ne_true]
    exact k _ B3 H3 ((e1.trans e2).trans e3) (.inl (.bl _))
theorem ev_chain {op op' : CmpOp} {p p' : P2} (ho : OpR X (compareOp op) (rD T p)) (ho' : OpR X (compareOp op') (rD T p')) (ha : EA X T O a f) (hb : EA X T O b g) (hc : EA X T O c h)
    (pc : ∀ {r r' : R2} {ta tb tc : TE}, OpR X (compareOp op) r → OpR X (compareOp op') r' → PE X a ta → PE X b tb → PE X c tc → PE X (.Compare a [op, op'] [b, c] pos) (tChain r r' ta tb tc)) : EV X T O (.Compare a [op, op'] [b, c] pos) (cChain p p' f g h) :=
  peI (pc ho ho' ha hb hc) fun _ _ _ q => tChain_of q
theorem gt_chain {op op' : CmpOp} {p p' : P2} (ho : OpR X (compareOp op) (rD T p)) (ho' : OpR X (compareOp op') (rD T p')) (ha : EA X T O a f) (hb : EA X T O b g) (hc : EA X T O c h)
    (pc : ∀ {r r' : R2} {ta tb tc : TE}, OpR X (compareOp op) r → OpR X (compareOp op') r' → PE X a ta → PE X b tb → PE X c tc → PT X (.Compare a [op, op'] [b, c] pos) (tTest (tChain r r' ta tb tc))) : GT X T O (.Compare a [op, op'] [b, c] pos) (gB (cChain p p' f g h)) :=
  ptI (pc ho ho' ha hb hc) fun σ H Q ⟨B, G, k, c, hf, q⟩ => by
    obtain ⟨d, hd, ht⟩ := bind1 hf
    obtain rfl := oBl_some ht
    exact tChain_of ⟨B, G, _, c, hd, fun v B' H' x r => ⟨k, (r.any x.sub).bool, q B' H' x⟩⟩
/-! ### and, or, not as values -/
theorem ev_one {op} (h : EV X T O a f) : EV X T O (.BoolOp op [a] pos) f := pe_one h
theorem ev_and (ha : EV X T O a f) (hb : EV X T O (.BoolOp .And (b :: rest) pos) g) : EV X T O (.BoolOp .And (a :: b :: rest) pos) (cAnd f g) := peI (pe_and ha hb) fun σ H Q ⟨B, G, d, c, hf, k⟩ => by
  obtain ⟨x, hx, h1⟩ := bind1 hf
  obtain ⟨t, ht, h2⟩ := bind1 h1
  obtain rfl := oBl_some ht
  refine ⟨B, G, _, c, hx, fun v1 B1 H1 e1 r1 => ⟨t, (r1.any e1.sub).bool, ?_⟩⟩
  cases t with
  | true => exact ⟨B1, G, d, c.mono e1, h2, fun v B2 H2 e2 r2 => k v B2 H2 (e1.trans e2) r2⟩
  | false => cases h2; exact k _ B1 H1 e1 (.inl (.bl _))
theorem ev_or (ha : EV X T O a f) (hb : EV X T O (.BoolOp .Or (b :: rest) pos) g) : EV X T O (.BoolOp .Or (a :: b :: rest) pos) (cOr f g) := peI (pe_or ha hb) fun σ H Q ⟨B, G, d, c, hf, k⟩ => by
  obtain ⟨x, hx, h1⟩ := bind1 hf
  obtain ⟨t, ht, h2⟩ := bind1 h1
  obtain rfl := oBl_some ht
  refine ⟨B, G, _, c, hx, fun v1 B1 H1 e1 r1 => ⟨t, (r1.any e1.sub).bool, ?_⟩⟩
  cases t with
  | false => exact ⟨B1, G, d, c.mono e1, h2, fun v B2 H2 e2 r2 => k v B2 H2 (e1.trans e2) r2⟩
  | true => cases h2; exact k _ B1 H1 e1 (.inl (.bl _))
theorem ev_not (ha : EV X T O a f) : EV X T O (.UnaryOp .Not a pos) (c1 pNot f) := peI (pe_not ha) fun σ H Q ⟨B, G, d, c, hf, k⟩ => by
  obtain ⟨x, hx, h1⟩ := bind1 hf
  obtain ⟨t, ht, rfl⟩ := Option.map_eq_some_iff.mp h1
  obtain rfl := oBl_some ht
  exact ⟨B, G, _, c, hx, fun v1 B1 H1 e1 r1 => ⟨t, (r1.any e1.sub).bool, k _ B1 H1 e1 (.inl (.bl _))⟩⟩
end
/-! ### slots set, wiped -/
def st (G : Rk.Env) (i : Nat) (d : PyData) : Rk.Env := G.set i (some d)
def wp (G : Rk.Env) : List Nat → Rk.Env
  | [] => G
  | v :: vs => (wp G vs).set v none
theorem wp_length (G : Rk.Env) : ∀ vs : List Nat, (wp G vs).length = G.length
  | [] => rfl
  | v :: vs => by unfold wp; rw [List.length_set, wp_length G vs]
theorem gt_set {G : Rk.Env} {i j : Nat} {o : Option PyData} {d : PyData} (h : gt (G.set i o) j = some d) : (i = j ∧ o = some d) ∨ (i ≠ j ∧ gt G j = some d) := by
  unfold gt at h ⊢
  by_cases e : i = j
  · subst e
    by_cases hl : i < G.length
    · rw [List.getElem?_set_self hl] at h
      exact .inl ⟨rfl, h⟩
    · rw [List.getElem?_eq_none (by simpa using hl)] at h
      cases h
  · rw [List.getElem?_set_ne e] at h
    exact .inr ⟨e, h⟩
theorem wp_some {G : Rk.Env} {i : Nat} {d : PyData} : ∀ {vs : List Nat}, gt (wp G vs) i = some d → gt G i = some d ∧ i ∉ vs
  | [], h => ⟨h, by simp⟩
  | v :: vs, h => by
    unfold wp at h
    rcases gt_set h with ⟨_, e⟩ | ⟨e, h⟩
    · cases e
    · obtain ⟨h1, h2⟩ := wp_some h
      exact ⟨h1, by simp only [List.mem_cons, not_or]; exact ⟨fun q => e q.symm, h2⟩⟩
theorem wipe_out {σ : L2.St} {i : Nat} : ∀ {vs : List Nat}, i ∉ vs → (wipe σ vs)[i]? = σ[i]?
  | [], _ => rfl
  | v :: vs, h => by
    simp only [List.mem_cons, not_or] at h
    unfold wipe
    rw [List.getElem?_set_ne (fun q => h.1 q.symm), wipe_out h.2]
section
variable {T : Tb} {O : List Nat} {B B' H H' : Hp} {G : Rk.Env} {σ : L2.St}
theorem Core.wiped (c : Core T O B G σ H) (vs : List Nat) : Core T O B (wp G vs) (wipe σ vs) H :=
  ⟨c.sub, by rw [wipe_length, wp_length, c.len],
    fun i d hi hg => by
      obtain ⟨h1, h2⟩ := wp_some hg
      rw [wipe_out h2]
      exact c.val i d hi h1,
    fun i d hi hg => by
      obtain ⟨h1, h2⟩ := wp_some hg
      rw [wipe_out h2]
      exact c.own i d hi h1,
    fun i j d e a hi hj hg hg' h1 h2 => by
      obtain ⟨k1, k2⟩ := wp_some hg
      obtain ⟨k3, k4⟩ := wp_some hg'
      rw [wipe_out k2] at h1
      rw [wipe_out k4] at h2
      exact c.sep i j d e a hi hj k1 k3 h1 h2, c.tabs⟩
/-- slots forgotten -/
theorem Core.forget (c : Core T O B G σ H) (vs : List Nat) : Core T O B (wp G vs) σ H :=
  ⟨c.sub, by rw [wp_length, c.len], fun i d hi hg => c.val i d hi (wp_some hg).1, fun i d hi hg => c.own i d hi (wp_some hg).1, fun i j d e a hi hj hg hg' => c.sep i j d e a hi hj (wp_some hg).1 (wp_some hg').1, c.tabs⟩
theorem Core.stV (c : Core T O B G σ H) {i : Nat} {v : V} {d : PyData} (hi : i ∉ O) (r : RepV B v d) : Core T O B (st G i d) (σ.set i (some v)) H :=
  ⟨c.sub, by unfold st; rw [List.length_set, List.length_set, c.len],
    fun j e hj hg => by
      rcases gt_set hg with ⟨rfl, h⟩ | ⟨h, hg⟩
      · cases h
        have hl : i < σ.length := by
          rw [c.len]
          unfold gt st at hg
          by_cases z : i < G.length
          · exact z
          · rw [List.getElem?_eq_none (by simpa using z)] at hg; cases hg
        exact ⟨v, List.getElem?_set_self hl, r⟩
      · rw [List.getElem?_set_ne h]
        exact c.val j e hj hg,
    fun j e hj hg => by
      rcases gt_set hg with ⟨rfl, h⟩ | ⟨h, hg⟩
      · exact absurd hj hi
      · rw [List.getElem?_set_ne h]
        exact c.own j e hj hg,
    fun j k d' e a hj hk hg hg' h1 h2 => by
      have n1 : i ≠ j := fun z => hi (z ▸ hj)
      have n2 : i ≠ k := fun z => hi (z ▸ hk)
      rw [List.getElem?_set_ne n1] at h1
      rw [List.getElem?_set_ne n2] at h2
      rcases gt_set hg with ⟨z, _⟩ | ⟨_, hg⟩
      · exact absurd z n1
      · rcases gt_set hg' with ⟨z, _⟩ | ⟨_, hg'⟩
        · exact absurd z n2
        · exact c.sep j k d' e a hj hk hg hg' h1 h2, c.tabs⟩
end
/-! ### targets -/
abbrev Tx := Rk.Env → PyData → Option Rk.Env
def tgG (T : Tb) (O js : List Nat) (τ : Tx) : TG := fun v σ H Q => ∃ B G d G', Core T O B G σ H ∧ RepV B v d ∧ τ G d = some G' ∧ ∀ σ', σ'.length = σ.length → (∀ i, i ∉ js → σ'[i]? = σ[i]?) → Core T O B G' σ' H → Q σ' H
def xName (i : Nat) : Tx := fun G d => some (st G i d)
def xPair (i j : Nat) : Tx := fun G d => match d with
  | .tuple [a, b] => some (st (st G i a) j b)
  | _ => none
section
variable {X : Cx} {T : Tb} {O : List Nat} {pos : Pos}
theorem pgI {e : Expr} {t t' : TG} (h : PG X e t) (i : ∀ v σ H Q, t' v σ H Q → t v σ H Q) : PG X e t' := ⟨fun pins s σ H v u Q I r q => h.run pins s σ H v u Q I r (i v σ H Q q)⟩
theorem tg_name {i : Nat} {x : Str} (hO : i ∉ O) (hN : X.N.Nodup) (hi : X.N[i]? = some x) (hx : Loc X.env.scope x) (hf : X.fn x = true ∨ X.env.scope.names.lookup x = some .local := by first | exact .inl rfl | exact .inr rfl | assumption) : PG X (.Name x pos) (tgG T O [i] (xName i)) :=
  pgI (pg_name hN hi hx hf) fun v σ H Q ⟨B, G, d, G', c, r, ht, k⟩ => by
    cases ht
    exact k _ (List.length_set ..) (fun j hj => List.getElem?_set_ne (fun z => hj (by rw [z]; simp))) (c.stV hO r)
theorem tg_pair {e1 e2 : Expr} {i j k : Nat} (hc : X.calm = true) (hOi : i ∉ O) (hOj : j ∉ O) (h1 : PG X e1 (gName i)) (h2 : PG X e2 (gName j))
    (hs : (assignEach [e1, e2] X.env).map (·.2) = assign e1 X.env :: (assignEach [e2] X.env).map (·.2) := by rfl) (hs2 : (assignEach [e2] X.env).map (·.2) = assign e2 X.env :: (assignEach [] X.env).map (·.2) := by rfl)
    (hn : (assignEach [e1, e2] X.env).length = 2 := by rfl) (hst : (assignEach [e1, e2] X.env).findIdx? (·.1) = none := by rfl) : PG X (.Tuple [e1, e2] k pos) (tgG T O [i, j] (xPair i j)) :=
  pgI (pg_tup hc (pgs_cons h1 (pgs_cons h2 pgs_nil hs2) hs) hn hst) fun v σ H Q ⟨B, G, d, G', c, r, ht, k⟩ => by
    unfold xPair at ht
    split at ht
    · cases ht
      obtain ⟨a, xs, rfl, hb, hr, da⟩ := (r.any c.sub).tuple c.sub
      cases da with
      | cons q1 t =>
        cases t with
        | cons q2 t2 =>
          cases t2
          refine ⟨a, _, rfl, SqT.of hr, rfl, _, _, rfl, _, _, rfl, rfl, ?_⟩
          exact k _ (by rw [List.length_set, List.length_set]) (fun m hm => by
            simp only [List.mem_cons, List.not_mem_nil, or_false, not_or] at hm
            rw [List.getElem?_set_ne (fun z => hm.2 z.symm), List.getElem?_set_ne (fun z => hm.1 z.symm)]) ((c.stV hOi (.inl q1)).stV hOj (.inl q2))
    · cases ht
end
/-! ### what is walked -/
structure Srv (T : Tb) (S : Hp → Prop) (J : It) (B0 : Hp) (ds : List PyData) : Prop where
  go : ∀ i H, S H → i < ds.length → J.go i H
  stop : ∀ i H, S H → i = ds.length → J.stop i H
  yld : ∀ i H x H' B1 d, S H → Sub B1 H → Ex B0 B1 → ds[i]? = some d → J.yld i H x H' → ∃ B2, Ext T B1 H B2 H' ∧ Dq B2 x d
def tIt (T : Tb) (O : List Nat) (f : Env → Option (List PyData)) : TI := fun σ H R => ∃ B G ds, Core T O B G σ H ∧ f G = some ds ∧ ∀ J B' H', Ext T B H B' H' → Srv T (LamX.ExtN H') J B' ds → R J H'
def tIf (T : Tb) (O : List Nat) (f : Env → Option (List PyData)) : TI := fun σ H R => ∃ B G ds, Core T O B G σ H ∧ f G = some ds ∧ ∀ J B' H', Ext T B H B' H' → Srv T (Ex B') J B' ds → R J H'
def items : PyData → Option (List PyData)
  | .list ds => some ds
  | .tuple ds => some ds
  | _ => none
def iSeq (f : Fx) : Fs := fun G => (f G).bind items
def rngD (lo : Int) (n : Nat) : List PyData := (List.range n).map fun i => .int (lo + (i : Nat))
def iR1 (f : Fx) : Fs := fun G => (f G).bind fun d => match d with
  | .int n => if n < 2 ^ 62 ∧ -(2 ^ 62) ≤ n then some (rngD 0 n.toNat) else none
  | _ => none
def iR2 (f g : Fx) : Fs := fun G => (f G).bind fun d => (g G).bind fun e => match d, e with
  | .int a, .int n => if a < 2 ^ 62 ∧ -(2 ^ 62) ≤ a ∧ n < 2 ^ 62 ∧ -(2 ^ 62) ≤ n then some (rngD a (n - a).toNat) else none
  | _, _ => none
def enumD (k : Nat) : List PyData → List PyData
  | [] => []
  | d :: ds => .tuple [.int k, d] :: enumD (k + 1) ds
def iEn (f : Fx) : Fs := fun G => (f G).bind fun d => (items d).map fun ds => enumD 0 ds
theorem rngD_length (lo : Int) (n : Nat) : (rngD lo n).length = n := by unfold rngD; rw [List.length_map, List.length_range]
theorem rngD_get {lo : Int} {n i : Nat} {d : PyData} (h : (rngD lo n)[i]? = some d) : d = .int (lo + (i : Nat)) := by
  unfold rngD at h
  rw [List.getElem?_map] at h
  obtain ⟨j, hj, rfl⟩ := Option.map_eq_some_iff.mp h
  obtain ⟨h1, h2⟩ := List.getElem?_eq_some_iff.mp hj
  rw [List.getElem_range] at h2
  rw [h2]
theorem enumD_length : ∀ (ds : List PyData) (k : Nat), (enumD k ds).length = ds.length
  | [], _ => rfl
  | _ :: ds, k => congrArg (· + 1) (enumD_length ds (k + 1))
theorem enumD_get : ∀ (ds : List PyData) (k i : Nat), (enumD k ds)[i]? = (ds[i]?).map fun d => .tuple [.int (k + i : Nat), d]
  | [], _, _ => by simp [enumD]
  | d :: ds, k, 0 => by simp [enumD]
  | d :: ds, k, i + 1 => by
    have := enumD_get ds (k + 1) i
    simp only [enumD, List.getElem?_cons_succ]
    rw [this]
    congr 1
    funext d
    congr 3
    show ((k + 1 + i : Nat) : Int) = ((k + (i + 1) : Nat) : Int)
    omega
section
variable {X : Cx} {T : Tb} {O : List Nat} {e tg : Expr} {f g : Fx} {pos p : Pos}
theorem piI {t t' : TI} (h : PI X tg e t) (i : ∀ σ H R, t' σ H R → t σ H R) : PI X tg e t' := ⟨fun pins s σ H R I q => h.run pins s σ H R I (i σ H R q)⟩
def iAny (K : PySem.W.Frag) (tl : TE) : TI := fun σ H R => tl σ H fun x H1 => ∃ a, x = .ref a ∧ (((∃ xs, SqL K H1 a xs) ∧ R (Itl K a) H1) ∨ ((∃ xs, SqT K H1 a xs) ∧ R (Itt K a) H1))
theorem pi_any {l : Expr} {tl : TE} (hl : PE X l tl) : PI X tg l (iAny X.K tl) := by
  refine ⟨fun pins s σ H R I h => ?_⟩
  refine thn (hl.run pins s σ H _ I h) fun v s1 ⟨x, H1, I1, r1, q1⟩ => ?_
  obtain ⟨a, e, ⟨⟨xs, hq⟩, q⟩ | ⟨⟨xs, hq⟩, q⟩⟩ := q1
  · subst e
    cases r1
    obtain ⟨its, rv, p, hz⟩ := I1.list hq
    refine wpAny_pyIter_list p.isList ?_
    refine ⟨s1.heap.objs.size, [s1.heap.objs.size], _, _, H1, rfl, I1.kept (t' := s1.toks) fun b o e => Heap.get?_push_of_some _ e, turn_list a _, ⟨_, Heap.get?_push_size _ rfl, rfl, rfl⟩, fun b hb => ?_, q⟩
    have e : b = s1.heap.objs.size := by simpa using hb
    subst e
    exact I1.fpOk (Nat.le_refl _) (I1.hok.fresh (Nat.le_refl _))
  · subst e
    cases r1
    obtain ⟨its, rv, p, hz⟩ := I1.tuple hq
    refine wpAny_pyIter_tuple (show s1.heap.IsTuple a its.toArray from p) ?_
    refine ⟨s1.heap.objs.size, [s1.heap.objs.size], _, _, H1, rfl, I1.kept (t' := s1.toks) fun b o e => Heap.get?_push_of_some _ e, turn_tuple a _, ⟨_, Heap.get?_push_size _ rfl, rfl, rfl⟩, fun b hb => ?_, q⟩
    have e : b = s1.heap.objs.size := by simpa using hb
    subst e
    exact I1.fpOk (Nat.le_refl _) (I1.hok.fresh (Nat.le_refl _))
theorem rd_ext {H H' : Hp} {a : Addr} {u : HO} (n : NoTb u) (e : LamX.ExtN H H') (h : Rd H a u) : Rd H' a u := by
  rcases h with h | ⟨o, h⟩
  · exact .inl (e a _ h n)
  · exact .inr ⟨o, e a _ h (fun _ z => nomatch z)⟩
theorem srv_list {K : PySem.W.Frag} {S : Hp → Prop} {B0 : Hp} {a : Addr} {xs : List V} {ds : List PyData} (hS : ∀ H, S H → SqL K H a xs) (da : DqAll B0 xs ds) : Srv T S (Itl K a) B0 ds :=
  ⟨fun i H s hi => ⟨xs, xs[i]'(by rw [da.length]; exact hi), hS H s, List.getElem?_eq_getElem _⟩, fun i H s hi => ⟨xs, hS H s, by rw [da.length]; omega⟩,
    fun i H x H' B1 d s sb ex hd hy => by
      obtain ⟨rfl, hy⟩ := hy
      obtain ⟨v, hv, dv⟩ := da.get' hd
      have hx : x = v := Option.some.inj ((hy xs (hS _ s)).symm.trans hv)
      subst hx
      exact ⟨B1, Ext.refl sb, Dq.mono ex dv⟩⟩
theorem srv_tup {K : PySem.W.Frag} {S : Hp → Prop} {B0 : Hp} {a : Addr} {xs : List V} {ds : List PyData} (hS : ∀ H, S H → SqT K H a xs) (da : DqAll B0 xs ds) : Srv T S (Itt K a) B0 ds :=
  ⟨fun i H s hi => ⟨xs, xs[i]'(by rw [da.length]; exact hi), hS H s, List.getElem?_eq_getElem _⟩, fun i H s hi => ⟨xs, hS H s, by rw [da.length]; omega⟩,
    fun i H x H' B1 d s sb ex hd hy => by
      obtain ⟨rfl, hy⟩ := hy
      obtain ⟨v, hv, dv⟩ := da.get' hd
      have hx : x = v := Option.some.inj ((hy xs (hS _ s)).symm.trans hv)
      subst hx
      exact ⟨B1, Ext.refl sb, Dq.mono ex dv⟩⟩
theorem srv_rng {S : Hp → Prop} {B0 : Hp} {lo : Int} {n : Nat} : Srv T S (Itr lo n) B0 (rngD lo n) :=
  ⟨fun i H s hi => by rw [rngD_length] at hi; exact hi, fun i H s hi => by rw [rngD_length] at hi; exact Nat.le_of_eq hi.symm,
    fun i H x H' B1 d s sb ex hd hy => by
      obtain ⟨rfl, rfl⟩ := hy
      rw [rngD_get hd]
      exact ⟨B1, Ext.refl sb, .int _⟩⟩
/-- [.. for .. in a list or tuple]; the list may be owned -/
theorem it_seq (ha : EA X T O e f) : PI X tg e (tIt T O (iSeq f)) := piI (pi_any ha) fun σ H R ⟨B, G, ds, c, hf, k⟩ => by
  obtain ⟨d, hd, hi⟩ := bind1 hf
  refine ⟨B, G, d, c, hd, fun v B' H' x r => ?_⟩
  cases d with
  | list es =>
    cases hi
    obtain ⟨a, xs, rfl, hr, da⟩ := r.list x.sub
    exact ⟨a, rfl, .inl ⟨⟨xs, .inl hr⟩, k _ B' H' x (srv_list (fun H2 s => .inl (rd_ext (noTb_lst _) s hr)) da)⟩⟩
  | tuple es =>
    cases hi
    obtain ⟨a, xs, rfl, hb, hr, da⟩ := r.tuple x.sub
    exact ⟨a, rfl, .inr ⟨⟨xs, SqT.of hr⟩, k _ B' H' x (srv_tup (fun H2 s => SqT.of (s _ _ hr (noTb_tup _))) da)⟩⟩
  | _ => cases hi
/-- for .. in a list or tuple (not owned) -/
theorem if_seq (ha : EV X T O e f) : PI X tg e (tIf T O (iSeq f)) := piI (pi_any ha) fun σ H R ⟨B, G, ds, c, hf, k⟩ => by
  obtain ⟨d, hd, hi⟩ := bind1 hf
  refine ⟨B, G, d, c, hd, fun v B' H' x r => ?_⟩
  cases d with
  | list es =>
    cases hi
    cases r.dq rfl with
    | lst h1 h2 => exact ⟨_, rfl, .inl ⟨⟨_, .inl (ex_rd x.sub.ex h1)⟩, k _ B' H' x (srv_list (fun H2 s => .inl (ex_rd s h1)) h2)⟩⟩
  | tuple es =>
    cases hi
    cases r.dq rfl with
    | tup h1 h2 => exact ⟨_, rfl, .inr ⟨⟨_, SqT.of (x.sub.ex _ _ h1)⟩, k _ B' H' x (srv_tup (fun H2 s => SqT.of (s _ _ h1)) h2)⟩⟩
  | _ => cases hi
theorem i_rng1 {S : Hp → Hp → Hp → Prop} {tI : TI} (hI : ∀ σ H R, tI σ H R → ∃ B G ds, Core T O B G σ H ∧ iR1 f G = some ds ∧ ∀ J B' H', Ext T B H B' H' → Srv T (S B' H') J B' ds → R J H')
    (hg : Gl X "range") (hm : X.mg "range" = none) (ha : EA X T O e f) (hs : starEach [e] X.env = [(false, eval e X.env)]) : PI X tg (.Call (.Name "range" p) [e] [] pos) tI :=
  piI (pi_range1 hg hm (pa_cons ha pa_nil hs) hs) fun σ H R q => by
    obtain ⟨B, G, ds, c, hf, k⟩ := hI σ H R q
    obtain ⟨d, hd, hi⟩ := bind1 hf
    cases d with
    | int n =>
      dsimp only at hi
      split at hi
      · rename_i hn
        cases hi
        exact ⟨B, G, _, c, hd, fun v B' H' x r => ⟨n, by rw [r.int], hn.2, hn.1, k _ B' H' x srv_rng⟩⟩
      · cases hi
    | _ => cases hi
theorem it_rng1 (hg : Gl X "range") (hm : X.mg "range" = none) (ha : EA X T O e f) (hs : starEach [e] X.env = [(false, eval e X.env)] := by rfl) : PI X tg (.Call (.Name "range" p) [e] [] pos) (tIt T O (iR1 f)) :=
  i_rng1 (S := fun _ H' => LamX.ExtN H') (fun _ _ _ h => h) hg hm ha hs
theorem if_rng1 (hg : Gl X "range") (hm : X.mg "range" = none) (ha : EA X T O e f) (hs : starEach [e] X.env = [(false, eval e X.env)] := by rfl) : PI X tg (.Call (.Name "range" p) [e] [] pos) (tIf T O (iR1 f)) :=
  i_rng1 (S := fun B' _ => Ex B') (fun _ _ _ h => h) hg hm ha hs
theorem i_rng2 {S : Hp → Hp → Hp → Prop} {tI : TI} {e2 : Expr} (hI : ∀ σ H R, tI σ H R → ∃ B G ds, Core T O B G σ H ∧ iR2 f g G = some ds ∧ ∀ J B' H', Ext T B H B' H' → Srv T (S B' H') J B' ds → R J H')
    (hg : Gl X "range") (hm : X.mg "range" = none) (ha : EA X T O e f) (hb : EA X T O e2 g) (hs : starEach [e, e2] X.env = [(false, eval e X.env), (false, eval e2 X.env)]) (hs2 : starEach [e2] X.env = [(false, eval e2 X.env)]) : PI X tg (.Call (.Name "range" p) [e, e2] [] pos) tI :=
  piI (pi_range2 hg hm (pa_cons ha (pa_cons hb pa_nil hs2) (by rw [hs, hs2])) hs hs2) fun σ H R q => by
    obtain ⟨B, G, ds, c, hf, k⟩ := hI σ H R q
    obtain ⟨d, hd, h1⟩ := bind1 hf
    obtain ⟨d2, hd2, hi⟩ := bind1 h1
    cases d with
    | int n =>
      cases d2 with
      | int m =>
        dsimp only at hi
        split at hi
        · rename_i hn
          cases hi
          exact ⟨B, G, _, c, hd, fun v B' H' x r => ⟨B', G, _, c.mono x, hd2, fun v2 B2 H2 x2 r2 => ⟨n, m, by rw [r.int, r2.int], ⟨hn.2.1, hn.1, hn.2.2.2, hn.2.2.1⟩, k _ B2 H2 (x.trans x2) srv_rng⟩⟩⟩
        · cases hi
      | _ => cases hi
    | _ => cases hi
theorem it_rng2 {e2 : Expr} (hg : Gl X "range") (hm : X.mg "range" = none) (ha : EA X T O e f) (hb : EA X T O e2 g) (hs : starEach [e, e2] X.env = [(false, eval e X.env), (false, eval e2 X.env)] := by rfl) (hs2 : starEach [e2] X.env = [(false, eval e2 X.env)] := by rfl) :
    PI X tg (.Call (.Name "range" p) [e, e2] [] pos) (tIt T O (iR2 f g)) := i_rng2 (S := fun _ H' => LamX.ExtN H') (fun _ _ _ h => h) hg hm ha hb hs hs2
theorem if_rng2 {e2 : Expr} (hg : Gl X "range") (hm : X.mg "range" = none) (ha : EA X T O e f) (hb : EA X T O e2 g) (hs : starEach [e, e2] X.env = [(false, eval e X.env), (false, eval e2 X.env)] := by rfl) (hs2 : starEach [e2] X.env = [(false, eval e2 X.env)] := by rfl) :
    PI X tg (.Call (.Name "range" p) [e, e2] [] pos) (tIf T O (iR2 f g)) := i_rng2 (S := fun B' _ => Ex B') (fun _ _ _ h => h) hg hm ha hb hs hs2
end
end Rk

set_option Elab.async false
set_option linter.all false
set_option maxRecDepth 100000
set_option maxHeartbeats 4000000
namespace Rk
open PySem PySem.Spec L2
/-- an object that is no table and no code object -/
def Pl (o : HO) : Prop := NoTb o ∧ ∀ φ, o ≠ .ext φ
theorem pl_lst (xs : List V) : Pl (.lst xs) := ⟨noTb_lst xs, fun _ z => nomatch z⟩
theorem AtO.pl {B : Hp} {o : HO} {d : PyData} (h : AtO B o d) : Pl o := by
  unfold AtO at h
  split at h
  · exact pl_lst _
  · exact ⟨noTb_dK _, fun _ z => nomatch z⟩
  · exact ⟨noTb_dT _, fun _ z => nomatch z⟩
  · exact h.elim
section
variable {T : Tb} {B H B' H' : Hp}
theorem tabs_mut {p : Addr} {o u : HO} (ho : H p = some o) (n : Pl o) (t : LamX.Tabs T H) : LamX.Tabs T (upd H p u) := fun r hr => by
  obtain ⟨ps, a1, a2, a3⟩ := t r hr
  refine ⟨ps, ?_, a2, fun pos cv hc => ?_⟩
  · rw [upd_ne (ne_of a1 ho (fun z => n.1 ps z.symm))]
    exact a1
  · obtain ⟨c0, b1, b2⟩ := a3 pos cv hc
    exact ⟨c0, b1, by rw [upd_ne (ne_of b2 ho (fun z => by unfold LamX.CodeO at z; exact n.2 _ z.symm))]; exact b2⟩
/-- a hidden object of one's own is changed -/
theorem Ext.mut {p : Addr} {o u : HO} (e : Ext T B H B' H') (hp : H p = none) (hb : B' p = none) (ho : H' p = some o) (n : Pl o) : Ext T B H B' (upd H' p u) :=
  ⟨fun a w q => by rw [upd_ne (ne_of_none q hb)]; exact e.sub a w q, e.b, fun a w q m => by rw [upd_ne (ne_of_none q hp)]; exact e.h a w q m,
    fun a q => by
      by_cases z : a = p
      · rw [z, upd_same]; exact fun z => nomatch z
      · rw [upd_ne z]; exact e.dom a q,
    e.ag, fun t => tabs_mut ho n (e.tb t)⟩
end
/-! ### comprehensions -/
def evC (t : PyData → Option (Option PyData)) : List PyData → Option (List PyData)
  | [] => some []
  | d :: ds => (t d).bind fun o => (evC t ds).bind fun r => some (match o with
    | some y => y :: r
    | none => r)
def lcT (vs : List Nat) (τ : Tx) (g : Bx) (fe : Fx) (G : Rk.Env) : PyData → Option (Option PyData) := fun d => (τ (wp G vs) d).bind fun G' => (g G').bind fun b => if b = true then (fe G').bind fun y => if isDict y = false then some (some y) else none else some none
def cLc (fi : Fs) (vs : List Nat) (τ : Tx) (g : Bx) (fe : Fx) : Fx := fun G => (fi G).bind fun ds => if ds.length < sizeLine then (evC (lcT vs τ g fe G) ds).map .list else none
theorem wipe_in {i : Nat} : ∀ {vs : List Nat} {σ : L2.St}, i ∈ vs → i < σ.length → (wipe σ vs)[i]? = some none
  | v :: vs, σ, h, hl => by
    unfold wipe
    by_cases e : v = i
    · subst e
      rw [List.getElem?_set_self (by rw [wipe_length]; exact hl)]
    · rw [List.getElem?_set_ne e]
      exact wipe_in ((List.mem_cons.mp h).resolve_left fun z => e z.symm) hl
theorem wipe_eq {vs : List Nat} {σ σ' : L2.St} (hl : σ'.length = σ.length) (h : ∀ i, i ∉ vs → σ'[i]? = σ[i]?) : wipe σ' vs = wipe σ vs := by
  apply List.ext_getElem?
  intro i
  by_cases hi : i ∈ vs
  · by_cases hlt : i < σ.length
    · rw [wipe_in hi hlt, wipe_in hi (by rw [hl]; exact hlt)]
    · rw [List.getElem?_eq_none (by rw [wipe_length]; omega), List.getElem?_eq_none (by rw [wipe_length]; omega)]
  · rw [wipe_out hi, wipe_out hi, h i hi]
section
variable {X : Cx} {T : Tb} {O : List Nat} {e a b c : Expr} {es rest : List Expr} {f g h : Fx} {pos : Pos}
theorem tLc_of {fi : Fs} {vs js : List Nat} {τ : Tx} {gg : Bx} {fe : Fx} {σ : L2.St} {H : Hp} {Q : VK} (hjs : ∀ i ∈ js, i ∈ vs) (hq : tN T O (cLc fi vs τ gg fe) σ H Q) : tLc (tIt T O fi) (tgG T O js τ) (tT T O gg) (tV T O fe) vs σ H Q := by
  obtain ⟨B, G, dd, c, hf, k⟩ := hq
  obtain ⟨ds, hds, h1⟩ := bind1 hf
  split at h1
  · rename_i hlen
    obtain ⟨all, hall, rfl⟩ := Option.map_eq_some_iff.mp h1
    refine ⟨B, G, ds, c, hds, fun J B1 H1 e1 srv D hD => ?_⟩
    have hHD : H D = none := e1.fresh hD
    have bD : B1 D = none := e1.sub.none hD
    refine ⟨fun i m Hh => m = ds.length - i ∧ i ≤ ds.length ∧ ∃ B2 acc da rs, Ext T B1 H1 B2 Hh ∧ Hh D = some (.lst acc) ∧ B2 D = none ∧ DqAll B2 acc da ∧ evC (lcT vs τ gg fe G) (ds.drop i) = some rs ∧ da ++ rs = all ∧ da.length ≤ i,
      ⟨ds.length, by simp, Nat.zero_le _, B1, [], [], all, Ext.new0 e1.sub hD, upd_same, bD, .nil, hall, rfl, Nat.le_refl _⟩, ?_⟩
    rintro i m Hh ⟨rfl, hi, B2, acc, da, rs, x2, hacc, b2, dacc, hrs, htot, hlda⟩
    by_cases hlt : i < ds.length
    · refine .inr ⟨srv.go i Hh x2.h hlt, fun H' => ∃ B2 acc da rs, Ext T B1 H1 B2 H' ∧ H' D = some (.lst acc) ∧ B2 D = none ∧ DqAll B2 acc da ∧ evC (lcT vs τ gg fe G) (ds.drop (i + 1)) = some rs ∧ da ++ rs = all ∧ da.length ≤ i + 1,
        fun H' hn => ⟨ds.length - (i + 1), by omega, rfl, hlt, hn⟩, fun x H' hy => ?_⟩
      obtain ⟨B3, x3, dx⟩ := srv.yld i Hh x H' B2 ds[i] x2.h x2.sub x2.b (List.getElem?_eq_getElem hlt) hy
      rw [List.drop_eq_getElem_cons hlt] at hrs
      obtain ⟨o, ho, h2⟩ := bind1 hrs
      obtain ⟨r, hr, h3⟩ := bind1 h2
      obtain ⟨G', hG', h4⟩ := bind1 ho
      obtain ⟨bb, hbb, h5⟩ := bind1 h4
      have x13 := x2.trans x3
      refine ⟨B3, wp G vs, ds[i], G', ((c.mono e1).mono x13).wiped vs, .inl dx, hG', fun σ' hl hσ c' => ⟨?_, ?_⟩⟩
      · have h6 : wipe σ' vs = wipe (wipe σ vs) vs := wipe_eq hl fun j hj => hσ j fun z => hj (hjs j z)
        rw [h6]
        exact wipe_eq (wipe_length _ _) fun j hj => wipe_out hj
      · refine ⟨B3, G', bb, c', hbb, fun B4 H4 x4 => ?_⟩
        cases bb with
        | true =>
          rw [if_pos rfl] at h5 ⊢
          obtain ⟨y, hy, h7⟩ := bind1 h5
          split at h7
          · rename_i hnd
            cases h7
            refine ⟨B4, G', y, c'.mono x4, hy, fun v B5 H5 x5 r5 => ?_⟩
            have x35 := (x3.trans x4).trans x5
            have hD5 : H5 D = some (.lst acc) := x35.get hacc (noTb_lst _)
            have b5 : B5 D = none := (x35.ag D _ hacc (noTb_lst _) (noTp_lst _)).trans b2
            have el := dacc.length
            refine ⟨acc, hD5, by omega, B5, acc ++ [v], da ++ [y], r, (x2.trans x35).mut hD b5 hD5 (pl_lst _), upd_same, b5, (DqAll.mono x35.b dacc).append (.one (r5.dq hnd)), hr, ?_, by rw [List.length_append]; show da.length + 1 ≤ i + 1; omega⟩
            rw [List.append_assoc, ← htot]
            exact congrArg (da ++ ·) (Option.some.inj h3)
          · cases h7
        | false =>
          rw [if_neg Bool.false_ne_true] at h5 ⊢
          cases h5
          have x34 := x3.trans x4
          have hD4 : H4 D = some (.lst acc) := x34.get hacc (noTb_lst _)
          refine ⟨B4, acc, da, r, x2.trans x34, hD4, (x34.ag D _ hacc (noTb_lst _) (noTp_lst _)).trans b2, DqAll.mono x34.b dacc, hr, ?_, by omega⟩
          rw [← htot]
          exact congrArg (da ++ ·) (Option.some.inj h3)
    · have hie : i = ds.length := by omega
      subst hie
      refine .inl ⟨srv.stop _ Hh x2.h rfl, ?_⟩
      rw [List.drop_length] at hrs
      cases hrs
      rw [List.append_nil] at htot
      rw [htot] at dacc
      exact k D (.lst acc) B2 Hh (e1.trans x2) hHD b2 hacc dacc
  · cases h1
theorem ptsI {ifs : List Expr} {t t' : TT} (h : PTs X ifs t) (i : ∀ σ H Q, t' σ H Q → t σ H Q) : PTs X ifs t' := ⟨fun pins s σ H Q I q => h.run pins s σ H Q I (i σ H Q q)⟩
def gYes : Bx := fun _ => some true
theorem gts_nil : PTs X [] (tT T O gYes) := ptsI pts_nil fun σ H Q ⟨B, G, k, c, hf, q⟩ => by
  cases hf
  exact q B H (Ext.refl c.sub)
theorem gts_one {gg : Bx} (h : GT X T O c gg) : PTs X [c] (tT T O gg) := pts_one h
theorem en_lc {elt tg iter : Expr} {ifs : List Expr} {scope : Scope} {own : List (Str × Nat)} {fi : Fs} {js : List Nat} {τ : Tx} {gg : Bx} {fe : Fx} (hc : X.calm = true) (hN : X.N.Nodup) (hi : PI X tg iter (tIt T O fi)) (ok : BlkOk X.N X.env.scope scope own)
    (hg : ∀ (s : Shared) (H : Hp) (C : Addr) (cl : List (Str × Addr)) (fp : List Addr), PG (X.blk s H scope (compEnvC scope cl C X.env) fp) tg (tgG T O js τ)) (ht : ∀ (s : Shared) (H : Hp) (C : Addr) (cl : List (Str × Addr)) (fp : List Addr), PTs (X.blk s H scope (compEnvC scope cl C X.env) fp) ifs (tT T O gg))
    (he : ∀ (s : Shared) (H : Hp) (C : Addr) (cl : List (Str × Addr)) (fp : List Addr), PE (X.blk s H scope (compEnvC scope cl C X.env) fp) elt (tV T O fe)) (hjs : ∀ i ∈ js, i ∈ own.map (·.2)) (hs : ∀ x, foldedSetIterable iter X.env x = pure x := by intro _; rfl) :
    EN X T O (.ListComp elt [⟨tg, iter, ifs, 0⟩] scope pos) (cLc fi (own.map (·.2)) τ gg fe) := peI (pe_lc hc hN hi ok hg ht he hs) fun _ _ _ q => tLc_of hjs q
end
/-! ### statements -/
inductive Out where
  | nx (G : Rk.Env)
  | rt (d : PyData)
abbrev Sx := Rk.Env → Option Out
structure SR (T : Tb) (O : List Nat) (B0 H0 B : Hp) (G : Rk.Env) (σ : L2.St) (H : Hp) : Prop where
  c : Core T O B G σ H
  x : Ext T B0 H0 B H
  fr : ∀ i d a, i ∈ O → gt G i = some d → σ[i]? = some (some (.ref a)) → H0 a = none
def Fin (T : Tb) (O : List Nat) (B0 H0 : Hp) (D : Ends) : Out → Prop
  | .nx G' => ∀ B' σ' H', SR T O B0 H0 B' G' σ' H' → D.nx σ' H'
  | .rt d => ∀ v B' H', Ext T B0 H0 B' H' → LamX.Tabs T H' → RepV B' v d → D.rt v H'
def tS (T : Tb) (O O' : List Nat) (F : Sx) : TS := fun D σ H => ∃ B0 H0 B G o, SR T O B0 H0 B G σ H ∧ F G = some o ∧ Fin T O' B0 H0 D o
abbrev SS (X : Cx) (T : Tb) (O O' : List Nat) (s : Stmt) (F : Sx) : Prop := PS X s (tS T O O' F)
abbrev SSs (X : Cx) (T : Tb) (O O' : List Nat) (s : List Stmt) (F : Sx) : Prop := PSs X s (tS T O O' F)
section
variable {T : Tb} {O O' O1 O2 O3 : List Nat} {B0 H0 B B' H H' : Hp} {G : Rk.Env} {σ : L2.St}
theorem SR.mono (s : SR T O B0 H0 B G σ H) (e : Ext T B H B' H') : SR T O B0 H0 B' G σ H' := ⟨s.c.mono e, s.x.trans e, s.fr⟩
theorem SR.stV (s : SR T O B0 H0 B G σ H) {i : Nat} {v : V} {d : PyData} (hi : i ∉ O) (r : RepV B v d) : SR T O B0 H0 B (st G i d) (σ.set i (some v)) H :=
  ⟨s.c.stV hi r, s.x, fun j e a hj hg h1 => by
    have n1 : i ≠ j := fun z => hi (z ▸ hj)
    rw [List.getElem?_set_ne n1] at h1
    rcases gt_set hg with ⟨z, _⟩ | ⟨_, hg⟩
    · exact absurd z n1
    · exact s.fr j e a hj hg h1⟩
theorem SR.forget (s : SR T O B0 H0 B G σ H) (vs : List Nat) : SR T O B0 H0 B (wp G vs) σ H := ⟨s.c.forget vs, s.x, fun i d a hi hg => s.fr i d a hi (wp_some hg).1⟩
theorem ext_base {B1 H1 : Hp} (e : Ext T B0 H0 B1 H1) (x : Ext T B1 H0 B' H') : Ext T B0 H0 B' H' := ⟨x.sub, e.b.trans x.b, x.h, x.dom, fun a o h n t => (x.ag a o h n t).trans (e.ag a o h n t), x.tb⟩
theorem SR.based {B1 H1 : Hp} (e : Ext T B0 H0 B1 H1) (s : SR T O B1 H0 B G σ H) : SR T O B0 H0 B G σ H := ⟨s.c, ext_base e s.x, s.fr⟩
theorem SR.rebase (s : SR T O B0 H0 B G σ H) : SR T O B H0 B G σ H := ⟨s.c, ⟨s.c.sub, Ex.refl B, s.x.h, s.x.dom, fun _ _ _ _ _ => rfl, s.x.tb⟩, s.fr⟩
/-- owned slots let go -/
theorem SR.freeze (s : SR T O B0 H0 B G σ H) (h : ∀ i ∈ O', i ∈ O) : ∃ B', SR T O' B0 H0 B' G σ H ∧ Ex B B' := by
  classical
  let P : Addr → Prop := fun a => ∃ i d, i ∈ O ∧ i ∉ O' ∧ gt G i = some d ∧ σ[i]? = some (some (.ref a))
  let B' : Hp := fun a => if P a then H a else B a
  have hB : ∀ {a}, P a → B' a = H a := fun {a} p => if_pos p
  have hB2 : ∀ {a}, ¬ P a → B' a = B a := fun {a} p => if_neg p
  have hBn : ∀ {a}, P a → B a = none := fun {a} ⟨i, d, hi, _, hg, hs⟩ => by
    obtain ⟨a', o, h1, h2, h3, h4⟩ := s.c.own i d hi hg
    rw [hs] at h1
    cases h1
    exact h3
  have ex : Ex B B' := fun a o q => by
    rw [hB2 (fun p => by rw [hBn p] at q; cases q)]
    exact q
  have sb : Sub B' H := fun a o q => by
    by_cases p : P a
    · rw [hB p] at q
      obtain ⟨i, d, hi, _, hg, hs⟩ := p
      obtain ⟨a', o', h1, h2, h3, h4⟩ := s.c.own i d hi hg
      rw [hs] at h1
      cases h1
      rw [q] at h2
      cases h2
      exact ⟨q, h4.noTb⟩
    · rw [hB2 p] at q
      exact s.c.sub a o q
  refine ⟨B', ⟨⟨sb, s.c.len, fun i d hi hg => ?_, fun i d hi hg => ?_, fun i j d e a hi hj => s.c.sep i j d e a (h i hi) (h j hj), s.c.tabs⟩, ⟨sb, s.x.b.trans ex, s.x.h, s.x.dom, fun a o' q n t => ?_, s.x.tb⟩, fun i d a hi => s.fr i d a (h i hi)⟩, ex⟩
  · by_cases hO : i ∈ O
    · obtain ⟨a, o, h1, h2, h3, h4⟩ := s.c.own i d hO hg
      exact ⟨_, h1, .inr ⟨a, o, rfl, (hB ⟨i, d, hO, hi, hg, h1⟩).trans h2, h4.mono ex⟩⟩
    · obtain ⟨v, h1, h2⟩ := s.c.val i d hO hg
      exact ⟨v, h1, h2.mono ex⟩
  · obtain ⟨a, o, h1, h2, h3, h4⟩ := s.c.own i d (h i hi) hg
    refine ⟨a, o, h1, h2, ?_, h4.mono ex⟩
    rw [hB2]
    · exact h3
    · rintro ⟨j, e, hj, hj', hg', hs⟩
      have := s.c.sep i j d e a (h i hi) hj hg hg' h1 hs
      subst this
      exact hj' hi
  · rw [hB2]
    · exact s.x.ag a o' q n t
    · rintro ⟨i, d, hi, _, hg, hs⟩
      rw [s.fr i d a hi hg hs] at q
      cases q
end
section
variable {X : Cx} {T : Tb} {O O' O1 O2 O3 : List Nat} {e a b c : Expr} {es rest : List Expr} {f g h : Fx} {pos pos' : Pos} {s : Stmt} {ss : List Stmt} {F F1 F2 : Sx}
theorem psI {t t' : TS} (h : PS X s t) (i : ∀ D σ H, t' D σ H → t D σ H) : PS X s t' := ⟨fun pins s σ H D I q => h.run pins s σ H D I (i D σ H q)⟩
theorem pssI {t t' : TS} (h : PSs X ss t) (i : ∀ D σ H, t' D σ H → t D σ H) : PSs X ss t' := ⟨fun pins s σ H D I q => h.run pins s σ H D I (i D σ H q)⟩
theorem Fin.weak {B0 H0 : Hp} {D : Ends} {o : Out} (hw : ∀ i ∈ O2, i ∈ O1) (k : Fin T O2 B0 H0 D o) : Fin T O1 B0 H0 D o := by
  cases o with
  | nx G' =>
    intro B' σ' H' s
    obtain ⟨B2, s2, _⟩ := s.freeze hw
    exact k B2 σ' H' s2
  | rt d => exact k
/-- fewer owned slots behind -/
theorem ss_weak (hw : ∀ i ∈ O2, i ∈ O1) (h : SS X T O O1 s F) : SS X T O O2 s F := psI h fun D σ H ⟨B0, H0, B, G, o, r, hf, k⟩ => ⟨B0, H0, B, G, o, r, hf, k.weak hw⟩
theorem sss_weak (hw : ∀ i ∈ O2, i ∈ O1) (h : SSs X T O O1 ss F) : SSs X T O O2 ss F := pssI h fun D σ H ⟨B0, H0, B, G, o, r, hf, k⟩ => ⟨B0, H0, B, G, o, r, hf, k.weak hw⟩
/-- fewer owned slots ahead -/
theorem ss_frz (hw : ∀ i ∈ O2, i ∈ O1) (h : SS X T O2 O s F) : SS X T O1 O s F := psI h fun D σ H ⟨B0, H0, B, G, o, r, hf, k⟩ => by
  obtain ⟨B2, s2, _⟩ := r.freeze hw
  exact ⟨B0, H0, B2, G, o, s2, hf, k⟩
theorem sss_frz (hw : ∀ i ∈ O2, i ∈ O1) (h : SSs X T O2 O ss F) : SSs X T O1 O ss F := pssI h fun D σ H ⟨B0, H0, B, G, o, r, hf, k⟩ => by
  obtain ⟨B2, s2, _⟩ := r.freeze hw
  exact ⟨B0, H0, B2, G, o, s2, hf, k⟩
def sSkip : Sx := fun G => some (.nx G)
def sSeq (F1 F2 : Sx) : Sx := fun G => (F1 G).bind fun o => match o with
  | .nx G' => F2 G'
  | .rt d => some (.rt d)
theorem sss_nil : SSs X T O O [] sSkip := pssI pss_nil fun D σ H ⟨B0, H0, B, G, o, r, hf, k⟩ => by
  cases hf
  exact k B σ H r
theorem tSeq_of {D : Ends} {σ : L2.St} {H : Hp} (h : tS T O1 O3 (sSeq F1 F2) D σ H) : tSeq (tS T O1 O2 F1) (tS T O2 O3 F2) D σ H := by
  obtain ⟨B0, H0, B, G, o, r, hf, k⟩ := h
  obtain ⟨o1, h1, h2⟩ := bind1 hf
  refine ⟨B0, H0, B, G, o1, r, h1, ?_⟩
  cases o1 with
  | nx G' => exact fun B' σ' H' s => ⟨B0, H0, B', G', o, s, h2, k⟩
  | rt d => cases h2; exact k
theorem sss_cons (h1 : SS X T O1 O2 s F1) (h2 : SSs X T O2 O3 ss F2) : SSs X T O1 O3 (s :: ss) (sSeq F1 F2) := pssI (pss_cons h1 h2) fun D σ H q => tSeq_of q
theorem sss_one (h1 : SS X T O1 O2 s F1) : SSs X T O1 O2 [s] F1 := pss_one h1
/-! #### assignments -/
def sAsg (i : Nat) (f : Fx) : Sx := fun G => (f G).map fun d => .nx (st G i d)
def rem (i : Nat) (O : List Nat) : List Nat := O.filter fun j => j != i
theorem mem_rem {i j : Nat} {O : List Nat} : j ∈ rem i O ↔ j ∈ O ∧ j ≠ i := by
  unfold rem
  rw [List.mem_filter, bne_iff_ne]
theorem tAsgV {i : Nat} {D : Ends} {σ : L2.St} {H : Hp} (hi : i ∉ O) (q : tS T O O (sAsg i f) D σ H) : tAsg (tV T O f) (gName i) D σ H := by
  obtain ⟨B0, H0, B, G, o, r, hf, k⟩ := q
  obtain ⟨d, hd, rfl⟩ := Option.map_eq_some_iff.mp hf
  exact ⟨B, G, d, r.c, hd, fun v B' H' x rv => k B' _ H' ((r.mono x).stV hi rv)⟩
/-- x = e -/
theorem ss_asg {i : Nat} {x : Str} (hi : i ∉ O) (hN : X.N.Nodup) (hx : X.N[i]? = some x) (hl : Loc X.env.scope x) (he : EV X T O e f) (hs : swapsWith e (some (.Name x pos')) pos.line X.env = pure false := by rfl)
    (hf : X.fn x = true ∨ X.env.scope.names.lookup x = some .local := by first | exact .inl rfl | exact .inr rfl | assumption) : SS X T O O (.Assign [.Name x pos'] e pos) (sAsg i f) := psI (ps_set hN hx hl he hs hf) fun _ _ _ q => tAsgV hi q
theorem tAsgN {i : Nat} {D : Ends} {σ : L2.St} {H : Hp} (q : tS T O (i :: rem i O) (sAsg i f) D σ H) : tAsg (tN T O f) (gName i) D σ H := by
  obtain ⟨B0, H0, B, G, o, r, hf, k⟩ := q
  obtain ⟨d, hd, rfl⟩ := Option.map_eq_some_iff.mp hf
  refine ⟨B, G, d, r.c, hd, fun p ob B' H' x hp hb ho ha => k B' _ H' ?_⟩
  have r1 := r.mono x
  have np : ∀ {j : Nat} {e : PyData} {q : Addr}, j ∈ O → gt G j = some e → σ[j]? = some (some (.ref q)) → q ≠ p := fun {j e q} hj hg hs z => by
    obtain ⟨a', o', h1, h2, _, _⟩ := r.c.own j e hj hg
    rw [hs] at h1
    cases h1
    rw [z, hp] at h2
    cases h2
  refine ⟨⟨r1.c.sub, by unfold st; rw [List.length_set, List.length_set, r.c.len], fun j e hj hg => ?_, fun j e hj hg => ?_, fun j l d' e a hj hl hg hg' h1 h2 => ?_, r1.c.tabs⟩, r1.x, fun j e a hj hg h1 => ?_⟩
  · simp only [List.mem_cons, not_or, mem_rem] at hj
    rcases gt_set hg with ⟨z, _⟩ | ⟨h, hg⟩
    · exact absurd z.symm hj.1
    · show ∃ v, (σ.set i (some (.ref p)))[j]? = some (some v) ∧ RepV B' v e
      rw [List.getElem?_set_ne h]
      exact r1.c.val j e (fun z => hj.2 ⟨z, fun q => h q.symm⟩) hg
  · rcases gt_set hg with ⟨rfl, h⟩ | ⟨h, hg⟩
    · cases h
      have hl : i < σ.length := by
        rw [r.c.len]
        unfold gt st at hg
        by_cases z : i < G.length
        · exact z
        · rw [List.getElem?_eq_none (by simpa using z)] at hg; cases hg
      exact ⟨p, ob, List.getElem?_set_self hl, ho, hb, ha⟩
    · have hj' : j ∈ O := by
        rcases List.mem_cons.mp hj with z | z
        · exact absurd z.symm h
        · exact (mem_rem.mp z).1
      show ∃ a o, (σ.set i (some (.ref p)))[j]? = some (some (.ref a)) ∧ H' a = some o ∧ B' a = none ∧ AtO B' o e
      rw [List.getElem?_set_ne h]
      exact r1.c.own j e hj' hg
  · have in_ : ∀ {m : Nat}, m ∈ i :: rem i O → m ≠ i → m ∈ O := fun {m} hm z => (mem_rem.mp ((List.mem_cons.mp hm).resolve_left z)).1
    have h1' : (σ.set i (some (.ref p)))[j]? = some (some (.ref a)) := h1
    have h2' : (σ.set i (some (.ref p)))[l]? = some (some (.ref a)) := h2
    rcases gt_set hg with ⟨z1, _⟩ | ⟨n1, hg⟩
    · subst z1
      rcases gt_set hg' with ⟨z2, _⟩ | ⟨n2, hg'⟩
      · exact z2
      · have hl' : i < σ.length := by
          by_cases z : i < σ.length
          · exact z
          · rw [List.getElem?_eq_none (by simpa using z)] at h1'; cases h1'
        rw [List.getElem?_set_self hl'] at h1'
        cases h1'
        rw [List.getElem?_set_ne n2] at h2'
        exact absurd rfl (np (in_ hl fun z => n2 z.symm) hg' h2')
    · rw [List.getElem?_set_ne n1] at h1'
      rcases gt_set hg' with ⟨z2, _⟩ | ⟨n2, hg'⟩
      · subst z2
        have hl' : i < σ.length := by
          by_cases z : i < σ.length
          · exact z
          · rw [List.getElem?_eq_none (by simpa using z)] at h2'; cases h2'
        rw [List.getElem?_set_self hl'] at h2'
        cases h2'
        exact absurd rfl (np (in_ hj fun z => n1 z.symm) hg h1')
      · rw [List.getElem?_set_ne n2] at h2'
        exact r.c.sep j l d' e a (in_ hj fun z => n1 z.symm) (in_ hl fun z => n2 z.symm) hg hg' h1' h2'
  · have h1' : (σ.set i (some (.ref p)))[j]? = some (some (.ref a)) := h1
    rcases gt_set hg with ⟨z1, _⟩ | ⟨n1, hg⟩
    · subst z1
      have hl' : i < σ.length := by
        by_cases z : i < σ.length
        · exact z
        · rw [List.getElem?_eq_none (by simpa using z)] at h1'; cases h1'
      rw [List.getElem?_set_self hl'] at h1'
      cases h1'
      exact r.x.fresh hp
    · rw [List.getElem?_set_ne n1] at h1'
      exact r.fr j e a ((mem_rem.mp ((List.mem_cons.mp hj).resolve_left fun z => n1 z.symm)).1) hg h1'
/-- x = e, e a new list or dict: the slot owns it -/
theorem ss_asgN {i : Nat} {x : Str} (hN : X.N.Nodup) (hx : X.N[i]? = some x) (hl : Loc X.env.scope x) (he : EN X T O e f) (hs : swapsWith e (some (.Name x pos')) pos.line X.env = pure false := by rfl)
    (hf : X.fn x = true ∨ X.env.scope.names.lookup x = some .local := by first | exact .inl rfl | exact .inr rfl | assumption) : SS X T O (i :: rem i O) (.Assign [.Name x pos'] e pos) (sAsg i f) := psI (ps_set hN hx hl he hs hf) fun _ _ _ q => tAsgN q
/-- x = [..] on one line, x a local -/
theorem ss_lc {i : Nat} {y : Str} {elt tg iter : Expr} {ifs : List Expr} {scope : Scope} {own : List (Str × Nat)} {fi : Fs} {js : List Nat} {τ : Tx} {gg : Bx} {fe : Fx} {lpos : Pos} (hc : X.calm = true) (hN : X.N.Nodup) (hy : X.N[i]? = some y) (hyl : X.env.scope.names.lookup y = some .local)
    (hsw : swapsWith (.ListComp elt [⟨tg, iter, ifs, 0⟩] scope lpos) (some (.Name y pos')) pos.line X.env = pure true) (hi : PI X tg iter (tIt T O fi)) (ok : BlkOk X.N X.env.scope scope own)
    (hg : ∀ (s : Shared) (H : Hp) (C : Addr) (cl : List (Str × Addr)) (fp : List Addr), PG (X.blk s H scope (compEnvC scope cl C X.env) fp) tg (tgG T O js τ)) (ht : ∀ (s : Shared) (H : Hp) (C : Addr) (cl : List (Str × Addr)) (fp : List Addr), PTs (X.blk s H scope (compEnvC scope cl C X.env) fp) ifs (tT T O gg))
    (he : ∀ (s : Shared) (H : Hp) (C : Addr) (cl : List (Str × Addr)) (fp : List Addr), PE (X.blk s H scope (compEnvC scope cl C X.env) fp) elt (tV T O fe)) (hjs : ∀ i ∈ js, i ∈ own.map (·.2)) (hs : ∀ x, foldedSetIterable iter X.env x = pure x := by intro _; rfl) :
    SS X T O (i :: rem i O) (.Assign [.Name y pos'] (.ListComp elt [⟨tg, iter, ifs, 0⟩] scope lpos) pos) (sAsg i (cLc fi (own.map (·.2)) τ gg fe)) :=
  psI (ps_setLc hc hN hy hyl hsw hi ok hg ht he hs) fun D σ H q => tLc_of hjs (tAsgN q)
/-- a, b = e -/
def sPar (τ : Tx) (f : Fx) : Sx := fun G => (f G).bind fun d => (τ G d).map .nx
def Keeps (τ : Tx) (js : List Nat) : Prop := ∀ G d G', τ G d = some G' → ∀ i, i ∉ js → gt G' i = gt G i
theorem gt_st_ne {G : Rk.Env} {i j : Nat} {d : PyData} (h : i ≠ j) : gt (st G i d) j = gt G j := by
  unfold gt st
  rw [List.getElem?_set_ne h]
theorem keeps_name {i : Nat} : Keeps (xName i) [i] := fun G d G' h j hj => by
  cases h
  exact gt_st_ne fun z => hj (by rw [z]; simp)
theorem keeps_pair {i j : Nat} : Keeps (xPair i j) [i, j] := fun G d G' h m hm => by
  simp only [List.mem_cons, List.not_mem_nil, or_false, not_or] at hm
  unfold xPair at h
  split at h
  · cases h
    rw [gt_st_ne fun z => hm.2 z.symm, gt_st_ne fun z => hm.1 z.symm]
  · cases h
theorem SR.target {B0 H0 B : Hp} {G G' : Rk.Env} {σ σ' : L2.St} {H : Hp} {js : List Nat} {τ : Tx} {d : PyData} (r : SR T O B0 H0 B G σ H) (hO : ∀ i ∈ js, i ∉ O) (kp : Keeps τ js) (ht : τ G d = some G') (hσ : ∀ i, i ∉ js → σ'[i]? = σ[i]?) (c : Core T O B G' σ' H) : SR T O B0 H0 B G' σ' H :=
  ⟨c, r.x, fun i e a hi hg h1 => by
    have hj : i ∉ js := fun z => hO i z hi
    rw [hσ i hj] at h1
    rw [kp _ _ _ ht i hj] at hg
    exact r.fr i e a hi hg h1⟩
theorem ss_par {tg : Expr} {js : List Nat} {τ : Tx} (hO : ∀ i ∈ js, i ∉ O) (kp : Keeps τ js) (he : EV X T O e f) (hg : PG X tg (tgG T O js τ)) (hs : swapsWithSole [tg] e pos.line X.env = pure false := by rfl) (hw : swappedStores [tg] e X.env = pure none := by rfl)
    (h1 : (assignEach [tg] X.env).map (·.2) = [assign tg X.env] := by rfl) : SS X T O O (.Assign [tg] e pos) (sPar τ f) := psI (ps_asg he hg hs hw h1) fun D σ H ⟨B0, H0, B, G, o, r, hf, k⟩ => by
  obtain ⟨d, hd, h2⟩ := bind1 hf
  obtain ⟨G', hG, rfl⟩ := Option.map_eq_some_iff.mp h2
  exact ⟨B, G, d, r.c, hd, fun v B' H' x rv => ⟨B', G, d, G', r.c.mono x, rv, hG, fun σ' hl hσ c' => k B' σ' H' ((r.mono x).target hO kp hG hσ c')⟩⟩
/-! #### if, return -/
def sIf (g : Bx) (F1 F2 : Sx) : Sx := fun G => (g G).bind fun b => if b = true then F1 G else F2 G
theorem ss_if {cnd : Expr} {s1 s2 : List Stmt} {gg : Bx} (hc : GT X T O cnd gg) (h1 : SSs X T O O' s1 F1) (h2 : SSs X T O O' s2 F2) : SS X T O O' (.If cnd s1 s2 pos) (sIf gg F1 F2) := psI (ps_if hc h1 h2) fun D σ H ⟨B0, H0, B, G, o, r, hf, k⟩ => by
  obtain ⟨b, hb, h2⟩ := bind1 hf
  refine ⟨B, G, b, r.c, hb, fun B' H' x => ?_⟩
  cases b with
  | true => exact ⟨B0, H0, B', G, o, r.mono x, h2, k⟩
  | false => exact ⟨B0, H0, B', G, o, r.mono x, h2, k⟩
def sRet (f : Fx) : Sx := fun G => (f G).map .rt
theorem ss_ret (h : EV X T O e f) : SS X T O O' (.Return (some e) pos) (sRet f) := psI (ps_ret h) fun D σ H ⟨B0, H0, B, G, o, r, hf, k⟩ => by
  obtain ⟨d, hd, rfl⟩ := Option.map_eq_some_iff.mp hf
  exact ⟨B, G, d, r.c, hd, fun v B' H' x rv => k v B' H' (r.x.trans x) (x.tb r.c.tabs) rv⟩
/-- a statement that the data never come to -/
theorem ss_never : SS X T O O' s (fun _ => none) := psI ps_never fun D σ H ⟨_, _, _, _, _, _, hf, _⟩ => by cases hf
end
end Rk

set_option Elab.async false
set_option linter.all false
set_option maxRecDepth 100000
set_option maxHeartbeats 4000000
namespace Rk
open PySem PySem.Spec L2
section
variable {X : Cx} {T : Tb} {O O' O1 O2 O3 : List Nat} {e a b c tg iter : Expr} {es rest : List Expr} {f g h : Fx} {pos pos' : Pos} {s : Stmt} {ss body : List Stmt} {F F1 F2 : Sx}
/-! ### for -/
def evF (τ : Tx) (F : Sx) (fg : List Nat) : List PyData → Rk.Env → Option Out
  | [], G => some (.nx G)
  | d :: ds, G => (τ G d).bind fun G1 => (F G1).bind fun o => match o with
    | .nx G2 => evF τ F fg ds (wp G2 fg)
    | .rt r => some (.rt r)
def sFor (fi : Fs) (τ : Tx) (F : Sx) (fg : List Nat) : Sx := fun G => (fi G).bind fun ds => evF τ F fg ds (wp G fg)
theorem tFor_of {fi : Fs} {js fg : List Nat} {τ : Tx} {D : Ends} {σ : L2.St} {H : Hp} (hO : ∀ i ∈ js, i ∉ O) (kp : Keeps τ js) (q : tS T O O (sFor fi τ F fg) D σ H) : tFor (tIf T O fi) (tgG T O js τ) (tS T O O F) D σ H := by
  obtain ⟨B0, H0, B, G, o, r, hf, k⟩ := q
  obtain ⟨ds, hds, hev⟩ := bind1 hf
  refine ⟨B, G, ds, r.c, hds, fun J B1 H1 e1 srv => ?_⟩
  have e01 : Ext T B0 H0 B1 H1 := r.x.trans e1
  refine ⟨fun i m σ' Hh => m = ds.length - i ∧ i ≤ ds.length ∧ ∃ B2 G2, SR T O B1 H0 B2 G2 σ' Hh ∧ evF τ F fg (ds.drop i) G2 = some o,
    ⟨ds.length, by simp, Nat.zero_le _, B1, wp G fg, ((r.mono e1).rebase).forget fg, hev⟩, ?_⟩
  rintro i m σ' Hh ⟨rfl, hi, B2, G2, s2, hs2⟩
  have st : Ex B1 Hh := s2.x.b.trans s2.x.sub.ex
  by_cases hlt : i < ds.length
  · refine .inr ⟨srv.go i Hh st hlt, fun σ'' H' => ∃ B2 G2, SR T O B1 H0 B2 G2 σ'' H' ∧ evF τ F fg (ds.drop (i + 1)) G2 = some o, fun σ'' H' hn => ⟨ds.length - (i + 1), by omega, rfl, hlt, hn⟩, fun x H' hy => ?_⟩
    obtain ⟨B3, x3, dx⟩ := srv.yld i Hh x H' B2 ds[i] st s2.x.sub s2.x.b (List.getElem?_eq_getElem hlt) hy
    rw [List.drop_eq_getElem_cons hlt] at hs2
    obtain ⟨G3, hG3, h1⟩ := bind1 hs2
    obtain ⟨o1, ho1, h2⟩ := bind1 h1
    refine ⟨B3, G2, ds[i], G3, (s2.mono x3).c, .inl dx, hG3, fun σ'' hl hσ c' => ⟨B1, H0, B3, G3, o1, (s2.mono x3).target hO kp hG3 hσ c', ho1, ?_⟩⟩
    cases o1 with
    | nx G4 => exact fun B' σ3 H3 s3 => ⟨B', wp G4 fg, s3.forget fg, h2⟩
    | rt d =>
      cases h2
      exact fun v B' H3 x t rv => k v B' H3 (ext_base e01 x) t rv
  · have hie : i = ds.length := by omega
    subst hie
    rw [List.drop_length] at hs2
    cases hs2
    exact .inl ⟨srv.stop _ Hh st rfl, k B2 σ' Hh (s2.based e01)⟩
theorem ss_for {fi : Fs} {js : List Nat} {τ : Tx} (fg : List Nat) (hp : PassesOwn (model X.prog X.w) X.A X.env X.xe) (hc : X.calm = true) (hi : PI X tg iter (tIf T O fi)) (hg : PG X tg (tgG T O js τ)) (hO : ∀ i ∈ js, i ∉ O) (kp : Keeps τ js) (hb : SSs X T O O body F)
    (hs : ∀ x, foldedSetIterable iter X.env x = pure x := by intro _; rfl) : SS X T O O (.For tg iter body [] pos) (sFor fi τ F fg) := psI (ps_for hp hc hi hg hb hs) fun _ _ _ q => tFor_of hO kp q
/-! ### while -/
def evW (g : Bx) (F : Sx) (fg : List Nat) : Nat → Rk.Env → Option Out
  | 0, _ => none
  | n + 1, G => (g G).bind fun b => if b = true then (F G).bind fun o => match o with
    | .nx G2 => evW g F fg n (wp G2 fg)
    | .rt r => some (.rt r)
    else some (.nx G)
def sWhile (g : Bx) (F : Sx) (fg : List Nat) : Sx := fun G => evW g F fg 100000 (wp G fg)
theorem ss_while {cnd : Expr} {gg : Bx} (fg : List Nat) (hp : PassesOwn (model X.prog X.w) X.A X.env X.xe) (hc : GT X T O cnd gg) (hb : SSs X T O O body F) : SS X T O O (.While cnd body [] pos) (sWhile gg F fg) :=
  psI (ps_while hp hc hb) fun D σ H ⟨B0, H0, B, G, o, r, hf, k⟩ => by
    refine ⟨fun m σ' Hh => ∃ B2 G2, SR T O B0 H0 B2 G2 σ' Hh ∧ evW gg F fg m G2 = some o, ⟨100000, B, wp G fg, r.forget fg, hf⟩, ?_⟩
    rintro m σ' Hh ⟨B2, G2, s2, hs2⟩
    cases m with
    | zero => cases hs2
    | succ n =>
      obtain ⟨bb, hbb, h1⟩ := bind1 hs2
      refine ⟨B2, G2, bb, s2.c, hbb, fun B3 H3 x3 => ?_⟩
      cases bb with
      | true =>
        rw [if_pos rfl] at h1 ⊢
        obtain ⟨o1, ho1, h2⟩ := bind1 h1
        refine ⟨fun σ'' H' => ∃ B2 G2, SR T O B0 H0 B2 G2 σ'' H' ∧ evW gg F fg n G2 = some o, fun σ'' H' hn => ⟨n, Nat.lt_succ_self n, hn⟩, B0, H0, B3, G2, o1, s2.mono x3, ho1, ?_⟩
        cases o1 with
        | nx G4 => exact fun B' σ3 H3 s3 => ⟨B', wp G4 fg, s3.forget fg, h2⟩
        | rt d =>
          cases h2
          exact k
      | false =>
        rw [if_neg Bool.false_ne_true] at h1 ⊢
        cases h1
        exact k B3 σ' H3 (s2.mono x3)
/-! ### one's own list, dict changed -/
theorem SR.mutate {B0 H0 B : Hp} {G : Rk.Env} {σ : L2.St} {H : Hp} {i : Nat} {l d : PyData} {q : Addr} {o u : HO} (r : SR T O B0 H0 B G σ H) (hi : i ∈ O) (hg : gt G i = some l) (hs : σ[i]? = some (some (.ref q))) (ho : H q = some o) (hb : B q = none) (n : Pl o) (ha : AtO B u d) :
    SR T O B0 H0 B (st G i d) σ (upd H q u) := by
  have hq : H0 q = none := r.fr i l q hi hg hs
  have hx := r.x.mut hq hb ho n (u := u)
  have hl : i < G.length := by
    unfold gt at hg
    by_cases z : i < G.length
    · exact z
    · rw [List.getElem?_eq_none (by simpa using z)] at hg; cases hg
  refine ⟨⟨hx.sub, by unfold st; rw [List.length_set, r.c.len], fun j e hj hg' => ?_, fun j e hj hg' => ?_, fun j k d' e a hj hk h1 h2 h3 h4 => ?_, tabs_mut ho n r.c.tabs⟩, hx, fun j e a hj hg' h1 => ?_⟩
  · rcases gt_set hg' with ⟨z, _⟩ | ⟨_, hg'⟩
    · exact absurd (z ▸ hi) hj
    · exact r.c.val j e hj hg'
  · rcases gt_set hg' with ⟨rfl, z⟩ | ⟨z, hg'⟩
    · cases z
      exact ⟨q, u, hs, upd_same, hb, ha⟩
    · obtain ⟨a', o', h1, h2, h3, h4⟩ := r.c.own j e hj hg'
      have na : a' ≠ q := fun w => z (r.c.sep i j l e q hi hj hg hg' hs (by rw [h1, w]))
      exact ⟨a', o', h1, by rw [upd_ne na]; exact h2, h3, h4⟩
  · have g1 : ∃ d1, gt G j = some d1 := by
      rcases gt_set h1 with ⟨rfl, _⟩ | ⟨_, h1⟩
      · exact ⟨l, hg⟩
      · exact ⟨d', h1⟩
    have g2 : ∃ d1, gt G k = some d1 := by
      rcases gt_set h2 with ⟨rfl, _⟩ | ⟨_, h2⟩
      · exact ⟨l, hg⟩
      · exact ⟨e, h2⟩
    obtain ⟨d1, g1⟩ := g1
    obtain ⟨d2, g2⟩ := g2
    exact r.c.sep j k d1 d2 a hj hk g1 g2 h3 h4
  · rcases gt_set hg' with ⟨rfl, _⟩ | ⟨_, hg'⟩
    · exact r.fr i l a hi hg h1
    · exact r.fr j e a hj hg' h1
/-- the owned list of a slot -/
theorem SR.lst {B0 H0 B : Hp} {G : Rk.Env} {σ : L2.St} {H : Hp} {i : Nat} {ds : List PyData} (r : SR T O B0 H0 B G σ H) (hi : i ∈ O) (hg : gt G i = some (.list ds)) : ∃ q xs, σ[i]? = some (some (.ref q)) ∧ H q = some (.lst xs) ∧ B q = none ∧ DqAll B xs ds := by
  obtain ⟨a, o, h1, h2, h3, h4⟩ := r.c.own i _ hi hg
  cases o with
  | lst xs => exact ⟨a, xs, h1, h2, h3, h4⟩
  | _ => exact h4.elim
def sApp (i : Nat) (f : Fx) : Sx := fun G => (gt G i).bind fun l => (f G).bind fun d => match l with
  | .list ds => if ds.length < sizeLine ∧ isDict d = false then some (.nx (st G i (.list (ds ++ [d])))) else none
  | _ => none
theorem ss_append {i : Nat} (hi : i ∈ O) (hp : PS X s (tDrop (tBM X.K "list" rAppend (tVar i) (tCons (tV T O f) tNil)))) : SS X T O O s (sApp i f) := psI hp fun D σ H ⟨B0, H0, B, G, o, r, hf, k⟩ => by
  obtain ⟨l, d, hl, hd, h2⟩ := bind2 hf
  split at h2
  · split at h2
    · rename_i ds hc
      cases h2
      obtain ⟨q, xs, hs, hq, hb, da⟩ := r.lst hi hl
      refine ⟨.ref q, hs, .inl ⟨rfl, xs, SqL.of hq⟩, B, G, d, r.c, hd, fun v B1 H1 x1 r1 => ?_⟩
      have hq1 := x1.get hq (noTb_lst _)
      have hb1 := (x1.ag q _ hq (noTb_lst _) (noTp_lst _)).trans hb
      refine ⟨q, xs, v, rfl, rfl, hq1, by rw [da.length]; exact hc.1, k B1 σ _ ((r.mono x1).mutate hi hl hs hq1 hb1 (pl_lst _) ?_)⟩
      exact (DqAll.mono x1.b da).append (.one (r1.dq hc.2))
    · cases h2
  · cases h2
def sExt (i : Nat) (f : Fx) : Sx := fun G => (gt G i).bind fun l => (f G).bind fun d => match l, d with
  | .list ds, .list es => if ds.length + es.length ≤ sizeLine then some (.nx (st G i (.list (ds ++ es)))) else none
  | _, _ => none
theorem ss_extend {i : Nat} (hi : i ∈ O) (hp : PS X s (tDrop (tBM X.K "list" rExtend (tVar i) (tCons (tN T O f) tNil)))) : SS X T O O s (sExt i f) := psI hp fun D σ H ⟨B0, H0, B, G, o, r, hf, k⟩ => by
  obtain ⟨l, d, hl, hd, h2⟩ := bind2 hf
  split at h2
  · split at h2
    · rename_i ds es hc
      cases h2
      obtain ⟨q, xs, hs, hq, hb, da⟩ := r.lst hi hl
      refine ⟨.ref q, hs, .inl ⟨rfl, xs, SqL.of hq⟩, B, G, _, r.c, hd, fun p ob B1 H1 x1 hp hbp hop hat => ?_⟩
      have hq1 := x1.get hq (noTb_lst _)
      have hb1 := (x1.ag q _ hq (noTb_lst _) (noTp_lst _)).trans hb
      cases ob with
      | lst zs =>
        have dz : DqAll B1 zs es := hat
        refine ⟨q, p, xs, zs, rfl, rfl, hq1, hop, by rw [da.length, dz.length]; exact hc, k B1 σ _ ((r.mono x1).mutate hi hl hs hq1 hb1 (pl_lst _) ?_)⟩
        exact (DqAll.mono x1.b da).append dz
      | _ => exact hat.elim
    · cases h2
  · cases h2
/-- x = l.pop() -/
def sPop (j i : Nat) : Sx := fun G => (gt G i).bind fun l => match l with
  | .list ds => (ds[ds.length - 1]?).map fun d => .nx (st (st G i (.list ds.dropLast)) j d)
  | _ => none
theorem ss_pop {i j : Nat} (hi : i ∈ O) (hj : j ∉ O) (hp : PS X s (tAsg (tBM0 X.K "list" rPop (tVar i)) (gName j))) : SS X T O O s (sPop j i) := psI hp fun D σ H ⟨B0, H0, B, G, o, r, hf, k⟩ => by
  obtain ⟨l, hl, h2⟩ := bind1 hf
  split at h2
  · rename_i ds
    obtain ⟨d, hd, rfl⟩ := Option.map_eq_some_iff.mp h2
    obtain ⟨q, xs, hs, hq, hb, da⟩ := r.lst hi hl
    obtain ⟨y, hy, dy⟩ := da.get' hd
    rw [← da.length] at hy
    exact ⟨.ref q, hs, .inl ⟨rfl, xs, SqL.of hq⟩, q, xs, y, rfl, rfl, hq, hy, k B _ _ ((r.mutate hi hl hs hq hb (pl_lst _) (u := .lst xs.dropLast) (d := .list ds.dropLast) da.dropLast).stV hj (.inl dy))⟩
  · cases h2
/-- l.remove(k), a list of ints -/
def sRem (i : Nat) (f : Fx) : Sx := fun G => (gt G i).bind fun l => (f G).bind fun d => match l, d with
  | .list ds, .int k => (toInts ds).bind fun ns => if k ∈ ns then some (.nx (st G i (.list ((ns.erase k).map .int)))) else none
  | _, _ => none
theorem first_ix : ∀ {ns : List Int} {k : Int}, k ∈ ns → ∃ j, ns[j]? = some k ∧ (∀ m, m < j → ns[m]? ≠ some k) ∧ ns.eraseIdx j = ns.erase k
  | [], _, h => by cases h
  | n :: ns, k, h => by
    by_cases e : n = k
    · subst e
      exact ⟨0, rfl, fun m hm => absurd hm (Nat.not_lt_zero m), by simp⟩
    · obtain ⟨j, h1, h2, h3⟩ := first_ix ((List.mem_cons.mp h).resolve_left fun z => e z.symm)
      refine ⟨j + 1, by simpa using h1, fun m hm => ?_, ?_⟩
      · cases m with
        | zero => simpa using e
        | succ m => simpa using h2 m (by omega)
      · rw [List.eraseIdx_cons_succ, h3, List.erase_cons_tail (by simpa using e)]
theorem ss_remove {i : Nat} (hi : i ∈ O) (hp : PS X s (tDrop (tBM X.K "list" rRemI (tVar i) (tCons (tV T O f) tNil)))) : SS X T O O s (sRem i f) := psI hp fun D σ H ⟨B0, H0, B, G, o, r, hf, k⟩ => by
  obtain ⟨l, d, hl, hd, h2⟩ := bind2 hf
  split at h2
  · rename_i ds kk
    obtain ⟨ns, hns, h3⟩ := bind1 h2
    split at h3
    · rename_i hmem
      cases h3
      obtain ⟨q, xs, hs, hq, hb, da⟩ := r.lst hi hl
      rw [toInts_some hns] at da
      have exs := da.ints_inv
      subst exs
      refine ⟨.ref q, hs, .inl ⟨rfl, _, SqL.of hq⟩, B, G, _, r.c, hd, fun v B1 H1 x1 r1 => ?_⟩
      have hq1 := x1.get hq (noTb_lst _)
      have hb1 := (x1.ag q _ hq (noTb_lst _) (noTp_lst _)).trans hb
      obtain ⟨j, h1, h2, h3⟩ := first_ix hmem
      refine ⟨q, ns, kk, j, rfl, by rw [(r1.any x1.sub).int], hq1, h1, h2, k B1 σ _ ((r.mono x1).mutate hi hl hs hq1 hb1 (pl_lst _) ?_)⟩
      rw [h3]
      exact DqAll.ints _
    · cases h3
  · cases h2
/-- l.insert(0, e) -/
def sIns (i : Nat) (f g : Fx) : Sx := fun G => (gt G i).bind fun l => (f G).bind fun k => (g G).bind fun d => match l, k with
  | .list ds, .int n => if ds.length < sizeLine ∧ isDict d = false ∧ 0 ≤ n ∧ n < 2 ^ 63 then some (.nx (st G i (.list (ds.take n.toNat ++ [d] ++ ds.drop n.toNat)))) else none
  | _, _ => none
def rInsert : V → List V → Hp → VK → Prop := fun x vs H Q => ∃ (l : Addr) (xs : List V) (i : Int) (y : V), x = .ref l ∧ vs = [.int i, y] ∧ H l = some (.lst xs) ∧ xs.length < sizeLine ∧ 0 ≤ i ∧ i < 2 ^ 63 ∧ Q .non (upd H l (.lst (xs.take i.toNat ++ [y] ++ xs.drop i.toNat)))
theorem mt_insertR : MtR X "list.insert" rInsert := mt_insert
theorem ss_insert {i : Nat} (hi : i ∈ O) (hp : PS X s (tDrop (tBM X.K "list" rInsert (tVar i) (tCons (tV T O f) (tCons (tV T O g) tNil))))) : SS X T O O s (sIns i f g) := psI hp fun D σ H ⟨B0, H0, B, G, o, r, hf, k⟩ => by
  obtain ⟨l, kk, hl, hkk, h2⟩ := bind2 hf
  obtain ⟨d, hd, h3⟩ := bind1 h2
  clear h2
  split at h3
  · split at h3
    · rename_i ds n hc
      cases h3
      obtain ⟨q, xs, hs, hq, hb, da⟩ := r.lst hi hl
      refine ⟨.ref q, hs, .inl ⟨rfl, xs, SqL.of hq⟩, B, G, _, r.c, hkk, fun v0 B0 H0 x0 r0 => ⟨B0, G, d, r.c.mono x0, hd, fun v B1 H1 x1 r1 => ?_⟩⟩
      have x01 := x0.trans x1
      have hq1 := x01.get hq (noTb_lst _)
      have hb1 := (x01.ag q _ hq (noTb_lst _) (noTp_lst _)).trans hb
      refine ⟨q, xs, n, v, rfl, by rw [(r0.any x0.sub).int], hq1, by rw [da.length]; exact hc.1, hc.2.2.1, hc.2.2.2, k B1 σ _ ((r.mono x01).mutate hi hl hs hq1 hb1 (pl_lst _) ?_)⟩
      have da1 := DqAll.mono x01.b da
      exact ((da1.take _).append (.one (r1.dq hc.2.1))).append (da1.drop _)
    · cases h3
  · cases h3
/-! ### d[k] = v -/
def sPut (i : Nat) (fk fv : Fx) : Sx := fun G => (fv G).bind fun v => (fk G).bind fun k => (gt G i).bind fun d => match d with
  | .dict kd => if homK k kd = true ∧ kd.length < sizeLine ∧ isDict v = false then some (.nx (st G i (.dict (dPut kd k v)))) else none
  | _ => none
/-- the heap behind d[y] = v, a dict that is empty be of either kind -/
def DPut2 (H : Hp) (a : Addr) (y v : V) (H' : Hp) : Prop := DPut H a y v H' ∨ (H a = some (.dK []) ∧ DPut (upd H a (.dT [])) a y v H') ∨ (H a = some (.dT []) ∧ DPut (upd H a (.dK [])) a y v H')
def sDPut2 (td ty tv : TE) : TS := fun D σ H => tv σ H fun v H1 => td σ H1 fun x H2 => ty σ H2 fun y H3 => ∃ a H4, x = .ref a ∧ DPut2 H3 a y v H4 ∧ D.nx σ H4
theorem ps_dput2 {o i value : Expr} {td ty tv : TE} (hu : X.A.units + 200 < cLine) (ho : PE X o td) (hi : PE X i ty) (hv : PE X value tv) (hs : swapsWith value (some (.Subscript o i pos')) pos.line X.env = pure false := by rfl) :
    PS X (.Assign [.Subscript o i pos'] value pos) (sDPut2 td ty tv) := by
  refine ⟨fun pins s σ H D I h => ?_⟩
  refine wpAny_Assign_Subscript (thn (hv.run pins s σ H _ I h) fun r s1 ⟨v, H1, I1, rv, q1⟩ => thn (ho.run pins s1 σ H1 _ I1 q1) fun u s2 ⟨x, H2, I2, rx, q2⟩ => thn (hi.run pins s2 σ H2 _ I2 q2) fun iv s3 ⟨y, H3, I3, ry, a, H4, ex, g, q3⟩ => ?_) hs
  subst ex
  obtain rfl : u = Value.ref a := rx
  rcases g with g | ⟨e, g⟩ | ⟨e, g⟩
  · exact d_setItem (by omega) I3 g ry rv fun s4 I4 => ⟨σ, H4, I4, q3⟩
  · exact d_setItem (by omega) (inv_toT I3 e) g ry rv fun s4 I4 => ⟨σ, H4, I4, q3⟩
  · exact d_setItem (by omega) (inv_toK I3 e) g ry rv fun s4 I4 => ⟨σ, H4, I4, q3⟩
theorem put_dict {B H : Hp} (sb : Sub B H) {q : Addr} {o : HO} {y v : V} {kd : List (PyData × PyData)} {k d : PyData} (ho : H q = some o) (ha : AtO B o (.dict kd)) (ry : RepA B H y k) (rv : Dq B v d) (h : homK k kd = true) (hl : kd.length < sizeLine) :
    ∃ u, DPut2 H q y v (upd H q u) ∧ AtO B u (.dict (dPut kd k d)) := by
  rcases homK_or h with ⟨hk, hall⟩ | ⟨hk, hall⟩
  · obtain ⟨i, rfl⟩ := isIK_some hk
    have ey : y = .int i := ry.int
    subst ey
    cases o with
    | dK kv =>
      have hI : KI B kv kd := ha
      exact ⟨.dK (putK kv (Sum.inl i) v), .inl (DPut.k (k := Sum.inl i) ho (by rw [hI.length]; exact hl)), hI.put rv⟩
    | dT kv =>
      have hT : KT B kv kd := ha
      obtain ⟨rfl, rfl⟩ := hT.noI hall
      refine ⟨.dK (putK [] (Sum.inl i) v), .inr (.inr ⟨ho, ?_⟩), KI.put .nil rv⟩
      have := DPut.k (H := upd H q (.dK [])) (a := q) (kvs := []) (k := Sum.inl i) (v := v) upd_same (by decide)
      rw [upd_upd] at this
      exact this
    | _ => exact ha.elim
  · obtain ⟨is, rfl⟩ := isTK_some hk
    obtain ⟨b, xs, rfl, hb, hb', db⟩ := ry.tuple sb
    have exs := db.ints_inv
    subst exs
    cases o with
    | dT kv =>
      have hT : KT B kv kd := ha
      exact ⟨.dT (putK kv (is.map Sum.inl) v), .inl (DPut.t ho (by rw [kV_inls]; exact hb') (by rw [hT.length]; exact hl)), hT.put rv⟩
    | dK kv =>
      have hI : KI B kv kd := ha
      obtain ⟨rfl, rfl⟩ := hI.noT hall
      refine ⟨.dT (putK [] (is.map Sum.inl) v), .inr (.inl ⟨ho, ?_⟩), KT.put .nil rv⟩
      have := DPut.t (H := upd H q (.dT [])) (a := q) (b := b) (kvs := []) (k := is.map Sum.inl) (v := v) upd_same (by rw [upd_ne (ne_of hb' ho (fun z => nomatch z)), kV_inls]; exact hb') (by decide)
      rw [upd_upd] at this
      exact this
    | _ => exact ha.elim
theorem ss_put {i : Nat} (hi : i ∈ O) (hp : PS X s (sDPut2 (tVar i) (tV T O f) (tV T O g))) : SS X T O O s (sPut i f g) := psI hp fun D σ H ⟨B0, H0, B, G, o, r, hf, k⟩ => by
  obtain ⟨v, hv, h1⟩ := bind1 hf
  obtain ⟨kk, hk, h2⟩ := bind1 h1
  obtain ⟨d, hd, h3⟩ := bind1 h2
  split at h3
  · rename_i kd
    split at h3
    · rename_i hc
      cases h3
      refine ⟨B, G, v, r.c, hv, fun v1 B1 H1 x1 r1 => ?_⟩
      have r' := r.mono x1
      obtain ⟨q, ob, hs, hq, hb, ha⟩ := r'.c.own i _ hi hd
      refine ⟨.ref q, hs, B1, G, kk, r'.c, hk, fun v2 B2 H2 x2 r2 => ?_⟩
      have r'' := r'.mono x2
      have hq2 := x2.get hq ha.noTb
      have hb2 := (x2.ag q _ hq ha.noTb ha.noTp).trans hb
      have ha2 := ha.mono x2.b
      obtain ⟨u, hu, hau⟩ := put_dict x2.sub hq2 ha2 (r2.any x2.sub) (Dq.mono x2.b (r1.dq hc.2.2)) hc.1 hc.2.1
      exact ⟨q, _, rfl, hu, k B2 σ _ (r''.mutate hi hd hs hq2 hb2 ha2.pl hau)⟩
    · cases h3
  · cases h3
/-! ### defs -/
def spD (T : Tb) (m : List PyData → Option PyData) : Sp := fun vs H Q _ => ∃ B ds d, Sub B H ∧ LamX.Tabs T H ∧ RepVs B vs ds ∧ m ds = some d ∧ ∀ v B' H', Ext T B H B' H' → LamX.Tabs T H' → RepV B' v d → Q v H'
def cCall (m : List PyData → Option PyData) (fs : Fs) : Fx := fun G => (fs G).bind m
theorem ev_call {m : List PyData → Option PyData} {fs : Fs} {E : XK} (hp : PE X c (tCall (spD T m) [] E (tL T O fs))) : EV X T O c (cCall m fs) := peI hp fun σ H Q ⟨B, G, d, cc, hf, k⟩ => by
  obtain ⟨ds, hds, hm⟩ := bind1 hf
  refine ⟨B, G, ds, cc, hds, fun vs B1 H1 x1 r1 => ⟨B1, ds, d, x1.sub, x1.tb cc.tabs, by rw [List.append_nil]; exact r1, hm, fun v B2 H2 x2 _ r2 => k v B2 H2 (x1.trans x2) r2⟩⟩
theorem RepVs.length {B : Hp} : ∀ {vs : List V} {ds : List PyData}, RepVs B vs ds → vs.length = ds.length
  | _, _, .nil => rfl
  | _, _, .cons _ t => congrArg (· + 1) (RepVs.length t)
theorem RepVs.get' {B : Hp} : ∀ {vs : List V} {ds : List PyData} {i : Nat} {d : PyData}, RepVs B vs ds → ds[i]? = some d → ∃ v, vs[i]? = some v ∧ RepV B v d
  | _, _, _, _, .nil, e => by simp at e
  | _, _, 0, _, .cons r _, e => by simp at e; subst e; exact ⟨_, rfl, r⟩
  | _, _, i + 1, x, .cons _ t, e => by
    obtain ⟨u, h1, h2⟩ := RepVs.get' (i := i) (d := x) t (by simpa using e)
    exact ⟨u, by simpa using h1, h2⟩
/-- what a def's body makes of its arguments: n parameters, N slots -/
def mkM (n N : Nat) (F : Sx) (ds : List PyData) : Option PyData := if ds.length = n then (F (ds.map some ++ List.replicate (N - n) none)).bind fun o => match o with
  | .rt d => some d
  | .nx _ => some .none
  else none
theorem mkM_len {n N : Nat} {F : Sx} {ds : List PyData} {d : PyData} (h : mkM n N F ds = some d) : ds.length = n := by
  unfold mkM at h
  split at h
  · assumption
  · cases h
end
theorem core_start {T : Tb} {N : List Str} {B H : Hp} {vs : List V} {ds : List PyData} (sb : Sub B H) (t : LamX.Tabs T H) (r : RepVs B vs ds) : Core T [] B (ds.map some ++ List.replicate (N.length - ds.length) none) (L2.start N vs) H := by
  have hl := r.length
  refine ⟨sb, by unfold L2.start; simp [hl], fun i d _ hg => ?_, fun i d hi => (nomatch hi), fun i j d e a hi => (nomatch hi), t⟩
  unfold gt at hg
  by_cases h : i < ds.length
  · rw [List.getElem?_append_left (by simpa using h), List.getElem?_map] at hg
    cases hd : ds[i]? with
    | none => rw [hd] at hg; cases hg
    | some d' =>
      rw [hd] at hg
      cases hg
      obtain ⟨v, hv, rv⟩ := r.get' hd
      refine ⟨v, ?_, rv⟩
      unfold L2.start
      rw [List.getElem?_append_left (by simpa [hl] using h), List.getElem?_map, hv]
      rfl
  · exfalso
    rw [List.getElem?_append_right (by simpa using Nat.le_of_not_lt h), List.getElem?_replicate] at hg
    split at hg <;> cases hg
theorem fn_ok {P : Program} {w : World} {K : PySem.W.Frag} {mg : Str → Option Value} {base : Heap} {T : Tb} {x qual : Str} {stm : Stmt} {f : Addr} {fd : FuncData} {N ps : List Str} {k : Nat} {F : Sx} (FF : Fun K x qual stm f fd) (S : FnScope N ps (defScope stm))
    (hb : ∀ (cdv : Value) (A : Around) (outer : List PySem.Env) (s : Shared) (H : Hp) (E : XK), Room k (A.deeper (PyProof.Rows.envOfC qual (defScope stm) s.heap.objs.size f cdv)) → ∃ O', SSs (cxOf CX0 P w K mg base N qual (defScope stm) f cdv A outer s H E).nox T [] O' (defBody stm) F) :
    FnOk P w K mg base CX0 (k + 1) f fd ps (spD T (mkM ps.length N.length F)) := by
  refine FF.ok S (fun vs H Q E h => ?_) (fun cdv A outer s H vs Q E hr h => ?_)
  · obtain ⟨B, ds, d, _, _, r, hm, _⟩ := h
    rw [r.length, mkM_len hm]
  · obtain ⟨B, ds, d, sb, tb, r, hm, q⟩ := h
    obtain ⟨O', hd⟩ := hb cdv A outer s H E hr
    have hlen := mkM_len hm
    unfold mkM at hm
    rw [if_pos hlen] at hm
    obtain ⟨o, ho, h2⟩ := bind1 hm
    refine ⟨_, hd, B, H, B, _, o, ⟨core_start (N := N) sb tb r, Ext.refl sb, fun i d a hi => (nomatch hi)⟩, by rw [hlen]; exact ho, ?_⟩
    cases o with
    | rt d' =>
      cases h2
      exact q
    | nx G' =>
      cases h2
      exact fun B' σ' H' s' => q .non B' H' s'.x s'.c.tabs (.inl .non)
end Rk

set_option Elab.async false
set_option linter.all false
set_option maxRecDepth 100000
set_option maxHeartbeats 4000000
namespace Rk
open PySem PySem.Spec L2
/-! ### sorted -/
def sortD (ds : List PyData) : List PyData := ds.mergeSort (PySem.W.dataLe false id)
def nonTup : PyData → Bool
  | .none => false
  | .tuple _ => false
  | _ => true
def isTup1 : PyData → Bool
  | .tuple (_ :: _) => true
  | _ => false
def okSort (ds : List PyData) : Bool := decide (ds.length ≤ sizeLine) && (ds.all fun d => ds.all fun e => PySem.W.alike d e) && (ds.all isTup1 || ds.all nonTup) && ds.all fun d => decide (d.depth ≤ 64)
theorem okSort_s {ds : List PyData} (h : okSort ds = true) : ds.length ≤ sizeLine ∧ PySem.W.AllAlike ds ∧ PySem.W.Sortable ds ∧ ∀ d ∈ ds, d.depth ≤ 64 := by
  unfold okSort at h
  simp only [Bool.and_eq_true, Bool.or_eq_true, List.all_eq_true, decide_eq_true_eq] at h
  obtain ⟨⟨⟨h1, h2⟩, h3⟩, h4⟩ := h
  refine ⟨h1, fun d hd e he => h2 d hd e he, ?_, h4⟩
  rcases h3 with h3 | h3
  · refine .inl fun d hd => ?_
    have := h3 d hd
    cases d with
    | tuple xs =>
      cases xs with
      | nil => cases this
      | cons x r => exact ⟨x, r, rfl⟩
    | _ => cases this
  · refine .inr fun d hd => ?_
    have := h3 d hd
    cases d with
    | none => cases this
    | tuple _ => cases this
    | _ => exact ⟨(fun z => nomatch z), fun xs z => nomatch z⟩
theorem each_zip {R : Value → V × PyData → Prop} : ∀ {us : List Value} {vs : List V} {ds : List PyData}, Vals vs us → vs.length = ds.length → (∀ v u d, (v, d) ∈ vs.zip ds → RelV v u → R u (v, d)) → PySem.W.EachIs R us (vs.zip ds)
  | _, _, [], .nil, _, _ => .nil
  | _, _, _ :: _, .nil, h, _ => by cases h
  | _, _, [], .cons _ _, h, _ => by cases h
  | _, _, d :: ds, .cons r t, h, k => .cons (k _ _ _ (by simp) r) (each_zip t (by simpa using h) fun v u e hm hr => k v u e (List.mem_cons_of_mem _ hm) hr)
theorem each_out {B : Hp} : ∀ {us : List Value} {bs : List (V × PyData)}, PySem.W.EachIs (fun u b => RelV b.1 u ∧ Dq B b.1 b.2) us bs → Vals (bs.map (·.1)) us ∧ DqAll B (bs.map (·.1)) (bs.map (·.2))
  | _, _, .nil => ⟨.nil, .nil⟩
  | _, _, .cons h t => ⟨.cons h.1 (each_out t).1, .cons h.2 (each_out t).2⟩
theorem dq_zip {B : Hp} : ∀ {vs : List V} {ds : List PyData}, DqAll B vs ds → ∀ v d, (v, d) ∈ vs.zip ds → Dq B v d
  | _, _, .nil, _, _, h => by cases h
  | _, _, .cons h t, v, d, hm => by
    rw [List.zip_cons_cons] at hm
    rcases List.mem_cons.mp hm with e | hm
    · cases e; exact h
    · exact dq_zip t v d hm
theorem zip_snd {vs : List V} {ds : List PyData} (h : vs.length = ds.length) : (vs.zip ds).map (·.2) = ds := List.map_snd_zip (by omega)
theorem sort_snd (bs : List (V × PyData)) : (bs.mergeSort (PySem.W.dataLe false (·.2))).map (·.2) = sortD (bs.map (·.2)) := by
  unfold sortD
  rw [List.map_mergeSort]
  intro a _ b _
  rfl
section
variable {X : Cx} {pins : List (Addr × Obj)} {σ : L2.St} {B H : Hp} {s : Shared} {T : Tb}
theorem sorted_by (hu : X.A.units + 200 < cLine) {u : Value} {vs : List V} {ds : List PyData} {Q : VK} (I : Inv X pins σ H s) (sb : Sub B H) (da : DqAll B vs ds) (ok : okSort ds = true)
    (hcol : ∀ (R : List Value → Shared → Prop), (∀ us h' tk, (∀ b o, s.heap.get? b = some o → h'.get? b = some o) → Vals vs us → R us { s with heap := h', toks := tk }) → wpAny (model X.prog X.w) X.A.in1 (collect u) R X.xe s)
    (q : ∀ p ws, H p = none → DqAll B ws (sortD ds) → (∀ w ∈ ws, w ∈ vs) → Q (.ref p) (upd H p (.lst ws))) : wpAny (model X.prog X.w) X.A (call (.builtin "sorted") [u]) (EP X pins σ Q) X.xe s := by
  obtain ⟨hlen, hal, hso, hdep⟩ := okSort_s ok
  refine Calls.call_function_entry PyProof.Rows.kind_sorted PyProof.Rows.plain_sorted PyProof.Rows.entry_sorted (PyProof.Rows.args_sorted1 _) ?_
  unfold Builtin.«sorted»
  refine wpAny_bind (m := checkCount "sorted" 1 1 _) (wpAny_pure ?_)
  refine wpAny_bind (hcol _ fun us h' tk hk rv => ?_)
  have I1 : Inv X pins σ H { s with heap := h', toks := tk } := I.kept hk
  have hul : us.length = ds.length := rv.length.symm.trans da.length
  refine wpAny_bind (wpAny_newList ?_ (by rw [hul]; exact hlen))
  have hoL : (h'.push (PyProof.Rows.seqObj "list" us.toArray 0)).get? h'.objs.size = some (PyProof.Rows.seqObj "list" us.toArray 0) := Heap.get?_push_size _ rfl
  show wpAny _ _ _ _ _ { s with heap := h'.push (PyProof.Rows.seqObj "list" us.toArray 0), toks := tk }
  have e2 : PySem.W.EachIs (fun u b => RelV b.1 u ∧ Dq B b.1 b.2) us (vs.zip ds) := each_zip rv da.length fun v u d hm hr => ⟨hr, dq_zip da v d hm⟩
  have keep : ∀ b o, h'.get? b = some o → (PySem.W.sortingHeap (h'.push (PyProof.Rows.seqObj "list" us.toArray 0)) h'.objs.size us).get? b = some o := fun b o e =>
    PySem.W.sortingHeap_old (Nat.ne_of_lt (Heap.lt_size e)) (Heap.get?_push_of_some _ e)
  have er : PySem.W.EachIs (fun v (b : V × PyData) => ∃ as, Reads (PySem.W.sortingHeap (h'.push (PyProof.Rows.seqObj "list" us.toArray 0)) h'.objs.size us) v b.2 as) us (vs.zip ds) := each_zip rv da.length fun v u d hm hr => by
    obtain ⟨as, hrd⟩ := Dp.reads I1 d v u (Dq.mono sb.ex (dq_zip da v d hm)).dp hr
    exact ⟨as, PyProof.Rows.Reads.keeps keep hrd⟩
  have hal' : PySem.W.AllAlike ((vs.zip ds).map (·.2)) := by rw [zip_snd da.length]; exact hal
  have hso' : PySem.W.Sortable ((vs.zip ds).map (·.2)) := by rw [zip_snd da.length]; exact hso
  refine wpAny_bind (wpAny_holding (wpAny_call_entry PyProof.Rows.slot_list_sort ⟨_, hoL, rfl⟩ PyProof.Rows.entry_list_sort
    (PySem.W.list_sort_vals (κ := PySem.W.dataKind (PySem.W.sortingHeap (h'.push (PyProof.Rows.seqObj "list" us.toArray 0)) h'.objs.size us) ((vs.zip ds).map (·.2))) (s := { s with heap := h'.push (PyProof.Rows.seqObj "list" us.toArray 0), toks := tk }) hoL
      (PySem.W.SortsAt.data (s := { s with heap := PySem.W.sortingHeap (h'.push (PyProof.Rows.seqObj "list" us.toArray 0)) h'.objs.size us, toks := tk }) (PySem.W.each_map (R := fun v d => ∃ as, Reads (PySem.W.sortingHeap (h'.push (PyProof.Rows.seqObj "list" us.toArray 0)) h'.objs.size us) v d as) (fun b : V × PyData => b.2) er) hal' hso' ?_) (by rw [hul]; exact hlen) ⟨_, rfl, ?_⟩)
    (PyProof.Rows.args_list_sort _)))
  · intro d hd
    rw [zip_snd da.length] at hd
    have := hdep d hd
    show X.A.units + 1 + 1 + d.depth < cLine
    omega
  · have eo := PySem.W.sortVals_data (h' := PySem.W.sortingHeap (h'.push (PyProof.Rows.seqObj "list" us.toArray 0)) h'.objs.size us) (enc := fun b : V × PyData => b.2) false e2 er hal'
    obtain ⟨o1, o2⟩ := each_out eo
    have o3 : DqAll B (((vs.zip ds).mergeSort (PySem.W.dataLe false (·.2))).map (·.1)) (sortD ds) := by
      have o2' := o2
      rw [sort_snd, zip_snd da.length] at o2'
      exact o2'
    obtain ⟨ep, he'⟩ := PyProof.Rows.sortedHeap_at (vs := us) (out := (PySem.W.sortVals (PySem.W.dataKind (PySem.W.sortingHeap (h'.push (PyProof.Rows.seqObj "list" us.toArray 0)) h'.objs.size us) ((vs.zip ds).map (·.2))) false us us).toArray) hoL
    have hl2 : (((vs.zip ds).mergeSort (PySem.W.dataLe false (·.2))).map (·.1)).length ≤ sizeLine := by
      rw [o3.length]
      unfold sortD
      rw [List.length_mergeSort]
      exact hlen
    refine wpAny_pure ⟨_, rfl, .ref h'.objs.size, upd H h'.objs.size (.lst (((vs.zip ds).mergeSort (PySem.W.dataLe false (·.2))).map (·.1))), I1.laid (t' := tk) (fun b u e => ?_) (Nat.le_refl _) ?_, rfl, q _ _ (I1.hok.fresh (Nat.le_refl _)) o3 ?_⟩
    · exact PyProof.Rows.sortedHeap_old (Nat.ne_of_lt (Heap.lt_size e)) (Nat.lt_of_lt_of_le (Heap.lt_size e) (by rw [PyProof.Rows.size_push']; exact Nat.le_succ _)) |>.trans (Heap.get?_push_of_some _ e)
    · exact ⟨hl2, _, ep, o1, he'⟩
    · intro w hw
      obtain ⟨b, hb, rfl⟩ := List.mem_map.mp hw
      have := (List.mergeSort_perm _ _).mem_iff.mp hb
      exact (List.of_mem_zip this).1
/-! #### what is sorted -/
def pSorted : P1 := fun d => match d with
  | .list ds => if okSort ds = true then some (.list (sortD ds)) else none
  | .tuple ds => if okSort ds = true then some (.list (sortD ds)) else none
  | .dict kd => if okSort (kd.map (·.1)) = true ∧ ((kd.all fun p => isIK p.1) || (kd.all fun p => isTK p.1)) = true then some (.list (sortD (kd.map (·.1)))) else none
  | _ => none
theorem KI.keys {kv : List (Key × V)} {kd : List (PyData × PyData)} (h : KI B kv kd) : ∃ is : List Int, kv.map (·.1) = is.map Sum.inl ∧ kd.map (·.1) = is.map PyData.int := by
  induction h with
  | nil => exact ⟨[], rfl, rfl⟩
  | @cons i v d kv kd _ _ ih =>
    obtain ⟨is, h1, h2⟩ := ih
    exact ⟨i :: is, by rw [List.map_cons, h1]; rfl, by rw [List.map_cons, h2]; rfl⟩
theorem KT.keys {kv : List (List Key × V)} {kd : List (PyData × PyData)} (h : KT B kv kd) : ∃ ks : List (List Int), kv.map (·.1) = ks.map (·.map Sum.inl) ∧ kd.map (·.1) = ks.map fun is => PyData.tuple (is.map .int) := by
  induction h with
  | nil => exact ⟨[], rfl, rfl⟩
  | @cons is v d kv kd _ _ ih =>
    obtain ⟨ks, h1, h2⟩ := ih
    exact ⟨is :: ks, by rw [List.map_cons, h1]; rfl, by rw [List.map_cons, h2]; rfl⟩
/-- the tuples of ints that H knows are seen -/
noncomputable def expose (B H : Hp) : Hp := fun a => by
  classical
  exact if ∃ is : List Int, H a = some (.tup (is.map V.int)) then H a else B a
theorem expose_at {a : Addr} {is : List Int} (h : H a = some (.tup (is.map V.int))) : expose B H a = some (.tup (is.map V.int)) := by
  unfold expose
  rw [if_pos ⟨is, h⟩, h]
theorem expose_ext (sb : Sub B H) : Ext T B H (expose B H) H := by
  refine ⟨fun a o q => ?_, fun a o q => ?_, LamX.ExtN.refl H, fun _ h => h, fun a o q _ n => ?_, fun t => t⟩
  · unfold expose at q
    split at q
    · rename_i h
      obtain ⟨is, h⟩ := h
      refine ⟨q, ?_⟩
      rw [h] at q
      cases q
      exact noTb_tup _
    · exact sb a o q
  · unfold expose
    split
    · exact (sb a o q).1
    · exact q
  · unfold expose
    rw [if_neg]
    rintro ⟨is, h⟩
    rw [h] at q
    cases q
    exact n _ rfl
theorem vals_keys {P : Program} {w : World} : ∀ {is : List Int} {acc : List Value}, acc.length = is.length → (∀ (j : Nat) v, acc[j]? = some v → ∃ k : Key, (is.map Sum.inl : List Key)[j]? = some k ∧ keyIs k v = true) → Vals (is.map V.int) acc
  | [], [], _, _ => .nil
  | [], _ :: _, h, _ => by cases h
  | _ :: _, [], h, _ => by cases h
  | i :: is, v :: acc, h, k => by
    obtain ⟨k0, h1, h2⟩ := k 0 v rfl
    cases h1
    rcases keyIs_shape h2 with ⟨j, t, ek, ev⟩ | ⟨z, t, ek, ev⟩
    · cases ek
      exact .cons ⟨t, ev⟩ (vals_keys (P := P) (w := w) (by simpa using h) fun j v hj => by
        have := k (j + 1) v (by simpa using hj)
        simpa using this)
    · cases ek
theorem cr_sortD (hu : X.A.units + 200 < cLine) (hc : X.calm = true) : CallR X (.builtin "sorted") (rCN T pSorted) := by
  intro pins s σ H xs us Q I rr ⟨B, x, d, r, ex, sb, r1, hp, k⟩
  subst ex
  obtain ⟨u, rfl, rx⟩ := vals1 rr
  unfold pSorted at hp
  split at hp
  · split at hp
    · rename_i ds ok
      cases hp
      obtain ⟨a, xs, rfl, hr, da⟩ := r1.list sb
      cases rx
      obtain ⟨its, rv, ⟨o, n, ho, hcl, hdn, hdt⟩, hz⟩ := I.list (.inl hr)
      refine sorted_by hu I sb da ok (fun R hR => ?_) fun p ws hp dw _ => k p (.lst ws) B _ (Ext.new0 sb hp) hp (sb.none hp) upd_same dw
      refine wpAny_collect_seq a (.inl rfl) ho hcl hdt (fun h' hk => ?_) (by rw [List.size_toArray, ← rv.length]; exact hz)
      exact hR _ h' s.toks hk (by simpa using rv)
    · cases hp
  · split at hp
    · rename_i ds ok
      cases hp
      obtain ⟨a, xs, rfl, _, hr, da⟩ := r1.tuple sb
      cases rx
      obtain ⟨its, rv, ⟨o, ho, hcl, n, hdt⟩, hz⟩ := I.tuple (SqT.of hr)
      refine sorted_by hu I sb da ok (fun R hR => ?_) fun p ws hp dw _ => k p (.lst ws) B _ (Ext.new0 sb hp) hp (sb.none hp) upd_same dw
      refine wpAny_collect_seq a (.inr rfl) ho hcl hdt (fun h' hk => ?_) (by rw [List.size_toArray, ← rv.length]; exact hz)
      exact hR _ h' s.toks hk (by simpa using rv)
    · cases hp
  · split at hp
    · rename_i kd ok
      cases hp
      obtain ⟨a, rfl, h⟩ := r1.dict
      cases rx
      rcases h with ⟨kv, hH, hI⟩ | ⟨kv, hH, hT⟩
      · obtain ⟨is, h1, h2⟩ := hI.keys
        obtain ⟨z, lo, vs, rel, dd⟩ := dk_of I.hok hH
        obtain ⟨ep, hat⟩ := dd.dictAt
        have hkeys : vs.map (·.1) = is.map Sum.inl := rel.keys.symm.trans h1
        have hl : vs.length = is.length := by
          have e := congrArg List.length hkeys
          rw [List.length_map, List.length_map] at e
          exact e
        have ok1 := ok.1
        rw [h2] at ok1
        refine sorted_by hu I sb (DqAll.ints is) ok1 (fun R hR => ?_) fun p ws hp dw _ => k p (.lst ws) B _ (Ext.new0 sb hp) hp (sb.none hp) upd_same (by rw [h2]; exact dw)
        refine PySem.W.kdu_collect (A := X.A.in1) (PySem.W.kdl_dict (knd := mixKind X.prog X.w) (kvs := vs) (ep := ep) lo) (I.ok.hd hc) hat (by rw [← rel.length]; exact z) fun h' tk acc hk hacc => ?_
        refine hR _ h' tk hk (vals_keys (P := X.prog) (w := X.w) (by rw [Array.length_toList, hacc.1, hl]) fun j v e => ?_)
        obtain ⟨kk, x, e1, e2⟩ := hacc.2 j v (by rw [← Array.getElem?_toList]; exact e)
        refine ⟨kk, ?_, e2⟩
        rw [← hkeys, List.getElem?_map, e1]
        rfl
      · obtain ⟨ks, h1, h2⟩ := hT.keys
        have hd : Rd H a (.dT kv) := .inl hH
        obtain ⟨z, hs, zs, pr, o, es, ep, ho, hx, hdt, he, hn⟩ := (show ObjOk X.prog X.w H s.heap a (.dT kv) from hd.ok I.hok)
        have l1 : es.size = zs.length := size_of_entries he
        have l2 : kv.length = zs.length := Paired.length pr
        have ok1 := ok.1
        rw [h2] at ok1
        have e0 : Ext T B H (expose B H) H := expose_ext sb
        have dz : DqAll (expose B H) ((zs.map fun x => x.2.1).map V.ref) (ks.map fun is => PyData.tuple (is.map .int)) := by
          have hk := isKeys_of pr
          unfold IsKeys at hk
          generalize (zs.map fun x => x.2.1) = bs at hk
          clear pr z l2 hd hH h2 ok1 hT
          induction hk generalizing ks with
          | nil =>
            cases ks with
            | nil => exact .nil
            | cons _ _ => cases h1
          | @cons p b ps bs h _ ih =>
            cases ks with
            | nil => cases h1
            | cons is ks =>
              rw [List.map_cons, List.map_cons] at h1
              injection h1 with e1 e2
              rw [e1, kV_inls] at h
              exact .cons (.tup (expose_at h) (DqAll.ints is)) (ih ks e2)
        refine sorted_by hu I e0.sub dz ok1 (fun R hR => ?_) fun p ws hp dw _ => k p (.lst ws) (expose B H) _ (e0.trans (Ext.new0 e0.sub hp)) hp (e0.sub.none hp) upd_same (by rw [h2]; exact dw)
        refine PySem.W.kdu_collect (A := X.A.in1) (kdl_raw hs hx hdt) (I.ok.hd hc) ho (by omega) fun h' tk acc' hk it => ?_
        have ea : acc'.toList = zs.map fun x => Value.ref x.2.1 := by
          have hl : acc'.toList.length = zs.length := by rw [Array.length_toList, it.1]; exact l1
          apply List.ext_getElem?
          intro j
          rw [List.getElem?_map]
          cases hj : acc'.toList[j]? with
          | none =>
            have h1 := List.getElem?_eq_none_iff.mp hj
            rw [List.getElem?_eq_none (by omega)]
            rfl
          | some v =>
            obtain ⟨en, hen, hv⟩ := it.2 j v (by rw [← Array.getElem?_toList]; exact hj)
            have qe := entry_at he j
            rw [hen] at qe
            cases hb : zs[j]? with
            | none =>
              rw [hb] at qe
              exact nomatch (show some en = none from qe)
            | some b =>
              rw [hb] at qe
              have e2 : en = entryOfKey (tupleKind (mixKind X.prog X.w)) b := Option.some.inj qe
              rw [hv, e2]
              rfl
        have eb : acc'.toList = (zs.map fun x => x.2.1).map Value.ref := by rw [ea, List.map_map]; rfl
        exact hR _ h' tk hk (by rw [eb]; exact vals_refs _)
    · cases hp
  · cases hp
end
end Rk

set_option Elab.async false
set_option linter.all false
set_option maxRecDepth 100000
set_option maxHeartbeats 4000000
namespace Rk
open PySem PySem.Spec L2
section
variable {X : Cx} {T : Tb} {O : List Nat} {e a b c tg : Expr} {es : List Expr} {f g h : Fx} {pos p : Pos}
/-! ### is -/
def isNonD : PyData → Bool
  | .none => true
  | _ => false
def pIs : P2 := fun x y => match y with
  | .none => some (.bool (isNonD x))
  | .bool k => match x with
    | .bool j => some (.bool (j == k))
    | _ => none
  | _ => none
def pIsNot : P2 := fun x y => match y with
  | .none => some (.bool (!isNonD x))
  | .bool k => match x with
    | .bool j => some (.bool (j != k))
    | _ => none
  | _ => none
theorem RepA.isNon {B H : Hp} {x : V} {d : PyData} (h : RepA B H x d) : decide (x = .non) = isNonD d := by
  rcases h with h | ⟨a, o, rfl, _, h⟩
  · cases h <;> rfl
  · cases d with
    | none => cases o <;> exact h.elim
    | _ => rfl
theorem od_is : OpR X (compareOp .Is) (rD T pIs) := by
  intro pins s σ H x y v u Q I rx ry ⟨B, d, e, r, sb, r1, r2, hp, k⟩
  unfold pIs at hp
  split at hp
  · cases hp
    have ey := r2.none
    subst ey
    exact op_isN pins s σ H x _ v u Q I rx ry ⟨rfl, k _ B H (Ext.refl sb) (by rw [r1.isNon]; exact .inl (.bl _))⟩
  · split at hp
    · cases hp
      have ex := r1.bool
      have ey := r2.bool
      subst ex ey
      cases rx
      cases ry
      exact PyProof.Rows.is_bool ⟨.bl _, H, I, rfl, k _ B H (Ext.refl sb) (.inl (.bl _))⟩
    · cases hp
  · cases hp
theorem od_isnot : OpR X (compareOp .IsNot) (rD T pIsNot) := by
  intro pins s σ H x y v u Q I rx ry ⟨B, d, e, r, sb, r1, r2, hp, k⟩
  unfold pIsNot at hp
  split at hp
  · cases hp
    have ey := r2.none
    subst ey
    exact op_notN pins s σ H x _ v u Q I rx ry ⟨rfl, k _ B H (Ext.refl sb) (by rw [r1.isNon]; exact .inl (.bl _))⟩
  · split at hp
    · cases hp
      have ex := r1.bool
      have ey := r2.bool
      subst ex ey
      cases rx
      cases ry
      exact PyProof.Rows.isnot_bool ⟨.bl _, H, I, rfl, k _ B H (Ext.refl sb) (.inl (.bl _))⟩
    · cases hp
  · cases hp
/-! ### isinstance -/
def tyN : PyData → String
  | .none => "NoneType"
  | .bool _ => "bool"
  | .int _ => "int"
  | .str _ => "str"
  | .list _ => "list"
  | .tuple _ => "tuple"
  | .dict _ => "dict"
def isiS (N t : String) : Bool := decide (t = N) || (decide (N = "int") && decide (t = "bool"))
def isiD (N : String) (d : PyData) : Bool := isiS N (tyN d)
def pIsi (N : String) : P1 := fun d => some (.bool (isiD N d))
theorem RepA.tyX {K : PySem.W.Frag} {B H : Hp} {x : V} {d : PyData} (sb : Sub B H) (h : RepA B H x d) : TyX K H x (.type (tyN d)) := by
  cases d with
  | none => rw [h.none]; exact .base .non
  | bool b => rw [h.bool]; exact .base (.bl b)
  | int b => rw [h.int]; exact .base (.int b)
  | str b => rw [h.str]; exact .base (.str b)
  | list ds =>
    obtain ⟨a, xs, rfl, hr, _⟩ := h.list sb
    rcases hr with hr | ⟨o, hr⟩
    · exact .base (.lst hr)
    · exact .base (.frz hr)
  | tuple ds =>
    obtain ⟨a, xs, rfl, _, hr, _⟩ := h.tuple sb
    exact .base (.tup hr)
  | dict kd =>
    obtain ⟨a, rfl, hr⟩ := h.dict
    rcases hr with ⟨kv, hr, _⟩ | ⟨kv, hr, _⟩
    · exact .base (.dK hr)
    · exact .base (.dT hr)
theorem ev_isi {N : String} (hN : N = "tuple" ∨ N = "int" ∨ N = "bool") (hp : PE X c (tCB (rIsi X.K) (tCons (tA T O f) (tCons (tC (.ty N)) tNil)))) : EV X T O c (c1 (pIsi N) f) := peI hp fun σ H Q ⟨B, G, d, cc, hf, k⟩ => by
  obtain ⟨y, hy, h2⟩ := bind1 hf
  cases h2
  refine ⟨B, G, y, cc, hy, fun v B1 H1 x1 r1 => ⟨v, .ty N, .type (tyN y), .type N, isiD N y, rfl, .ty N, r1.tyX x1.sub, ?_, k _ B1 H1 x1 (.inl (.bl _))⟩⟩
  refine kit_ty ?_
  rcases hN with rfl | rfl | rfl <;> cases y <;> (simp only [isiD, tyN]; decide +kernel)
/-! ### max, min of two -/
def pMax2 : P2 := pI (fun _ _ => true) fun i j => if j > i then j else i
def pMin2 : P2 := pI (fun _ _ => true) fun i j => if j < i then j else i
theorem ev_max2 (hp : PE X c (tCB (fun xs H Q => ∃ i j, xs = [.int i, .int j] ∧ Q (.int (if j > i then j else i)) H) (tCons (tA T O f) (tCons (tA T O g) tNil)))) : EV X T O c (c2 pMax2 f g) := peI hp fun σ H Q ⟨B, G, d, cc, hf, k⟩ => by
  obtain ⟨x, y, hx, hy, h2⟩ := bind2 hf
  obtain ⟨i, j, rfl, rfl, _, rfl⟩ := pI_some h2
  exact ⟨B, G, _, cc, hx, fun v B1 H1 x1 r1 => ⟨B1, G, _, cc.mono x1, hy, fun v2 B2 H2 x2 r2 => ⟨i, j, by rw [r1.int, r2.int], k _ B2 H2 (x1.trans x2) (.inl (.int _))⟩⟩⟩
theorem ev_min2 (hp : PE X c (tCB (fun xs H Q => ∃ i j, xs = [.int i, .int j] ∧ Q (.int (if j < i then j else i)) H) (tCons (tA T O f) (tCons (tA T O g) tNil)))) : EV X T O c (c2 pMin2 f g) := peI hp fun σ H Q ⟨B, G, d, cc, hf, k⟩ => by
  obtain ⟨x, y, hx, hy, h2⟩ := bind2 hf
  obtain ⟨i, j, rfl, rfl, _, rfl⟩ := pI_some h2
  exact ⟨B, G, _, cc, hx, fun v B1 H1 x1 r1 => ⟨B1, G, _, cc.mono x1, hy, fun v2 B2 H2 x2 r2 => ⟨i, j, by rw [r1.int, r2.int], k _ B2 H2 (x1.trans x2) (.inl (.int _))⟩⟩⟩
/-! ### tuple(reversed(a list)) -/
def pTupRev : P1
  | .list ds => some (.tuple ds.reverse)
  | _ => none
theorem ev_tupRev (hp : PE X c (RT.tTupRev X.K (tA T O f))) : EV X T O c (c1 pTupRev f) := peI hp fun σ H Q ⟨B, G, d, cc, hf, k⟩ => by
  obtain ⟨x, hx, h2⟩ := bind1 hf
  unfold pTupRev at h2
  split at h2
  · cases h2
    refine ⟨B, G, _, cc, hx, fun v B1 H1 x1 r1 => ?_⟩
    obtain ⟨a, xs, rfl, hr, da⟩ := r1.list x1.sub
    refine ⟨a, xs, rfl, .inl hr, fun p hp => ?_⟩
    have e2 : Ext T B1 H1 (upd B1 p (.tup xs.reverse)) (upd H1 p (.tup xs.reverse)) := Ext.new x1.sub hp (noTb_tup _)
    exact k _ _ _ (x1.trans e2) (.inl (.tup upd_same (DqAll.mono e2.b da.reverse)))
  · cases h2
/-! ### len(set(a tuple of unlike ints)) -/
def pLenSet : P1
  | .tuple ds => (toInts ds).bind fun ns => if ns.Nodup ∧ ns.length ≤ 1000 then some (.int ns.length) else none
  | _ => none
theorem nodup_sub {α : Type} [DecidableEq α] : ∀ {l m : List α}, l.Nodup → (∀ x ∈ l, x ∈ m) → l.length ≤ m.length
  | [], _, _, _ => Nat.zero_le _
  | x :: l, m, hn, hs => by
    rw [List.nodup_cons] at hn
    have hx : x ∈ m := hs x (by simp)
    have ih := nodup_sub (m := m.erase x) hn.2 fun y hy => by
      have hne : y ≠ x := fun z => hn.1 (z ▸ hy)
      exact (List.mem_erase_of_ne hne).mpr (hs y (List.mem_cons_of_mem _ hy))
    rw [List.length_erase_of_mem hx] at ih
    have : 0 < m.length := List.length_pos_of_mem hx
    simp only [List.length_cons]
    omega
theorem pe_lenSetTup {te : TE} {a : Expr} {p p2 q pos : Pos} (hg : Gl X "len") (hm : X.mg "len" = none) (hg2 : Gl X "set") (hm2 : X.mg "set" = none) (ha : PE X a te) (hc : X.calm = true := by rfl)
    (na : starEach [a] X.env = (false, eval a X.env) :: starEach [] X.env := by rfl) : PE X (.Call (.Name "len" p) [.Call (.Name "set" p2) [a] [] q] [] pos)
      (fun σ H Q => te σ H fun x H1 => ∃ (l : Addr) (ns : List Int), x = .ref l ∧ SqT X.K H1 l (ns.map V.int) ∧ ns.length ≤ 1000 ∧ ∀ c : Nat, (ns.Nodup → c = ns.length) → Q (.int c) H1) := by
  refine ⟨fun pins s σ H Q I h => ?_⟩
  refine PyProof.Rows.Call_ (ld_blt I hg hm boot_len ?_)
  refine PyProof.Rows.callWith_builtin1 (PyProof.Rows.args_cons ?_ rfl) rfl rfl
  refine PyProof.Rows.Call_ (ld_blt I hg2 hm2 PyProof.Rows.boot_set ?_)
  refine PyProof.Rows.callWith_type1 (PyProof.Rows.args_cons (thn (ha.run pins s σ H _ I h) fun v s1 ⟨x, H1, I1, r1, q1⟩ => PyProof.Rows.args_nil ?_) na) na rfl
  obtain ⟨l, ns, rfl, hq, hl, q1⟩ := q1
  cases r1
  obtain ⟨its, r, pl, hz⟩ := I1.tuple hq
  refine call_set_tupI ns (I1.ok.hd hc) (show s1.heap.IsTuple l its.toArray from pl) (by simpa using RZ.intsAre_vals r) (by unfold scanBound; omega) fun h' tk c hS hcn hk => ?_
  refine PyProof.Rows.args_nil ?_
  obtain ⟨o, es, ep, t, ho, hex, hd, _, hnd, hmem, hsc, hf, hn, _⟩ := hS
  have I2 : Inv X pins σ H1 { s1 with heap := h', toks := tk } := I1.kept fun b o e => hk b o e
  refine call_len_set ho hex hd hf (by unfold scanBound at hsc; omega) ⟨.int es.size, H1, I2.tok _, ⟨_, rfl⟩, q1 _ fun h => ?_⟩
  have hl1 : es.size = (es.toList.map keyOf).length := by rw [List.length_map, Array.length_toList]
  have h1 := nodup_sub hnd (m := ns) fun x hx => of_decide_eq_true ((hmem x).mpr hx)
  have h2 := nodup_sub h (m := es.toList.map keyOf) fun x hx => (hmem x).mp (decide_eq_true hx)
  omega
theorem ev_lenSet (hp : PE X c (fun σ H Q => tA T O f σ H fun x H1 => ∃ (l : Addr) (ns : List Int), x = .ref l ∧ SqT X.K H1 l (ns.map V.int) ∧ ns.length ≤ 1000 ∧ ∀ c : Nat, (ns.Nodup → c = ns.length) → Q (.int c) H1)) : EV X T O c (c1 pLenSet f) := peI hp fun σ H Q ⟨B, G, d, cc, hf, k⟩ => by
  obtain ⟨x, hx, h2⟩ := bind1 hf
  unfold pLenSet at h2
  split at h2
  · obtain ⟨ns, hns, h3⟩ := bind1 h2
    split at h3
    · rename_i hc
      cases h3
      refine ⟨B, G, _, cc, hx, fun v B1 H1 x1 r1 => ?_⟩
      obtain ⟨a, xs, rfl, _, hr, da⟩ := r1.tuple x1.sub
      rw [toInts_some hns] at da
      rw [da.ints_inv] at hr
      exact ⟨a, ns, rfl, SqT.of hr, hc.2, fun c hcl => k _ B1 H1 x1 (by rw [hcl hc.1]; exact .inl (.int _))⟩
    · cases h3
  · cases h2
/-! ### enumerate(a list) in a comprehension -/
def iEnu (f : Fx) : Fs := fun G => (f G).bind fun d => match d with
  | .list ds => some (enumD 0 ds)
  | _ => none
theorem it_enum {elts : List Expr} {kk : Nat} {tpos : Pos} (hg : Gl X "enumerate") (hm : X.mg "enumerate" = none) (ha : EA X T O e f) (hs : starEach [e] X.env = [(false, eval e X.env)] := by rfl) :
    PI X (.Tuple elts kk tpos) (.Call (.Name "enumerate" p) [e] [] pos) (tIt T O (iEnu f)) := piI (pi_enum hg hm (pa_cons ha pa_nil hs) hs) fun σ H R ⟨B, G, ds, cc, hf, k⟩ => by
  obtain ⟨d, hd, h2⟩ := bind1 hf
  cases d with
  | list es =>
    cases h2
    refine ⟨B, G, _, cc, hd, fun v B1 H1 x1 r1 => ?_⟩
    obtain ⟨a, xs, rfl, hr, da⟩ := r1.list x1.sub
    have hS : ∀ H2, LamX.ExtN H1 H2 → SqL X.K H2 a xs := fun H2 s => .inl (rd_ext (noTb_lst _) s hr)
    refine ⟨a, xs, rfl, .inl hr, k _ B1 H1 x1 ⟨fun i H2 s hi => ⟨xs, xs[i]'(by rw [da.length]; rw [enumD_length] at hi; exact hi), hS H2 s, List.getElem?_eq_getElem _⟩, fun i H2 s hi => ⟨xs, hS H2 s, by rw [da.length]; rw [enumD_length] at hi; omega⟩, fun i H2 x H3 B2 d s sb ex hd hy => ?_⟩⟩
    obtain ⟨t, y, rfl, ht, rfl, hy⟩ := hy
    rw [enumD_get] at hd
    obtain ⟨d0, hd0, rfl⟩ := Option.map_eq_some_iff.mp hd
    obtain ⟨v, hv, dv⟩ := da.get' hd0
    have hx : y = v := Option.some.inj ((hy xs (hS _ s)).symm.trans hv)
    subst hx
    have e3 : Ext T B2 H2 (upd B2 t (.tup [.int (i : Nat), y])) (upd H2 t (.tup [.int (i : Nat), y])) := Ext.new sb ht (noTb_tup _)
    refine ⟨_, e3, .tup upd_same (.cons ?_ (.one (Dq.mono (ex.trans e3.b) dv)))⟩
    have e0 : ((0 + i : Nat) : Int) = ((i : Nat) : Int) := by omega
    rw [e0]
    exact .int _
  | _ => cases h2
end
end Rk

set_option Elab.async false
set_option linter.all false
set_option maxRecDepth 100000
set_option maxHeartbeats 4000000
namespace Rk
open PySem PySem.Spec L2
/-- a def of the text, as it stands behind the top -/
structure Df (K : PySem.W.Frag) (mg : Str → Option Value) (x : Str) (stm : Stmt) (ps : List Str) (f : Addr) (fd : FuncData) : Prop where
  F : Fun K x x stm f fd
  b : Binds K fd ps []
  m : mg x = some (.ref f)
def noLst (K : PySem.W.Frag) : Bool := K.all fun p => match p.2.cls with
  | .type t => t != "list"
  | _ => true
theorem noLst_s : ∀ {K : PySem.W.Frag}, noLst K = true → ∀ {a : Addr} {o : Obj}, K.lookup a = some o → o.cls ≠ .type "list"
  | [], _, _, _, e => by cases e
  | (b, u) :: K, h, a, o, e => by
    unfold noLst at h
    rw [List.all_cons, Bool.and_eq_true] at h
    rw [List.lookup_cons] at e
    split at e
    · cases e
      intro z
      have h1 := h.1
      simp only [z] at h1
      exact absurd h1 (by decide)
    · exact noLst_s h.2 e
theorem walk_rk {l : PySem.W.OpenLaw} {k : Nat} {q : Program} {loose : List Str} {XP : (Str → Option Value) → Heap → Prop} {YP : World → Heap → Prop} {d : DefRec} {K : Params → PySem.W.Frag} {x : Str} {m : List PyData → Option PyData}
    (hn : l.most = some 63) (hdf : d.params.defaults = []) (hr : Room k callerA)
    (hY : ∀ (w : World) (h : Heap), YP w h → (K w.params).In h)
    (F : ∀ (w : World) (mg : Str → Option Value) (fa : Addr) (h : Heap), (K w.params).In h → h.Ns mainGlobals mg → mg d.name = some (.ref fa) →
      ∃ fd : FuncData, (∀ (s : Shared) (u : Value), BindsTo s fd ⟨[u], []⟩ [(x, u)]) ∧
        ∀ base : Heap, (K w.params).In base → base.Ns mainGlobals mg → FnOk l.prog w (K w.params) mg base CX0 k fa fd [x] (spD [] m))
    (hK : ∀ w : World, noLst (K w.params) = true)
    (hm : ∀ ns : List Int, ns.length ≤ 63 → (∀ z ∈ ns, Builtin.Int.intBits z ≤ 1048576) → m [.list (ns.map PyData.int)] = some (.bool true)) :
    PySem.W.WalkO q loose XP YP l.row.toRowW d [] (fun f vs => PySem.call f vs) :=
  L2.walk_ofB (n := 63) (k := k) (x := x) (CX := fun _ => CX0) (sp := fun _ => spD [] m) hn (by decide) hdf hr hY F (fun w H a ns hl hb hO hS => by
    have hR : Rd H a (.lst (ns.map V.int)) := by
      rcases hS with hS | ⟨o, its, n, h1, h2, _⟩
      · exact hS
      · exact absurd h2 (noLst_s (hK w) h1)
    refine ⟨H, [.list (ns.map PyData.int)], .bool true, fun b o e => ⟨e, ?_⟩, fun r hr => (nomatch hr), .cons (.inl (.lst hR (DqAll.ints ns))) .nil, hm ns hl hb, fun v B' H' ex _ r => ?_⟩
    · rcases hO b with z | ⟨ob, xs, z⟩
      · rw [z] at e; cases e
      · rw [z] at e; cases e
        exact fun ps z => nomatch z
    · exact (r.any ex.sub).bool) fun _ _ _ _ _ z => z
end Rk

set_option Elab.async false
set_option linter.all false
set_option maxRecDepth 100000
set_option maxHeartbeats 4000000
namespace Rk
open PySem PySem.Spec L2
theorem bl_len : bootBuiltins "len" = some (.builtin "len") := PySem.boot_len
theorem bl_list : bootBuiltins "list" = some (.type "list") := by first | exact PyProof.Rows.boot_list | exact PySem.boot_list | exact boot_list
theorem bl_tuple : bootBuiltins "tuple" = some (.type "tuple") := by first | exact PyProof.Rows.boot_tuple | exact PySem.boot_tuple | exact boot_tuple
theorem bl_int : bootBuiltins "int" = some (.type "int") := by first | exact PyProof.Rows.boot_int | exact PySem.boot_int | exact boot_int
theorem bl_bool : bootBuiltins "bool" = some (.type "bool") := by first | exact PyProof.Rows.boot_bool | exact PySem.boot_bool | exact boot_bool
theorem bl_str : bootBuiltins "str" = some (.type "str") := by first | exact PyProof.Rows.boot_str | exact PySem.boot_str | exact boot_str
theorem bl_sum : bootBuiltins "sum" = some (.builtin "sum") := by first | exact PyProof.Rows.boot_sum | exact PySem.boot_sum | exact boot_sum
theorem bl_max : bootBuiltins "max" = some (.builtin "max") := by first | exact PyProof.Rows.boot_max | exact PySem.boot_max | exact boot_max
theorem bl_min : bootBuiltins "min" = some (.builtin "min") := by first | exact PyProof.Rows.boot_min | exact PySem.boot_min | exact boot_min
theorem bl_all : bootBuiltins "all" = some (.builtin "all") := by first | exact PyProof.Rows.boot_all | exact PySem.boot_all | exact boot_all
theorem bl_sorted : bootBuiltins "sorted" = some (.builtin "sorted") := by first | exact PyProof.Rows.boot_sorted | exact PySem.boot_sorted | exact boot_sorted
theorem bl_isinstance : bootBuiltins "isinstance" = some (.builtin "isinstance") := by first | exact PyProof.Rows.boot_isinstance | exact PySem.boot_isinstance | exact boot_isinstance
theorem room_un {k : Nat} {A : Around} (r : Room k A) : A.units + 200 < cLine := by
  have := r.un
  omega
/-! ### list + list -/
end Rk

set_option Elab.async false
set_option linter.all false
set_option maxRecDepth 100000
set_option maxHeartbeats 4000000
namespace Rk
open PySem PySem.Spec L2
section
variable {X : Cx} {T : Tb} {O O' : List Nat} {e a b c : Expr} {es : List Expr} {f g h fe : Fx} {pos p pos' : Pos}
/-! ### return [l.pop(e) for x in it] -/
def evP (i : Nat) (vs : List Nat) (τ : Tx) (fe : Fx) : List PyData → Rk.Env → Option (List PyData)
  | [], _ => some []
  | d :: ds, G => (τ (wp G vs) d).bind fun G1 => (fe G1).bind fun k => (gt G i).bind fun l => match l, k with
    | .list us, .int j => (seqIndex? j us.length).bind fun m => (us[m]?).bind fun y => if (-(2 ^ 63) ≤ j ∧ j < 2 ^ 63) ∧ isDict y = false then (evP i vs τ fe ds (st G i (.list (us.eraseIdx m)))).map (y :: ·) else none
    | _, _ => none
def sRetPop (i : Nat) (fi : Fs) (vs : List Nat) (τ : Tx) (fe : Fx) : Sx := fun G => (fi G).bind fun ds => if ds.length < sizeLine then (evP i vs τ fe ds G).map fun r => .rt (.list r) else none
theorem ss_retPop {i : Nat} {elt tg iter : Expr} {scope : Scope} {own : List (Str × Nat)} {fi : Fs} {js : List Nat} {τ : Tx} {lpos : Pos} (hc : X.calm = true) (hN : X.N.Nodup) (hiv : i ∉ own.map (·.2)) (hij : i ∉ js) (hi : PI X tg iter (tIf T [i] fi)) (ok : BlkOk X.N X.env.scope scope own)
    (hg : ∀ (s : Shared) (H : Hp) (C : Addr) (cl : List (Str × Addr)) (fp : List Addr), PG (X.blk s H scope (compEnvC scope cl C X.env) fp) tg (tgG T [i] js τ))
    (he : ∀ (s : Shared) (H : Hp) (C : Addr) (cl : List (Str × Addr)) (fp : List Addr), PE (X.blk s H scope (compEnvC scope cl C X.env) fp) elt (tBM X.K "list" rPopAt (tVar i) (tCons (tV T [i] fe) tNil))) (hjs : ∀ i ∈ js, i ∈ own.map (·.2)) (hs : ∀ x, foldedSetIterable iter X.env x = pure x := by intro _; rfl) :
    SS X T [i] O' (.Return (some (.ListComp elt [⟨tg, iter, [], 0⟩] scope lpos)) pos) (sRetPop i fi (own.map (·.2)) τ fe) := psI (ps_ret (pe_lc hc hN hi ok hg (fun _ _ _ _ _ => pts_nil) he hs)) fun D0 σ H ⟨B0, H0, B, G, o, r, hf, k⟩ => by
  obtain ⟨ds, hds, h1⟩ := bind1 hf
  split at h1
  · rename_i hlen
    obtain ⟨all, hall, rfl⟩ := Option.map_eq_some_iff.mp h1
    refine ⟨B, G, ds, r.c, hds, fun J B1 H1 e1 srv D hD => ?_⟩
    have e01 : Ext T B0 H0 B1 H1 := r.x.trans e1
    have hHD : H0 D = none := e01.fresh hD
    have bD : B1 D = none := e1.sub.none hD
    have r0 := (r.mono e1).rebase
    have dne : ∀ {q : Addr} {d : PyData}, gt G i = some d → σ[i]? = some (some (.ref q)) → q ≠ D := fun {q d} hg0 hs0 z => by
      obtain ⟨a, ob, h1, h2, h3, h4⟩ := (r.mono e1).c.own i d (List.mem_singleton.mpr rfl) hg0
      rw [hs0] at h1
      cases h1
      rw [z, hD] at h2
      cases h2
    refine ⟨fun n m Hh => m = ds.length - n ∧ n ≤ ds.length ∧ ∃ B2 G2 acc da rs, SR T [i] B1 H0 B2 G2 σ Hh ∧ (∀ d, gt G2 i = some d → ∃ d', gt G i = some d') ∧ Hh D = some (.lst acc) ∧ B2 D = none ∧ DqAll B2 acc da ∧ evP i (own.map (·.2)) τ fe (ds.drop n) G2 = some rs ∧ da ++ rs = all ∧ da.length ≤ n,
      ⟨ds.length, by simp, Nat.zero_le _, B1, G, [], [], all, r0.mono (Ext.new0 e1.sub hD), fun d h => ⟨d, h⟩, upd_same, bD, .nil, hall, rfl, Nat.le_refl _⟩, ?_⟩
    rintro n m Hh ⟨rfl, hn, B2, G2, acc, da, rs, s2, hgg, hacc, b2, dacc, hrs, htot, hlda⟩
    have st2 : Ex B1 Hh := s2.x.b.trans s2.x.sub.ex
    by_cases hlt : n < ds.length
    · refine .inr ⟨srv.go n Hh st2 hlt, fun H' => ∃ B2 G2 acc da rs, SR T [i] B1 H0 B2 G2 σ H' ∧ (∀ d, gt G2 i = some d → ∃ d', gt G i = some d') ∧ H' D = some (.lst acc) ∧ B2 D = none ∧ DqAll B2 acc da ∧ evP i (own.map (·.2)) τ fe (ds.drop (n + 1)) G2 = some rs ∧ da ++ rs = all ∧ da.length ≤ n + 1,
        fun H' hh => ⟨ds.length - (n + 1), by omega, rfl, hlt, hh⟩, fun x H' hy => ?_⟩
      obtain ⟨B3, x3, dx⟩ := srv.yld n Hh x H' B2 ds[n] st2 s2.x.sub s2.x.b (List.getElem?_eq_getElem hlt) hy
      rw [List.drop_eq_getElem_cons hlt] at hrs
      unfold evP at hrs
      obtain ⟨G', hG', h2⟩ := bind1 hrs
      obtain ⟨kk, hkk, h3⟩ := bind1 h2
      obtain ⟨l, hl, h4⟩ := bind1 h3
      split at h4
      · rename_i us j
        obtain ⟨m, hm, h5⟩ := bind1 h4
        obtain ⟨y, hyy, h6⟩ := bind1 h5
        split at h6
        · rename_i hcond
          obtain ⟨rs', hrs', rfl⟩ := Option.map_eq_some_iff.mp h6
          obtain ⟨q, xs, hsq, hq, hbq, dq⟩ := s2.lst (List.mem_singleton.mpr rfl) hl
          have qD : q ≠ D := by
            obtain ⟨d', hd'⟩ := hgg _ hl
            exact dne hd' hsq
          have s3 := s2.mono x3
          refine ⟨B3, wp G2 (own.map (·.2)), ds[n], G', s3.c.wiped (own.map (·.2)), .inl dx, hG', fun σ' hlσ hσ c' => ⟨?_, ?_⟩⟩
          · have h6 : wipe σ' (own.map (·.2)) = wipe (wipe σ (own.map (·.2))) (own.map (·.2)) := wipe_eq hlσ fun j hj => hσ j fun z => hj (hjs j z)
            rw [h6]
            exact wipe_eq (wipe_length _ _) fun j hj => wipe_out hj
          · show tBM X.K "list" rPopAt (tVar i) (tCons (tV T [i] fe) tNil) σ' H' _
            have hσi : σ'[i]? = some (some (.ref q)) := by
              rw [hσ i hij, wipe_out hiv]
              exact hsq
            have hq3 := x3.get hq (noTb_lst _)
            refine ⟨.ref q, hσi, .inl ⟨rfl, xs, SqL.of hq3⟩, B3, G', _, c', hkk, fun v B4 H4 x4 r4 => ?_⟩
            have x34 := x3.trans x4
            have hq4 := x34.get hq (noTb_lst _)
            have bq4 : B4 q = none := (x34.ag q _ hq (noTb_lst _) (noTp_lst _)).trans hbq
            have hD4 : H4 D = some (.lst acc) := x34.get hacc (noTb_lst _)
            have bD4 : B4 D = none := (x34.ag D _ hacc (noTb_lst _) (noTp_lst _)).trans b2
            have dq4 := DqAll.mono x34.b dq
            have ey : v = .int j := (r4.any x4.sub).int
            obtain ⟨w, hw, dw⟩ := dq4.get' hyy
            have s4 : SR T [i] B1 H0 B4 (Rk.st G2 i (.list (us.eraseIdx m))) σ (upd H4 q (.lst (xs.eraseIdx m))) := (s2.mono x34).mutate (List.mem_singleton.mpr rfl) hl hsq hq4 bq4 (pl_lst _) (DqAll.eraseIdx m dq4)
            refine ⟨q, xs, j, m, w, rfl, by rw [ey], hq4, hcond.1.1, hcond.1.2, by rw [dq.length]; exact hm, hw, acc, by rw [upd_ne (Ne.symm qD)]; exact hD4, by have := dacc.length; omega, B4, Rk.st G2 i (.list (us.eraseIdx m)), acc ++ [w], da ++ [y], rs', ?_, fun d hd => ?_, upd_same, bD4, (DqAll.mono x34.b dacc).append (.one dw), hrs', by rw [← htot, List.append_assoc]; rfl, by rw [List.length_append]; show da.length + 1 ≤ n + 1; omega⟩
            · have hDz : (upd H4 q (.lst (xs.eraseIdx m))) D = some (.lst acc) := by rw [upd_ne (Ne.symm qD)]; exact hD4
              refine ⟨⟨(s4.x.mut hHD bD4 hDz (pl_lst _) (u := .lst (acc ++ [w]))).sub, s4.c.len, s4.c.val, fun z d hz hgz => ?_, s4.c.sep, tabs_mut hDz (pl_lst _) s4.c.tabs⟩, s4.x.mut hHD bD4 hDz (pl_lst _), s4.fr⟩
              obtain ⟨a', ob, g1, g2, g3, g4⟩ := s4.c.own z d hz hgz
              rw [List.mem_singleton] at hz
              subst hz
              rw [hsq] at g1
              cases g1
              exact ⟨q, ob, hsq, by rw [upd_ne qD]; exact g2, g3, g4⟩
            · obtain ⟨d', hd'⟩ := hgg _ hl
              exact ⟨d', hd'⟩
        · cases h6
      · cases h4
    · have hie : n = ds.length := by omega
      subst hie
      rw [List.drop_length] at hrs
      cases hrs
      rw [List.append_nil] at htot
      subst htot
      refine .inl ⟨srv.stop _ Hh st2 rfl, ?_⟩
      have x5 : Ext T B1 H0 B2 Hh := s2.x
      have x6 : Ext T B0 H0 (upd B2 D (.lst acc)) Hh := (ext_base e01 x5).show hHD b2 hacc (noTb_lst _)
      refine k _ (upd B2 D (.lst acc)) Hh x6 s2.c.tabs (.inl (.lst (.inl upd_same) (DqAll.mono (fun a o q => ?_) dacc)))
      rw [upd_ne (ne_of_none q b2)]
      exact q
  · cases h1
/-! ### list(range(..)), tuple(range(..)) -/
def rg1 (f : Fx) : Rk.Env → Option (Int × Int) := fun G => (f G).bind fun d => match d with
  | .int n => some (0, n)
  | _ => none
def rg2 (f g : Fx) : Rk.Env → Option (Int × Int) := fun G => (f G).bind fun d => (g G).bind fun e => match d, e with
  | .int a, .int b => some (a, b)
  | _, _ => none
def okR (a b : Int) : Bool := decide (0 ≤ a) && decide (b ≤ 16777216) && decide (a ≤ 16777216) && decide (0 ≤ b)
def rgO (T : Tb) (O : List Nat) (r : Rk.Env → Option (Int × Int)) : L2.St → Hp → (Int → Int → Hp → Prop) → Prop := fun σ H Q => ∃ B G a b, Core T O B G σ H ∧ r G = some (a, b) ∧ ∀ B' H', Ext T B H B' H' → Q a b H'
theorem prgI {t t' : L2.St → Hp → (Int → Int → Hp → Prop) → Prop} (h : PRg X e t) (i : ∀ σ H Q, t' σ H Q → t σ H Q) : PRg X e t' := fun pins s σ H Q I q => h pins s σ H Q I (i σ H Q q)
theorem prg1 (hm : X.mg "range" = none) (ha : EA X T O a f) (hg : Gl X "range" := by rfl) (na : starEach [a] X.env = (false, eval a X.env) :: starEach [] X.env := by rfl) : PRg X (.Call (.Name "range" p) [a] [] pos) (rgO T O (rg1 f)) := prgI (prg_1 hg hm ha na) fun σ H Q ⟨B, G, x, y, c, hf, k⟩ => by
  obtain ⟨d, hd, h2⟩ := bind1 hf
  split at h2
  · cases h2
    exact ⟨B, G, _, c, hd, fun v B1 H1 x1 r1 => ⟨_, r1.int, k B1 H1 x1⟩⟩
  · cases h2
theorem prg2 {b : Expr} (hm : X.mg "range" = none) (ha : EA X T O a f) (hb : EA X T O b g) (hg : Gl X "range" := by rfl) (na : starEach [a, b] X.env = (false, eval a X.env) :: starEach [b] X.env := by rfl)
    (nb : starEach [b] X.env = (false, eval b X.env) :: starEach [] X.env := by rfl) (hp : (backTo pos (starEach [b] X.env)).any (·.1) = false := by rfl) : PRg X (.Call (.Name "range" p) [a, b] [] pos) (rgO T O (rg2 f g)) := prgI (prg_2 hg hm ha hb na nb hp) fun σ H Q ⟨B, G, x, y, c, hf, k⟩ => by
  obtain ⟨d, e, hd, he, h2⟩ := bind2 hf
  split at h2
  · cases h2
    exact ⟨B, G, _, c, hd, fun v B1 H1 x1 r1 => ⟨B1, G, _, c.mono x1, he, fun w B2 H2 x2 r2 => ⟨_, _, r1.int, r2.int, k B2 H2 (x1.trans x2)⟩⟩⟩
  · cases h2
def cRgL (r : Rk.Env → Option (Int × Int)) : Fx := fun G => (r G).bind fun q => if okR q.1 q.2 = true then some (.list (rngD q.1 (q.2 - q.1).toNat)) else none
def cRgT (r : Rk.Env → Option (Int × Int)) : Fx := fun G => (r G).bind fun q => if okR q.1 q.2 = true then some (.tuple (rngD q.1 (q.2 - q.1).toNat)) else none
theorem okR_s {a b : Int} (h : okR a b = true) : RgOk a b := by
  unfold okR at h
  simp only [Bool.and_eq_true, decide_eq_true_eq] at h
  exact RgOk.of_le h.1.1.1 h.1.1.2 h.1.2 h.2
theorem dq_rg {B : Hp} (a b : Int) : DqAll B (rgV a b) (rngD a (b - a).toNat) := by
  have : rngD a (b - a).toNat = (((List.range (b - a).toNat).map fun i => a + (i : Nat)).map PyData.int) := by
    unfold rngD
    rw [List.map_map]
    rfl
  rw [this]
  have e2 : rgV a b = (((List.range (b - a).toNat).map fun i => a + (i : Nat)).map V.int) := by
    unfold rgV
    rw [List.map_map]
    rfl
  rw [e2]
  exact DqAll.ints _
theorem en_listRg {r : Rk.Env → Option (Int × Int)} (hc : X.calm = true) (hm : X.mg "list" = none) (he : PRg X e (rgO T O r)) (hg : Gl X "list" := by rfl) (na : starEach [e] X.env = (false, eval e X.env) :: starEach [] X.env := by rfl) : EN X T O (.Call (.Name "list" p) [e] [] pos) (cRgL r) := peI (pe_listRg hc hg hm he na) fun σ H Q ⟨B, G, d, c, hf, k⟩ => by
  obtain ⟨⟨x, y⟩, hq, h2⟩ := bind1 hf
  split at h2
  · rename_i ok
    cases h2
    exact ⟨B, G, x, y, c, hq, fun B1 H1 x1 => ⟨okR_s ok, fun p hp => k p _ _ _ (x1.trans (Ext.new0 x1.sub hp)) (x1.fresh hp) (x1.sub.none hp) upd_same (dq_rg x y)⟩⟩
  · cases h2
theorem ev_tupRg {r : Rk.Env → Option (Int × Int)} (hc : X.calm = true) (hm : X.mg "tuple" = none) (he : PRg X e (rgO T O r)) (hg : Gl X "tuple" := by rfl) (na : starEach [e] X.env = (false, eval e X.env) :: starEach [] X.env := by rfl) : EV X T O (.Call (.Name "tuple" p) [e] [] pos) (cRgT r) := peI (pe_tupRg hc hg hm he na) fun σ H Q ⟨B, G, d, c, hf, k⟩ => by
  obtain ⟨⟨x, y⟩, hq, h2⟩ := bind1 hf
  split at h2
  · rename_i ok
    cases h2
    refine ⟨B, G, x, y, c, hq, fun B1 H1 x1 => ⟨okR_s ok, fun p hp => ?_⟩⟩
    have e2 : Ext T B1 H1 (upd B1 p (.tup (rgV x y))) (upd H1 p (.tup (rgV x y))) := Ext.new x1.sub hp (noTb_tup _)
    exact k _ _ _ (x1.trans e2) (.inl (.tup upd_same (dq_rg x y)))
  · cases h2
end
end Rk

set_option Elab.async false
set_option linter.all false
set_option maxRecDepth 100000
set_option maxHeartbeats 4000000
/-! ### tuple(reversed(a tuple)) -/
namespace RkT
open PySem PySem.Spec PyProof.Rows L2 RT
theorem nolen_rv : typeLookup (.type "reversed") "__len__" = pure none := by rw [typeLookup_type, builtinLookup_eq_fast]; kernel_rfl
theorem hint_rv : typeLookup (.type "reversed") "__length_hint__" = pure (some (.builtin "reversed.__length_hint__")) := by rw [typeLookup_type, builtinLookup_eq_fast]; kernel_rfl
theorem isRt_at {h h' : Heap} {I t : Addr} {i : Int} (x : IsRt h I t i) (e : ∀ o, h.get? I = some o → h'.get? I = some o) : IsRt h' I t i := x.at e
theorem isTup_at {h h' : Heap} {t : Addr} {items : Array Value} (x : IsTup h t items) (e : ∀ o, h.get? t = some o → h'.get? t = some o) : IsTup h' t items := let ⟨o, ho, r⟩ := x; ⟨o, e _ ho, r⟩
theorem walks_rv {prog : Program} {w : World} {A : Around} (hh : A.handled = none) (I t : Addr) (hne : t ≠ I) (items : Array Value) (hz : items.size ≤ sizeLine) :
    Walks prog w A I [I, t] [I] items.size (fun i v => items[items.size - 1 - i]? = some v) (fun i h => i ≤ items.size ∧ IsRt h I t ((items.size : Int) - 1 - (i : Int)) ∧ IsTup h t items) where
  sub := fun b hb => by simp at hb; simp [hb]
  frame := fun _ _ _ x hk => ⟨x.1, isRt_at x.2.1 (fun o e => hk I (by simp) o e), isTup_at x.2.2 (fun o e => hk t (by simp) o e)⟩
  item := fun i s Q E hi x k => by
    have e : (items.size : Int) - 1 - (i : Int) = ((items.size - 1 - i : Nat) : Int) := by omega
    have hit := x.2.1
    rw [e] at hit
    have hx : items[items.size - 1 - i]? = some (items[items.size - 1 - i]'(by omega)) := Array.getElem?_eq_getElem (by omega)
    refine next_rt_item hit x.2.2 hx hz fun h' hit' hs' => ?_
    have e2 : ((items.size - 1 - i : Nat) : Int) - 1 = (items.size : Int) - 1 - ((i + 1 : Nat) : Int) := by omega
    rw [e2] at hit'
    exact k _ h' (s.toks + 1) hx ⟨hi, hit', isTup_at x.2.2 (fun o eo => (hs'.2 t hne).trans eo)⟩ fun b o hb eo => hs'.extBut b o (fun h => hb (by simp [h])) eo
  done := fun s Q E x k => by
    have e : (items.size : Int) - 1 - (items.size : Int) = -1 := by omega
    have hit := x.2.1
    rw [e] at hit
    exact next_rt_end hh hit fun h' he' => k h' s.toks fun b o hb eo => he' b o (fun h => hb (by simp [h])) eo
  self := fun _ _ _ _ x k => iter_rt x.2.1 k
theorem slot_rv_hint : Slot "reversed" "__length_hint__" "reversed.__length_hint__" :=
  .of (owner := "reversed") (n := "__length_hint__") hint_rv (by decide +kernel) (by decide +kernel) (by decide +kernel) (by first | exact .inl (by decide +kernel) | exact .inr (by decide +kernel)) (by rw [isSubtype_type]; kernel_rfl)
theorem entry_rv_hint : entryFor table "reversed.__length_hint__" = some Builtin.«reversed.__length_hint__» := entryFor_of_tree (by kernel_rfl)
theorem args_rv_hint (a : Value) : argsOk "reversed.__length_hint__" ⟨[a], []⟩ := by
  unfold argsOk; rw [signature?_of (id := "reversed.__length_hint__") (n := "__length_hint__".toList.reverse) (o := ['d', 'e', 's', 'r', 'e', 'v', 'e', 'r']) (by kernel_rfl) owner_rt]; kernel_rfl
theorem ty_rv_hint : typeOf (.builtin "reversed.__length_hint__") = pure (.type "method_descriptor") := by show builtinType _ = _; rw [builtinType_eq_fast]; kernel_rfl
section
variable {prog : Program} {w : World} {A : Around} {E : Value → Shared → Prop} {s : Shared}
theorem hint_run {it l : Addr} {items : Array Value} {Q : Bool → Shared → Prop} (hit : IsRt s.heap it l ((items.size : Int) - 1)) (hl : IsTup s.heap l items) (hn : items.size ≤ sizeLine) (k : ∀ b tk, Q b { s with toks := tk }) :
    wpAny (model prog w) A (Builtin.List.listLengthHint (.ref it)) Q E s := by
  have hT : s.TypeIs (.ref it) "reversed" := let ⟨o, ho, hc, _⟩ := hit; ⟨o, ho, hc⟩
  obtain ⟨oi, hoi, hci, hdi⟩ := id hit
  unfold Builtin.List.listLengthHint
  refine wpAny_bind (wpAny_specialOf hT nolen_rv ?_)
  show wpAny _ A (specialOf (Value.ref it) (Str.ofString "__length_hint__") >>= _) _ _ _
  refine wpAny_bind (wpAny_specialOf hT hint_rv ?_)
  generalize hid : ("reversed.__length_hint__" : String) = id0
  wp_delta
  rw [show splitId id0 = some ("reversed", "__length_hint__") from by subst hid; decide +kernel]
  subst hid
  refine wpAny_bind (wpAny_isInstance (b := true) hT (by rw [isSubtype_type]; kernel_rfl) ?_)
  rw [if_neg (by decide)]
  rw [if_neg (by decide +kernel)]
  refine wpAny_bind (wpAny_rule ?_)
  unfold bindSpecial
  refine wpAny_bind (wpAny_bind (wpAny_of_eq ty_rv_hint ?_))
  rw [if_pos (by decide)]
  refine wpAny_pure ?_
  refine wpAny_bind (wpAny_attempt (wpAny_call_entry slot_rv_hint hT entry_rv_hint ?_ (args_rv_hint _)))
  unfold Builtin.«reversed.__length_hint__»
  refine wpAny_bind (wpAny_of_eq (a := Value.ref it) rfl ?_)
  refine wpAny_bind (wpAny_field hoi hdi (x := .ref l) rfl ?_)
  dsimp only
  rw [if_neg (by exact Bool.false_ne_true)]
  have l63 := line63
  refine wpAny_bind (len_tuple hl (by omega) ?_)
  refine wpAny_bind (wpAny_of_eq (a := some ((items.size : Nat) : Int)) rfl ?_)
  refine wpAny_bind (wpAny_field (s := { s with toks := s.toks + 1 + 1 }) hoi hdi (x := rawInt ((items.size : Int) - 1)) rfl ?_)
  show wpAny _ _ (if (items.size : Int) < (items.size : Int) - 1 + 1 then _ else retInt ((items.size : Int) - 1 + 1)) _ _ _
  rw [if_neg (by omega)]
  unfold retInt
  refine wpAny_bind (wpAny_mkInt ?_)
  refine wpAny_pure ⟨_, rfl, ?_⟩
  refine wpAny_bind (wpAny_of_eq (a := some ((items.size : Int) - 1 + 1)) rfl ?_)
  have f1 : Builtin.List.listFitsIndex ((items.size : Int) - 1 + 1) = true := by
    unfold Builtin.List.listFitsIndex
    simp
    omega
  have f2 : Builtin.List.listTooLong ((items.size : Int) - 1 + 1).toNat = false := by
    unfold Builtin.List.listTooLong
    simp
    omega
  show wpAny _ _ (if (!Builtin.List.listFitsIndex ((items.size : Int) - 1 + 1)) = true then _ else if (items.size : Int) - 1 + 1 < 0 then _ else if Builtin.List.listTooLong ((items.size : Int) - 1 + 1).toNat = true then _ else _) _ _ _
  rw [f1, if_neg (by decide), if_neg (by omega), f2, if_neg (by decide)]
  exact wpAny_pure (k _ _)
theorem collect_rv {it l : Addr} {items : Array Value} {Q : List Value → Shared → Prop} (hh : A.handled = none) (hit : IsRt s.heap it l ((items.size : Int) - 1)) (hl : IsTup s.heap l items) (hne : l ≠ it) (hn : items.size ≤ sizeLine)
    (k : ∀ (h' : Heap) (tk : Nat) (acc : Array Value), (∀ b o, b ≠ it → s.heap.get? b = some o → h'.get? b = some o) → ItemsOf (fun i v => items[items.size - 1 - i]? = some v) acc items.size → Q acc.toList { s with heap := h', toks := tk }) :
    wpAny (model prog w) A (collect (.ref it)) Q E s := by
  have W := (walks_rv (prog := prog) (w := w) (A := A.in1) hh it l hne items hn).toS
  obtain ⟨oi, hoi, _⟩ := id hit
  obtain ⟨ol, hol, _⟩ := id hl
  have n1 : s.heap.objs.size ≠ it := Nat.ne_of_gt (Heap.lt_size hoi)
  have n2 : s.heap.objs.size ≠ l := Nat.ne_of_gt (Heap.lt_size hol)
  have n3 : s.heap.objs.size ∉ [it, l] := by simp only [List.mem_cons, List.not_mem_nil, or_false, not_or]; exact ⟨n1, n2⟩
  unfold collect
  refine wpAny_bind (wpAny_runValue (codeAny_builtin F.entry_proto_collect ?_))
  rw [Around.under_plainId F.plain_proto_collect _]
  show wpAny _ A.in1 (newList [] >>= fun l' => again (.builtin "list.__iadd__" ⟨[l', .ref it], []⟩)) _ _ s
  refine wpAny_bind (wpAny_newObj_type ?_)
  refine wpAny_pure ⟨plainId_quiet F.plain_list_iadd _, codeAny_builtin F.entry_list_iadd ?_⟩
  rw [Around.under_plainId F.plain_list_iadd _]
  have g1 : (s.heap.push { cls := .type "list", data := .seq ([] : List Value).toArray }).get? s.heap.objs.size = some { cls := .type "list", data := .seq ([] : List Value).toArray } := Heap.get?_push_size _ rfl
  have hit1 : IsRt (s.heap.push { cls := .type "list", data := .seq ([] : List Value).toArray }) it l ((items.size : Int) - 1) := isRt_at hit fun o e => Heap.get?_push_of_some _ e
  have hl1 : IsTup (s.heap.push { cls := .type "list", data := .seq ([] : List Value).toArray }) l items := isTup_at hl fun o e => Heap.get?_push_of_some _ e
  have hT : ({ s with heap := s.heap.push { cls := .type "list", data := .seq ([] : List Value).toArray } } : Shared).TypeIs (.ref it) "reversed" := let ⟨o, ho, hc, _⟩ := hit1; ⟨o, ho, hc⟩
  have h1 : Builtin.List.listSameRef (.ref s.heap.objs.size) (.ref it) = false := by simp [Builtin.List.listSameRef, n1]
  show wpAny _ A.in1 (Builtin.List.listExtendWith (.ref s.heap.objs.size) (.ref it) (.ref s.heap.objs.size)) _ _ _
  unfold Builtin.List.listExtendWith
  refine wpAny_bind (wpAny_typeOf hT ?_)
  rw [if_neg (by rw [h1]; decide)]
  refine wpAny_bind (iter_rt (s := { s with heap := s.heap.push { cls := .type "list", data := .seq ([] : List Value).toArray } }) hit1 ?_)
  refine wpAny_bind (wpAny_holding ?_)
  have fin : ∀ (h2 : Heap) (tk : Nat) (c : Nat), (∀ b o, b ≠ s.heap.objs.size → (s.heap.push { cls := .type "list", data := .seq ([] : List Value).toArray }).get? b = some o → h2.get? b = some o) →
      h2.get? s.heap.objs.size = some { cls := .type "list", dict := none, data := .seq ([] : List Value).toArray c, slots := #[] } →
      codeAny (model prog w) A (.builtin "list.extend.loop" ⟨[.ref s.heap.objs.size, .ref it, .ref s.heap.objs.size], []⟩) (fun r s' => match r with
        | .ok (.ret v) => wpAny (model prog w) A (match v with
            | Value.ref a => do
              let o ← load a
              match o.data with
                | Data.seq xs epoch => pure xs.toList
                | x => unsupported "internal:collect"
            | x => unsupported "internal:collect") Q E s'
        | .ok _ => False
        | .error e => E e s') ({ s with heap := h2, toks := tk } : Shared) := fun h2 tk c oth g2 => by
    have e0 : ((items.size : Nat) : Int) - 1 - ((0 : Nat) : Int) = (items.size : Int) - 1 := by omega
    have neq : ∀ {b : Addr}, b = it ∨ b = l → b ≠ s.heap.objs.size := fun {b} h z => by
      rcases h with h | h
      · exact n1 (z.symm.trans h)
      · exact n2 (z.symm.trans h)
    refine codeAny_extend_loopS W hn _ n3 _ items.size 0 { s with heap := h2, toks := tk } _ _ rfl (Nat.zero_le _) ⟨Nat.zero_le _, by rw [e0]; exact isRt_at hit1 fun o e => oth it o (neq (.inl rfl)) e, isTup_at hl1 fun o e => oth l o (neq (.inr rfl)) e⟩ g2 (ItemsOf.nil _) fun s' acc' c' hm g3 hacc => ?_
    show wpAny _ A (load s.heap.objs.size >>= _) _ _ s'
    refine wpAny_bind (wpAny_load g3 ?_)
    refine wpAny_pure ?_
    rw [Moved.eq_with hm]
    refine k s'.heap s'.toks acc' (fun b o hb e => ?_) hacc
    have hbs : b ≠ s.heap.objs.size := Nat.ne_of_lt (Heap.lt_size e)
    refine hm.heap b o (fun hmem => ?_) (oth b o hbs (Heap.get?_push_of_some _ e))
    rcases List.mem_cons.mp hmem with e' | hmem
    · exact hbs e'
    · exact hb (List.mem_singleton.mp hmem)
  refine hint_run (s := { s with heap := s.heap.push { cls := .type "list", data := .seq ([] : List Value).toArray } }) hit1 hl1 hn fun hb htk => ?_
  cases hb with
  | false =>
    rw [if_neg (by decide +kernel)]
    exact wpAny_pure ⟨plainId_quiet F.plain_extend_loop _, fin _ _ 0 (fun b o _ e => e) g1⟩
  | true =>
    rw [if_pos (by decide +kernel)]
    refine wpAny_bind (wpAny_rule ?_)
    refine wpAny_bind ?_
    show wpAny _ A.in1 (updateSeq s.heap.objs.size (·.push .none) >>= fun _ => updateSeq s.heap.objs.size (·.pop)) _ _ _
    refine wpAny_bind (wpAny_updateSeq g1 rfl ?_)
    have g2 := Heap.get?_update_self (Obj.mapSeq (·.push Value.none)) g1 rfl
    refine wpAny_updateSeq g2 rfl ?_
    have g3 := Heap.get?_update_self (Obj.mapSeq (·.pop)) g2 rfl
    exact wpAny_pure ⟨plainId_quiet F.plain_extend_loop _, fin _ _ _ (fun b o hb e => (Heap.get?_update_other _ _ (Ne.symm hb)).trans ((Heap.get?_update_other _ _ (Ne.symm hb)).trans e)) g3⟩
theorem new_rv {it l : Addr} {items : Array Value} {R : Value → Shared → Prop} (hh : A.handled = none) (hit : IsRt s.heap it l ((items.size : Int) - 1)) (hl : IsTup s.heap l items) (hne : l ≠ it) (hn : items.size ≤ sizeLine)
    (h : ∀ (h' : Heap) (tk : Nat) (acc : Array Value), (∀ b o, b ≠ it → s.heap.get? b = some o → h'.get? b = some o) → ItemsOf (fun i v => items[items.size - 1 - i]? = some v) acc items.size →
      R (.ref h'.objs.size) { s with heap := h'.push { cls := .type "tuple", data := .seq acc }, toks := tk }) :
    codeAny (model prog w) A (.call (.builtin "tuple.__new__") ⟨[.type "tuple", .ref it], []⟩) (wants R E) s := by
  refine codeAny_of_tree ?_
  show wpAny _ A.in1 (do checkBuiltinCall "tuple.__new__" ⟨[.type "tuple", .ref it], []⟩; again (.builtin "tuple.__new__" ⟨[.type "tuple", .ref it], []⟩)) _ _ s
  refine wpAny_bind (wpAny_of_eq (F.newCall_tuple_1 _) (wpAny_pure ⟨plainId_quiet F.plain_tuple_new _, codeAny_builtin F.entry_tuple_new ?_⟩))
  rw [Around.under_plainId F.plain_tuple_new _]
  have hsub := sub_tuple_self
  have hinit := init_tuple_lookup
  have hmh := madeHere_tuple
  have hTI : s.TypeIs (.ref it) "reversed" := let ⟨o, ho, hc, _⟩ := hit; ⟨o, ho, hc⟩
  have hh1 : A.in1.handled = none := hh
  wp_walk using wpAny_typeOf hTI, collect_rv (A := A.in1) hh1 hit hl hne hn
  intro h' tk acc hk hacc
  show wpAny _ _ (Builtin.Tuple.tupleExact acc.toList.toArray >>= fun v => ret v) _ _ _
  unfold Builtin.Tuple.tupleExact
  refine wpAny_bind (wpAny_newObj_type ?_ (by show acc.toList.toArray.size ≤ sizeLine; simp only [Array.toArray_toList]; rw [hacc.1]; exact hn))
  refine wpAny_pure ?_
  have e : acc.toList.toArray = acc := by simp
  rw [e]
  exact h h' tk acc hk hacc
theorem call_rv {it l : Addr} {items : Array Value} {Q : Value → Shared → Prop} (hh : A.handled = none) (hit : IsRt s.heap it l ((items.size : Int) - 1)) (hl : IsTup s.heap l items) (hne : l ≠ it) (hn : items.size ≤ sizeLine)
    (k : ∀ (h' : Heap) (tk : Nat) (acc : Array Value), (∀ b o, b ≠ it → s.heap.get? b = some o → h'.get? b = some o) → ItemsOf (fun i v => items[items.size - 1 - i]? = some v) acc items.size →
      Q (.ref h'.objs.size) { s with heap := h'.push { cls := .type "tuple", data := .seq acc }, toks := tk }) :
    wpAny (model prog w) A (call (.type "tuple") [.ref it]) Q E s := by
  refine callType_codes (Q₁ := fun obj s₁ => s₁.TypeIs obj "tuple" ∧ Q obj s₁) F.called_tuple (F.typeCall_tuple_1 _) F.entry_object_init
    (new_rv (A := A.in1) hh hit hl hne hn fun h' tk acc hk hacc => ⟨⟨_, Heap.get?_push_size _ rfl, rfl⟩, k h' tk acc hk hacc⟩) fun obj s₁ h₁ => ?_
  exact ⟨h₁.1, F.args_object_init_2 obj _, object_init_meets F.called_tuple.init.lookup F.called_tuple.made (by decide) prog w A.in1 _ s₁ ⟨h₁.1, rfl, h₁.2⟩⟩
end
section
variable {X : Cx}
def tTupRevT (K : PySem.W.Frag) (te : TE) : TE := fun σ H Q => te σ H fun v H1 => ∃ (a : Addr) (xs : List V), v = .ref a ∧ SqT K H1 a xs ∧ ∀ q, H1 q = none → Q (.ref q) (upd H1 q (.tup xs.reverse))
theorem pe_tupRevT {e : Expr} {te : TE} {p p2 pos pos2 : Pos} (hc : X.calm = true) (hg : Gl X "tuple") (hm : X.mg "tuple" = none) (hg2 : Gl X "reversed") (hm2 : X.mg "reversed" = none) (he : PE X e te)
    (hs : starEach [e] X.env = (false, eval e X.env) :: starEach [] X.env := by rfl)
    (hs2 : starEach [.Call (.Name "reversed" p2) [e] [] pos2] X.env = (false, eval (.Call (.Name "reversed" p2) [e] [] pos2) X.env) :: starEach [] X.env := by rfl) :
    PE X (.Call (.Name "tuple" p) [.Call (.Name "reversed" p2) [e] [] pos2] [] pos) (tTupRevT X.K te) := by
  refine ⟨fun pins s σ H Q I h => ?_⟩
  refine Call_ (ld_blt I hg hm boot_tuple (PyProof.Rows.callWith_type1 (args_cons (Call_ (ld_blt I hg2 hm2 PyProof.Rows.boot_reversed (PyProof.Rows.callWith_type1 (args_cons (thn (he.run pins s σ H _ I h) fun u s1 ⟨v, H1, I1, r1, q1⟩ => args_nil ?_) hs) hs rfl))) hs2) hs2 rfl))
  obtain ⟨a, xs, ev, hq, q⟩ := q1
  subst ev
  obtain rfl : u = Value.ref a := r1
  obtain ⟨its, rv, p', hz⟩ := I1.tuple hq
  have hl := rv.length
  have hsz : its.toArray.size ≤ sizeLine := by rw [List.size_toArray, ← hl]; exact hz
  have l63 := line63
  refine call_reversed_tup p' (fun A E Q k => len_tuple p' (by simp only [List.size_toArray] <;> omega) k) (args_nil ?_)
  have k0 : ∀ b o, s1.heap.get? b = some o → (s1.heap.push (rtObj a ((its.toArray.size : Int) - 1))).get? b = some o := fun b o e => Heap.get?_push_of_some _ e
  have I2 : Inv X pins σ H1 { s1 with heap := s1.heap.push (rtObj a ((its.toArray.size : Int) - 1)), toks := s1.toks + 1 + 1 } := I1.kept (t' := s1.toks + 1 + 1) k0
  obtain ⟨f0, f1, f2, f3, f4, f5⟩ := I1.fpOk (H' := H1) (b := s1.heap.objs.size) (Nat.le_refl _) (I1.hok.fresh (Nat.le_refl _))
  obtain ⟨ol, hol, _⟩ := id p'
  have hne : a ≠ s1.heap.objs.size := Nat.ne_of_lt (Heap.lt_size hol)
  refine call_rv (s := { s1 with heap := s1.heap.push (rtObj a ((its.toArray.size : Int) - 1)), toks := s1.toks + 1 + 1 }) (I1.ok.hd hc) ⟨_, Heap.get?_push_size _ rfl, rfl, rfl⟩ (isTup_at p' fun o e => Heap.get?_push_of_some _ e) hne hsz fun h' tk acc hk hi => ?_
  have I3 : Inv X pins σ H1 { s1 with heap := h', toks := tk } := I2.turned (t' := tk) (fun b o hb e => hk b o hb e) f0 f1 f3 f4 f5
  refine ⟨.ref h'.objs.size, upd H1 h'.objs.size (.tup xs.reverse), I3.laid (t' := tk) (fun c o e => Heap.get?_push_of_some _ e) (Nat.le_refl _) (show ObjOk X.prog X.w _ _ _ (.tup xs.reverse) from ⟨by rw [List.length_reverse]; exact hz, acc.toList, vals_rev rv hi, ?_⟩), rfl, q _ (I3.hok.fresh (Nat.le_refl _))⟩
  rw [Array.toArray_toList]
  exact IsTup.new _ _
end
end RkT
namespace Rk
open PySem PySem.Spec L2
section
variable {X : Cx} {T : Tb} {O O' : List Nat} {e a b c : Expr} {es : List Expr} {f g h fe : Fx} {pos p pos' : Pos}
def pTupRevT : P1
  | .tuple ds => some (.tuple ds.reverse)
  | _ => none
theorem ev_tupRevT (hp : PE X c (RkT.tTupRevT X.K (tA T O f))) : EV X T O c (c1 pTupRevT f) := peI hp fun σ H Q ⟨B, G, d, cc, hf, k⟩ => by
  obtain ⟨x, hx, h2⟩ := bind1 hf
  unfold pTupRevT at h2
  split at h2
  · cases h2
    refine ⟨B, G, _, cc, hx, fun v B1 H1 x1 r1 => ?_⟩
    obtain ⟨a, xs, rfl, _, hr, da⟩ := r1.tuple x1.sub
    refine ⟨a, xs, rfl, SqT.of hr, fun p hp => ?_⟩
    have e2 : Ext T B1 H1 (upd B1 p (.tup xs.reverse)) (upd H1 p (.tup xs.reverse)) := Ext.new x1.sub hp (noTb_tup _)
    exact k _ _ _ (x1.trans e2) (.inl (.tup upd_same (DqAll.mono e2.b da.reverse)))
  · cases h2
end
end Rk

set_option Elab.async false
set_option linter.all false
set_option maxRecDepth 100000
set_option maxHeartbeats 4000000
/-! Pl1: what the combinators compute, for the plain laws. -/
namespace Rk
open PySem PySem.Spec L2
/-! ### pairs of ints -/
def pr (p : Int × Int) : PyData := .tuple [.int p.1, .int p.2]
def iD (ns : List Int) : List PyData := ns.map .int
abbrev iE : Int → PyData := fun i => PyData.int i
def pD (ps : List (Int × Int)) : List PyData := ps.map pr
theorem eqv_i (i j : Int) : PyData.eqv (.int i) (.int j) = decide (i = j) := eqv_int i j
theorem eqv_pr (p q : Int × Int) : PyData.eqv (pr p) (pr q) = decide (p = q) := by
  obtain ⟨a, b⟩ := p
  obtain ⟨c, d⟩ := q
  have h := eqvAll_ints [a, b] [c, d]
  simp only [List.map_cons, List.map_nil] at h
  unfold pr PyData.eqv
  rw [h]
  simp
/-! ### dicts -/
section
variable {α β : Type} [DecidableEq α]
def aFind (al : List (α × β)) (k : α) : Option β := (al.find? fun p => decide (p.1 = k)).map (·.2)
def aPut (al : List (α × β)) (k : α) (v : β) : List (α × β) := if k ∈ al.map (·.1) then al.map fun p => if p.1 = k then (p.1, v) else p else al ++ [(k, v)]
def dA (enc : α → PyData) (ev : β → PyData) (al : List (α × β)) : PyData := .dict (al.map fun p => (enc p.1, ev p.2))
structure KeyEnc (enc : α → PyData) : Prop where
  eqv : ∀ a b, PyData.eqv (enc a) (enc b) = decide (a = b)
  hom : ∀ a, (∀ b, (isIK (enc a) && isIK (enc b)) = true) ∨ (∀ b, (isTK (enc a) && isTK (enc b)) = true)
theorem key_int : KeyEnc (fun i : Int => PyData.int i) := ⟨eqv_i, fun a => .inl fun b => rfl⟩
theorem isTK_pr (p : Int × Int) : isTK (pr p) = true := rfl
theorem key_pr : KeyEnc pr := ⟨eqv_pr, fun a => .inr fun b => by rw [isTK_pr, isTK_pr] <;> rfl⟩
variable {enc : α → PyData} {ev : β → PyData}
theorem KeyEnc.homK (h : KeyEnc enc) (a : α) (al : List (α × β)) : homK (enc a) (al.map fun p => (enc p.1, ev p.2)) = true := by
  unfold Rk.homK
  rcases h.hom a with q | q
  · have h1 := q a
    rw [Bool.and_eq_true] at h1
    rw [h1.1, Bool.true_and, Bool.or_eq_true]
    refine .inl (List.all_eq_true.mpr fun x hx => ?_)
    obtain ⟨p, _, rfl⟩ := List.mem_map.mp hx
    have h2 := q p.1
    rw [Bool.and_eq_true] at h2
    exact h2.2
  · have h1 := q a
    rw [Bool.and_eq_true] at h1
    rw [h1.1, Bool.true_and, Bool.or_eq_true]
    refine .inr (List.all_eq_true.mpr fun x hx => ?_)
    obtain ⟨p, _, rfl⟩ := List.mem_map.mp hx
    have h2 := q p.1
    rw [Bool.and_eq_true] at h2
    exact h2.2
theorem KeyEnc.find (h : KeyEnc enc) (k : α) : ∀ al : List (α × β), dFind (al.map fun p => (enc p.1, ev p.2)) (enc k) = (aFind al k).map ev
  | [] => rfl
  | p :: al => by
    have ih := KeyEnc.find h k al
    unfold dFind aFind at ih ⊢
    rw [List.map_cons, List.find?_cons, List.find?_cons]
    simp only [h.eqv]
    by_cases e : p.1 = k
    · simp [e]
    · simp only [e, decide_false]
      exact ih
theorem KeyEnc.put (h : KeyEnc enc) (k : α) (v : β) (al : List (α × β)) : dPut (al.map fun p => (enc p.1, ev p.2)) (enc k) (ev v) = (aPut al k v).map fun p => (enc p.1, ev p.2) := by
  unfold dPut aPut
  have e1 : ((al.map fun p => (enc p.1, ev p.2)).any fun p => PyData.eqv p.1 (enc k)) = decide (k ∈ al.map (·.1)) := by
    rw [List.any_map]
    rw [Bool.eq_iff_iff, List.any_eq_true, decide_eq_true_iff, List.mem_map]
    constructor
    · rintro ⟨p, hp, q⟩
      simp only [Function.comp, h.eqv, decide_eq_true_eq] at q
      exact ⟨p, hp, q⟩
    · rintro ⟨p, hp, q⟩
      exact ⟨p, hp, by simp only [Function.comp, h.eqv, decide_eq_true_eq]; exact q⟩
  rw [e1]
  by_cases hk : k ∈ al.map (·.1)
  · rw [if_pos (decide_eq_true hk), if_pos hk, List.map_map, List.map_map]
    refine List.map_congr_left fun p _ => ?_
    simp only [Function.comp, h.eqv, decide_eq_true_eq]
    split <;> rfl
  · rw [if_neg (by simpa using hk), if_neg hk, List.map_append]
    rfl
theorem aFind_put (al : List (α × β)) (k : α) (v : β) (j : α) : aFind (aPut al k v) j = if j = k then some v else aFind al j := by
  unfold aPut
  by_cases hk : k ∈ al.map (·.1)
  · rw [if_pos hk]
    induction al with
    | nil => simp at hk
    | cons p al ih =>
      unfold aFind at ih ⊢
      rw [List.map_cons, List.find?_cons, List.find?_cons]
      by_cases e : p.1 = k
      · rw [if_pos e]
        by_cases e2 : j = k
        · subst e2
          simp [e]
        · have e3 : ¬ p.1 = j := fun z => e2 (z.symm.trans e)
          simp only [e3, decide_false, if_neg e2]
          by_cases hk' : k ∈ al.map (·.1)
          · have := ih hk'
            rw [if_neg e2] at this
            exact this
          · congr 2
            conv => rhs; rw [← List.map_id al]
            refine List.map_congr_left fun q hq => ?_
            rw [if_neg]
            · rfl
            · exact fun z => hk' (List.mem_map.mpr ⟨q, hq, z⟩)
      · rw [if_neg e]
        have hk' : k ∈ al.map (·.1) := by
          rw [List.map_cons, List.mem_cons] at hk
          exact hk.resolve_left fun z => e z.symm
        have := ih hk'
        by_cases e4 : p.1 = j
        · have e2 : ¬ j = k := fun z => e (e4.trans z)
          simp [e4, e2]
        · simp only [e4, decide_false]
          exact this
  · rw [if_neg hk]
    unfold aFind
    rw [List.find?_append]
    by_cases e : j = k
    · subst e
      have : al.find? (fun p => decide (p.1 = j)) = none := List.find?_eq_none.mpr fun p hp => by
        simp only [decide_eq_true_eq]
        exact fun z => hk (List.mem_map.mpr ⟨p, hp, z⟩)
      simp [this]
    · have : ¬ k = j := fun z => e z.symm
      simp only [List.find?_cons, this, decide_false, List.find?_nil, Option.or_none, if_neg e]
theorem aPut_keys (al : List (α × β)) (k : α) (v : β) : (aPut al k v).map (·.1) = if k ∈ al.map (·.1) then al.map (·.1) else al.map (·.1) ++ [k] := by
  unfold aPut
  split
  · rw [List.map_map]
    refine List.map_congr_left fun p _ => ?_
    simp only [Function.comp]
    split <;> rfl
  · rw [List.map_append]
    rfl
theorem aFind_isSome (al : List (α × β)) (k : α) : (aFind al k).isSome = decide (k ∈ al.map (·.1)) := by
  unfold aFind
  rw [Option.isSome_map, Bool.eq_iff_iff, List.find?_isSome, decide_eq_true_iff, List.mem_map]
  constructor
  · rintro ⟨p, hp, q⟩
    exact ⟨p, hp, of_decide_eq_true q⟩
  · rintro ⟨p, hp, q⟩
    exact ⟨p, hp, decide_eq_true q⟩
theorem aFind_some {al : List (α × β)} {k : α} (h : k ∈ al.map (·.1)) : ∃ v, aFind al k = some v := Option.isSome_iff_exists.mp (by rw [aFind_isSome]; exact decide_eq_true h)
theorem aFind_mem {al : List (α × β)} {k : α} {v : β} (h : aFind al k = some v) : (k, v) ∈ al := by
  unfold aFind at h
  obtain ⟨p, hp, rfl⟩ := Option.map_eq_some_iff.mp h
  have e := List.find?_some hp
  simp only [decide_eq_true_eq] at e
  subst e
  exact List.mem_of_find?_eq_some hp
/-- the keys as a set that grows -/
def ins (ks : List α) (k : α) : List α := if k ∈ ks then ks else ks ++ [k]
theorem mem_ins {ks : List α} {k j : α} : j ∈ ins ks k ↔ j ∈ ks ∨ j = k := by
  unfold ins
  split
  · exact ⟨.inl, fun h => h.elim id fun z => z ▸ by assumption⟩
  · rw [List.mem_append, List.mem_singleton]
theorem ins_nodup {ks : List α} {k : α} (h : ks.Nodup) : (ins ks k).Nodup := by
  unfold ins
  split
  · exact h
  · rename_i hk
    rw [List.nodup_append]
    exact ⟨h, List.pairwise_singleton _ _, fun a ha b hb => by
      rw [List.mem_singleton] at hb
      subst hb
      exact fun z => hk (z ▸ ha)⟩
/-- a dict of keys, each with True -/
def dS (enc : α → PyData) (ks : List α) : PyData := .dict (ks.map fun k => (enc k, .bool true))
theorem dS_dA (ks : List α) : dS enc ks = dA enc (fun _ : Unit => .bool true) (ks.map fun k => (k, ())) := by
  unfold dS dA
  rw [List.map_map]
  rfl
theorem KeyEnc.inA (h : KeyEnc enc) (k : α) (al : List (α × β)) [inst : Decidable (k ∈ al.map (·.1))] : pIn (enc k) (dA enc ev al) = some (.bool (decide (k ∈ al.map (·.1)))) := by
  show (if Rk.homK (enc k) (al.map fun p => (enc p.1, ev p.2)) = true then some (PyData.bool (dFind (al.map fun p => (enc p.1, ev p.2)) (enc k)).isSome) else none) = _
  rw [if_pos (h.homK k al), h.find, Option.isSome_map, aFind_isSome]
  congr
theorem KeyEnc.inS (h : KeyEnc enc) (k : α) (ks : List α) [inst : Decidable (k ∈ ks)] : pIn (enc k) (dS enc ks) = some (.bool (decide (k ∈ ks))) := by
  rw [dS_dA, h.inA, List.map_map]
  simp
theorem KeyEnc.ninA (h : KeyEnc enc) (k : α) (al : List (α × β)) [inst : Decidable (k ∈ al.map (·.1))] : pNin (enc k) (dA enc ev al) = some (.bool (decide (k ∉ al.map (·.1)))) := by
  unfold pNin
  rw [h.inA]
  simp
theorem KeyEnc.ninS (h : KeyEnc enc) (k : α) (ks : List α) [inst : Decidable (k ∈ ks)] : pNin (enc k) (dS enc ks) = some (.bool (decide (k ∉ ks))) := by
  unfold pNin
  rw [h.inS]
  simp
theorem KeyEnc.ixA (h : KeyEnc enc) {k : α} {al : List (α × β)} {v : β} (e : aFind al k = some v) : pIx (dA enc ev al) (enc k) = some (ev v) := by
  show (if Rk.homK (enc k) (al.map fun p => (enc p.1, ev p.2)) = true then dFind (al.map fun p => (enc p.1, ev p.2)) (enc k) else none) = _
  rw [if_pos (h.homK k al), h.find, e]
  rfl
theorem KeyEnc.putS (h : KeyEnc enc) (k : α) (ks : List α) : dPut (ks.map fun k => (enc k, .bool true)) (enc k) (.bool true) = (ins ks k).map fun k => (enc k, .bool true) := by
  have e := h.put (ev := fun _ : Unit => .bool true) k () (ks.map fun k => (k, ()))
  rw [List.map_map] at e
  refine e.trans ?_
  have e2 : aPut (ks.map fun k => (k, ())) k () = (ins ks k).map fun k => (k, ()) := by
    unfold aPut ins
    rw [List.map_map]
    have e3 : ks.map ((fun p : α × Unit => p.1) ∘ fun k => (k, ())) = ks := by
      conv => rhs; rw [← List.map_id ks]
      rfl
    rw [e3]
    split
    · rw [List.map_map]
      refine List.map_congr_left fun p _ => ?_
      simp only [Function.comp]
      split <;> rfl
    · rw [List.map_append]
      rfl
  rw [e2, List.map_map]
  rfl
end
/-! ### sorting -/
def leI (a b : Int) : Bool := decide (a ≤ b)
def leP (p q : Int × Int) : Bool := decide (p.1 < q.1 ∨ (p.1 = q.1 ∧ p.2 ≤ q.2))
theorem sortD_of {α : Type} {enc : α → PyData} {le : α → α → Bool} (h : PySem.W.dataLe false enc = le) (xs : List α) : sortD (xs.map enc) = (xs.mergeSort le).map enc := by
  unfold sortD
  rw [List.map_mergeSort]
  intro a _ b _
  rw [← h]
  rfl
theorem sortD_int (xs : List Int) : sortD (iD xs) = iD (xs.mergeSort leI) := sortD_of (PySem.W.dataLe_int fun b => b) xs
theorem sortD_pr (xs : List (Int × Int)) : sortD (pD xs) = pD (xs.mergeSort leP) := sortD_of (enc := pr) (le := leP) (PySem.W.dataLe_ii (β := Int × Int) (fun p => p.1) (fun p => p.2)) xs
theorem okSort_of {α : Type} {enc : α → PyData} {xs : List α} (h : xs.length ≤ sizeLine) (h1 : ∀ a b, PySem.W.alike (enc a) (enc b) = true) (h2 : (∀ a, isTup1 (enc a) = true) ∨ (∀ a, nonTup (enc a) = true)) (h3 : ∀ a, (enc a).depth ≤ 64) : okSort (xs.map enc) = true := by
  unfold okSort
  simp only [Bool.and_eq_true, decide_eq_true_eq, List.length_map, List.all_map, List.all_eq_true, Bool.or_eq_true]
  refine ⟨⟨⟨h, fun a _ => List.all_eq_true.mpr fun b _ => h1 a b⟩, ?_⟩, fun a _ => decide_eq_true (h3 a)⟩
  rcases h2 with h2 | h2
  · exact .inl fun a _ => h2 a
  · exact .inr fun a _ => h2 a
theorem okSort_int {xs : List Int} (h : xs.length ≤ sizeLine) : okSort (iD xs) = true := okSort_of h (fun a b => by simp [PySem.W.alike]) (.inr fun a => rfl) fun a => by simp [PyData.depth]
theorem okSort_pr {xs : List (Int × Int)} (h : xs.length ≤ sizeLine) : okSort (pD xs) = true := okSort_of h (fun a b => by simp [PySem.W.alike, PySem.W.alikeAll, pr]) (.inl fun a => rfl) fun a => by simp [PyData.depth, PyData.depthAll, pr]
theorem pSorted_dI {ks : List Int} (h : ks.length ≤ sizeLine) : pSorted (dS (fun i => PyData.int i) ks) = some (.list (iD (ks.mergeSort leI))) := by
  have e : (ks.map fun k => (PyData.int k, PyData.bool true)).map (·.1) = iD ks := by
    rw [List.map_map]
    rfl
  unfold pSorted dS
  dsimp only
  rw [if_pos ⟨by rw [e]; exact okSort_int h, by rw [Bool.or_eq_true]; exact .inl (List.all_eq_true.mpr fun x hx => by obtain ⟨k, _, rfl⟩ := List.mem_map.mp hx; rfl)⟩, e, sortD_int]
theorem pSorted_dP {ks : List (Int × Int)} (h : ks.length ≤ sizeLine) : pSorted (dS pr ks) = some (.list (pD (ks.mergeSort leP))) := by
  have e : (ks.map fun k => (pr k, PyData.bool true)).map (·.1) = pD ks := by
    rw [List.map_map]
    rfl
  unfold pSorted dS
  dsimp only
  rw [if_pos ⟨by rw [e]; exact okSort_pr h, by rw [Bool.or_eq_true]; exact .inr (List.all_eq_true.mpr fun x hx => by obtain ⟨k, _, rfl⟩ := List.mem_map.mp hx; rfl)⟩, e, sortD_pr]
theorem pSorted_lI {ks : List Int} (h : ks.length ≤ sizeLine) : pSorted (.list (iD ks)) = some (.list (iD (ks.mergeSort leI))) := by
  unfold pSorted
  dsimp only
  rw [if_pos (okSort_int h), sortD_int]
theorem pSorted_lP {ks : List (Int × Int)} (h : ks.length ≤ sizeLine) : pSorted (.list (pD ks)) = some (.list (pD (ks.mergeSort leP))) := by
  unfold pSorted
  dsimp only
  rw [if_pos (okSort_pr h), sortD_pr]
/-! sorted, no two alike: one list for one set -/
def ltP (p q : Int × Int) : Prop := p.1 < q.1 ∨ (p.1 = q.1 ∧ p.2 < q.2)
theorem sort_strict {α : Type} {le : α → α → Bool} {lt : α → α → Prop} (tr : ∀ a b c, le a b = true → le b c = true → le a c = true) (tot : ∀ a b, (le a b || le b a) = true) (hlt : ∀ a b, le a b = true → a ≠ b → lt a b) {xs : List α} (h : xs.Nodup) : (xs.mergeSort le).Pairwise lt := by
  have h1 := List.pairwise_mergeSort (le := le) tr tot xs
  have h2 : (xs.mergeSort le).Pairwise (· ≠ ·) := (List.mergeSort_perm xs le).symm.nodup h
  exact (h1.and h2).imp fun {a b} h => hlt a b h.1 h.2
theorem sortI_strict {xs : List Int} (h : xs.Nodup) : (xs.mergeSort leI).Pairwise (· < ·) := sort_strict (fun a b c h1 h2 => by unfold leI at *; simp only [decide_eq_true_eq] at *; omega) (fun a b => by unfold leI; simp only [Bool.or_eq_true, decide_eq_true_eq]; omega)
  (fun a b h1 h2 => by unfold leI at h1; simp only [decide_eq_true_eq] at h1; omega) h
theorem sortP_strict {xs : List (Int × Int)} (h : xs.Nodup) : (xs.mergeSort leP).Pairwise ltP := sort_strict (fun a b c h1 h2 => by unfold leP at *; simp only [decide_eq_true_eq] at *; omega) (fun a b => by unfold leP; simp only [Bool.or_eq_true, decide_eq_true_eq]; omega)
  (fun a b h1 h2 => by
    obtain ⟨a1, a2⟩ := a
    obtain ⟨b1, b2⟩ := b
    unfold leP at h1
    unfold ltP
    simp only [decide_eq_true_eq, ne_eq, Prod.mk.injEq] at *
    omega) h
theorem mem_sort {α : Type} {le : α → α → Bool} {xs : List α} {x : α} : x ∈ xs.mergeSort le ↔ x ∈ xs := (List.mergeSort_perm xs le).mem_iff
theorem strict_uniq {α : Type} {lt : α → α → Prop} (irr : ∀ a, ¬ lt a a) (tr : ∀ a b c, lt a b → lt b c → lt a c) : ∀ {xs ys : List α}, xs.Pairwise lt → ys.Pairwise lt → (∀ x, x ∈ xs ↔ x ∈ ys) → xs = ys
  | [], [], _, _, _ => rfl
  | [], y :: ys, _, _, h => by have := (h y).mpr (by simp); simp at this
  | x :: xs, [], _, _, h => by have := (h x).mp (by simp); simp at this
  | x :: xs, y :: ys, h1, h2, h => by
    rw [List.pairwise_cons] at h1 h2
    have e : x = y := by
      rcases List.mem_cons.mp ((h x).mp (by simp)) with e | hx
      · exact e
      · rcases List.mem_cons.mp ((h y).mpr (by simp)) with e | hy
        · exact e.symm
        · exact absurd (tr _ _ _ (h1.1 y hy) (h2.1 x hx)) (irr x)
    subst e
    congr 1
    refine strict_uniq irr tr h1.2 h2.2 fun z => ?_
    constructor
    · intro hz
      rcases List.mem_cons.mp ((h z).mp (by simp [hz])) with e | q
      · exact absurd (h1.1 z hz) (e ▸ irr z)
      · exact q
    · intro hz
      rcases List.mem_cons.mp ((h z).mpr (by simp [hz])) with e | q
      · exact absurd (h2.1 z hz) (e ▸ irr z)
      · exact q
theorem ltP_uniq {xs ys : List (Int × Int)} (h1 : xs.Pairwise ltP) (h2 : ys.Pairwise ltP) (h : ∀ x, x ∈ xs ↔ x ∈ ys) : xs = ys := strict_uniq (fun a => by unfold ltP; omega) (fun a b c => by unfold ltP; omega) h1 h2 h
theorem ltI_uniq {xs ys : List Int} (h1 : xs.Pairwise (· < ·)) (h2 : ys.Pairwise (· < ·)) (h : ∀ x, x ∈ xs ↔ x ∈ ys) : xs = ys := strict_uniq (fun a => by omega) (fun a b c => by omega) h1 h2 h
theorem ltP_nodup {xs : List (Int × Int)} (h : xs.Pairwise ltP) : xs.Nodup := h.imp fun {a b} q z => by subst z; unfold ltP at q; omega
theorem ltI_nodup {xs : List Int} (h : xs.Pairwise (· < ·)) : xs.Nodup := h.imp fun {a b} q z => by subst z; omega
theorem eraseIdx_perm {α : Type} : ∀ {xs : List α} {i : Nat} (h : i < xs.length), (xs[i] :: xs.eraseIdx i).Perm xs
  | x :: xs, 0, _ => List.Perm.refl _
  | x :: xs, i + 1, h => (List.Perm.swap _ _ _).trans ((eraseIdx_perm (xs := xs) (i := i) (by simpa using h)).cons x)
theorem eraseIdx_mapD {α β : Type} (f : α → β) : ∀ (xs : List α) (i : Nat), (xs.map f).eraseIdx i = (xs.eraseIdx i).map f
  | [], _ => rfl
  | x :: xs, 0 => rfl
  | x :: xs, i + 1 => by
    show f x :: (xs.map f).eraseIdx i = _
    rw [eraseIdx_mapD f xs i]
    rfl
end Rk

set_option Elab.async false
set_option linter.all false
set_option maxRecDepth 100000
set_option maxHeartbeats 4000000
/-! Pl2: loops. -/
namespace Rk
open PySem PySem.Spec L2
/-! ### for -/
/-- a loop that runs through -/
theorem evF_go {α S : Type} {τ : Tx} {F : Sx} {fg : List Nat} (enc : α → PyData) (emb : S → Rk.Env) (step : S → α → S) (I : S → Prop) (P : α → Prop)
    (h : ∀ s x, I s → P x → I (step s x) ∧ ∃ G1 G2, τ (emb s) (enc x) = some G1 ∧ F G1 = some (.nx G2) ∧ wp G2 fg = emb (step s x)) :
    ∀ (xs : List α) (s : S), (∀ x ∈ xs, P x) → I s → I (xs.foldl step s) ∧ evF τ F fg (xs.map enc) (emb s) = some (.nx (emb (xs.foldl step s)))
  | [], s, _, hs => ⟨hs, rfl⟩
  | x :: xs, s, hp, hs => by
    obtain ⟨h1, G1, G2, e1, e2, e3⟩ := h s x hs (hp x (by simp))
    obtain ⟨h2, e4⟩ := evF_go enc emb step I P h xs (step s x) (fun y hy => hp y (by simp [hy])) h1
    refine ⟨h2, ?_⟩
    rw [List.map_cons]
    unfold evF
    rw [e1, Option.bind_some, e2, Option.bind_some]
    dsimp only
    rw [e3]
    exact e4
/-- the states by places: each place has its own claim -/
theorem evF_ix {α S : Type} {τ : Tx} {F : Sx} {fg : List Nat} (enc : α → PyData) (emb : S → Rk.Env) (step : S → α → S) (I : Nat → S → Prop) (xs : List α)
    (h : ∀ i x s, xs[i]? = some x → I i s → I (i + 1) (step s x) ∧ ∃ G1 G2, τ (emb s) (enc x) = some G1 ∧ F G1 = some (.nx G2) ∧ wp G2 fg = emb (step s x)) :
    ∀ (k : Nat) (s : S), k ≤ xs.length → I k s → I xs.length ((xs.drop k).foldl step s) ∧ evF τ F fg ((xs.drop k).map enc) (emb s) = some (.nx (emb ((xs.drop k).foldl step s))) := by
  intro k
  generalize hm : xs.length - k = m
  induction m generalizing k with
  | zero =>
    intro s hk hs
    have e : k = xs.length := by omega
    subst e
    rw [List.drop_length]
    exact ⟨hs, rfl⟩
  | succ m ih =>
    intro s hk hs
    have hlt : k < xs.length := by omega
    rw [List.drop_eq_getElem_cons hlt]
    obtain ⟨h1, G1, G2, e1, e2, e3⟩ := h k xs[k] s (List.getElem?_eq_getElem hlt) hs
    obtain ⟨h2, e4⟩ := ih (k + 1) (by omega) (step s xs[k]) (by omega) h1
    refine ⟨h2, ?_⟩
    rw [List.map_cons]
    unfold evF
    rw [e1, Option.bind_some, e2, Option.bind_some]
    dsimp only
    rw [e3]
    exact e4
/-- a loop that may return: the step says so -/
theorem evF_try {α S : Type} {τ : Tx} {F : Sx} {fg : List Nat} (enc : α → PyData) (emb : S → Rk.Env) (step : S → α → Except PyData S) (I : S → Prop) (P : α → Prop)
    (h : ∀ s x, I s → P x → ∃ G1 o, τ (emb s) (enc x) = some G1 ∧ F G1 = some o ∧ match step s x with
      | .ok s' => I s' ∧ ∃ G2, o = .nx G2 ∧ wp G2 fg = emb s'
      | .error d => o = .rt d) :
    ∀ (xs : List α) (s : S), (∀ x ∈ xs, P x) → I s → match xs.foldlM step s with
      | .ok s' => I s' ∧ evF τ F fg (xs.map enc) (emb s) = some (.nx (emb s'))
      | .error d => evF τ F fg (xs.map enc) (emb s) = some (.rt d)
  | [], s, _, hs => ⟨hs, rfl⟩
  | x :: xs, s, hp, hs => by
    obtain ⟨G1, o, e1, e2, e3⟩ := h s x hs (hp x (by simp))
    rw [List.foldlM_cons]
    cases q : step s x with
    | ok s' =>
      rw [q] at e3
      obtain ⟨h1, G2, rfl, e4⟩ := e3
      have ih := evF_try enc emb step I P h xs s' (fun y hy => hp y (by simp [hy])) h1
      have e5 : evF τ F fg ((x :: xs).map enc) (emb s) = evF τ F fg (xs.map enc) (emb s') := by
        rw [List.map_cons]
        conv => lhs; unfold evF
        rw [e1, Option.bind_some, e2, Option.bind_some]
        dsimp only
        rw [e4]
      rw [e5]
      exact ih
    | error d =>
      rw [q] at e3
      cases e3
      show evF τ F fg ((x :: xs).map enc) (emb s) = some (.rt d)
      rw [List.map_cons]
      unfold evF
      rw [e1, Option.bind_some, e2, Option.bind_some]
/-- any loop: what stands after i turns, or what was returned -/
theorem evF_any {α S : Type} {τ : Tx} {F : Sx} {fg : List Nat} (enc : α → PyData) (emb : S → Rk.Env) (I : Nat → S → Prop) (R : PyData → Prop) (xs : List α)
    (h : ∀ i x s, xs[i]? = some x → I i s → (∃ s', I (i + 1) s' ∧ ∃ G1 G2, τ (emb s) (enc x) = some G1 ∧ F G1 = some (.nx G2) ∧ wp G2 fg = emb s') ∨ ∃ d G1, R d ∧ τ (emb s) (enc x) = some G1 ∧ F G1 = some (.rt d)) :
    ∀ (k : Nat) (s : S), k ≤ xs.length → I k s → (∃ s', I xs.length s' ∧ evF τ F fg ((xs.drop k).map enc) (emb s) = some (.nx (emb s'))) ∨ ∃ d, R d ∧ evF τ F fg ((xs.drop k).map enc) (emb s) = some (.rt d) := by
  intro k
  generalize hm : xs.length - k = m
  induction m generalizing k with
  | zero =>
    intro s hk hs
    have e : k = xs.length := by omega
    subst e
    rw [List.drop_length]
    exact .inl ⟨s, hs, rfl⟩
  | succ m ih =>
    intro s hk hs
    have hlt : k < xs.length := by omega
    rw [List.drop_eq_getElem_cons hlt]
    rcases h k xs[k] s (List.getElem?_eq_getElem hlt) hs with ⟨s', h1, G1, G2, e1, e2, e3⟩ | ⟨d, G1, hd, e1, e2⟩
    · have q := ih (k + 1) (by omega) s' (by omega) h1
      have e5 : evF τ F fg ((xs[k] :: xs.drop (k + 1)).map enc) (emb s) = evF τ F fg ((xs.drop (k + 1)).map enc) (emb s') := by
        rw [List.map_cons]
        conv => lhs; unfold evF
        rw [e1, Option.bind_some, e2, Option.bind_some]
        dsimp only
        rw [e3]
      rw [e5]
      exact q
    · refine .inr ⟨d, hd, ?_⟩
      rw [List.map_cons]
      unfold evF
      rw [e1, Option.bind_some, e2, Option.bind_some]
/-! ### while -/
theorem evW_go {S : Type} {g : Bx} {F : Sx} {fg : List Nat} (emb : S → Rk.Env) (c : S → Bool) (step : S → S) (I : S → Prop) (μ : S → Nat)
    (h : ∀ s, I s → g (emb s) = some (c s) ∧ (c s = true → I (step s) ∧ μ (step s) < μ s ∧ ∃ G2, F (emb s) = some (.nx G2) ∧ wp G2 fg = emb (step s))) :
    ∀ (n : Nat) (s : S), I s → μ s < n → ∃ s', I s' ∧ c s' = false ∧ evW g F fg n (emb s) = some (.nx (emb s'))
  | 0, s, _, hn => absurd hn (Nat.not_lt_zero _)
  | n + 1, s, hs, hn => by
    obtain ⟨e1, h1⟩ := h s hs
    unfold evW
    rw [e1, Option.bind_some]
    cases q : c s with
    | true =>
      obtain ⟨h2, h3, G2, e2, e3⟩ := h1 q
      rw [if_pos rfl, e2, Option.bind_some]
      dsimp only
      rw [e3]
      exact evW_go emb c step I μ h n (step s) h2 (by omega)
    | false =>
      rw [if_neg Bool.false_ne_true]
      exact ⟨s, hs, q, rfl⟩
/-- a while loop whose body may return -/
theorem evW_try {S : Type} {g : Bx} {F : Sx} {fg : List Nat} (emb : S → Rk.Env) (c : S → Bool) (I : S → Prop) (R : PyData → Prop) (μ : S → Nat)
    (h : ∀ s, I s → g (emb s) = some (c s) ∧ (c s = true → (∃ s', I s' ∧ μ s' < μ s ∧ ∃ G2, F (emb s) = some (.nx G2) ∧ wp G2 fg = emb s') ∨ ∃ d, R d ∧ F (emb s) = some (.rt d))) :
    ∀ (n : Nat) (s : S), I s → μ s < n → (∃ s', I s' ∧ c s' = false ∧ evW g F fg n (emb s) = some (.nx (emb s'))) ∨ ∃ d, R d ∧ evW g F fg n (emb s) = some (.rt d)
  | 0, s, _, hn => absurd hn (Nat.not_lt_zero _)
  | n + 1, s, hs, hn => by
    obtain ⟨e1, h1⟩ := h s hs
    unfold evW
    rw [e1, Option.bind_some]
    cases q : c s with
    | true =>
      rw [if_pos rfl]
      rcases h1 q with ⟨s', h2, h3, G2, e2, e3⟩ | ⟨d, hd, e2⟩
      · rw [e2, Option.bind_some]
        dsimp only
        rw [e3]
        exact evW_try emb c I R μ h n s' h2 (by omega)
      · rw [e2, Option.bind_some]
        exact .inr ⟨d, hd, rfl⟩
    | false =>
      rw [if_neg Bool.false_ne_true]
      exact .inl ⟨s, hs, q, rfl⟩
/-! ### comprehensions -/
theorem evC_go {α β : Type} {t : PyData → Option (Option PyData)} (enc : α → PyData) (enc' : β → PyData) (f : α → Option β) : ∀ (xs : List α), (∀ x ∈ xs, t (enc x) = some ((f x).map enc')) → evC t (xs.map enc) = some ((xs.filterMap f).map enc')
  | [], _ => rfl
  | x :: xs, h => by
    rw [List.map_cons]
    unfold evC
    rw [h x (by simp), Option.bind_some, evC_go enc enc' f xs (fun y hy => h y (by simp [hy])), Option.bind_some, List.filterMap_cons]
    cases f x <;> rfl
/-- a filter -/
theorem evC_filter {α β : Type} {t : PyData → Option (Option PyData)} (enc : α → PyData) (enc' : β → PyData) (p : α → Bool) (f : α → β) (xs : List α) (h : ∀ x ∈ xs, t (enc x) = some (if p x = true then some (enc' (f x)) else none)) : evC t (xs.map enc) = some (((xs.filter p).map f).map enc') := by
  rw [evC_go enc enc' (fun x => if p x = true then some (f x) else none) xs fun x hx => by
    rw [h x hx]
    split <;> rfl]
  congr 2
  induction xs with
  | nil => rfl
  | cons x xs ih =>
    rw [List.filterMap_cons, List.filter_cons]
    have ih' := ih fun y hy => h y (by simp [hy])
    split <;> rename_i e
    · split at e
      · cases e
      · rename_i e2
        rw [if_neg e2]
        exact ih'
    · split at e
      · rename_i e2
        cases e
        rw [if_pos e2, List.map_cons, ih']
      · cases e
/-! ### ranges -/
def rngI (lo : Int) (n : Nat) : List Int := (List.range n).map fun i => lo + (i : Nat)
theorem rngD_iD (lo : Int) (n : Nat) : rngD lo n = iD (rngI lo n) := by
  unfold rngD iD rngI
  rw [List.map_map]
  rfl
theorem mem_rngI {lo : Int} {n : Nat} {x : Int} : x ∈ rngI lo n ↔ lo ≤ x ∧ x < lo + n := by
  unfold rngI
  rw [List.mem_map]
  constructor
  · rintro ⟨i, hi, rfl⟩
    rw [List.mem_range] at hi
    omega
  · intro h
    exact ⟨(x - lo).toNat, by rw [List.mem_range]; omega, by omega⟩
theorem rngI_get {lo : Int} {n i : Nat} {x : Int} (h : (rngI lo n)[i]? = some x) : x = lo + (i : Nat) ∧ i < n := by
  unfold rngI at h
  rw [List.getElem?_map] at h
  obtain ⟨j, hj, rfl⟩ := Option.map_eq_some_iff.mp h
  have hi : i < n := by
    have := (List.getElem?_eq_some_iff.mp hj).1
    rwa [List.length_range] at this
  rw [List.getElem?_range hi] at hj
  cases hj
  exact ⟨rfl, hi⟩
theorem rngI_length (lo : Int) (n : Nat) : (rngI lo n).length = n := by
  unfold rngI
  rw [List.length_map, List.length_range]
theorem rngI_sorted (lo : Int) (n : Nat) : (rngI lo n).Pairwise (· < ·) := by
  unfold rngI
  rw [List.pairwise_map]
  exact List.pairwise_lt_range.imp fun h => by omega
end Rk

set_option Elab.async false
set_option linter.all false
set_option maxRecDepth 100000
set_option maxHeartbeats 4000000
/-! Pl3: single steps. -/
namespace Rk
open PySem PySem.Spec L2
section
variable {α β : Type} [DecidableEq α] {enc : α → PyData} {ev : β → PyData} {G G' : Rk.Env} {i j : Nat} {f g h fk fv : Fx} {fs : Fs} {F F1 F2 : Sx} {gg g1 g2 : Bx} {d x y : PyData} {b : Bool}
theorem r_seq {o : Out} (h1 : F1 G = some (.nx G')) (h2 : F2 G' = some o) : sSeq F1 F2 G = some o := by
  unfold sSeq
  rw [h1]
  exact h2
theorem r_seqR (h1 : F1 G = some (.rt d)) : sSeq F1 F2 G = some (.rt d) := by
  unfold sSeq
  rw [h1]
  rfl
theorem r_asg (h1 : f G = some d) : sAsg i f G = some (.nx (st G i d)) := by
  unfold sAsg
  rw [h1]
  rfl
theorem r_ret (h1 : f G = some d) : sRet f G = some (.rt d) := by
  unfold sRet
  rw [h1]
  rfl
theorem r_ifT {o : Out} (h1 : gg G = some true) (h2 : F1 G = some o) : sIf gg F1 F2 G = some o := by
  unfold sIf
  rw [h1]
  exact h2
theorem r_ifF {o : Out} (h1 : gg G = some false) (h2 : F2 G = some o) : sIf gg F1 F2 G = some o := by
  unfold sIf
  rw [h1]
  exact h2
theorem r_if (h1 : gg G = some b) : sIf gg F1 F2 G = if b = true then F1 G else F2 G := by
  unfold sIf
  rw [h1]
  rfl
theorem r_for {fi : Fs} {τ : Tx} {fg : List Nat} {ds : List PyData} {o : Option Out} (h1 : fi G = some ds) (h2 : evF τ F fg ds (wp G fg) = o) : sFor fi τ F fg G = o := by
  unfold sFor
  rw [h1]
  exact h2
theorem r_c1 {p : P1} (h1 : f G = some x) (h2 : p x = some y) : c1 p f G = some y := by
  unfold c1
  rw [h1]
  exact h2
theorem r_c2 {p : P2} (h1 : f G = some x) (h2 : g G = some y) (h3 : p x y = some d) : c2 p f g G = some d := by
  unfold c2
  rw [h1, h2]
  exact h3
theorem r_call {m : List PyData → Option PyData} {ds : List PyData} (h1 : fs G = some ds) (h2 : m ds = some d) : cCall m fs G = some d := by
  unfold cCall
  rw [h1]
  exact h2
theorem r_gB (h1 : f G = some (.bool b)) : gB f G = some b := by
  unfold gB
  rw [h1]
  rfl
theorem r_and {b1 b2 : Bool} (h1 : g1 G = some b1) (h2 : b1 = true → g2 G = some b2) : gAnd g1 g2 G = some (b1 && b2) := by
  unfold gAnd
  rw [h1, Option.bind_some]
  cases b1 with
  | true => rw [if_pos rfl, h2 rfl]; rfl
  | false => rfl
theorem r_or {b1 b2 : Bool} (h1 : g1 G = some b1) (h2 : b1 = false → g2 G = some b2) : gOr g1 g2 G = some (b1 || b2) := by
  unfold gOr
  rw [h1, Option.bind_some]
  cases b1 with
  | true => rfl
  | false => rw [if_neg (by decide), h2 rfl]; rfl
theorem r_not {b1 : Bool} (h1 : g1 G = some b1) : gNot g1 G = some (!b1) := by
  unfold gNot
  rw [h1]
  rfl
theorem r_putS (hE : KeyEnc enc) {k : α} {ks : List α} (hd : gt G i = some (dS enc ks)) (hk : fk G = some (enc k)) (hv : fv G = some (.bool true)) (hl : ks.length < sizeLine) : sPut i fk fv G = some (.nx (st G i (dS enc (ins ks k)))) := by
  unfold sPut
  rw [hv, hk, hd]
  have h1 : homK (enc k) (ks.map fun k => (enc k, .bool true)) = true := by
    have := hE.homK (ev := fun _ : Unit => .bool true) k (ks.map fun k => (k, ()))
    rwa [List.map_map] at this
  show (if homK (enc k) (ks.map fun k => (enc k, .bool true)) = true ∧ (ks.map fun k => (enc k, PyData.bool true)).length < sizeLine ∧ isDict (.bool true) = false then some (Out.nx (st G i (.dict (dPut (ks.map fun k => (enc k, .bool true)) (enc k) (.bool true))))) else none) = _
  rw [if_pos ⟨h1, by rw [List.length_map]; exact hl, rfl⟩, hE.putS]
  rfl
theorem r_putA (hE : KeyEnc enc) {k : α} {v : β} {al : List (α × β)} (hd : gt G i = some (dA enc ev al)) (hk : fk G = some (enc k)) (hv : fv G = some (ev v)) (hl : al.length < sizeLine) (hn : isDict (ev v) = false) : sPut i fk fv G = some (.nx (st G i (dA enc ev (aPut al k v)))) := by
  unfold sPut
  rw [hv, hk, hd]
  show (if homK (enc k) (al.map fun p => (enc p.1, ev p.2)) = true ∧ (al.map fun p => (enc p.1, ev p.2)).length < sizeLine ∧ isDict (ev v) = false then some (Out.nx (st G i (.dict (dPut (al.map fun p => (enc p.1, ev p.2)) (enc k) (ev v))))) else none) = _
  rw [if_pos ⟨hE.homK k al, by rw [List.length_map]; exact hl, hn⟩, hE.put]
  rfl
theorem r_app {ds : List PyData} (hl : gt G i = some (.list ds)) (h1 : f G = some d) (hc : ds.length < sizeLine) (hn : isDict d = false) : sApp i f G = some (.nx (st G i (.list (ds ++ [d])))) := by
  unfold sApp
  rw [hl, h1]
  show (if ds.length < sizeLine ∧ isDict d = false then some (Out.nx (st G i (.list (ds ++ [d])))) else none) = _
  rw [if_pos ⟨hc, hn⟩]
theorem r_ext {ds es : List PyData} (hl : gt G i = some (.list ds)) (h1 : f G = some (.list es)) (hc : ds.length + es.length ≤ sizeLine) : sExt i f G = some (.nx (st G i (.list (ds ++ es)))) := by
  unfold sExt
  rw [hl, h1]
  show (if ds.length + es.length ≤ sizeLine then some (Out.nx (st G i (.list (ds ++ es)))) else none) = _
  rw [if_pos hc]
theorem r_pop {ds : List PyData} (hl : gt G i = some (.list (ds ++ [d]))) : sPop j i G = some (.nx (st (st G i (.list ds)) j d)) := by
  unfold sPop
  rw [hl]
  show ((ds ++ [d])[(ds ++ [d]).length - 1]?).map (fun x => Out.nx (st (st G i (.list (ds ++ [d]).dropLast)) j x)) = _
  rw [List.length_append, List.length_singleton, Nat.add_sub_cancel, List.getElem?_append_right (Nat.le_refl _), Nat.sub_self, List.dropLast_concat]
  rfl
theorem r_rng1 {n : Int} (h1 : f G = some (.int n)) (hn : -1000000000 ≤ n) (hn2 : n ≤ 1000000000) : iR1 f G = some (iD (rngI 0 n.toNat)) := by
  unfold iR1
  rw [h1, Option.bind_some]
  dsimp only
  rw [if_pos ⟨by omega, by omega⟩, rngD_iD]
theorem r_rng2 {a n : Int} (h0 : f G = some (.int a)) (h1 : g G = some (.int n)) (ha : -1000000000 ≤ a) (ha2 : a ≤ 1000000000) (hn : -1000000000 ≤ n) (hn2 : n ≤ 1000000000) : iR2 f g G = some (iD (rngI a (n - a).toNat)) := by
  unfold iR2
  rw [h0, Option.bind_some, h1, Option.bind_some]
  dsimp only
  rw [if_pos ⟨by omega, by omega, by omega, by omega⟩, rngD_iD]
theorem r_lc {fi : Fs} {vs : List Nat} {τ : Tx} {fe : Fx} {ds rs : List PyData} (h1 : fi G = some ds) (hl : ds.length < sizeLine) (h2 : evC (lcT vs τ gg fe G) ds = some rs) : cLc fi vs τ gg fe G = some (.list rs) := by
  unfold cLc
  rw [h1, Option.bind_some, if_pos hl, h2]
  rfl
theorem r_lcT {vs : List Nat} {τ : Tx} {fe : Fx} (h1 : τ (wp G vs) d = some G') (h2 : gg G' = some b) (h3 : b = true → fe G' = some y) (h4 : isDict y = false) : lcT vs τ gg fe G d = some (if b = true then some y else none) := by
  unfold lcT
  rw [h1, Option.bind_some, h2, Option.bind_some]
  cases b with
  | true => rw [if_pos rfl, if_pos rfl, h3 rfl, Option.bind_some, if_pos h4]
  | false => rfl
theorem r_cons {ds : List PyData} (h1 : f G = some d) (h2 : fs G = some ds) : cCons f fs G = some (d :: ds) := by
  unfold cCons
  rw [h1, h2]
  rfl
theorem r_tup {ds : List PyData} (h1 : fs G = some ds) (h2 : okS ds = true) : cTup fs G = some (.tuple ds) := by
  unfold cTup
  rw [h1, Option.bind_some, if_pos h2]
theorem r_lst {ds : List PyData} (h1 : fs G = some ds) (h2 : okS ds = true) : cLst fs G = some (.list ds) := by
  unfold cLst
  rw [h1, Option.bind_some, if_pos h2]
theorem r_mk {n N : Nat} {ds : List PyData} (hn : ds.length = n) (h1 : F (ds.map some ++ List.replicate (N - n) none) = some (.rt d)) : mkM n N F ds = some d := by
  unfold mkM
  rw [if_pos hn, h1]
  rfl
end
theorem okS_two {a b : PyData} (h1 : isDict a = false) (h2 : isDict b = false) : okS [a, b] = true := by
  unfold okS noDicts
  simp [h1, h2]
  decide
theorem okS_one {a : PyData} (h1 : isDict a = false) : okS [a] = true := by
  unfold okS noDicts
  simp [h1]
  decide
theorem okS_three {a b c : PyData} (h1 : isDict a = false) (h2 : isDict b = false) (h3 : isDict c = false) : okS [a, b, c] = true := by
  unfold okS noDicts
  simp [h1, h2, h3]
  decide
theorem okS_of {α : Type} {enc : α → PyData} {xs : List α} (h : ∀ a, isDict (enc a) = false) (hl : xs.length ≤ sizeLine) : okS (xs.map enc) = true := by
  unfold okS noDicts
  rw [Bool.and_eq_true, List.all_map, List.length_map]
  exact ⟨List.all_eq_true.mpr fun x _ => by show (!isDict (enc x)) = true; rw [h x]; rfl, decide_eq_true hl⟩
theorem pMod_of {i j : Int} (h : j ≠ 0) : pMod (.int i) (.int j) = some (.int (Int.fmod i j)) := by
  show (if decide (j ≠ 0) = true then some (PyData.int (Int.fmod i j)) else none) = _
  rw [if_pos (decide_eq_true h)]
theorem cMulB_r {i j : Int} (h1 : -(2 ^ 64) < j) (h2 : j < 2 ^ 64) : cMulB i j = true := by
  unfold cMulB
  simp only [Bool.or_eq_true, Bool.and_eq_true, decide_eq_true_eq]
  exact .inr ⟨h1, h2⟩
theorem cMulB_l {i j : Int} (h1 : -(2 ^ 64) < i) (h2 : i < 2 ^ 64) : cMulB i j = true := by
  unfold cMulB
  simp only [Bool.or_eq_true, Bool.and_eq_true, decide_eq_true_eq]
  exact .inl ⟨h1, h2⟩
theorem pMul_r {i j : Int} (h1 : -(2 ^ 64) < j) (h2 : j < 2 ^ 64) : pMul (.int i) (.int j) = some (.int (i * j)) := by
  show (if cMulB i j = true then some (PyData.int (i * j)) else none) = _
  rw [if_pos (cMulB_r h1 h2)]
theorem pMul_l {i j : Int} (h1 : -(2 ^ 64) < i) (h2 : i < 2 ^ 64) : pMul (.int i) (.int j) = some (.int (i * j)) := by
  show (if cMulB i j = true then some (PyData.int (i * j)) else none) = _
  rw [if_pos (cMulB_l h1 h2)]
theorem okD_int (i : Int) : okD (.int i) = true := by
  unfold okD SeqAt.shaped
  simp [PyData.canLay0, PyData.depth, isDict]
theorem okD_bool (i : Bool) : okD (.bool i) = true := by
  unfold okD SeqAt.shaped
  simp [PyData.canLay0, PyData.depth, isDict]
theorem okD_none : okD .none = true := by
  unfold okD SeqAt.shaped
  simp [PyData.canLay0, PyData.depth, isDict]
theorem pEq_int (i j : Int) : pEq (.int i) (.int j) = some (.bool (decide (i = j))) := by
  unfold pEq
  rw [if_pos ⟨okD_int i, okD_int j⟩, eqv_i]
theorem pNe_int (i j : Int) : pNe (.int i) (.int j) = some (.bool (decide (i ≠ j))) := by
  unfold pNe
  rw [if_pos ⟨okD_int i, okD_int j⟩, eqv_i]
  simp
end Rk

set_option Elab.async false
set_option linter.all false
set_option maxRecDepth 100000
set_option maxHeartbeats 4000000
/-! Pl4: == over data of ints, texts, None, tuples and lists. -/
namespace Rk
open PySem PySem.Spec L2
mutual
/-- no bool, no dict -/
def nb : PyData → Bool
  | .none => true
  | .int _ => true
  | .str _ => true
  | .bool _ => false
  | .dict _ => false
  | .list xs => nbAll xs
  | .tuple xs => nbAll xs
def nbAll : List PyData → Bool
  | [] => true
  | x :: xs => nb x && nbAll xs
end
mutual
theorem eqv_nb : ∀ d e : PyData, nb d = true → nb e = true → (PyData.eqv d e = true ↔ d = e)
  | .none, e, _, h => by cases e <;> simp_all [PyData.eqv, nb]
  | .int i, e, _, h => by cases e <;> simp_all [PyData.eqv, nb]
  | .str x, e, _, h => by cases e <;> simp_all [PyData.eqv, nb]
  | .bool _, _, h, _ => by cases h
  | .dict _, _, h, _ => by simp [nb] at h
  | .list xs, e, h1, h => by
    cases e with
    | list ys =>
      rw [PyData.eqv, eqvAll_nb xs ys (by simpa [nb] using h1) (by simpa [nb] using h)]
      simp
    | _ => simp_all [PyData.eqv, nb]
  | .tuple xs, e, h1, h => by
    cases e with
    | tuple ys =>
      rw [PyData.eqv, eqvAll_nb xs ys (by simpa [nb] using h1) (by simpa [nb] using h)]
      simp
    | _ => simp_all [PyData.eqv, nb]
theorem eqvAll_nb : ∀ xs ys : List PyData, nbAll xs = true → nbAll ys = true → (PyData.eqvAll xs ys = true ↔ xs = ys)
  | [], [], _, _ => by simp [PyData.eqvAll]
  | [], _ :: _, _, _ => by simp [PyData.eqvAll]
  | _ :: _, [], _, _ => by simp [PyData.eqvAll]
  | x :: xs, y :: ys, h1, h2 => by
    simp only [nbAll, Bool.and_eq_true] at h1 h2
    rw [PyData.eqvAll, Bool.and_eq_true, eqv_nb x y h1.1 h2.1, eqvAll_nb xs ys h1.2 h2.2]
    simp
end
/-- clean data, at most k deep -/
structure Shp (k : Nat) (d : PyData) : Prop where
  lay : d.canLay0 = true
  dep : d.depth ≤ k
structure Cl (k : Nat) (d : PyData) : Prop extends Shp k d where
  nb : nb d = true
theorem Shp.nd {k : Nat} {d : PyData} (h : Shp k d) : isDict d = false := by
  cases d with
  | dict _ => have := h.lay; cases this
  | _ => rfl
theorem Shp.ok {k : Nat} {d : PyData} (h : Shp k d) (hk : k ≤ 64) : okD d = true := by
  unfold okD SeqAt.shaped
  rw [h.nd, h.lay, decide_eq_true (Nat.le_trans h.dep hk)]
  rfl
theorem layAll_of : ∀ {xs : List PyData}, (∀ x ∈ xs, x.canLay0 = true) → PyData.canLayAll0 xs = true
  | [], _ => by simp [PyData.canLayAll0]
  | x :: xs, h => by
    simp only [PyData.canLayAll0, Bool.and_eq_true]
    exact ⟨h x (by simp), layAll_of fun y hy => h y (by simp [hy])⟩
theorem depAll_of {k : Nat} : ∀ {xs : List PyData}, (∀ x ∈ xs, x.depth ≤ k) → PyData.depthAll xs ≤ k
  | [], _ => by simp [PyData.depthAll]
  | x :: xs, h => by
    simp only [PyData.depthAll]
    exact Nat.max_le.mpr ⟨h x (by simp), depAll_of fun y hy => h y (by simp [hy])⟩
theorem nbAll_of : ∀ {xs : List PyData}, (∀ x ∈ xs, nb x = true) → nbAll xs = true
  | [], _ => by simp [nbAll]
  | x :: xs, h => by
    simp only [nbAll, Bool.and_eq_true]
    exact ⟨h x (by simp), nbAll_of fun y hy => h y (by simp [hy])⟩
theorem Shp.tup {k : Nat} {xs : List PyData} (h : ∀ x ∈ xs, Shp k x) : Shp (k + 1) (.tuple xs) :=
  ⟨by simp only [PyData.canLay0]; exact layAll_of fun x hx => (h x hx).lay, by simp only [PyData.depth]; exact Nat.succ_le_succ (depAll_of fun x hx => (h x hx).dep)⟩
theorem Shp.lst {k : Nat} {xs : List PyData} (h : ∀ x ∈ xs, Shp k x) : Shp (k + 1) (.list xs) :=
  ⟨by simp only [PyData.canLay0]; exact layAll_of fun x hx => (h x hx).lay, by simp only [PyData.depth]; exact Nat.succ_le_succ (depAll_of fun x hx => (h x hx).dep)⟩
theorem Cl.tup {k : Nat} {xs : List PyData} (h : ∀ x ∈ xs, Cl k x) : Cl (k + 1) (.tuple xs) := ⟨Shp.tup fun x hx => (h x hx).toShp, by simp only [Rk.nb]; exact nbAll_of fun x hx => (h x hx).nb⟩
theorem Cl.lst {k : Nat} {xs : List PyData} (h : ∀ x ∈ xs, Cl k x) : Cl (k + 1) (.list xs) := ⟨Shp.lst fun x hx => (h x hx).toShp, by simp only [Rk.nb]; exact nbAll_of fun x hx => (h x hx).nb⟩
theorem Cl.int (k : Nat) (i : Int) : Cl k (.int i) := ⟨⟨by simp [PyData.canLay0], by simp [PyData.depth]⟩, by simp [Rk.nb]⟩
theorem Cl.non (k : Nat) : Cl k .none := ⟨⟨by simp [PyData.canLay0], by simp [PyData.depth]⟩, by simp [Rk.nb]⟩
theorem Shp.bl (k : Nat) (b : Bool) : Shp k (.bool b) := ⟨by simp [PyData.canLay0], by simp [PyData.depth]⟩
theorem Cl.str (k : Nat) (x : Str) (h : (PyData.str x).canLay0 = true) : Cl k (.str x) := ⟨⟨h, by simp [PyData.depth]⟩, by simp [Rk.nb]⟩
theorem Shp.mono {j k : Nat} {d : PyData} (h : Shp j d) (hk : j ≤ k) : Shp k d := ⟨h.lay, Nat.le_trans h.dep hk⟩
theorem Cl.mono {j k : Nat} {d : PyData} (h : Cl j d) (hk : j ≤ k) : Cl k d := ⟨h.toShp.mono hk, h.nb⟩
theorem Cl.two {k : Nat} {a b : PyData} (h1 : Cl k a) (h2 : Cl k b) : Cl (k + 1) (.tuple [a, b]) := Cl.tup fun x hx => by
  simp only [List.mem_cons, List.not_mem_nil, or_false] at hx
  rcases hx with rfl | rfl
  · exact h1
  · exact h2
theorem Cl.pr (k : Nat) (p : Int × Int) : Cl (k + 1) (Rk.pr p) := Cl.two (.int k _) (.int k _)
theorem Cl.ints (k : Nat) (ns : List Int) : Cl (k + 1) (.tuple (iD ns)) := Cl.tup fun x hx => by
  obtain ⟨i, _, rfl⟩ := List.mem_map.mp hx
  exact .int k i
theorem Cl.intsL (k : Nat) (ns : List Int) : Cl (k + 1) (.list (iD ns)) := Cl.lst fun x hx => by
  obtain ⟨i, _, rfl⟩ := List.mem_map.mp hx
  exact .int k i
theorem Cl.prs (k : Nat) (ps : List (Int × Int)) : Cl (k + 2) (.tuple (pD ps)) := Cl.tup fun x hx => by
  obtain ⟨i, _, rfl⟩ := List.mem_map.mp hx
  exact .pr k i
theorem Cl.prsL (k : Nat) (ps : List (Int × Int)) : Cl (k + 2) (.list (pD ps)) := Cl.lst fun x hx => by
  obtain ⟨i, _, rfl⟩ := List.mem_map.mp hx
  exact .pr k i
theorem pEq_ok {d e : PyData} (h1 : Cl 64 d) (h2 : Cl 64 e) : ∃ b, pEq d e = some (.bool b) ∧ (b = true ↔ d = e) :=
  ⟨PyData.eqv d e, by unfold pEq; rw [if_pos ⟨h1.ok (Nat.le_refl _), h2.ok (Nat.le_refl _)⟩], eqv_nb d e h1.nb h2.nb⟩
theorem pEq_self {d : PyData} (h : Cl 64 d) : pEq d d = some (.bool true) := by
  obtain ⟨b, e, q⟩ := pEq_ok h h
  rw [e, q.mpr rfl]
theorem pEq_no {d e : PyData} (h1 : Cl 64 d) (h2 : Cl 64 e) (n : d ≠ e) : pEq d e = some (.bool false) := by
  obtain ⟨b, e, q⟩ := pEq_ok h1 h2
  rw [e]
  cases b with
  | false => rfl
  | true => exact absurd (q.mp rfl) n
theorem pNe_eq (d e : PyData) : pNe d e = (pEq d e).bind fun x => match x with
    | .bool b => some (.bool (!b))
    | _ => none := by
  unfold pNe pEq
  split <;> rfl
theorem pNe_self {d : PyData} (h : Cl 64 d) : pNe d d = some (.bool false) := by
  rw [pNe_eq, pEq_self h]
  rfl
theorem pNe_no {d e : PyData} (h1 : Cl 64 d) (h2 : Cl 64 e) (n : d ≠ e) : pNe d e = some (.bool true) := by
  rw [pNe_eq, pEq_no h1 h2 n]
  rfl
theorem pIn_of {α : Type} {enc : α → PyData} (x : α) (xs : List α) (h : ∀ a, Cl 63 (enc a)) (inj : ∀ a b, enc a = enc b → a = b) [Decidable (x ∈ xs)] :
    pIn (enc x) (.tuple (xs.map enc)) = some (.bool (decide (x ∈ xs))) ∧ pIn (enc x) (.list (xs.map enc)) = some (.bool (decide (x ∈ xs))) := by
  have e : ((xs.map enc).any fun z => PyData.eqv z (enc x)) = decide (x ∈ xs) := by
    rw [List.any_map, Bool.eq_iff_iff, List.any_eq_true, decide_eq_true_iff]
    constructor
    · rintro ⟨y, hy, q⟩
      have := inj _ _ ((eqv_nb _ _ (h y).nb (h x).nb).mp q)
      exact this ▸ hy
    · intro hx
      exact ⟨x, hx, (eqv_nb _ _ (h x).nb (h x).nb).mpr rfl⟩
  have a1 : okD (enc x) = true := (h x).ok (by decide)
  have a2 : ∀ z ∈ xs.map enc, Shp 63 z := fun z hz => by
    obtain ⟨a, _, rfl⟩ := List.mem_map.mp hz
    exact (h a).toShp
  constructor
  · show (if okD (enc x) = true ∧ okD (.tuple (xs.map enc)) = true then some (PyData.bool ((xs.map enc).any fun z => PyData.eqv z (enc x))) else none) = _
    rw [if_pos ⟨a1, (Shp.tup a2).ok (by decide)⟩, e]
  · show (if okD (enc x) = true ∧ okD (.list (xs.map enc)) = true then some (PyData.bool ((xs.map enc).any fun z => PyData.eqv z (enc x))) else none) = _
    rw [if_pos ⟨a1, (Shp.lst a2).ok (by decide)⟩, e]
theorem pr_inj (a b : Int × Int) (h : pr a = pr b) : a = b := by
  obtain ⟨a1, a2⟩ := a
  obtain ⟨b1, b2⟩ := b
  simp only [pr, PyData.tuple.injEq, List.cons.injEq, PyData.int.injEq, and_true] at h
  rw [h.1, h.2]
theorem pIn_prs (p : Int × Int) (ps : List (Int × Int)) [Decidable (p ∈ ps)] : pIn (pr p) (.tuple (pD ps)) = some (.bool (decide (p ∈ ps))) := (pIn_of p ps (fun a => .pr 62 a) pr_inj).1
theorem pIn_prsL (p : Int × Int) (ps : List (Int × Int)) [Decidable (p ∈ ps)] : pIn (pr p) (.list (pD ps)) = some (.bool (decide (p ∈ ps))) := (pIn_of p ps (fun a => .pr 62 a) pr_inj).2
theorem pIn_ints (p : Int) (ps : List Int) [Decidable (p ∈ ps)] : pIn (.int p) (.tuple (iD ps)) = some (.bool (decide (p ∈ ps))) := (pIn_of (enc := fun i => PyData.int i) p ps (fun a => .int 63 a) fun a b h => by cases h; rfl).1
theorem pIn_intsL (p : Int) (ps : List Int) [Decidable (p ∈ ps)] : pIn (.int p) (.list (iD ps)) = some (.bool (decide (p ∈ ps))) := (pIn_of (enc := fun i => PyData.int i) p ps (fun a => .int 63 a) fun a b h => by cases h; rfl).2
end Rk

set_option Elab.async false
set_option linter.all false
set_option maxRecDepth 100000
set_option maxHeartbeats 4000000
namespace Rk
open PySem PySem.Spec L2
def top (i : Nat) : Stmt := PySem.Challenge.pw_rankyard_k03_covers.main.body.getD i (.Pass ⟨0, 0, 0, 0⟩)
abbrev s__law_mix : Stmt := top 9
abbrev s__law_perm : Stmt := top 10
abbrev s__law_cell : Stmt := top 8
abbrev s__law_all : Stmt := top 11
abbrev s__law_yard : Stmt := top 12
abbrev s_between : Stmt := top 5
abbrev s_covers : Stmt := top 6
abbrev s_trail : Stmt := top 1
abbrev s_way_back : Stmt := top 2
abbrev s_over : Stmt := top 3
abbrev s_closed : Stmt := top 4
abbrev s_law : Stmt := top 13
section
variable {P : Program} {w : World} {K : PySem.W.Frag} {mg : Str → Option Value} {base : Heap}
abbrev N__law_mix : List Str := ["_law_cell_here", "_law_prime", "_law_many"]
def b__law_mix : Sx := (sRet (c2 pMod (c2 pMod (c2 pMul (cV 0) (cK (.int 48271))) (cV 1)) (cV 2)))
def m__law_mix : List PyData → Option PyData := mkM 3 3 b__law_mix
theorem sc__law_mix : FnScope N__law_mix ["_law_cell_here", "_law_prime", "_law_many"] (defScope s__law_mix) := ⟨rfl, rfl, rfl, by decide +kernel, rfl, by decide +kernel, by decide +kernel⟩
theorem ok__law_mix {f : Addr} {fd : FuncData} (D : Df K mg "_law_mix" s__law_mix ["_law_cell_here", "_law_prime", "_law_many"] f fd) : FnOk P w K mg base CX0 1 f fd ["_law_cell_here", "_law_prime", "_law_many"] (spD [] m__law_mix) := by
  refine fn_ok (N := N__law_mix) (F := b__law_mix) D.F sc__law_mix (fun cdv A outer s H E hr => ⟨[], ?_⟩)
  have hu := Rk.room_un hr
  exact (sss_one (ss_ret (ev_bin od_mod (EV.any (ev_bin od_mod (EV.any (ev_bin od_mul (ea_var (i := 0) rfl (Or.inl rfl)) (EV.any ev_int))) (ea_var (i := 1) rfl (Or.inl rfl)))) (ea_var (i := 2) rfl (Or.inl rfl)))))
abbrev N__law_perm : List Str := ["_law_cell_here", "_law_many", "_law_left", "_law_k"]
abbrev Ce__law_perm_1 : Fx := (cCall m__law_mix (cCons (c2 pAdd (cV 0) (c2 pMul (cK (.int 5)) (cV 3))) (cCons (cK (.int 9967)) (cCons (c2 pSub (cV 1) (cV 3)) cNil))))
def b__law_perm : Sx := (sSeq (sAsg 2 (cRgL (rg1 (cV 1))))
  (sRetPop 2 (iR1 (cV 1)) [3] (xName 3) Ce__law_perm_1))
def m__law_perm : List PyData → Option PyData := mkM 2 4 b__law_perm
theorem sc__law_perm : FnScope N__law_perm ["_law_cell_here", "_law_many"] (defScope s__law_perm) := ⟨rfl, rfl, rfl, by decide +kernel, rfl, by decide +kernel, by decide +kernel⟩
theorem ok__law_perm {f : Addr} {fd : FuncData} (D : Df K mg "_law_perm" s__law_perm ["_law_cell_here", "_law_many"] f fd) {f__law_mix : Addr} {d__law_mix : FuncData} (D__law_mix : Df K mg "_law_mix" s__law_mix ["_law_cell_here", "_law_prime", "_law_many"] f__law_mix d__law_mix) (G__law_mix : FnOk P w K mg base CX0 1 f__law_mix d__law_mix ["_law_cell_here", "_law_prime", "_law_many"] (spD [] m__law_mix)) (z_list : mg "list" = none) (z_range : mg "range" = none) : FnOk P w K mg base CX0 2 f fd ["_law_cell_here", "_law_many"] (spD [] m__law_perm) := by
  refine fn_ok (N := N__law_perm) (F := b__law_perm) D.F sc__law_perm (fun cdv A outer s H E hr => ⟨[], ?_⟩)
  have hu := Rk.room_un hr
  exact (sss_cons (O2 := [2]) (ss_asgN (i := 2) sc__law_perm.nd rfl (Or.inr rfl) (en_listRg rfl z_list (prg1 z_range (ea_var (i := 1) rfl (Or.inr (Or.inl rfl))))))
    (sss_one (ss_retPop (i := 2) (own := [("_law_k", 3)]) (js := [3]) rfl sc__law_perm.nd (by decide) (by decide) (if_rng1 rfl z_range (ea_var (i := 1) rfl (Or.inr (Or.inl rfl)))) (blkOk_by (N := N__law_perm) (sc := defScope s__law_perm) (by decide +kernel)) (fun _ _ _ _ _ => (tg_name (i := 3) (by decide) sc__law_perm.nd rfl (Or.inl rfl))) (fun _ _ _ _ _ => (pe_bm PySem.F.plainAttrs_list PySem.F.slot_list_pop PySem.F.type_list_pop mt_popAt (pe_var (i := 2) rfl (Or.inr (Or.inl rfl))) (pa_cons (ev_call (pe_call G__law_mix hr rfl D__law_mix.m D__law_mix.F.kp D__law_mix.b .nil pass0 (el_cons (ev_bin od_add (ea_var (i := 0) rfl (Or.inr (Or.inl rfl))) (EV.any (ev_bin od_mul (EV.any ev_int) (ea_var (i := 3) rfl (Or.inl rfl))))) (el_cons ev_int (el_cons (ev_bin od_sub (ea_var (i := 1) rfl (Or.inr (Or.inl rfl))) (ea_var (i := 3) rfl (Or.inl rfl))) el_nil))))) pa_nil))) (by decide))))
abbrev N__law_cell : List Str := ["_law_script", "_law_k"]
def b__law_cell : Sx := (sSeq (sIf (gB (c2 pLt (cV 1) (c1 pLen (cV 0)))) (sRet (c2 pIx (cV 0) (cV 1))) sSkip)
  (sRet (cK (.int 0))))
def m__law_cell : List PyData → Option PyData := mkM 2 2 b__law_cell
theorem sc__law_cell : FnScope N__law_cell ["_law_script", "_law_k"] (defScope s__law_cell) := ⟨rfl, rfl, rfl, by decide +kernel, rfl, by decide +kernel, by decide +kernel⟩
theorem ok__law_cell {f : Addr} {fd : FuncData} (D : Df K mg "_law_cell" s__law_cell ["_law_script", "_law_k"] f fd) (z_len : mg "len" = none) : FnOk P w K mg base CX0 1 f fd ["_law_script", "_law_k"] (spD [] m__law_cell) := by
  refine fn_ok (N := N__law_cell) (F := b__law_cell) D.F sc__law_cell (fun cdv A outer s H E hr => ⟨[], ?_⟩)
  have hu := Rk.room_un hr
  exact (sss_cons (O2 := []) (ss_if (gt_cmp od_lt (ea_var (i := 1) rfl (Or.inl rfl)) (EV.any (ev_cb cr_len rfl z_len bl_len (ea_var (i := 0) rfl (Or.inl rfl)))) (nomark _)) (sss_one (ss_ret (ev_ix (od_ix hu) (ea_var (i := 0) rfl (Or.inl rfl)) (ea_var (i := 1) rfl (Or.inl rfl)) (fun _ _ => rfl)))) sss_nil)
    (sss_one (ss_ret ev_int)))
abbrev N__law_all : List Str := ["_law_count", "_law_pairs", "_law_found", "_law_pair", "_law_c", "_law_a", "_law_b"]
abbrev L__law_all_1 : Sx := (sPut 2 (cV 3) (cK (.bool true)))
abbrev L__law_all_2 : Sx := (sIf (gAnd (gB (c2 pIn (cTup (cCons (cV 5) (cCons (cV 4) cNil))) (cV 2))) (gB (c2 pIn (cTup (cCons (cV 4) (cCons (cV 6) cNil))) (cV 2)))) (sPut 2 (cTup (cCons (cV 5) (cCons (cV 6) cNil))) (cK (.bool true))) sSkip)
abbrev L__law_all_3 : Sx := (sFor (iR1 (cV 0)) (xName 6) L__law_all_2 [6])
abbrev L__law_all_4 : Sx := (sFor (iR1 (cV 0)) (xName 5) L__law_all_3 [5, 6])
def b__law_all : Sx := (sSeq (sAsg 2 cD0)
  (sSeq (sFor (iSeq (cV 1)) (xName 3) L__law_all_1 [3])
  (sSeq (sFor (iR1 (cV 0)) (xName 4) L__law_all_4 [4, 5, 6])
  (sRet (c1 pSorted (cV 2))))))
def m__law_all : List PyData → Option PyData := mkM 2 7 b__law_all
theorem sc__law_all : FnScope N__law_all ["_law_count", "_law_pairs"] (defScope s__law_all) := ⟨rfl, rfl, rfl, by decide +kernel, rfl, by decide +kernel, by decide +kernel⟩
theorem ok__law_all {f : Addr} {fd : FuncData} (D : Df K mg "_law_all" s__law_all ["_law_count", "_law_pairs"] f fd) (z_range : mg "range" = none) (z_sorted : mg "sorted" = none) : FnOk P w K mg base CX0 1 f fd ["_law_count", "_law_pairs"] (spD [] m__law_all) := by
  refine fn_ok (N := N__law_all) (F := b__law_all) D.F sc__law_all (fun cdv A outer s H E hr => ⟨[], ?_⟩)
  have hu := Rk.room_un hr
  exact (sss_cons (O2 := [2]) (ss_asgN (i := 2) sc__law_all.nd rfl (Or.inl rfl) en_d0)
    (sss_cons (O2 := [2]) (ss_for (js := [3]) [3] PassesOwn.never rfl (if_seq (ev_var (i := 1) (by decide) rfl (Or.inl rfl))) (tg_name (i := 3) (by decide) sc__law_all.nd rfl (Or.inl rfl)) (by decide) keeps_name (sss_one (ss_put (i := 2) (by decide) (ps_dput2 hu (pe_var (i := 2) rfl (Or.inl rfl)) (ev_var (i := 3) (by decide) rfl (Or.inl rfl)) ev_bl))))
    (sss_cons (O2 := [2]) (ss_for (js := [4]) [4, 5, 6] PassesOwn.never rfl (if_rng1 rfl z_range (ea_var (i := 0) rfl (Or.inl rfl))) (tg_name (i := 4) (by decide) sc__law_all.nd rfl (Or.inl rfl)) (by decide) keeps_name (sss_one (ss_for (js := [5]) [5, 6] PassesOwn.never rfl (if_rng1 rfl z_range (ea_var (i := 0) rfl (Or.inl rfl))) (tg_name (i := 5) (by decide) sc__law_all.nd rfl (Or.inl rfl)) (by decide) keeps_name (sss_one (ss_for (js := [6]) [6] PassesOwn.never rfl (if_rng1 rfl z_range (ea_var (i := 0) rfl (Or.inl rfl))) (tg_name (i := 6) (by decide) sc__law_all.nd rfl (Or.inl rfl)) (by decide) keeps_name (sss_one (ss_if (gt_bool (gw_and (gt_cmp (od_in hu) (EV.any (ev_tup (el_cons (ev_var (i := 5) (by decide) rfl (Or.inl rfl)) (el_cons (ev_var (i := 4) (by decide) rfl (Or.inl rfl)) el_nil)))) (ea_var (i := 2) rfl (Or.inl rfl)) (by with_unfolding_all rfl)) (gw_and1 (gt_cmp (od_in hu) (EV.any (ev_tup (el_cons (ev_var (i := 4) (by decide) rfl (Or.inl rfl)) (el_cons (ev_var (i := 6) (by decide) rfl (Or.inl rfl)) el_nil)))) (ea_var (i := 2) rfl (Or.inl rfl)) (by with_unfolding_all rfl))))) (sss_one (ss_put (i := 2) (by decide) (ps_dput2 hu (pe_var (i := 2) rfl (Or.inl rfl)) (ev_tup (el_cons (ev_var (i := 5) (by decide) rfl (Or.inl rfl)) (el_cons (ev_var (i := 6) (by decide) rfl (Or.inl rfl)) el_nil))) ev_bl))) sss_nil)))))))
    (sss_one (ss_ret (EN.val (en_cb (cr_sortD hu rfl) rfl z_sorted bl_sorted (ea_var (i := 2) rfl (Or.inl rfl)))))))))
abbrev N__law_yard : List Str := ["_law_script", "_law_k", "_law_most", "_law_count", "_law_share", "_law_places", "_law_told", "_law_a", "_law_b"]
abbrev L__law_yard_1 : Sx := (sIf (gB (c2 pLt (cCall m__law_mix (cCons (c2 pAdd (c2 pAdd (cCall m__law_cell (cCons (cV 0) (cCons (c2 pAdd (cV 1) (cK (.int 2))) cNil))) (c2 pMul (cK (.int 131)) (cV 7))) (c2 pMul (cK (.int 17)) (cV 8))) (cCons (cK (.int 9941)) (cCons (cK (.int 10)) cNil)))) (cV 4))) (sApp 6 (cTup (cCons (c2 pIx (cV 5) (cV 7)) (cCons (c2 pIx (cV 5) (cV 8)) cNil)))) sSkip)
abbrev L__law_yard_2 : Sx := (sFor (iR2 (c2 pAdd (cV 7) (cK (.int 1))) (cV 3)) (xName 8) L__law_yard_1 [8])
def b__law_yard : Sx := (sSeq (sAsg 3 (c2 pAdd (cK (.int 1)) (cCall m__law_mix (cCons (cCall m__law_cell (cCons (cV 0) (cCons (cV 1) cNil))) (cCons (cK (.int 9973)) (cCons (cV 2) cNil))))))
  (sSeq (sAsg 4 (c2 pAdd (cK (.int 1)) (cCall m__law_mix (cCons (cCall m__law_cell (cCons (cV 0) (cCons (cV 1) cNil))) (cCons (cK (.int 9949)) (cCons (cK (.int 6)) cNil))))))
  (sSeq (sAsg 5 (cCall m__law_perm (cCons (cCall m__law_cell (cCons (cV 0) (cCons (c2 pAdd (cV 1) (cK (.int 1))) cNil))) (cCons (cV 3) cNil))))
  (sSeq (sAsg 6 (cLst cNil))
  (sSeq (sFor (iR1 (cV 3)) (xName 7) L__law_yard_2 [7, 8])
  (sRet (cTup (cCons (cV 3) (cCons (c1 pTuple (cCall m__law_all (cCons (cV 3) (cCons (cV 6) cNil)))) cNil)))))))))
def m__law_yard : List PyData → Option PyData := mkM 3 9 b__law_yard
theorem sc__law_yard : FnScope N__law_yard ["_law_script", "_law_k", "_law_most"] (defScope s__law_yard) := ⟨rfl, rfl, rfl, by decide +kernel, rfl, by decide +kernel, by decide +kernel⟩
theorem ok__law_yard {f : Addr} {fd : FuncData} (D : Df K mg "_law_yard" s__law_yard ["_law_script", "_law_k", "_law_most"] f fd) {f__law_perm : Addr} {d__law_perm : FuncData} (D__law_perm : Df K mg "_law_perm" s__law_perm ["_law_cell_here", "_law_many"] f__law_perm d__law_perm) (G__law_perm : FnOk P w K mg base CX0 2 f__law_perm d__law_perm ["_law_cell_here", "_law_many"] (spD [] m__law_perm)) {f__law_mix : Addr} {d__law_mix : FuncData} (D__law_mix : Df K mg "_law_mix" s__law_mix ["_law_cell_here", "_law_prime", "_law_many"] f__law_mix d__law_mix) (G__law_mix : FnOk P w K mg base CX0 1 f__law_mix d__law_mix ["_law_cell_here", "_law_prime", "_law_many"] (spD [] m__law_mix)) {f__law_cell : Addr} {d__law_cell : FuncData} (D__law_cell : Df K mg "_law_cell" s__law_cell ["_law_script", "_law_k"] f__law_cell d__law_cell) (G__law_cell : FnOk P w K mg base CX0 1 f__law_cell d__law_cell ["_law_script", "_law_k"] (spD [] m__law_cell)) {f__law_all : Addr} {d__law_all : FuncData} (D__law_all : Df K mg "_law_all" s__law_all ["_law_count", "_law_pairs"] f__law_all d__law_all) (G__law_all : FnOk P w K mg base CX0 1 f__law_all d__law_all ["_law_count", "_law_pairs"] (spD [] m__law_all)) (z_range : mg "range" = none) (z_tuple : mg "tuple" = none) : FnOk P w K mg base CX0 3 f fd ["_law_script", "_law_k", "_law_most"] (spD [] m__law_yard) := by
  refine fn_ok (N := N__law_yard) (F := b__law_yard) D.F sc__law_yard (fun cdv A outer s H E hr => ⟨[], ?_⟩)
  have hu := Rk.room_un hr
  exact (sss_cons (O2 := []) (ss_asg (i := 3) (by decide) sc__law_yard.nd rfl (Or.inl rfl) (ev_bin od_add (EV.any ev_int) (EV.any (ev_call (pe_call G__law_mix (hr.mono (by decide)) rfl D__law_mix.m D__law_mix.F.kp D__law_mix.b .nil pass0 (el_cons (ev_call (pe_call G__law_cell (hr.mono (by decide)) rfl D__law_cell.m D__law_cell.F.kp D__law_cell.b .nil pass0 (el_cons (ev_var (i := 0) (by decide) rfl (Or.inl rfl)) (el_cons (ev_var (i := 1) (by decide) rfl (Or.inl rfl)) el_nil)))) (el_cons ev_int (el_cons (ev_var (i := 2) (by decide) rfl (Or.inl rfl)) el_nil))))))))
    (sss_cons (O2 := []) (ss_asg (i := 4) (by decide) sc__law_yard.nd rfl (Or.inl rfl) (ev_bin od_add (EV.any ev_int) (EV.any (ev_call (pe_call G__law_mix (hr.mono (by decide)) rfl D__law_mix.m D__law_mix.F.kp D__law_mix.b .nil pass0 (el_cons (ev_call (pe_call G__law_cell (hr.mono (by decide)) rfl D__law_cell.m D__law_cell.F.kp D__law_cell.b .nil pass0 (el_cons (ev_var (i := 0) (by decide) rfl (Or.inl rfl)) (el_cons (ev_var (i := 1) (by decide) rfl (Or.inl rfl)) el_nil)))) (el_cons ev_int (el_cons ev_int el_nil))))))))
    (sss_cons (O2 := []) (ss_asg (i := 5) (by decide) sc__law_yard.nd rfl (Or.inl rfl) (ev_call (pe_call G__law_perm hr rfl D__law_perm.m D__law_perm.F.kp D__law_perm.b .nil pass0 (el_cons (ev_call (pe_call G__law_cell (hr.mono (by decide)) rfl D__law_cell.m D__law_cell.F.kp D__law_cell.b .nil pass0 (el_cons (ev_var (i := 0) (by decide) rfl (Or.inl rfl)) (el_cons (ev_bin od_add (ea_var (i := 1) rfl (Or.inl rfl)) (EV.any ev_int)) el_nil)))) (el_cons (ev_var (i := 3) (by decide) rfl (Or.inl rfl)) el_nil)))))
    (sss_cons (O2 := [6]) (ss_asgN (i := 6) sc__law_yard.nd rfl (Or.inl rfl) (en_lst el_nil))
    (sss_cons (O2 := [6]) (ss_for (js := [7]) [7, 8] PassesOwn.never rfl (if_rng1 rfl z_range (ea_var (i := 3) rfl (Or.inl rfl))) (tg_name (i := 7) (by decide) sc__law_yard.nd rfl (Or.inl rfl)) (by decide) keeps_name (sss_one (ss_for (js := [8]) [8] PassesOwn.never rfl (if_rng2 rfl z_range (EV.any (ev_bin od_add (ea_var (i := 7) rfl (Or.inl rfl)) (EV.any ev_int))) (ea_var (i := 3) rfl (Or.inl rfl))) (tg_name (i := 8) (by decide) sc__law_yard.nd rfl (Or.inl rfl)) (by decide) keeps_name (sss_one (ss_if (gt_cmp od_lt (EV.any (ev_call (pe_call G__law_mix (hr.mono (by decide)) rfl D__law_mix.m D__law_mix.F.kp D__law_mix.b .nil pass0 (el_cons (ev_bin od_add (EV.any (ev_bin od_add (EV.any (ev_call (pe_call G__law_cell (hr.mono (by decide)) rfl D__law_cell.m D__law_cell.F.kp D__law_cell.b .nil pass0 (el_cons (ev_var (i := 0) (by decide) rfl (Or.inl rfl)) (el_cons (ev_bin od_add (ea_var (i := 1) rfl (Or.inl rfl)) (EV.any ev_int)) el_nil))))) (EV.any (ev_bin od_mul (EV.any ev_int) (ea_var (i := 7) rfl (Or.inl rfl)))))) (EV.any (ev_bin od_mul (EV.any ev_int) (ea_var (i := 8) rfl (Or.inl rfl))))) (el_cons ev_int (el_cons ev_int el_nil)))))) (ea_var (i := 4) rfl (Or.inl rfl)) (nomark _)) (sss_one (ss_append (i := 6) (by decide) (ps_expr (pe_bm PySem.F.plainAttrs_list PySem.F.slot_list_append PySem.F.type_list_append mt_append (pe_var (i := 6) rfl (Or.inl rfl)) (pa_cons (ev_tup (el_cons (ev_ix (od_ix hu) (ea_var (i := 5) rfl (Or.inl rfl)) (ea_var (i := 7) rfl (Or.inl rfl)) (fun _ _ => rfl)) (el_cons (ev_ix (od_ix hu) (ea_var (i := 5) rfl (Or.inl rfl)) (ea_var (i := 8) rfl (Or.inl rfl)) (fun _ _ => rfl)) el_nil))) pa_nil))))) sss_nil)))))
    (sss_one (ss_frz (O2 := []) (by decide) (ss_ret (ev_tup (el_cons (ev_var (i := 3) (by decide) rfl (Or.inl rfl)) (el_cons (ev_cty cr_tuple rfl z_tuple bl_tuple (EV.any (ev_call (pe_call G__law_all (hr.mono (by decide)) rfl D__law_all.m D__law_all.F.kp D__law_all.b .nil pass0 (el_cons (ev_var (i := 3) (by decide) rfl (Or.inl rfl)) (el_cons (ev_var (i := 6) (by decide) rfl (Or.inl rfl)) el_nil)))))) el_nil)))))))))))
abbrev N_between : List Str := ["yard", "one", "other", "count", "pairs", "thing"]
abbrev Cg_between_1 : Bx := (gAnd (gB (c2 pIn (cTup (cCons (cV 1) (cCons (cV 5) cNil))) (cV 4))) (gB (c2 pIn (cTup (cCons (cV 5) (cCons (cV 2) cNil))) (cV 4))))
abbrev Ce_between_1 : Fx := (cV 5)
def b_between : Sx := (sSeq (sPar (xPair 3 4) (cV 0))
  (sRet (cLc (iR1 (cV 3)) [5] (xName 5) Cg_between_1 Ce_between_1)))
def m_between : List PyData → Option PyData := mkM 3 6 b_between
theorem sc_between : FnScope N_between ["yard", "one", "other"] (defScope s_between) := ⟨rfl, rfl, rfl, by decide +kernel, rfl, by decide +kernel, by decide +kernel⟩
theorem ok_between {f : Addr} {fd : FuncData} (D : Df K mg "between" s_between ["yard", "one", "other"] f fd) (z_range : mg "range" = none) : FnOk P w K mg base CX0 1 f fd ["yard", "one", "other"] (spD [] m_between) := by
  refine fn_ok (N := N_between) (F := b_between) D.F sc_between (fun cdv A outer s H E hr => ⟨[], ?_⟩)
  have hu := Rk.room_un hr
  exact (sss_cons (O2 := []) (ss_par (js := [3, 4]) (by decide) keeps_pair (ev_var (i := 0) (by decide) rfl (Or.inl rfl)) (tg_pair (i := 3) (j := 4) rfl (by decide) (by decide) (pg_name (i := 3) sc_between.nd rfl (Or.inl rfl)) (pg_name (i := 4) sc_between.nd rfl (Or.inr rfl))))
    (sss_one (ss_ret (EN.val (en_lc (own := [("thing", 5)]) (js := [5]) rfl sc_between.nd (it_rng1 rfl z_range (ea_var (i := 3) rfl (Or.inl rfl))) (blkOk_by (N := N_between) (sc := defScope s_between) (by decide +kernel)) (fun _ _ _ _ _ => (tg_name (i := 5) (by decide) sc_between.nd rfl (Or.inl rfl))) (fun _ _ _ _ _ => (gts_one (gt_bool (gw_and (gt_cmp (od_in hu) (EV.any (ev_tup (el_cons (ev_var (i := 1) (by decide) rfl (Or.inr (Or.inl rfl))) (el_cons (ev_var (i := 5) (by decide) rfl (Or.inl rfl)) el_nil)))) (ea_var (i := 4) rfl (Or.inr (Or.inl rfl))) (by with_unfolding_all rfl)) (gw_and1 (gt_cmp (od_in hu) (EV.any (ev_tup (el_cons (ev_var (i := 5) (by decide) rfl (Or.inl rfl)) (el_cons (ev_var (i := 2) (by decide) rfl (Or.inr (Or.inl rfl))) el_nil)))) (ea_var (i := 4) rfl (Or.inr (Or.inl rfl))) (by with_unfolding_all rfl))))))) (fun _ _ _ _ _ => (ev_var (i := 5) (by decide) rfl (Or.inl rfl))) (by decide))))))
abbrev N_covers : List Str := ["yard", "pair"]
abbrev Cg_covers_1 : Bx := (gNot (gTr (cCall m_between (cCons (cV 0) (cCons (c2 pIx (cV 1) (cK (.int 0))) (cCons (c2 pIx (cV 1) (cK (.int 1))) cNil))))))
abbrev Ce_covers_1 : Fx := (cV 1)
def b_covers : Sx := (sRet (c1 pTuple (cLc (iSeq (c2 pIx (cV 0) (cK (.int 1)))) [1] (xName 1) Cg_covers_1 Ce_covers_1)))
def m_covers : List PyData → Option PyData := mkM 1 2 b_covers
theorem sc_covers : FnScope N_covers ["yard"] (defScope s_covers) := ⟨rfl, rfl, rfl, by decide +kernel, rfl, by decide +kernel, by decide +kernel⟩
theorem ok_covers {f : Addr} {fd : FuncData} (D : Df K mg "covers" s_covers ["yard"] f fd) {f_between : Addr} {d_between : FuncData} (D_between : Df K mg "between" s_between ["yard", "one", "other"] f_between d_between) (G_between : FnOk P w K mg base CX0 1 f_between d_between ["yard", "one", "other"] (spD [] m_between)) (z_tuple : mg "tuple" = none) : FnOk P w K mg base CX0 2 f fd ["yard"] (spD [] m_covers) := by
  refine fn_ok (N := N_covers) (F := b_covers) D.F sc_covers (fun cdv A outer s H E hr => ⟨[], ?_⟩)
  have hu := Rk.room_un hr
  exact (sss_one (ss_ret (ev_cty cr_tuple rfl z_tuple bl_tuple (EV.any (EN.val (en_lc (own := [("pair", 1)]) (js := [1]) rfl sc_covers.nd (it_seq (EV.any (ev_ix (od_ix hu) (ea_var (i := 0) rfl (Or.inr (Or.inl rfl))) (EV.any ev_int) (fun _ _ => rfl)))) (blkOk_by (N := N_covers) (sc := defScope s_covers) (by decide +kernel)) (fun _ _ _ _ _ => (tg_name (i := 1) (by decide) sc_covers.nd rfl (Or.inl rfl))) (fun _ _ _ _ _ => (gts_one (gt_not (gt_truth (EV.any (ev_call (pe_call G_between hr rfl D_between.m D_between.F.kp D_between.b .nil pass0 (el_cons (ev_var (i := 0) (by decide) rfl (Or.inr (Or.inl rfl))) (el_cons (ev_ix (od_ix hu) (ea_var (i := 1) rfl (Or.inl rfl)) (EV.any ev_int) (fun _ _ => rfl)) (el_cons (ev_ix (od_ix hu) (ea_var (i := 1) rfl (Or.inl rfl)) (EV.any ev_int) (fun _ _ => rfl)) el_nil)))))))))) (fun _ _ _ _ _ => (ev_var (i := 1) (by decide) rfl (Or.inl rfl))) (by decide)))))))
abbrev N_trail : List Str := ["came", "one", "found"]
abbrev L_trail_1 : Sx := (sSeq (sApp 2 (cV 1))
  (sAsg 1 (c2 pIx (cV 0) (cV 1))))
abbrev Lg_trail_1 : Bx := (gB (c2 pIsNot (cV 1) (cK .none)))
def b_trail : Sx := (sSeq (sAsg 2 (cLst cNil))
  (sSeq (sWhile Lg_trail_1 L_trail_1 [])
  (sRet (c1 pTupRev (cV 2)))))
def m_trail : List PyData → Option PyData := mkM 2 3 b_trail
theorem sc_trail : FnScope N_trail ["came", "one"] (defScope s_trail) := ⟨rfl, rfl, rfl, by decide +kernel, rfl, by decide +kernel, by decide +kernel⟩
theorem ok_trail {f : Addr} {fd : FuncData} (D : Df K mg "trail" s_trail ["came", "one"] f fd) (z_tuple : mg "tuple" = none) (z_reversed : mg "reversed" = none) : FnOk P w K mg base CX0 1 f fd ["came", "one"] (spD [] m_trail) := by
  refine fn_ok (N := N_trail) (F := b_trail) D.F sc_trail (fun cdv A outer s H E hr => ⟨[], ?_⟩)
  have hu := Rk.room_un hr
  exact (sss_cons (O2 := [2]) (ss_asgN (i := 2) sc_trail.nd rfl (Or.inl rfl) (en_lst el_nil))
    (sss_cons (O2 := [2]) (ss_while [] PassesOwn.never (gt_cmp od_isnot (ea_var (i := 1) rfl (Or.inl rfl)) (EV.any ev_non) (nomark _)) (sss_cons (O2 := [2]) (ss_append (i := 2) (by decide) (ps_expr (pe_bm PySem.F.plainAttrs_list PySem.F.slot_list_append PySem.F.type_list_append mt_append (pe_var (i := 2) rfl (Or.inl rfl)) (pa_cons (ev_var (i := 1) (by decide) rfl (Or.inl rfl)) pa_nil))))
    (sss_one (ss_asg (i := 1) (by decide) sc_trail.nd rfl (Or.inl rfl) (ev_ix (od_ix hu) (ea_var (i := 0) rfl (Or.inl rfl)) (ea_var (i := 1) rfl (Or.inl rfl)) (fun _ _ => rfl))))))
    (sss_one (ss_ret (ev_tupRev (RT.pe_tupRev rfl rfl z_tuple rfl z_reversed (ea_var (i := 2) rfl (Or.inl rfl))))))))
abbrev N_way_back : List Str := ["pairs", "start", "came", "row", "at", "one", "a", "b"]
abbrev L_way_back_1 : Sx := (sSeq (sIf (gAnd (gB (c2 pEq (cV 6) (cV 5))) (gB (c2 pEq (cV 7) (cV 1)))) (sRet (cCall m_trail (cCons (cV 2) (cCons (cV 5) cNil)))) sSkip)
  (sIf (gAnd (gB (c2 pEq (cV 6) (cV 5))) (gB (c2 pNin (cV 7) (cV 2)))) (sSeq (sPut 2 (cV 7) (cV 5))
  (sApp 3 (cV 7))) sSkip))
abbrev L_way_back_2 : Sx := (sSeq (sAsg 5 (c2 pIx (cV 3) (cV 4)))
  (sSeq (sFor (iSeq (cV 0)) (xPair 6 7) L_way_back_1 [6, 7])
  (sAsg 4 (c2 pAdd (cV 4) (cK (.int 1))))))
abbrev Lg_way_back_1 : Bx := (gB (c2 pLt (cV 4) (c1 pLen (cV 3))))
def b_way_back : Sx := (sSeq (sAsg 2 (cD1 (cV 1) (cK .none)))
  (sSeq (sAsg 3 (cLst (cCons (cV 1) cNil)))
  (sSeq (sAsg 4 (cK (.int 0)))
  (sSeq (sWhile Lg_way_back_1 L_way_back_2 [5, 6, 7])
  (sRet (cTup cNil))))))
def m_way_back : List PyData → Option PyData := mkM 2 8 b_way_back
theorem sc_way_back : FnScope N_way_back ["pairs", "start"] (defScope s_way_back) := ⟨rfl, rfl, rfl, by decide +kernel, rfl, by decide +kernel, by decide +kernel⟩
theorem ok_way_back {f : Addr} {fd : FuncData} (D : Df K mg "way_back" s_way_back ["pairs", "start"] f fd) {f_trail : Addr} {d_trail : FuncData} (D_trail : Df K mg "trail" s_trail ["came", "one"] f_trail d_trail) (G_trail : FnOk P w K mg base CX0 1 f_trail d_trail ["came", "one"] (spD [] m_trail)) (z_len : mg "len" = none) : FnOk P w K mg base CX0 2 f fd ["pairs", "start"] (spD [] m_way_back) := by
  refine fn_ok (N := N_way_back) (F := b_way_back) D.F sc_way_back (fun cdv A outer s H E hr => ⟨[], ?_⟩)
  have hu := Rk.room_un hr
  exact (sss_cons (O2 := [2]) (ss_asgN (i := 2) sc_way_back.nd rfl (Or.inl rfl) (en_d1 (ea_var (i := 1) rfl (Or.inl rfl)) ev_non))
    (sss_cons (O2 := [3, 2]) (ss_asgN (i := 3) sc_way_back.nd rfl (Or.inl rfl) (en_lst (el_cons (ev_var (i := 1) (by decide) rfl (Or.inl rfl)) el_nil)))
    (sss_cons (O2 := [3, 2]) (ss_asg (i := 4) (by decide) sc_way_back.nd rfl (Or.inl rfl) ev_int)
    (sss_cons (O2 := [3, 2]) (ss_while [5, 6, 7] PassesOwn.never (gt_cmp od_lt (ea_var (i := 4) rfl (Or.inl rfl)) (EV.any (ev_cb cr_len rfl z_len bl_len (ea_var (i := 3) rfl (Or.inl rfl)))) (nomark _)) (sss_cons (O2 := [3, 2]) (ss_asg (i := 5) (by decide) sc_way_back.nd rfl (Or.inl rfl) (ev_ix (od_ix hu) (ea_var (i := 3) rfl (Or.inl rfl)) (ea_var (i := 4) rfl (Or.inl rfl)) (fun _ _ => rfl)))
    (sss_cons (O2 := [3, 2]) (ss_for (js := [6, 7]) [6, 7] PassesOwn.never rfl (if_seq (ev_var (i := 0) (by decide) rfl (Or.inl rfl))) (tg_pair (i := 6) (j := 7) rfl (by decide) (by decide) (pg_name (i := 6) sc_way_back.nd rfl (Or.inl rfl)) (pg_name (i := 7) sc_way_back.nd rfl (Or.inl rfl))) (by decide) keeps_pair (sss_cons (O2 := [3, 2]) (ss_if (gt_bool (gw_and (gt_cmp (od_eq hu) (ea_var (i := 6) rfl (Or.inl rfl)) (ea_var (i := 5) rfl (Or.inl rfl)) (nomark _)) (gw_and1 (gt_cmp (od_eq hu) (ea_var (i := 7) rfl (Or.inl rfl)) (ea_var (i := 1) rfl (Or.inl rfl)) (nomark _))))) (sss_one (ss_frz (O2 := [3]) (by decide) (ss_ret (ev_call (pe_call G_trail hr rfl D_trail.m D_trail.F.kp D_trail.b .nil pass0 (el_cons (ev_var (i := 2) (by decide) rfl (Or.inl rfl)) (el_cons (ev_var (i := 5) (by decide) rfl (Or.inl rfl)) el_nil))))))) sss_nil)
    (sss_one (ss_if (gt_bool (gw_and (gt_cmp (od_eq hu) (ea_var (i := 6) rfl (Or.inl rfl)) (ea_var (i := 5) rfl (Or.inl rfl)) (nomark _)) (gw_and1 (gt_cmp (od_nin hu) (ea_var (i := 7) rfl (Or.inl rfl)) (ea_var (i := 2) rfl (Or.inl rfl)) (by with_unfolding_all rfl))))) (sss_cons (O2 := [3, 2]) (ss_put (i := 2) (by decide) (ps_dput2 hu (pe_var (i := 2) rfl (Or.inl rfl)) (ev_var (i := 7) (by decide) rfl (Or.inl rfl)) (ev_var (i := 5) (by decide) rfl (Or.inl rfl))))
    (sss_one (ss_append (i := 3) (by decide) (ps_expr (pe_bm PySem.F.plainAttrs_list PySem.F.slot_list_append PySem.F.type_list_append mt_append (pe_var (i := 3) rfl (Or.inl rfl)) (pa_cons (ev_var (i := 7) (by decide) rfl (Or.inl rfl)) pa_nil)))))) sss_nil))))
    (sss_one (ss_asg (i := 4) (by decide) sc_way_back.nd rfl (Or.inl rfl) (ev_bin od_add (ea_var (i := 4) rfl (Or.inl rfl)) (EV.any ev_int)))))))
    (sss_one (ss_ret (ev_tup el_nil)))))))
abbrev N_over : List Str := ["pairs", "one", "found", "left", "here", "a", "b"]
abbrev L_over_1 : Sx := (sIf (gAnd (gB (c2 pEq (cV 5) (cV 4))) (gB (c2 pNin (cV 6) (cV 2)))) (sSeq (sPut 2 (cV 6) (cK (.bool true)))
  (sApp 3 (cV 6))) sSkip)
abbrev L_over_2 : Sx := (sSeq (sPop 4 3)
  (sFor (iSeq (cV 0)) (xPair 5 6) L_over_1 [5, 6]))
abbrev Lg_over_1 : Bx := (gTr (cV 3))
def b_over : Sx := (sSeq (sAsg 2 cD0)
  (sSeq (sAsg 3 (cLst (cCons (cV 1) cNil)))
  (sSeq (sWhile Lg_over_1 L_over_2 [4, 5, 6])
  (sRet (c1 pSorted (cV 2))))))
def m_over : List PyData → Option PyData := mkM 2 7 b_over
theorem sc_over : FnScope N_over ["pairs", "one"] (defScope s_over) := ⟨rfl, rfl, rfl, by decide +kernel, rfl, by decide +kernel, by decide +kernel⟩
theorem ok_over {f : Addr} {fd : FuncData} (D : Df K mg "over" s_over ["pairs", "one"] f fd) (z_sorted : mg "sorted" = none) : FnOk P w K mg base CX0 1 f fd ["pairs", "one"] (spD [] m_over) := by
  refine fn_ok (N := N_over) (F := b_over) D.F sc_over (fun cdv A outer s H E hr => ⟨[], ?_⟩)
  have hu := Rk.room_un hr
  exact (sss_cons (O2 := [2]) (ss_asgN (i := 2) sc_over.nd rfl (Or.inl rfl) en_d0)
    (sss_cons (O2 := [3, 2]) (ss_asgN (i := 3) sc_over.nd rfl (Or.inl rfl) (en_lst (el_cons (ev_var (i := 1) (by decide) rfl (Or.inl rfl)) el_nil)))
    (sss_cons (O2 := [3, 2]) (ss_while [4, 5, 6] PassesOwn.never (gt_truth (ea_var (i := 3) rfl (Or.inl rfl))) (sss_cons (O2 := [3, 2]) (ss_pop (i := 3) (j := 4) (by decide) (by decide) (ps_set (i := 4) sc_over.nd rfl (Or.inl rfl) (pe_bm0 PySem.F.plainAttrs_list PySem.F.slot_list_pop PySem.F.type_list_pop mt_pop (pe_var (i := 3) rfl (Or.inl rfl)))))
    (sss_one (ss_for (js := [5, 6]) [5, 6] PassesOwn.never rfl (if_seq (ev_var (i := 0) (by decide) rfl (Or.inl rfl))) (tg_pair (i := 5) (j := 6) rfl (by decide) (by decide) (pg_name (i := 5) sc_over.nd rfl (Or.inl rfl)) (pg_name (i := 6) sc_over.nd rfl (Or.inl rfl))) (by decide) keeps_pair (sss_one (ss_if (gt_bool (gw_and (gt_cmp (od_eq hu) (ea_var (i := 5) rfl (Or.inl rfl)) (ea_var (i := 4) rfl (Or.inl rfl)) (nomark _)) (gw_and1 (gt_cmp (od_nin hu) (ea_var (i := 6) rfl (Or.inl rfl)) (ea_var (i := 2) rfl (Or.inl rfl)) (by with_unfolding_all rfl))))) (sss_cons (O2 := [3, 2]) (ss_put (i := 2) (by decide) (ps_dput2 hu (pe_var (i := 2) rfl (Or.inl rfl)) (ev_var (i := 6) (by decide) rfl (Or.inl rfl)) ev_bl))
    (sss_one (ss_append (i := 3) (by decide) (ps_expr (pe_bm PySem.F.plainAttrs_list PySem.F.slot_list_append PySem.F.type_list_append mt_append (pe_var (i := 3) rfl (Or.inl rfl)) (pa_cons (ev_var (i := 6) (by decide) rfl (Or.inl rfl)) pa_nil)))))) sss_nil))))))
    (sss_one (ss_ret (EN.val (en_cb (cr_sortD hu rfl) rfl z_sorted bl_sorted (ea_var (i := 2) rfl (Or.inl rfl)))))))))
abbrev N_closed : List Str := ["count", "pairs", "thing", "ring", "found", "one", "other"]
abbrev L_closed_1 : Sx := (sSeq (sAsg 3 (cCall m_way_back (cCons (cV 1) (cCons (cV 2) cNil))))
  (sIf (gTr (cV 3)) (sRet (cTup (cCons (cK (.str "ring")) (cCons (cV 3) cNil)))) sSkip))
abbrev Ce_closed_1 : Fx := (cTup (cCons (cV 5) (cCons (cV 6) cNil)))
abbrev L_closed_2 : Sx := (sExt 4 (cLc (iSeq (cCall m_over (cCons (cV 1) (cCons (cV 5) cNil)))) [6] (xName 6) gYes Ce_closed_1))
def b_closed : Sx := (sSeq (sFor (iR1 (cV 0)) (xName 2) L_closed_1 [2, 3])
  (sSeq (sAsg 4 (cLst cNil))
  (sSeq (sFor (iR1 (cV 0)) (xName 5) L_closed_2 [5])
  (sRet (cTup (cCons (cK (.str "yard")) (cCons (cTup (cCons (cV 0) (cCons (c1 pTuple (cV 4)) cNil))) cNil)))))))
def m_closed : List PyData → Option PyData := mkM 2 7 b_closed
theorem sc_closed : FnScope N_closed ["count", "pairs"] (defScope s_closed) := ⟨rfl, rfl, rfl, by decide +kernel, rfl, by decide +kernel, by decide +kernel⟩
theorem ok_closed {f : Addr} {fd : FuncData} (D : Df K mg "closed" s_closed ["count", "pairs"] f fd) {f_way_back : Addr} {d_way_back : FuncData} (D_way_back : Df K mg "way_back" s_way_back ["pairs", "start"] f_way_back d_way_back) (G_way_back : FnOk P w K mg base CX0 2 f_way_back d_way_back ["pairs", "start"] (spD [] m_way_back)) {f_over : Addr} {d_over : FuncData} (D_over : Df K mg "over" s_over ["pairs", "one"] f_over d_over) (G_over : FnOk P w K mg base CX0 1 f_over d_over ["pairs", "one"] (spD [] m_over)) (z_range : mg "range" = none) (z_tuple : mg "tuple" = none) : FnOk P w K mg base CX0 3 f fd ["count", "pairs"] (spD [] m_closed) := by
  refine fn_ok (N := N_closed) (F := b_closed) D.F sc_closed (fun cdv A outer s H E hr => ⟨[], ?_⟩)
  have hu := Rk.room_un hr
  exact (sss_cons (O2 := []) (ss_for (js := [2]) [2, 3] PassesOwn.never rfl (if_rng1 rfl z_range (ea_var (i := 0) rfl (Or.inl rfl))) (tg_name (i := 2) (by decide) sc_closed.nd rfl (Or.inl rfl)) (by decide) keeps_name (sss_cons (O2 := []) (ss_asg (i := 3) (by decide) sc_closed.nd rfl (Or.inl rfl) (ev_call (pe_call G_way_back hr rfl D_way_back.m D_way_back.F.kp D_way_back.b .nil pass0 (el_cons (ev_var (i := 1) (by decide) rfl (Or.inl rfl)) (el_cons (ev_var (i := 2) (by decide) rfl (Or.inl rfl)) el_nil)))))
    (sss_one (ss_if (gt_truth (ea_var (i := 3) rfl (Or.inl rfl))) (sss_one (ss_ret (ev_tup (el_cons ev_str (el_cons (ev_var (i := 3) (by decide) rfl (Or.inl rfl)) el_nil))))) sss_nil))))
    (sss_cons (O2 := [4]) (ss_asgN (i := 4) sc_closed.nd rfl (Or.inl rfl) (en_lst el_nil))
    (sss_cons (O2 := [4]) (ss_for (js := [5]) [5] PassesOwn.never rfl (if_rng1 rfl z_range (ea_var (i := 0) rfl (Or.inl rfl))) (tg_name (i := 5) (by decide) sc_closed.nd rfl (Or.inr rfl)) (by decide) keeps_name (sss_one (ss_extend (i := 4) (by decide) (ps_expr (pe_bm PySem.F.plainAttrs_list PySem.F.slot_list_extend PySem.F.type_list_extend mt_extend (pe_var (i := 4) rfl (Or.inl rfl)) (pa_cons (en_lc (own := [("other", 6)]) (js := [6]) rfl sc_closed.nd (it_seq (EV.any (ev_call (pe_call G_over (hr.mono (by decide)) rfl D_over.m D_over.F.kp D_over.b .nil pass0 (el_cons (ev_var (i := 1) (by decide) rfl (Or.inl rfl)) (el_cons (ev_var (i := 5) (by decide) rfl (Or.inr (Or.inl rfl))) el_nil)))))) (blkOk_by (N := N_closed) (sc := defScope s_closed) (by decide +kernel)) (fun _ _ _ _ _ => (tg_name (i := 6) (by decide) sc_closed.nd rfl (Or.inl rfl))) (fun _ _ _ _ _ => gts_nil) (fun _ _ _ _ _ => (ev_tup (el_cons (ev_var (i := 5) (by decide) rfl (Or.inr (Or.inl rfl))) (el_cons (ev_var (i := 6) (by decide) rfl (Or.inl rfl)) el_nil)))) (by decide)) pa_nil))))))
    (sss_one (ss_ret (ev_tup (el_cons ev_str (el_cons (ev_tup (el_cons (ev_var (i := 0) (by decide) rfl (Or.inl rfl)) (el_cons (ev_cty cr_tuple rfl z_tuple bl_tuple (ea_var (i := 4) rfl (Or.inl rfl))) el_nil))) el_nil))))))))
abbrev N_law : List Str := ["_law_script", "_law_yard_here", "_law_count", "_law_pairs", "_law_due", "_law_a", "_law_b", "_law_found", "_law_k", "_law_c"]
abbrev Cg_law_1 : Bx := (gAnd (gB (c2 pIn (cTup (cCons (cV 5) (cCons (cV 9) cNil))) (cV 3))) (gB (c2 pIn (cTup (cCons (cV 9) (cCons (cV 6) cNil))) (cV 3))))
abbrev Ce_law_1 : Fx := (cV 9)
abbrev L_law_1 : Sx := (sIf (gNot (gTr (cLc (iR1 (cV 2)) [9] (xName 9) Cg_law_1 Ce_law_1))) (sApp 4 (cTup (cCons (cV 5) (cCons (cV 6) cNil)))) sSkip)
abbrev L_law_2 : Sx := (sIf (gB (c2 pEq (cCall m_closed (cCons (cV 2) (cCons (c2 pAdd (cSl (cV 7) cNo (cPt (cV 8))) (cSl (cV 7) (cPt (c2 pAdd (cV 8) (cK (.int 1)))) cNo)) cNil))) (cTup (cCons (cK (.str "yard")) (cCons (cV 1) cNil))))) (sRet (cK (.bool false))) sSkip)
def b_law : Sx := (sSeq (sAsg 1 (cCall m__law_yard (cCons (cV 0) (cCons (cK (.int 0)) (cCons (cK (.int 7)) cNil)))))
  (sSeq (sPar (xPair 2 3) (cV 1))
  (sSeq (sAsg 4 (cLst cNil))
  (sSeq (sFor (iSeq (cV 3)) (xPair 5 6) L_law_1 [5, 6])
  (sSeq (sAsg 7 (cCall m_covers (cCons (cV 1) cNil)))
  (sSeq (sIf (gOr (gNot (gTr (c1 (pIsi "tuple") (cV 7)))) (gB (c2 pNe (c1 pList (cV 7)) (cV 4)))) (sRet (cK (.bool false))) sSkip)
  (sSeq (sIf (gOr (gB (c2 pNe (cCall m_closed (cCons (cV 2) (cCons (cV 7) cNil))) (cTup (cCons (cK (.str "yard")) (cCons (cV 1) cNil))))) (gB (c2 pNe (cCall m_closed (cCons (cV 2) (cCons (c1 pTupRevT (cV 7)) cNil))) (cTup (cCons (cK (.str "yard")) (cCons (cV 1) cNil)))))) (sRet (cK (.bool false))) sSkip)
  (sSeq (sFor (iR1 (c1 pLen (cV 7))) (xName 8) L_law_2 [8])
  (sRet (cK (.bool true)))))))))))
def m_law : List PyData → Option PyData := mkM 1 10 b_law
theorem sc_law : FnScope N_law ["_law_script"] (defScope s_law) := ⟨rfl, rfl, rfl, by decide +kernel, rfl, by decide +kernel, by decide +kernel⟩
theorem ok_law {f : Addr} {fd : FuncData} (D : Df K mg "law" s_law ["_law_script"] f fd) {f__law_yard : Addr} {d__law_yard : FuncData} (D__law_yard : Df K mg "_law_yard" s__law_yard ["_law_script", "_law_k", "_law_most"] f__law_yard d__law_yard) (G__law_yard : FnOk P w K mg base CX0 3 f__law_yard d__law_yard ["_law_script", "_law_k", "_law_most"] (spD [] m__law_yard)) {f_covers : Addr} {d_covers : FuncData} (D_covers : Df K mg "covers" s_covers ["yard"] f_covers d_covers) (G_covers : FnOk P w K mg base CX0 2 f_covers d_covers ["yard"] (spD [] m_covers)) {f_closed : Addr} {d_closed : FuncData} (D_closed : Df K mg "closed" s_closed ["count", "pairs"] f_closed d_closed) (G_closed : FnOk P w K mg base CX0 3 f_closed d_closed ["count", "pairs"] (spD [] m_closed)) (z_range : mg "range" = none) (z_len : mg "len" = none) (z_isinstance : mg "isinstance" = none) (z_tuple : mg "tuple" = none) (z_list : mg "list" = none) (z_reversed : mg "reversed" = none) : FnOk P w K mg base CX0 4 f fd ["_law_script"] (spD [] m_law) := by
  refine fn_ok (N := N_law) (F := b_law) D.F sc_law (fun cdv A outer s H E hr => ⟨[], ?_⟩)
  have hu := Rk.room_un hr
  exact (sss_cons (O2 := []) (ss_asg (i := 1) (by decide) sc_law.nd rfl (Or.inl rfl) (ev_call (pe_call G__law_yard hr rfl D__law_yard.m D__law_yard.F.kp D__law_yard.b .nil pass0 (el_cons (ev_var (i := 0) (by decide) rfl (Or.inl rfl)) (el_cons ev_int (el_cons ev_int el_nil))))))
    (sss_cons (O2 := []) (ss_par (js := [2, 3]) (by decide) keeps_pair (ev_var (i := 1) (by decide) rfl (Or.inl rfl)) (tg_pair (i := 2) (j := 3) rfl (by decide) (by decide) (pg_name (i := 2) sc_law.nd rfl (Or.inl rfl)) (pg_name (i := 3) sc_law.nd rfl (Or.inr rfl))))
    (sss_cons (O2 := [4]) (ss_asgN (i := 4) sc_law.nd rfl (Or.inl rfl) (en_lst el_nil))
    (sss_cons (O2 := [4]) (ss_for (js := [5, 6]) [5, 6] PassesOwn.never rfl (if_seq (ev_var (i := 3) (by decide) rfl (Or.inr (Or.inl rfl)))) (tg_pair (i := 5) (j := 6) rfl (by decide) (by decide) (pg_name (i := 5) sc_law.nd rfl (Or.inr rfl)) (pg_name (i := 6) sc_law.nd rfl (Or.inr rfl))) (by decide) keeps_pair (sss_one (ss_if (gt_not (gt_truth (EV.any (EN.val (en_lc (own := [("_law_c", 9)]) (js := [9]) rfl sc_law.nd (it_rng1 rfl z_range (ea_var (i := 2) rfl (Or.inl rfl))) (blkOk_by (N := N_law) (sc := defScope s_law) (by decide +kernel)) (fun _ _ _ _ _ => (tg_name (i := 9) (by decide) sc_law.nd rfl (Or.inl rfl))) (fun _ _ _ _ _ => (gts_one (gt_bool (gw_and (gt_cmp (od_in hu) (EV.any (ev_tup (el_cons (ev_var (i := 5) (by decide) rfl (Or.inr (Or.inl rfl))) (el_cons (ev_var (i := 9) (by decide) rfl (Or.inl rfl)) el_nil)))) (ea_var (i := 3) rfl (Or.inr (Or.inl rfl))) (by with_unfolding_all rfl)) (gw_and1 (gt_cmp (od_in hu) (EV.any (ev_tup (el_cons (ev_var (i := 9) (by decide) rfl (Or.inl rfl)) (el_cons (ev_var (i := 6) (by decide) rfl (Or.inr (Or.inl rfl))) el_nil)))) (ea_var (i := 3) rfl (Or.inr (Or.inl rfl))) (by with_unfolding_all rfl))))))) (fun _ _ _ _ _ => (ev_var (i := 9) (by decide) rfl (Or.inl rfl))) (by decide)))))) (sss_one (ss_append (i := 4) (by decide) (ps_expr (pe_bm PySem.F.plainAttrs_list PySem.F.slot_list_append PySem.F.type_list_append mt_append (pe_var (i := 4) rfl (Or.inl rfl)) (pa_cons (ev_tup (el_cons (ev_var (i := 5) (by decide) rfl (Or.inr (Or.inl rfl))) (el_cons (ev_var (i := 6) (by decide) rfl (Or.inr (Or.inl rfl))) el_nil))) pa_nil))))) sss_nil)))
    (sss_cons (O2 := [4]) (ss_asg (i := 7) (by decide) sc_law.nd rfl (Or.inl rfl) (ev_call (pe_call G_covers (hr.mono (by decide)) rfl D_covers.m D_covers.F.kp D_covers.b .nil pass0 (el_cons (ev_var (i := 1) (by decide) rfl (Or.inl rfl)) el_nil))))
    (sss_cons (O2 := [4]) (ss_if (gt_bool (gw_or (gt_not (gt_truth (EV.any (ev_isi (by decide) (pe_callB call_isi rfl z_isinstance bl_isinstance (pa_cons (ea_var (i := 7) rfl (Or.inl rfl)) (pa_cons (pe_bltn (v := .ty "tuple") rfl z_tuple bl_tuple rfl) pa_nil))))))) (gw_or1 (gt_cmp (od_ne hu) (EV.any (EN.val (en_cty cr_list rfl z_list bl_list (ea_var (i := 7) rfl (Or.inl rfl))))) (ea_var (i := 4) rfl (Or.inl rfl)) (nomark _))))) (sss_one (ss_ret ev_bl)) sss_nil)
    (sss_cons (O2 := [4]) (ss_if (gt_bool (gw_or (gt_cmp (od_ne hu) (EV.any (ev_call (pe_call G_closed hr rfl D_closed.m D_closed.F.kp D_closed.b .nil pass0 (el_cons (ev_var (i := 2) (by decide) rfl (Or.inl rfl)) (el_cons (ev_var (i := 7) (by decide) rfl (Or.inl rfl)) el_nil))))) (EV.any (ev_tup (el_cons ev_str (el_cons (ev_var (i := 1) (by decide) rfl (Or.inl rfl)) el_nil)))) (nomark _)) (gw_or1 (gt_cmp (od_ne hu) (EV.any (ev_call (pe_call G_closed hr rfl D_closed.m D_closed.F.kp D_closed.b .nil pass0 (el_cons (ev_var (i := 2) (by decide) rfl (Or.inl rfl)) (el_cons (ev_tupRevT (RkT.pe_tupRevT rfl rfl z_tuple rfl z_reversed (ea_var (i := 7) rfl (Or.inl rfl)))) el_nil))))) (EV.any (ev_tup (el_cons ev_str (el_cons (ev_var (i := 1) (by decide) rfl (Or.inl rfl)) el_nil)))) (nomark _))))) (sss_one (ss_ret ev_bl)) sss_nil)
    (sss_cons (O2 := [4]) (ss_for (js := [8]) [8] PassesOwn.never rfl (if_rng1 rfl z_range (EV.any (ev_cb cr_len rfl z_len bl_len (ea_var (i := 7) rfl (Or.inl rfl))))) (tg_name (i := 8) (by decide) sc_law.nd rfl (Or.inl rfl)) (by decide) keeps_name (sss_one (ss_if (gt_cmp (od_eq hu) (EV.any (ev_call (pe_call G_closed hr rfl D_closed.m D_closed.F.kp D_closed.b .nil pass0 (el_cons (ev_var (i := 2) (by decide) rfl (Or.inl rfl)) (el_cons (ev_bin od_add (EV.any (ev_slice (ea_var (i := 7) rfl (Or.inl rfl)) eo_none (eo_some (ea_var (i := 8) rfl (Or.inl rfl))))) (EV.any (ev_slice (ea_var (i := 7) rfl (Or.inl rfl)) (eo_some (EV.any (ev_bin od_add (ea_var (i := 8) rfl (Or.inl rfl)) (EV.any ev_int)))) eo_none))) el_nil))))) (EV.any (ev_tup (el_cons ev_str (el_cons (ev_var (i := 1) (by decide) rfl (Or.inl rfl)) el_nil)))) (nomark _)) (sss_one (ss_ret ev_bl)) sss_nil)))
    (sss_one (ss_ret ev_bl))))))))))
end
theorem all_mk {l : PySem.W.OpenLaw} {w : World} {K : PySem.W.Frag} {h : Heap} {mg : Str → Option Value} {fa : Addr} {f0 f1 f2 f3 f4 f5 f6 f7 f8 f9 f10 f11 : Addr} (X : K.In h) (G : h.Ns mainGlobals mg) (hfa : mg "law" = some (.ref fa))
    {od0 an0 od1 an1 od2 an2 od3 an3 od4 an4 od5 an5 od6 an6 od7 an7 od8 an8 od9 an9 od10 an10 od11 an11 : Option Addr} {sl0 sl1 sl2 sl3 sl4 sl5 sl6 sl7 sl8 sl9 sl10 sl11 : Array (Option Value)} {oc0 kV0 dc0 pm0 cd0 ct0 oc1 kV1 dc1 pm1 cd1 ct1 oc2 kV2 dc2 pm2 cd2 ct2 oc3 kV3 dc3 pm3 cd3 ct3 oc4 kV4 dc4 pm4 cd4 ct4 oc5 kV5 dc5 pm5 cd5 ct5 oc6 kV6 dc6 pm6 cd6 ct6 oc7 kV7 dc7 pm7 cd7 ct7 oc8 kV8 dc8 pm8 cd8 ct8 oc9 kV9 dc9 pm9 cd9 ct9 oc10 kV10 dc10 pm10 cd10 ct10 oc11 kV11 dc11 pm11 cd11 ct11 : Value}
    (a0 : PySem.W.nsIn K mainGlobals "_law_mix" = some (some (.ref f0))) (l0 : K.lookup f0 = some ⟨oc0, od0, .func (PySem.W.fnOf "_law_mix" "_law_mix" (defArgs s__law_mix) (defBody s__law_mix) (defScope s__law_mix) .none kV0 dc0 pm0 an0 cd0 ct0), sl0⟩) (c0 : PySem.W.codeIn K cd0 "_law_mix" = true) (k0 : PySem.W.keepIn K (.ref f0) = true)
    (a1 : PySem.W.nsIn K mainGlobals "_law_perm" = some (some (.ref f1))) (l1 : K.lookup f1 = some ⟨oc1, od1, .func (PySem.W.fnOf "_law_perm" "_law_perm" (defArgs s__law_perm) (defBody s__law_perm) (defScope s__law_perm) .none kV1 dc1 pm1 an1 cd1 ct1), sl1⟩) (c1 : PySem.W.codeIn K cd1 "_law_perm" = true) (k1 : PySem.W.keepIn K (.ref f1) = true)
    (a2 : PySem.W.nsIn K mainGlobals "_law_cell" = some (some (.ref f2))) (l2 : K.lookup f2 = some ⟨oc2, od2, .func (PySem.W.fnOf "_law_cell" "_law_cell" (defArgs s__law_cell) (defBody s__law_cell) (defScope s__law_cell) .none kV2 dc2 pm2 an2 cd2 ct2), sl2⟩) (c2 : PySem.W.codeIn K cd2 "_law_cell" = true) (k2 : PySem.W.keepIn K (.ref f2) = true)
    (a3 : PySem.W.nsIn K mainGlobals "_law_all" = some (some (.ref f3))) (l3 : K.lookup f3 = some ⟨oc3, od3, .func (PySem.W.fnOf "_law_all" "_law_all" (defArgs s__law_all) (defBody s__law_all) (defScope s__law_all) .none kV3 dc3 pm3 an3 cd3 ct3), sl3⟩) (c3 : PySem.W.codeIn K cd3 "_law_all" = true) (k3 : PySem.W.keepIn K (.ref f3) = true)
    (a4 : PySem.W.nsIn K mainGlobals "_law_yard" = some (some (.ref f4))) (l4 : K.lookup f4 = some ⟨oc4, od4, .func (PySem.W.fnOf "_law_yard" "_law_yard" (defArgs s__law_yard) (defBody s__law_yard) (defScope s__law_yard) .none kV4 dc4 pm4 an4 cd4 ct4), sl4⟩) (c4 : PySem.W.codeIn K cd4 "_law_yard" = true) (k4 : PySem.W.keepIn K (.ref f4) = true)
    (a5 : PySem.W.nsIn K mainGlobals "between" = some (some (.ref f5))) (l5 : K.lookup f5 = some ⟨oc5, od5, .func (PySem.W.fnOf "between" "between" (defArgs s_between) (defBody s_between) (defScope s_between) .none kV5 dc5 pm5 an5 cd5 ct5), sl5⟩) (c5 : PySem.W.codeIn K cd5 "between" = true) (k5 : PySem.W.keepIn K (.ref f5) = true)
    (a6 : PySem.W.nsIn K mainGlobals "covers" = some (some (.ref f6))) (l6 : K.lookup f6 = some ⟨oc6, od6, .func (PySem.W.fnOf "covers" "covers" (defArgs s_covers) (defBody s_covers) (defScope s_covers) .none kV6 dc6 pm6 an6 cd6 ct6), sl6⟩) (c6 : PySem.W.codeIn K cd6 "covers" = true) (k6 : PySem.W.keepIn K (.ref f6) = true)
    (a7 : PySem.W.nsIn K mainGlobals "trail" = some (some (.ref f7))) (l7 : K.lookup f7 = some ⟨oc7, od7, .func (PySem.W.fnOf "trail" "trail" (defArgs s_trail) (defBody s_trail) (defScope s_trail) .none kV7 dc7 pm7 an7 cd7 ct7), sl7⟩) (c7 : PySem.W.codeIn K cd7 "trail" = true) (k7 : PySem.W.keepIn K (.ref f7) = true)
    (a8 : PySem.W.nsIn K mainGlobals "way_back" = some (some (.ref f8))) (l8 : K.lookup f8 = some ⟨oc8, od8, .func (PySem.W.fnOf "way_back" "way_back" (defArgs s_way_back) (defBody s_way_back) (defScope s_way_back) .none kV8 dc8 pm8 an8 cd8 ct8), sl8⟩) (c8 : PySem.W.codeIn K cd8 "way_back" = true) (k8 : PySem.W.keepIn K (.ref f8) = true)
    (a9 : PySem.W.nsIn K mainGlobals "over" = some (some (.ref f9))) (l9 : K.lookup f9 = some ⟨oc9, od9, .func (PySem.W.fnOf "over" "over" (defArgs s_over) (defBody s_over) (defScope s_over) .none kV9 dc9 pm9 an9 cd9 ct9), sl9⟩) (c9 : PySem.W.codeIn K cd9 "over" = true) (k9 : PySem.W.keepIn K (.ref f9) = true)
    (a10 : PySem.W.nsIn K mainGlobals "closed" = some (some (.ref f10))) (l10 : K.lookup f10 = some ⟨oc10, od10, .func (PySem.W.fnOf "closed" "closed" (defArgs s_closed) (defBody s_closed) (defScope s_closed) .none kV10 dc10 pm10 an10 cd10 ct10), sl10⟩) (c10 : PySem.W.codeIn K cd10 "closed" = true) (k10 : PySem.W.keepIn K (.ref f10) = true)
    (a11 : PySem.W.nsIn K mainGlobals "law" = some (some (.ref f11))) (l11 : K.lookup f11 = some ⟨oc11, od11, .func (PySem.W.fnOf "law" "law" (defArgs s_law) (defBody s_law) (defScope s_law) .none kV11 dc11 pm11 an11 cd11 ct11), sl11⟩) (c11 : PySem.W.codeIn K cd11 "law" = true) (k11 : PySem.W.keepIn K (.ref f11) = true)
    (z0 : PySem.W.nsIn K mainGlobals "list" = some none)
    (z1 : PySem.W.nsIn K mainGlobals "range" = some none)
    (z2 : PySem.W.nsIn K mainGlobals "len" = some none)
    (z3 : PySem.W.nsIn K mainGlobals "sorted" = some none)
    (z4 : PySem.W.nsIn K mainGlobals "tuple" = some none)
    (z5 : PySem.W.nsIn K mainGlobals "reversed" = some none)
    (z6 : PySem.W.nsIn K mainGlobals "isinstance" = some none)
    : ∃ fd : FuncData, (∀ (s : Shared) (v : Value), BindsTo s fd ⟨[v], []⟩ [("_law_script", v)]) ∧ ∀ base : Heap, K.In base → base.Ns mainGlobals mg → FnOk l.prog w K mg base CX0 4 fa fd ["_law_script"] (spD [] m_law) := by
  have e := hfa.symm.trans (PySem.W.mg_of X G a11)
  cases e
  have z_list := PySem.W.mg_none_of X G z0
  have z_range := PySem.W.mg_none_of X G z1
  have z_len := PySem.W.mg_none_of X G z2
  have z_sorted := PySem.W.mg_none_of X G z3
  have z_tuple := PySem.W.mg_none_of X G z4
  have z_reversed := PySem.W.mg_none_of X G z5
  have z_isinstance := PySem.W.mg_none_of X G z6
  have F0 := fun_mk (st := s__law_mix) l0 c0 k0
  have D__law_mix : Df K mg "_law_mix" s__law_mix ["_law_cell_here", "_law_prime", "_law_many"] _ _ := ⟨F0, F0.binds (ps := ["_law_cell_here", "_law_prime", "_law_many"]) fun _ _ _ _ _ _ us hl => match us, hl with | [_, _, _], _ => rfl, PySem.W.mg_of X G a0⟩
  have F1 := fun_mk (st := s__law_perm) l1 c1 k1
  have D__law_perm : Df K mg "_law_perm" s__law_perm ["_law_cell_here", "_law_many"] _ _ := ⟨F1, F1.binds (ps := ["_law_cell_here", "_law_many"]) fun _ _ _ _ _ _ us hl => match us, hl with | [_, _], _ => rfl, PySem.W.mg_of X G a1⟩
  have F2 := fun_mk (st := s__law_cell) l2 c2 k2
  have D__law_cell : Df K mg "_law_cell" s__law_cell ["_law_script", "_law_k"] _ _ := ⟨F2, F2.binds (ps := ["_law_script", "_law_k"]) fun _ _ _ _ _ _ us hl => match us, hl with | [_, _], _ => rfl, PySem.W.mg_of X G a2⟩
  have F3 := fun_mk (st := s__law_all) l3 c3 k3
  have D__law_all : Df K mg "_law_all" s__law_all ["_law_count", "_law_pairs"] _ _ := ⟨F3, F3.binds (ps := ["_law_count", "_law_pairs"]) fun _ _ _ _ _ _ us hl => match us, hl with | [_, _], _ => rfl, PySem.W.mg_of X G a3⟩
  have F4 := fun_mk (st := s__law_yard) l4 c4 k4
  have D__law_yard : Df K mg "_law_yard" s__law_yard ["_law_script", "_law_k", "_law_most"] _ _ := ⟨F4, F4.binds (ps := ["_law_script", "_law_k", "_law_most"]) fun _ _ _ _ _ _ us hl => match us, hl with | [_, _, _], _ => rfl, PySem.W.mg_of X G a4⟩
  have F5 := fun_mk (st := s_between) l5 c5 k5
  have D_between : Df K mg "between" s_between ["yard", "one", "other"] _ _ := ⟨F5, F5.binds (ps := ["yard", "one", "other"]) fun _ _ _ _ _ _ us hl => match us, hl with | [_, _, _], _ => rfl, PySem.W.mg_of X G a5⟩
  have F6 := fun_mk (st := s_covers) l6 c6 k6
  have D_covers : Df K mg "covers" s_covers ["yard"] _ _ := ⟨F6, F6.binds (ps := ["yard"]) fun _ _ _ _ _ _ us hl => match us, hl with | [_], _ => rfl, PySem.W.mg_of X G a6⟩
  have F7 := fun_mk (st := s_trail) l7 c7 k7
  have D_trail : Df K mg "trail" s_trail ["came", "one"] _ _ := ⟨F7, F7.binds (ps := ["came", "one"]) fun _ _ _ _ _ _ us hl => match us, hl with | [_, _], _ => rfl, PySem.W.mg_of X G a7⟩
  have F8 := fun_mk (st := s_way_back) l8 c8 k8
  have D_way_back : Df K mg "way_back" s_way_back ["pairs", "start"] _ _ := ⟨F8, F8.binds (ps := ["pairs", "start"]) fun _ _ _ _ _ _ us hl => match us, hl with | [_, _], _ => rfl, PySem.W.mg_of X G a8⟩
  have F9 := fun_mk (st := s_over) l9 c9 k9
  have D_over : Df K mg "over" s_over ["pairs", "one"] _ _ := ⟨F9, F9.binds (ps := ["pairs", "one"]) fun _ _ _ _ _ _ us hl => match us, hl with | [_, _], _ => rfl, PySem.W.mg_of X G a9⟩
  have F10 := fun_mk (st := s_closed) l10 c10 k10
  have D_closed : Df K mg "closed" s_closed ["count", "pairs"] _ _ := ⟨F10, F10.binds (ps := ["count", "pairs"]) fun _ _ _ _ _ _ us hl => match us, hl with | [_, _], _ => rfl, PySem.W.mg_of X G a10⟩
  have F11 := fun_mk (st := s_law) l11 c11 k11
  have D_law : Df K mg "law" s_law ["_law_script"] _ _ := ⟨F11, F11.binds (ps := ["_law_script"]) fun _ _ _ _ _ _ us hl => match us, hl with | [_], _ => rfl, PySem.W.mg_of X G a11⟩
  refine ⟨PySem.W.fnOf "law" "law" (defArgs s_law) (defBody s_law) (defScope s_law) .none kV11 dc11 pm11 an11 cd11 ct11, fun s v => .of_eq rfl, fun base _ _ => ?_⟩
  have G__law_mix := ok__law_mix (P := l.prog) (w := w) (base := base) D__law_mix
  have G__law_perm := ok__law_perm (P := l.prog) (w := w) (base := base) D__law_perm D__law_mix G__law_mix z_list z_range
  have G__law_cell := ok__law_cell (P := l.prog) (w := w) (base := base) D__law_cell z_len
  have G__law_all := ok__law_all (P := l.prog) (w := w) (base := base) D__law_all z_range z_sorted
  have G__law_yard := ok__law_yard (P := l.prog) (w := w) (base := base) D__law_yard D__law_perm G__law_perm D__law_mix G__law_mix D__law_cell G__law_cell D__law_all G__law_all z_range z_tuple
  have G_between := ok_between (P := l.prog) (w := w) (base := base) D_between z_range
  have G_covers := ok_covers (P := l.prog) (w := w) (base := base) D_covers D_between G_between z_tuple
  have G_trail := ok_trail (P := l.prog) (w := w) (base := base) D_trail z_tuple z_reversed
  have G_way_back := ok_way_back (P := l.prog) (w := w) (base := base) D_way_back D_trail G_trail z_len
  have G_over := ok_over (P := l.prog) (w := w) (base := base) D_over z_sorted
  have G_closed := ok_closed (P := l.prog) (w := w) (base := base) D_closed D_way_back G_way_back D_over G_over z_range z_tuple
  exact ok_law D_law D__law_yard G__law_yard D_covers G_covers D_closed G_closed z_range z_len z_isinstance z_tuple z_list z_reversed

end Rk

set_option Elab.async false
set_option linter.all false
set_option maxRecDepth 100000
set_option maxHeartbeats 4000000
/-! Q1: cell, mix, the closure by Warshall. -/
namespace Rk
open PySem PySem.Spec L2
/-! ### mix and cell -/
def mixZ (c p m : Int) : Int := Int.fmod (Int.fmod (c * 48271) p) m
theorem mixZ_bd {c p m : Int} (h : 0 < m) : 0 ≤ mixZ c p m ∧ mixZ c p m < m := ⟨Int.fmod_nonneg_of_pos _ h, Int.fmod_lt_of_pos _ h⟩
theorem m_mix {c p m : Int} (hp : p ≠ 0) (hm : m ≠ 0) : m__law_mix [.int c, .int p, .int m] = some (.int (mixZ c p m)) :=
  r_mk rfl (r_ret (r_c2 (r_c2 (r_c2 rfl rfl (pMul_r (by decide) (by decide))) rfl (pMod_of hp)) rfl (pMod_of hm)))
def cellZ (ns : List Int) (k : Nat) : Int := ns.getD k 0
theorem m_cell {ns : List Int} {k : Nat} : m__law_cell [.list (iD ns), .int k] = some (.int (cellZ ns k)) := by
  refine r_mk rfl ?_
  have h0 : gB (c2 pLt (cV 1) (c1 pLen (cV 0))) [some (.list (iD ns)), some (.int k)] = some (decide ((k : Int) < ((iD ns).length : Int))) := r_gB (r_c2 rfl (r_c1 rfl rfl) rfl)
  unfold cellZ
  by_cases h : k < ns.length
  · have h1 : (k : Int) < ((iD ns).length : Int) := by
      unfold iD
      rw [List.length_map]
      omega
    rw [decide_eq_true h1] at h0
    refine r_seqR (r_ifT h0 (r_ret (r_c2 rfl rfl ?_)))
    show L2.atI (iD ns) k = _
    unfold iD
    rw [atI_nat (v := .int ns[k]) (by rw [List.getElem?_map, List.getElem?_eq_getElem h]; rfl), List.getD_eq_getElem?_getD, List.getElem?_eq_getElem h]
    rfl
  · have h1 : ¬ (k : Int) < ((iD ns).length : Int) := by
      unfold iD
      rw [List.length_map]
      omega
    rw [decide_eq_false h1] at h0
    refine r_seq (r_ifF h0 rfl) (r_ret ?_)
    rw [List.getD_eq_getElem?_getD, List.getElem?_eq_none (by omega)]
    rfl
end Rk

set_option Elab.async false
set_option linter.all false
set_option maxRecDepth 100000
set_option maxHeartbeats 4000000
/-! Q2: the closure by Warshall, as it is computed. -/
namespace Rk
open PySem PySem.Spec L2
abbrev PP := List (Int × Int)
def wIn (c a : Int) (f : PP) (b : Int) : PP := if (a, c) ∈ f ∧ (c, b) ∈ f then ins f (a, b) else f
def wA (n : Nat) (c : Int) (f : PP) (a : Int) : PP := (rngI 0 n).foldl (wIn c a) f
def wC (n : Nat) (f : PP) (c : Int) : PP := (rngI 0 n).foldl (wA n c) f
def wars (n : Nat) (ps : PP) : PP := (rngI 0 n).foldl (wC n) (ps.foldl ins [])
def InR (n : Nat) (p : Int × Int) : Prop := (0 ≤ p.1 ∧ p.1 < n) ∧ 0 ≤ p.2 ∧ p.2 < n
def WI (n : Nat) (f : PP) : Prop := f.Nodup ∧ ∀ p ∈ f, InR n p
theorem WI.len {n : Nat} {f : PP} (h : WI n f) : f.length ≤ n * n := by
  have e : f.length ≤ ((rngI 0 n).flatMap fun a => (rngI 0 n).map fun b => (a, b)).length := nodup_sub h.1 fun p hp => by
    obtain ⟨h1, h2⟩ := h.2 p hp
    rw [List.mem_flatMap]
    exact ⟨p.1, mem_rngI.mpr (by omega), List.mem_map.mpr ⟨p.2, mem_rngI.mpr (by omega), rfl⟩⟩
  rw [List.length_flatMap] at e
  simp only [List.length_map, rngI_length, List.map_const', List.sum_replicate_nat] at e
  exact e
theorem WI.small {n : Nat} {f : PP} (h : WI n f) (hn : n ≤ 1000) : f.length < sizeLine := Nat.lt_of_le_of_lt h.len (Nat.lt_of_le_of_lt (Nat.mul_le_mul hn hn) (by decide))
theorem WI.ins {n : Nat} {f : PP} (h : WI n f) {p : Int × Int} (hp : InR n p) : WI n (ins f p) := ⟨ins_nodup h.1, fun q hq => by
  rcases mem_ins.mp hq with hq | rfl
  · exact h.2 q hq
  · exact hp⟩
theorem fold_inv {α S : Type} {step : S → α → S} {I : S → Prop} {P : α → Prop} (h : ∀ s x, I s → P x → I (step s x)) : ∀ (xs : List α) (s : S), (∀ x ∈ xs, P x) → I s → I (xs.foldl step s)
  | [], _, _, hs => hs
  | x :: xs, s, hp, hs => fold_inv h xs (step s x) (fun y hy => hp y (by simp [hy])) (h s x hs (hp x (by simp)))
theorem rng_P {n : Nat} {x : Int} (h : x ∈ rngI 0 n) : 0 ≤ x ∧ x < n := by
  have := mem_rngI.mp h
  omega
theorem wIn_I {n : Nat} {c a : Int} (ha : 0 ≤ a ∧ a < n) : ∀ (f : PP) (b : Int), WI n f → (0 ≤ b ∧ b < n) → WI n (wIn c a f b) := fun f b h hb => by
  unfold wIn
  split
  · exact h.ins ⟨ha, hb⟩
  · exact h
theorem wA_I {n : Nat} {c : Int} : ∀ (f : PP) (a : Int), WI n f → (0 ≤ a ∧ a < n) → WI n (wA n c f a) := fun f a h ha => fold_inv (P := fun b => 0 ≤ b ∧ b < (n : Int)) (wIn_I ha) _ f (fun x hx => rng_P hx) h
theorem wC_I {n : Nat} : ∀ (f : PP) (c : Int), WI n f → (0 ≤ c ∧ c < (n : Int)) → WI n (wC n f c) := fun f c h hc => fold_inv (P := fun b => 0 ≤ b ∧ b < (n : Int)) wA_I _ f (fun x hx => rng_P hx) h
theorem okS_pr (a b : Int) : okS [.int a, .int b] = true := okS_two rfl rfl
theorem m_all {n : Nat} {ps : PP} {d : PyData} (hd : items d = some (pD ps)) (hn : n ≤ 1000) (hp : ∀ p ∈ ps, InR n p) : m__law_all [.int n, d] = some (.list (pD ((wars n ps).mergeSort leP))) ∧ WI n (wars n ps) := by
  have hin : ∀ (c a : Int) (f : PP), (0 ≤ a ∧ a < n) → WI n f → WI n (wA n c f a) ∧
      sFor (iR1 (cV 0)) (xName 6) (sIf (gAnd (gB (c2 pIn (cTup (cCons (cV 5) (cCons (cV 4) cNil))) (cV 2))) (gB (c2 pIn (cTup (cCons (cV 4) (cCons (cV 6) cNil))) (cV 2)))) (sPut 2 (cTup (cCons (cV 5) (cCons (cV 6) cNil))) (cK (.bool true))) sSkip) [6] [some (.int n), some d, some (dS pr f), none, some (.int c), some (.int a), none]
        = some (.nx [some (.int n), some d, some (dS pr (wA n c f a)), none, some (.int c), some (.int a), none]) := fun c a f ha hf => by
    have e := evF_go (τ := xName 6) (F := sIf (gAnd (gB (c2 pIn (cTup (cCons (cV 5) (cCons (cV 4) cNil))) (cV 2))) (gB (c2 pIn (cTup (cCons (cV 4) (cCons (cV 6) cNil))) (cV 2)))) (sPut 2 (cTup (cCons (cV 5) (cCons (cV 6) cNil))) (cK (.bool true))) sSkip) (fg := [6]) PyData.int
      (fun f => [some (.int n), some d, some (dS pr f), none, some (.int c), some (.int a), none]) (wIn c a) (WI n) (fun b => 0 ≤ b ∧ b < (n : Int)) (fun f b hf hb => ⟨wIn_I ha f b hf hb, ?_⟩) (rngI 0 n) f (fun x hx => rng_P hx) hf
    · exact ⟨e.1, r_for (r_rng1 (n := n) rfl (by omega) (by omega)) e.2⟩
    · have g1 : gAnd (gB (c2 pIn (cTup (cCons (cV 5) (cCons (cV 4) cNil))) (cV 2))) (gB (c2 pIn (cTup (cCons (cV 4) (cCons (cV 6) cNil))) (cV 2))) [some (.int n), some d, some (dS pr f), none, some (.int c), some (.int a), some (.int b)] = some (decide ((a, c) ∈ f) && decide ((c, b) ∈ f)) :=
        r_and (r_gB (r_c2 (r_tup rfl (okS_pr a c)) rfl (key_pr.inS (a, c) f))) fun _ => r_gB (r_c2 (r_tup rfl (okS_pr c b)) rfl (key_pr.inS (c, b) f))
      unfold wIn
      by_cases h : (a, c) ∈ f ∧ (c, b) ∈ f
      · rw [if_pos h]
        rw [decide_eq_true h.1, decide_eq_true h.2] at g1
        exact ⟨_, _, rfl, r_ifT g1 (r_putS key_pr (k := (a, b)) rfl (r_tup rfl (okS_pr a b)) rfl (hf.small hn)), rfl⟩
      · rw [if_neg h]
        have e2 : (decide ((a, c) ∈ f) && decide ((c, b) ∈ f)) = false := by
          rw [Bool.and_eq_false_iff, decide_eq_false_iff_not, decide_eq_false_iff_not]
          by_cases h1 : (a, c) ∈ f
          · exact .inr fun z => h ⟨h1, z⟩
          · exact .inl h1
        rw [e2] at g1
        exact ⟨_, _, rfl, r_ifF g1 rfl, rfl⟩
  have hmid : ∀ (c : Int) (f : PP), WI n f → sFor (iR1 (cV 0)) (xName 5) (sFor (iR1 (cV 0)) (xName 6) (sIf (gAnd (gB (c2 pIn (cTup (cCons (cV 5) (cCons (cV 4) cNil))) (cV 2))) (gB (c2 pIn (cTup (cCons (cV 4) (cCons (cV 6) cNil))) (cV 2)))) (sPut 2 (cTup (cCons (cV 5) (cCons (cV 6) cNil))) (cK (.bool true))) sSkip) [6]) [5, 6] [some (.int n), some d, some (dS pr f), none, some (.int c), none, none]
        = some (.nx [some (.int n), some d, some (dS pr (wC n f c)), none, some (.int c), none, none]) := fun c f hf => by
    have e2 := evF_go (τ := xName 5) (F := (sFor (iR1 (cV 0)) (xName 6) (sIf (gAnd (gB (c2 pIn (cTup (cCons (cV 5) (cCons (cV 4) cNil))) (cV 2))) (gB (c2 pIn (cTup (cCons (cV 4) (cCons (cV 6) cNil))) (cV 2)))) (sPut 2 (cTup (cCons (cV 5) (cCons (cV 6) cNil))) (cK (.bool true))) sSkip) [6])) (fg := [5, 6]) PyData.int
      (fun f => [some (.int n), some d, some (dS pr f), none, some (.int c), none, none]) (wA n c) (WI n) (fun b => 0 ≤ b ∧ b < (n : Int)) (fun f a hf ha => ⟨wA_I f a hf ha, _, _, rfl, (hin c a f ha hf).2, rfl⟩) (rngI 0 n) f (fun x hx => rng_P hx) hf
    exact r_for (r_rng1 (n := n) rfl (by omega) (by omega)) e2.2
  have h0 : WI n (ps.foldl ins []) := fold_inv (P := InR n) (fun s x hs hx => hs.ins hx) ps [] hp ⟨List.nodup_nil, fun p hp => by simp at hp⟩
  have e0 := evF_go (τ := xName 3) (F := sPut 2 (cV 3) (cK (.bool true))) (fg := [3]) pr (fun f => [some (.int n), some d, some (dS pr f), none, none, none, none]) ins (WI n) (InR n)
    (fun f p hf hp => ⟨hf.ins hp, _, _, rfl, r_putS key_pr (k := p) rfl rfl rfl (hf.small hn), rfl⟩) ps [] hp ⟨List.nodup_nil, fun p hp => by simp at hp⟩
  have e1 := evF_go (τ := xName 4) (F := sFor (iR1 (cV 0)) (xName 5) (sFor (iR1 (cV 0)) (xName 6) (sIf (gAnd (gB (c2 pIn (cTup (cCons (cV 5) (cCons (cV 4) cNil))) (cV 2))) (gB (c2 pIn (cTup (cCons (cV 4) (cCons (cV 6) cNil))) (cV 2)))) (sPut 2 (cTup (cCons (cV 5) (cCons (cV 6) cNil))) (cK (.bool true))) sSkip) [6]) [5, 6]) (fg := [4, 5, 6]) PyData.int
    (fun f => [some (.int n), some d, some (dS pr f), none, none, none, none]) (wC n) (WI n) (fun b => 0 ≤ b ∧ b < (n : Int)) (fun f c hf hc => ⟨wC_I f c hf hc, _, _, rfl, hmid c f hf, rfl⟩) (rngI 0 n) (ps.foldl ins []) (fun x hx => rng_P hx) h0
  exact ⟨r_mk rfl (r_seq rfl (r_seq (r_for (ds := pD ps) hd e0.2) (r_seq (r_for (r_rng1 (n := n) rfl (by omega) (by omega)) e1.2) (r_ret (r_c1 rfl (pSorted_dP (Nat.le_of_lt (e1.1.small hn)))))))), e1.1⟩
end Rk

set_option Elab.async false
set_option linter.all false
set_option maxRecDepth 100000
set_option maxHeartbeats 4000000
/-! Q3: Warshall is right. -/
namespace Rk
inductive Tc (ps : PP) : Int → Int → Prop
  | one {a b : Int} : (a, b) ∈ ps → Tc ps a b
  | cons {a m b : Int} : (a, m) ∈ ps → Tc ps m b → Tc ps a b
theorem Tc.trans {ps : PP} {a b c : Int} (h : Tc ps a b) (g : Tc ps b c) : Tc ps a c := by
  induction h with
  | one h => exact .cons h g
  | cons h _ ih => exact .cons h (ih g)
theorem Tc.snoc {ps : PP} {a b c : Int} (h : Tc ps a b) (g : (b, c) ∈ ps) : Tc ps a c := h.trans (.one g)
theorem Tc.inR {n : Nat} {ps : PP} (hp : ∀ p ∈ ps, InR n p) {a b : Int} (h : Tc ps a b) : InR n (a, b) := by
  induction h with
  | one h => exact hp _ h
  | cons h _ ih => exact ⟨(hp _ h).1, ih.2⟩
theorem Tc.mono {ps qs : PP} (h : ∀ p ∈ ps, p ∈ qs) {a b : Int} (t : Tc ps a b) : Tc qs a b := by
  induction t with
  | one q => exact .one (h _ q)
  | cons q _ ih => exact .cons (h _ q) ih
/-- each pair of one stands for a path of the other -/
theorem Tc.lift {ps qs : PP} (h : ∀ p ∈ ps, Tc qs p.1 p.2) {a b : Int} (t : Tc ps a b) : Tc qs a b := by
  induction t with
  | one q => exact h _ q
  | cons q _ ih => exact (h _ q).trans ih
inductive Via (ps : PP) (k : Int) : Int → Int → Prop
  | one {a b : Int} : (a, b) ∈ ps → Via ps k a b
  | cons {a m b : Int} : (a, m) ∈ ps → m < k → Via ps k m b → Via ps k a b
theorem via_split {ps : PP} {k a b : Int} (h : Via ps (k + 1) a b) : Via ps k a b ∨ (Via ps k a k ∧ Via ps k k b) := by
  induction h with
  | one h => exact .inl (.one h)
  | @cons a m b h hm _ ih =>
    by_cases e : m = k
    · subst e
      rcases ih with q | q
      · exact .inr ⟨.one h, q⟩
      · exact .inr ⟨.one h, q.2⟩
    · have hm' : m < k := by omega
      rcases ih with q | q
      · exact .inl (.cons h hm' q)
      · exact .inr ⟨.cons h hm' q.1, q.2⟩
theorem Via.tc {ps : PP} {k a b : Int} (h : Via ps k a b) : Tc ps a b := by
  induction h with
  | one h => exact .one h
  | cons h _ _ ih => exact .cons h ih
theorem tc_via {n : Nat} {ps : PP} (hp : ∀ p ∈ ps, InR n p) {a b : Int} (h : Tc ps a b) : Via ps n a b := by
  induction h with
  | one h => exact .one h
  | cons h _ ih => exact .cons h (hp _ h).2.2 ih
theorem mem_wIn {c a b : Int} {f : PP} {q : Int × Int} : q ∈ wIn c a f b ↔ q ∈ f ∨ (q = (a, b) ∧ (a, c) ∈ f ∧ (c, b) ∈ f) := by
  unfold wIn
  split
  · rename_i h
    rw [mem_ins]
    exact ⟨fun z => z.elim .inl fun z => .inr ⟨z, h⟩, fun z => z.elim .inl fun z => .inr z.1⟩
  · rename_i h
    exact ⟨.inl, fun z => z.elim id fun z => absurd z.2 h⟩
theorem fold_sub {α β : Type} {step : List β → α → List β} (h : ∀ s x, ∀ q ∈ s, q ∈ step s x) : ∀ (xs : List α) (s : List β), ∀ q ∈ s, q ∈ xs.foldl step s
  | [], _, _, hq => hq
  | x :: xs, s, q, hq => fold_sub h xs (step s x) q (h s x q hq)
theorem fold_hit {α β : Type} {step : List β → α → List β} (h : ∀ s x, ∀ q ∈ s, q ∈ step s x) {y : β} : ∀ (xs : List α) (s : List β) {x : α}, x ∈ xs → (∀ s', (∀ q ∈ s, q ∈ s') → y ∈ step s' x) → y ∈ xs.foldl step s
  | z :: xs, s, x, hx, hit => by
    rcases List.mem_cons.mp hx with rfl | hx
    · exact fold_sub h xs _ y (hit s fun q hq => hq)
    · exact fold_hit h xs (step s z) hx fun s' hs => hit s' fun q hq => hs q (h s z q hq)
theorem wIn_sub (c a : Int) : ∀ (s : PP) (x : Int), ∀ q ∈ s, q ∈ wIn c a s x := fun s x q hq => mem_wIn.mpr (.inl hq)
theorem wA_sub (n : Nat) (c : Int) : ∀ (s : PP) (x : Int), ∀ q ∈ s, q ∈ wA n c s x := fun s x q hq => fold_sub (wIn_sub c x) _ s q hq
theorem wC_sub (n : Nat) : ∀ (s : PP) (x : Int), ∀ q ∈ s, q ∈ wC n s x := fun s x q hq => fold_sub (wA_sub n x) _ s q hq
theorem wC_hit {n : Nat} {f : PP} {a b c : Int} (ha : 0 ≤ a ∧ a < n) (hb : 0 ≤ b ∧ b < n) (h1 : (a, c) ∈ f) (h2 : (c, b) ∈ f) : (a, b) ∈ wC n f c :=
  fold_hit (wA_sub n c) _ f (mem_rngI.mpr (by omega : (0 : Int) ≤ a ∧ a < 0 + n)) fun s hs =>
    fold_hit (wIn_sub c a) _ s (mem_rngI.mpr (by omega : (0 : Int) ≤ b ∧ b < 0 + n)) fun s' hs' => mem_wIn.mpr (.inr ⟨rfl, hs' _ (hs _ h1), hs' _ (hs _ h2)⟩)
theorem wC_tc {n : Nat} {ps f : PP} {c : Int} (h : ∀ p ∈ f, Tc ps p.1 p.2) : ∀ p ∈ wC n f c, Tc ps p.1 p.2 :=
  fold_inv (I := fun f : PP => ∀ p ∈ f, Tc ps p.1 p.2) (P := fun _ => True) (fun s a hs _ => fold_inv (I := fun f : PP => ∀ p ∈ f, Tc ps p.1 p.2) (P := fun _ => True) (fun s b hs _ p hp => by
    rcases mem_wIn.mp hp with hp | ⟨rfl, h1, h2⟩
    · exact hs p hp
    · exact (hs _ h1).trans (hs _ h2)) _ s (fun _ _ => trivial) hs) _ f (fun _ _ => trivial) h
theorem rngI_succ (n : Nat) : rngI 0 (n + 1) = rngI 0 n ++ [(n : Int)] := by
  unfold rngI
  rw [List.range_succ, List.map_append]
  simp
theorem mem_foldl_ins {α : Type} [DecidableEq α] {q : α} : ∀ (xs s : List α), q ∈ xs.foldl ins s ↔ q ∈ s ∨ q ∈ xs
  | [], s => by simp
  | x :: xs, s => by
    rw [List.foldl_cons, mem_foldl_ins xs, mem_ins, List.mem_cons, or_assoc]
theorem mem_wars {n : Nat} {ps : PP} (hp : ∀ p ∈ ps, InR n p) (q : Int × Int) : q ∈ wars n ps ↔ Tc ps q.1 q.2 := by
  constructor
  · intro h
    have : ∀ p ∈ wars n ps, Tc ps p.1 p.2 := fold_inv (I := fun f : PP => ∀ p ∈ f, Tc ps p.1 p.2) (P := fun _ => True) (fun s c hs _ => wC_tc hs) _ _ (fun _ _ => trivial) fun p hp => by
      rcases (mem_foldl_ins ps []).mp hp with z | z
      · simp at z
      · exact .one z
    exact this q h
  · intro h
    have go : ∀ j : Nat, j ≤ n → ∀ a b, Via ps j a b → (a, b) ∈ (rngI 0 j).foldl (wC n) (ps.foldl ins []) := by
      intro j
      induction j with
      | zero =>
        intro _ a b v
        show (a, b) ∈ ps.foldl ins []
        rw [mem_foldl_ins]
        cases v with
        | one h => exact .inr h
        | cons h hm _ =>
          have := (hp _ h).2.1
          have hm' : (_ : Int) < 0 := hm
          exact absurd hm' (by show ¬ _; omega)
      | succ j ih =>
        intro hj a b v
        rw [rngI_succ, List.foldl_append, List.foldl_cons, List.foldl_nil]
        rcases via_split (k := (j : Int)) (by have : ((j + 1 : Nat) : Int) = (j : Int) + 1 := by omega
                                              rw [this] at v; exact v) with v | ⟨v1, v2⟩
        · exact wC_sub n _ _ _ (ih (by omega) a b v)
        · have r1 := v1.tc.inR hp
          have r2 := v2.tc.inR hp
          exact wC_hit r1.1 r2.2 (ih (by omega) _ _ v1) (ih (by omega) _ _ v2)
    exact go n (Nat.le_refl n) q.1 q.2 (tc_via hp h)
/-- the sorted closure -/
def clo (n : Nat) (ps : PP) : PP := (wars n ps).mergeSort leP
theorem mem_clo {n : Nat} {ps : PP} (hp : ∀ p ∈ ps, InR n p) (q : Int × Int) : q ∈ clo n ps ↔ Tc ps q.1 q.2 := by
  unfold clo
  rw [mem_sort, mem_wars hp]
theorem clo_sorted {n : Nat} {ps : PP} (h : WI n (wars n ps)) : (clo n ps).Pairwise ltP := sortP_strict h.1
end Rk

set_option Elab.async false
set_option linter.all false
set_option maxRecDepth 100000
set_option maxHeartbeats 4000000
/-! S1: numbers mixed; the yard of three cells. -/
namespace Rk
open PySem PySem.Spec L2
theorem small_of {k : Nat} (h : k ≤ 10000000) : k < sizeLine := Nat.lt_of_le_of_lt h (by decide)
theorem iD_len (xs : List Int) : (iD xs).length = xs.length := List.length_map _
theorem pD_len (xs : PP) : (pD xs).length = xs.length := List.length_map _
theorem m_perm {c : Int} {m : Nat} (hm : m ≤ 1000) : ∃ xs : List Int, xs.Perm (rngI 0 m) ∧ m__law_perm [.int c, .int m] = some (.list (iD xs)) := by
  have go : ∀ (k j : Nat) (us : List Int), m - j = k → j ≤ m → us.length = m - j → ∃ rs : List Int, rs.Perm us ∧ evP 2 [3] (xName 3) Ce__law_perm_1 (iD ((rngI 0 m).drop j)) [some (.int c), some (.int m), some (.list (iD us)), none] = some (iD rs) := by
    intro k
    induction k with
    | zero =>
      intro j us hk hj hl
      have e : j = m := by omega
      subst e
      refine ⟨[], ?_, ?_⟩
      · have : us = [] := List.length_eq_zero_iff.mp (by omega)
        rw [this]
      · rw [List.drop_eq_nil_of_le (by rw [rngI_length]; exact Nat.le_refl _)]
        rfl
    | succ k ih =>
      intro j us hk hj hl
      have hlt : j < (rngI 0 m).length := by rw [rngI_length]; omega
      have ej : (rngI 0 m)[j] = (j : Int) := by
        have := (rngI_get (List.getElem?_eq_getElem hlt)).1
        omega
      rw [List.drop_eq_getElem_cons hlt, ej]
      have bz := mixZ_bd (c := c + 5 * (j : Int)) (p := 9967) (m := (m : Int) - j) (by omega)
      obtain ⟨z, hz⟩ : ∃ z : Nat, mixZ (c + 5 * (j : Int)) 9967 ((m : Int) - j) = z := ⟨(mixZ (c + 5 * (j : Int)) 9967 ((m : Int) - j)).toNat, by omega⟩
      have zl : z < us.length := by omega
      have el : (us.eraseIdx z).length = us.length - 1 := List.length_eraseIdx_of_lt zl
      obtain ⟨rs, h1, h2⟩ := ih (j + 1) (us.eraseIdx z) (by omega) (by omega) (by omega)
      have ez : Ce__law_perm_1 [some (.int c), some (.int m), some (.list (iD us)), some (.int j)] = some (.int z) := by
        rw [← hz]
        exact r_call (r_cons (r_c2 rfl (r_c2 rfl rfl (pMul_l (by decide) (by decide))) rfl) (r_cons rfl (r_cons (r_c2 rfl rfl rfl) rfl))) (m_mix (m := (m : Int) - (j : Int)) (by decide) (by omega))
      have es : seqIndex? (z : Int) (iD us).length = some z := by
        unfold seqIndex?
        rw [iD_len]
        simp only [Int.toNat_natCast]
        rw [if_neg (by omega : ¬ (z : Int) < 0)]
        rw [if_pos (by simp; omega)]
        simp
      have eg : (iD us)[z]? = some (.int us[z]) := by
        unfold iD
        rw [List.getElem?_map, List.getElem?_eq_getElem zl]
        rfl
      refine ⟨us[z] :: rs, (h1.cons us[z]).trans (eraseIdx_perm zl), ?_⟩
      show evP 2 [3] (xName 3) Ce__law_perm_1 (.int j :: iD ((rngI 0 m).drop (j + 1))) _ = _
      unfold evP
      rw [show xName 3 (wp [some (.int c), some (.int m), some (.list (iD us)), none] [3]) (.int j) = some [some (.int c), some (.int m), some (.list (iD us)), some (.int j)] from rfl, Option.bind_some, ez, Option.bind_some]
      rw [show gt [some (.int c), some (.int m), some (.list (iD us)), none] 2 = some (.list (iD us)) from rfl, Option.bind_some]
      dsimp only
      rw [es, Option.bind_some, eg, Option.bind_some, if_pos ⟨⟨by omega, by omega⟩, rfl⟩]
      have e3 : Rk.st [some (.int c), some (.int m), some (.list (iD us)), none] 2 (.list ((iD us).eraseIdx z)) = [some (.int c), some (.int m), some (.list (iD (us.eraseIdx z))), none] := by
        unfold iD
        rw [← eraseIdx_mapD]
        rfl
      rw [e3, h2]
      rfl
  obtain ⟨rs, h1, h2⟩ := go m 0 (rngI 0 m) (by omega) (Nat.zero_le _) (by rw [rngI_length]; omega)
  refine ⟨rs, h1, r_mk rfl (r_seq (G' := [some (.int c), some (.int m), some (.list (iD (rngI 0 m))), none]) (r_asg ?_) ?_)⟩
  · have : okR 0 (m : Int) = true := by
      unfold okR
      simp only [Bool.and_eq_true, decide_eq_true_eq]
      omega
    show (if okR 0 (m : Int) = true then some (PyData.list (rngD 0 ((m : Int) - 0).toNat)) else none) = _
    rw [if_pos this, rngD_iD]
    simp
  · unfold sRetPop
    rw [r_rng1 (n := m) rfl (by omega) (by omega), Option.bind_some, if_pos (by rw [iD_len, rngI_length]; exact small_of (by omega))]
    rw [show ((m : Int)).toNat = m from by omega]
    rw [List.drop_zero] at h2
    rw [h2]
    rfl
/-- a yard -/
structure IsY (n : Nat) (ps : PP) : Prop where
  srt : ps.Pairwise ltP
  rng : ∀ p ∈ ps, InR n p
  tr : ∀ a b c, (a, b) ∈ ps → (b, c) ∈ ps → (a, c) ∈ ps
  irr : ∀ a, (a, a) ∉ ps
theorem IsY.tc {n : Nat} {ps : PP} (Y : IsY n ps) {a b : Int} (t : Tc ps a b) : (a, b) ∈ ps := by
  induction t with
  | one h => exact h
  | cons h _ ih => exact Y.tr _ _ _ h ih
theorem clo_WI {n : Nat} {ps : PP} (hp : ∀ p ∈ ps, InR n p) : WI n (wars n ps) := by
  have h0 : WI n (ps.foldl ins []) := fold_inv (P := InR n) (fun s x hs hx => hs.ins hx) ps [] hp ⟨List.nodup_nil, fun p hp => by simp at hp⟩
  exact fold_inv (P := fun b : Int => 0 ≤ b ∧ b < n) (fun s x hs hx => wC_I s x hs hx) _ _ (fun x hx => rng_P hx) h0
theorem clo_Y {n : Nat} {ps : PP} (hp : ∀ p ∈ ps, InR n p) (ac : ∀ a, ¬ Tc ps a a) : IsY n (clo n ps) :=
  ⟨clo_sorted (clo_WI hp), fun p h => ((mem_clo hp p).mp h).inR hp, fun a b c h1 h2 => (mem_clo hp (a, c)).mpr (((mem_clo hp (a, b)).mp h1).trans ((mem_clo hp (b, c)).mp h2)), fun a h => ac a ((mem_clo hp (a, a)).mp h)⟩
def yardD (n : Nat) (ps : PP) : PyData := .tuple [.int n, .tuple (pD ps)]
theorem IsY.len {n : Nat} {ps : PP} (Y : IsY n ps) : ps.length ≤ n * n := WI.len (show WI n ps from ⟨ltP_nodup Y.srt, Y.rng⟩)
theorem m_yard {ns : List Int} {k most : Nat} (h1 : 0 < most) (h2 : most ≤ 900) : ∃ n ps, 1 ≤ n ∧ n ≤ most ∧ IsY n ps ∧ m__law_yard [.list (iD ns), .int k, .int most] = some (yardD n ps) := by
  have b0 := mixZ_bd (c := cellZ ns k) (p := 9973) (m := most) (by omega)
  obtain ⟨n, hn⟩ : ∃ n : Nat, 1 + mixZ (cellZ ns k) 9973 most = n := ⟨(1 + mixZ (cellZ ns k) 9973 most).toNat, by omega⟩
  have n1 : 1 ≤ n := by omega
  have n2 : n ≤ most := by omega
  obtain ⟨pl, hpl, epl⟩ := m_perm (c := cellZ ns (k + 1)) (m := n) (by omega)
  have pll : pl.length = n := by rw [hpl.length_eq, rngI_length]
  have pln : pl.Nodup := hpl.symm.nodup ((rngI_sorted 0 n).imp fun h z => by omega)
  have plr : ∀ x ∈ pl, 0 ≤ x ∧ x < (n : Int) := fun x hx => rng_P (hpl.mem_iff.mp hx)
  let sh : Int := 1 + mixZ (cellZ ns k) 9949 6
  let E : PP → Option PyData → Option PyData → Rk.Env := fun f a b => [some (.list (iD ns)), some (.int k), some (.int most), some (.int n), some (.int sh), some (.list (iD pl)), some (.list (pD f)), a, b]
  let Inv0 : PP → Prop := fun f => ∀ p ∈ f, ∃ i j : Nat, i < j ∧ pl[i]? = some p.1 ∧ pl[j]? = some p.2
  have inner : ∀ (a : Nat) (f : PP), a < n → Inv0 f → f.length ≤ a * n → ∃ f', (Inv0 f' ∧ f'.length ≤ (a + 1) * n) ∧ sFor (iR2 (c2 pAdd (cV 7) (cK (.int 1))) (cV 3)) (xName 8) L__law_yard_1 [8] (E f (some (.int a)) none) = some (.nx (E f' (some (.int a)) none)) := by
    intro a f ha hf hl
    have el := evF_any (τ := xName 8) (F := L__law_yard_1) (fg := [8]) iE (fun f => E f (some (.int a)) none) (fun i f' => Inv0 f' ∧ f'.length ≤ a * n + i) (fun _ => False) (rngI ((a : Int) + 1) ((n : Int) - ((a : Int) + 1)).toNat) (fun i b g hi hg => .inl ?_) 0 f (Nat.zero_le _) ⟨hf, by omega⟩
    · rcases el with ⟨f', ⟨q1, q2⟩, e⟩ | ⟨_, z, _⟩
      · rw [rngI_length] at q2
        refine ⟨f', ⟨q1, ?_⟩, r_for (r_rng2 (a := (a : Int) + 1) (n := n) (r_c2 rfl rfl rfl) rfl (by omega) (by omega) (by omega) (by omega)) e⟩
        have : (a + 1) * n = a * n + n := Nat.succ_mul a n
        omega
      · exact z.elim
    · obtain ⟨hb, hin⟩ := rngI_get hi
      obtain ⟨b', rfl⟩ : ∃ b' : Nat, b = b' := ⟨b.toNat, by omega⟩
      have hbn : b' < n := by omega
      have hab : a < b' := by omega
      have gt1 : gB (c2 pLt (cCall m__law_mix (cCons (c2 pAdd (c2 pAdd (cCall m__law_cell (cCons (cV 0) (cCons (c2 pAdd (cV 1) (cK (.int 2))) cNil))) (c2 pMul (cK (.int 131)) (cV 7))) (c2 pMul (cK (.int 17)) (cV 8))) (cCons (cK (.int 9941)) (cCons (cK (.int 10)) cNil)))) (cV 4)) (E g (some (.int a)) (some (.int b')))
          = some (decide (mixZ (cellZ ns (k + 2) + 131 * (a : Int) + 17 * (b' : Int)) 9941 10 < sh)) :=
        r_gB (r_c2 (r_call (r_cons (r_c2 (r_c2 (r_call (r_cons rfl (r_cons (r_c2 (x := .int k) (y := .int 2) (d := .int ((k + 2 : Nat) : Int)) rfl rfl rfl) rfl)) (m_cell (k := k + 2))) (r_c2 rfl rfl (pMul_l (by decide) (by decide))) rfl) (r_c2 rfl rfl (pMul_l (by decide) (by decide))) rfl) (r_cons rfl (r_cons rfl rfl))) (m_mix (by decide) (by decide))) rfl rfl)
      by_cases q : mixZ (cellZ ns (k + 2) + 131 * (a : Int) + 17 * (b' : Int)) 9941 10 < sh
      · rw [decide_eq_true q] at gt1
        have la : a < pl.length := by omega
        have lb : b' < pl.length := by omega
        have ga : L2.atI (iD pl) (a : Int) = some (.int pl[a]) := atI_nat (by unfold iD; rw [List.getElem?_map, List.getElem?_eq_getElem la]; rfl)
        have gb : L2.atI (iD pl) (b' : Int) = some (.int pl[b']) := atI_nat (by unfold iD; rw [List.getElem?_map, List.getElem?_eq_getElem lb]; rfl)
        have nn : n * n ≤ 900 * 900 := Nat.mul_le_mul (by omega) (by omega)
        have an : a * n ≤ n * n := Nat.mul_le_mul (by omega) (Nat.le_refl _)
        refine ⟨g ++ [(pl[a], pl[b'])], ⟨fun p hp => ?_, ?_⟩, _, _, rfl, r_ifT gt1 (r_app (ds := pD g) rfl (r_tup (r_cons (r_c2 (x := .list (iD pl)) (y := .int a) rfl rfl ga) (r_cons (r_c2 (x := .list (iD pl)) (y := .int b') rfl rfl gb) rfl)) (okS_two rfl rfl)) (small_of (by rw [pD_len]; have := hg.2; omega)) rfl), ?_⟩
        · rcases List.mem_append.mp hp with hp | hp
          · exact hg.1 p hp
          · rw [List.mem_singleton] at hp
            subst hp
            exact ⟨a, b', hab, List.getElem?_eq_getElem la, List.getElem?_eq_getElem lb⟩
        · rw [List.length_append, List.length_singleton]
          have := hg.2
          omega
        · show [some (PyData.list (iD ns)), some (.int k), some (.int most), some (.int n), some (.int sh), some (.list (iD pl)), some (.list (pD g ++ [pr (pl[a], pl[b'])])), some (.int a), none] = _
          unfold pD
          rw [show g.map pr ++ [pr (pl[a], pl[b'])] = (g ++ [(pl[a], pl[b'])]).map pr from by rw [List.map_append]; rfl]
          rfl
      · rw [decide_eq_false q] at gt1
        exact ⟨g, ⟨hg.1, by have := hg.2; omega⟩, _, _, rfl, r_ifF gt1 rfl, rfl⟩
  have outer := evF_any (τ := xName 7) (F := L__law_yard_2) (fg := [7, 8]) iE (fun f => E f none none) (fun i f => Inv0 f ∧ f.length ≤ i * n) (fun _ => False) (rngI 0 n) (fun i a g hi hg => .inl ?_) 0 [] (Nat.zero_le _) ⟨fun p hp => by simp at hp, by simp⟩
  · rcases outer with ⟨f, ⟨q1, q2⟩, e⟩ | ⟨_, z, _⟩
    · have fr : ∀ p ∈ f, InR n p := fun p hp => by
        obtain ⟨i, j, _, hi, hj⟩ := q1 p hp
        exact ⟨plr _ (List.mem_of_getElem? hi), plr _ (List.mem_of_getElem? hj)⟩
      have uq : ∀ {i j : Nat} {x : Int}, pl[i]? = some x → pl[j]? = some x → i = j := fun {i j x} hi hj => by
        have li := (List.getElem?_eq_some_iff.mp hi).1
        exact (List.getElem?_inj li pln).mp (hi.trans hj.symm)
      have ord : ∀ {a b : Int}, Tc f a b → ∃ i j : Nat, i < j ∧ pl[i]? = some a ∧ pl[j]? = some b := fun {a b} t => by
        induction t with
        | one h => exact q1 _ h
        | cons h _ ih =>
          obtain ⟨i, j, h1, h2, h3⟩ := q1 _ h
          obtain ⟨i', j', h4, h5, h6⟩ := ih
          have := uq h3 h5
          exact ⟨i, j', by omega, h2, h6⟩
      have ac : ∀ a, ¬ Tc f a a := fun a t => by
        obtain ⟨i, j, h1, h2, h3⟩ := ord t
        have := uq h2 h3
        omega
      obtain ⟨ea, _⟩ := m_all (n := n) (ps := f) (d := .list (pD f)) rfl (by omega) fr
      refine ⟨n, clo n f, n1, n2, clo_Y fr ac, ?_⟩
      have s1 : sAsg 3 (c2 pAdd (cK (.int 1)) (cCall m__law_mix (cCons (cCall m__law_cell (cCons (cV 0) (cCons (cV 1) cNil))) (cCons (cK (.int 9973)) (cCons (cV 2) cNil))))) [some (.list (iD ns)), some (.int k), some (.int most), none, none, none, none, none, none] = some (.nx [some (.list (iD ns)), some (.int k), some (.int most), some (.int n), none, none, none, none, none]) := by
        refine r_asg (r_c2 rfl (r_call (r_cons (r_call rfl (m_cell (k := k))) rfl) (m_mix (by decide) (by omega))) ?_)
        show some (PyData.int (1 + mixZ (cellZ ns k) 9973 most)) = _
        rw [hn]
      have r0 : iR1 (cV 3) (E [] none none) = some (iD (rngI 0 n)) := r_rng1 (n := n) rfl (by omega) (by omega)
      exact r_mk rfl (r_seq s1 (r_seq (r_asg (r_c2 rfl (r_call (r_cons (r_call rfl (m_cell (k := k))) rfl) (m_mix (by decide) (by decide))) rfl))
        (r_seq (r_asg (r_call (r_cons (r_call (r_cons rfl (r_cons (r_c2 (x := .int k) (y := .int 1) (d := .int ((k + 1 : Nat) : Int)) rfl rfl rfl) rfl)) (m_cell (k := k + 1))) rfl) epl)) (r_seq (r_asg (r_lst rfl rfl)) (r_seq (r_for r0 e)
        (r_ret (r_tup (r_cons rfl (r_cons (r_c1 (r_call rfl ea) rfl) rfl)) (okS_two rfl rfl))))))))
    · exact z.elim
  · obtain ⟨ha, hin⟩ := rngI_get hi
    have ha' : a = (i : Int) := by omega
    subst ha'
    obtain ⟨f', q, e⟩ := inner i g hin hg.1 hg.2
    exact ⟨f', q, _, _, rfl, e, rfl⟩
end Rk

set_option Elab.async false
set_option linter.all false
set_option maxRecDepth 100000
set_option maxHeartbeats 4000000
/-! R1: over. -/
namespace Rk
open PySem PySem.Spec L2
theorem fold_hitQ {α S : Type} {step : S → α → S} {Q : S → Prop} (mono : ∀ s x, Q s → Q (step s x)) : ∀ (xs : List α) (s : S) {x : α}, x ∈ xs → (∀ s, Q (step s x)) → Q (xs.foldl step s)
  | z :: xs, s, x, hx, hit => by
    rcases List.mem_cons.mp hx with rfl | hx
    · exact fold_inv (P := fun _ => True) (fun s x h _ => mono s x h) xs _ (fun _ _ => trivial) (hit s)
    · exact fold_hitQ mono xs (step s z) hx hit
def ostep (h : Int) (s : List Int × List Int) (p : Int × Int) : List Int × List Int := if p.1 = h ∧ p.2 ∉ s.1 then (s.1 ++ [p.2], s.2 ++ [p.2]) else s
theorem nodup_range_len {n : Nat} {xs : List Int} (h : xs.Nodup) (hr : ∀ x ∈ xs, 0 ≤ x ∧ x < n) : xs.length ≤ n := by
  have := nodup_sub h (m := rngI 0 n) fun x hx => mem_rngI.mpr (by have := hr x hx; omega)
  rwa [rngI_length] at this
structure OI (n : Nat) (ps : PP) (o : Int) (s : List Int × List Int) : Prop where
  nd : s.1.Nodup
  tc : ∀ x ∈ s.1, Tc ps o x
  lf : ∀ x ∈ s.2, x = o ∨ x ∈ s.1
  ln : s.2.length ≤ s.1.length + 1
/-- the measure -/
def omu (n : Nat) (s : List Int × List Int) : Nat := 2 * (n - s.1.length) + s.2.length
theorem OI.len {n : Nat} {ps : PP} {o : Int} {s : List Int × List Int} (hp : ∀ p ∈ ps, InR n p) (I : OI n ps o s) : s.1.length ≤ n := nodup_range_len I.nd fun x hx => (I.tc x hx |>.inR hp).2
theorem ostep_I {n : Nat} {ps : PP} {o h : Int} (hp : ∀ p ∈ ps, InR n p) (hh : h = o ∨ Tc ps o h) {s : List Int × List Int} {p : Int × Int} (I : OI n ps o s) (hps : p ∈ ps) : OI n ps o (ostep h s p) ∧ omu n (ostep h s p) ≤ omu n s := by
  unfold ostep
  split
  · rename_i q
    have I2 : OI n ps o (s.1 ++ [p.2], s.2 ++ [p.2]) := by
      refine ⟨?_, fun x hx => ?_, fun x hx => ?_, ?_⟩
      · show (s.1 ++ [p.2]).Nodup
        rw [List.nodup_append]
        refine ⟨I.nd, List.pairwise_singleton _ _, fun a ha b hb => ?_⟩
        rw [List.mem_singleton] at hb
        subst hb
        exact fun z => q.2 (z ▸ ha)
      · rcases List.mem_append.mp hx with hx | hx
        · exact I.tc x hx
        · rw [List.mem_singleton] at hx
          subst hx
          have hpe : (h, p.2) ∈ ps := by
            have e : p = (h, p.2) := by rw [← q.1]
            rwa [e] at hps
          rcases hh with rfl | hh
          · exact .one hpe
          · exact hh.snoc hpe
      · rcases List.mem_append.mp hx with hx | hx
        · rcases I.lf x hx with e | e
          · exact .inl e
          · exact .inr (List.mem_append.mpr (.inl e))
        · exact .inr (List.mem_append.mpr (.inr hx))
      · have := I.ln
        simp only [List.length_append, List.length_singleton]
        omega
    have l1 := I2.len hp
    refine ⟨I2, ?_⟩
    unfold omu
    simp only [List.length_append, List.length_singleton] at l1 ⊢
    omega
  · exact ⟨I, Nat.le_refl _⟩
theorem ostep_sub {h : Int} {s : List Int × List Int} {p : Int × Int} : (∀ x ∈ s.1, x ∈ (ostep h s p).1) ∧ (∀ x ∈ s.2, x ∈ (ostep h s p).2) ∧ (∀ x ∈ (ostep h s p).1, x ∈ s.1 ∨ x ∈ (ostep h s p).2) := by
  unfold ostep
  split
  · refine ⟨fun x hx => List.mem_append.mpr (.inl hx), fun x hx => List.mem_append.mpr (.inl hx), fun x hx => ?_⟩
    rcases List.mem_append.mp hx with hx | hx
    · exact .inl hx
    · exact .inr (List.mem_append.mpr (.inr hx))
  · exact ⟨fun x hx => hx, fun x hx => hx, fun x hx => .inl hx⟩
theorem ostep_hit {h b : Int} (s : List Int × List Int) : b ∈ (ostep h s (h, b)).1 := by
  unfold ostep
  split
  · exact List.mem_append.mpr (.inr (List.mem_singleton.mpr rfl))
  · rename_i q
    by_cases z : b ∈ s.1
    · exact z
    · exact absurd ⟨rfl, z⟩ q
/-- all that stands over o, or waits -/
def Wait (ps : PP) (o : Int) (s : List Int × List Int) : Prop := ∀ x, x = o ∨ x ∈ s.1 → x ∈ s.2 ∨ ∀ b, (x, b) ∈ ps → b ∈ s.1
theorem m_over_ok {n : Nat} {ps : PP} {o : Int} (hn : n ≤ 1000) (hp : ∀ p ∈ ps, InR n p) (ho : 0 ≤ o ∧ o < n) :
    ∃ f : List Int, f.Pairwise (· < ·) ∧ (∀ x, x ∈ f ↔ Tc ps o x) ∧ m_over [.tuple (pD ps), .int o] = some (.list (iD f)) := by
  let emb : List Int × List Int → Rk.Env := fun s => [some (.tuple (pD ps)), some (.int o), some (dS iE s.1), some (.list (iD s.2)), none, none, none]
  have body : ∀ s : List Int × List Int, OI n ps o s ∧ Wait ps o s → gTr (cV 3) (emb s) = some (!s.2.isEmpty) ∧ ((!s.2.isEmpty) = true → (∃ s', (OI n ps o s' ∧ Wait ps o s') ∧ omu n s' < omu n s ∧ ∃ G2, (sSeq (sPop 4 3)
  (sFor (iSeq (cV 0)) (xPair 5 6) (sIf (gAnd (gB (c2 pEq (cV 5) (cV 4))) (gB (c2 pNin (cV 6) (cV 2)))) (sSeq (sPut 2 (cV 6) (cK (.bool true)))
  (sApp 3 (cV 6))) sSkip) [5, 6])) (emb s) = some (.nx G2) ∧ wp G2 [4, 5, 6] = emb s') ∨ ∃ d, False ∧ (sSeq (sPop 4 3)
  (sFor (iSeq (cV 0)) (xPair 5 6) (sIf (gAnd (gB (c2 pEq (cV 5) (cV 4))) (gB (c2 pNin (cV 6) (cV 2)))) (sSeq (sPut 2 (cV 6) (cK (.bool true)))
  (sApp 3 (cV 6))) sSkip) [5, 6])) (emb s) = some (.rt d)) := by
    rintro ⟨f, l⟩ ⟨I, W⟩
    refine ⟨?_, fun hc => .inl ?_⟩
    · show some (!(iD l).isEmpty) = some (!l.isEmpty)
      unfold iD
      cases l <;> rfl
    · have hl : l ≠ [] := fun z => by subst z; cases hc
      obtain ⟨l0, h, rfl⟩ : ∃ l0 h, l = l0 ++ [h] := ⟨l.dropLast, l.getLast hl, (List.dropLast_concat_getLast hl).symm⟩
      have hh : h = o ∨ Tc ps o h := (I.lf h (by simp)).imp id fun z => I.tc h z
      have I0 : OI n ps o (f, l0) := ⟨I.nd, I.tc, fun x hx => I.lf x (List.mem_append.mpr (.inl hx)), by have := I.ln; simp only [List.length_append, List.length_singleton] at this ⊢; omega⟩
      have lb := I.len hp
      -- the inner loop
      have lw := evF_go (τ := xPair 5 6) (F := sIf (gAnd (gB (c2 pEq (cV 5) (cV 4))) (gB (c2 pNin (cV 6) (cV 2)))) (sSeq (sPut 2 (cV 6) (cK (.bool true))) (sApp 3 (cV 6))) sSkip) (fg := [5, 6]) pr
        (fun s : List Int × List Int => [some (.tuple (pD ps)), some (.int o), some (dS iE s.1), some (.list (iD s.2)), some (.int h), none, none]) (ostep h)
        (fun s => (OI n ps o s ∧ omu n s ≤ omu n (f, l0)) ∧ (∀ x ∈ f, x ∈ s.1) ∧ (∀ x ∈ l0, x ∈ s.2) ∧ ∀ x ∈ s.1, x ∈ f ∨ x ∈ s.2) (fun p => p ∈ ps) (fun s p hs hpp => ?_) ps (f, l0) (fun p hp => hp)
        ⟨⟨I0, Nat.le_refl _⟩, fun x hx => hx, fun x hx => hx, fun x hx => .inl hx⟩
      · obtain ⟨⟨⟨I1, m1⟩, s1, s2, s3⟩, ew⟩ := lw
        refine ⟨_, ⟨I1, ?_⟩, ?_, _, r_seq (r_pop (d := .int h) (ds := iD l0) (by show some (PyData.list (iD (l0 ++ [h]))) = _; unfold iD; rw [List.map_append]; rfl)) (r_for (ds := pD ps) rfl ew), rfl⟩
        · intro x hx
          by_cases hxh : x = h
          · subst hxh
            exact .inr fun b hb => fold_hitQ (step := ostep x) (Q := fun s => b ∈ s.1) (fun s p q => ostep_sub.1 b q) ps (f, l0) hb fun s => ostep_hit s
          · have key : x = o ∨ x ∈ f → x ∈ (ps.foldl (ostep h) (f, l0)).2 ∨ ∀ b, (x, b) ∈ ps → b ∈ (ps.foldl (ostep h) (f, l0)).1 := fun hx' => by
              rcases W x hx' with q | q
              · rcases List.mem_append.mp q with q | q
                · exact .inl (s2 x q)
                · exact absurd (List.mem_singleton.mp q) hxh
              · exact .inr fun b hb => s1 b (q b hb)
            rcases hx with hx | hx
            · exact key (.inl hx)
            · rcases s3 x hx with q | q
              · exact key (.inr q)
              · exact .inl q
        · refine Nat.lt_of_le_of_lt m1 ?_
          unfold omu
          simp only [List.length_append, List.length_singleton]
          omega
      · obtain ⟨⟨I1, m1⟩, s1, s2, s3⟩ := hs
        obtain ⟨I2, m2⟩ := ostep_I hp hh I1 hpp
        obtain ⟨t1, t2, t3⟩ := ostep_sub (h := h) (s := s) (p := p)
        refine ⟨⟨⟨I2, Nat.le_trans m2 m1⟩, fun x hx => t1 x (s1 x hx), fun x hx => t2 x (s2 x hx), fun x hx => ?_⟩, ?_⟩
        · rcases t3 x hx with q | q
          · rcases s3 x q with r | r
            · exact .inl r
            · exact .inr (t2 x r)
          · exact .inr q
        · have g1 : gAnd (gB (c2 pEq (cV 5) (cV 4))) (gB (c2 pNin (cV 6) (cV 2))) [some (.tuple (pD ps)), some (.int o), some (dS iE s.1), some (.list (iD s.2)), some (.int h), some (.int p.1), some (.int p.2)] = some (decide (p.1 = h) && decide (p.2 ∉ s.1)) :=
            r_and (r_gB (r_c2 rfl rfl (pEq_int _ _))) fun _ => r_gB (r_c2 rfl rfl (key_int.ninS p.2 s.1))
          have b1 := I1.len hp
          unfold ostep
          by_cases q : p.1 = h ∧ p.2 ∉ s.1
          · rw [if_pos q]
            rw [decide_eq_true q.1, decide_eq_true q.2] at g1
            refine ⟨_, _, rfl, r_ifT g1 (r_seq (r_putS key_int (k := p.2) (ks := s.1) rfl rfl rfl (Nat.lt_of_le_of_lt b1 (Nat.lt_of_le_of_lt hn (by decide)))) (r_app (ds := iD s.2) rfl rfl ?_ rfl)), ?_⟩
            · have := I1.ln
              unfold iD
              rw [List.length_map]
              exact Nat.lt_of_le_of_lt (by omega : s.2.length ≤ 1001) (by decide)
            · show [some (PyData.tuple (pD ps)), some (.int o), some (dS iE (ins s.1 p.2)), some (.list (iD s.2 ++ [.int p.2])), some (.int h), none, none] = _
              unfold ins iD
              rw [if_neg q.2, List.map_append]
              rfl
          · rw [if_neg q]
            have e2 : (decide (p.1 = h) && decide (p.2 ∉ s.1)) = false := by
              rw [Bool.and_eq_false_iff, decide_eq_false_iff_not, decide_eq_false_iff_not]
              by_cases h1 : p.1 = h
              · exact .inr fun z => q ⟨h1, z⟩
              · exact .inl h1
            rw [e2] at g1
            exact ⟨_, _, rfl, r_ifF g1 rfl, rfl⟩
  have st0 : OI n ps o ([], [o]) ∧ Wait ps o ([], [o]) := ⟨⟨List.nodup_nil, fun x hx => by simp at hx, fun x hx => .inl (by simpa using hx), by simp⟩, fun x hx => .inl (by
    rcases hx with rfl | hx
    · simp
    · simp at hx)⟩
  have hmu : omu n ([], [o]) < 100000 := by
    unfold omu
    simp
    omega
  rcases evW_try emb (fun s => !s.2.isEmpty) (fun s => OI n ps o s ∧ Wait ps o s) (fun _ => False) (omu n) body 100000 ([], [o]) st0 hmu with ⟨⟨f, l⟩, ⟨I, W⟩, hc, ew⟩ | ⟨d, hd, _⟩
  · have hl : l = [] := by
      cases l with
      | nil => rfl
      | cons a l => cases hc
    subst hl
    have hm : ∀ x, x ∈ f ↔ Tc ps o x := fun x => ⟨I.tc x, fun h => by
      have cl : ∀ y, y = o ∨ y ∈ f → ∀ b, (y, b) ∈ ps → b ∈ f := fun y hy => (W y hy).resolve_left fun z => by simp at z
      have go : ∀ {a b : Int}, Tc ps a b → a = o ∨ a ∈ f → b ∈ f := fun {a b} t => by
        induction t with
        | one q => exact fun ha => cl _ ha _ q
        | cons q _ ih => exact fun ha => ih (.inr (cl _ ha _ q))
      exact go h (.inl rfl)⟩
    refine ⟨f.mergeSort leI, sortI_strict I.nd, fun x => by rw [mem_sort, hm], r_mk rfl (r_seq rfl (r_seq (r_asg (r_lst rfl (okS_one rfl))) (r_seq (G' := emb (f, [])) ew (r_ret (r_c1 rfl (pSorted_dI ?_))))))⟩
    exact Nat.le_of_lt (Nat.lt_of_le_of_lt (I.len hp) (Nat.lt_of_le_of_lt hn (by decide)))
  · exact hd.elim
end Rk

set_option Elab.async false
set_option linter.all false
set_option maxRecDepth 100000
set_option maxHeartbeats 4000000
/-! R2: trail, way_back. -/
namespace Rk
open PySem PySem.Spec L2
abbrev AL := List (Int × Option Int)
def oD : Option Int → PyData
  | none => .none
  | some i => .int i
theorem oD_nd (o : Option Int) : isDict (oD o) = false := by cases o <;> rfl
/-- the chain from x back to st -/
inductive Ch (al : AL) (ps : PP) (st : Int) : Int → List Int → Prop
  | base : aFind al st = some none → Ch al ps st st [st]
  | step {x y : Int} {ys : List Int} : aFind al x = some (some y) → (y, x) ∈ ps → Ch al ps st y ys → x ∉ ys → Ch al ps st x (x :: ys)
section
variable {al : AL} {ps : PP} {st x y : Int} {xs : List Int}
theorem aFind_key {α β : Type} [DecidableEq α] {al : List (α × β)} {k : α} {v : β} (h : aFind al k = some v) : k ∈ al.map (·.1) := List.mem_map.mpr ⟨_, aFind_mem h, rfl⟩
theorem Ch.keys (h : Ch al ps st x xs) : ∀ z ∈ xs, z ∈ al.map (·.1) := by
  induction h with
  | base h =>
    intro z hz
    rw [List.mem_singleton] at hz
    subst hz
    exact aFind_key h
  | step h _ _ _ ih =>
    intro z hz
    rcases List.mem_cons.mp hz with rfl | hz
    · exact aFind_key h
    · exact ih z hz
theorem Ch.mono {b : Int} {v : Option Int} (hb : b ∉ al.map (·.1)) (h : Ch al ps st x xs) : Ch (aPut al b v) ps st x xs := by
  have k : ∀ {z : Int} {w : Option Int}, aFind al z = some w → aFind (aPut al b v) z = some w := fun {z w} e => by
    rw [aFind_put, if_neg]
    · exact e
    · exact fun q => hb (q ▸ aFind_key e)
  induction h with
  | base h => exact .base (k h)
  | step h e _ n ih => exact .step (k h) e ih n
theorem Ch.nodup (h : Ch al ps st x xs) : xs.Nodup := by
  induction h with
  | base _ => exact List.pairwise_singleton _ _
  | step _ _ _ n ih => exact List.nodup_cons.mpr ⟨n, ih⟩
theorem Ch.head (h : Ch al ps st x xs) : ∃ ys, xs = x :: ys := by cases h <;> exact ⟨_, rfl⟩
theorem Ch.last (h : Ch al ps st x xs) : ∃ ys, xs = ys ++ [st] := by
  induction h with
  | base _ => exact ⟨[], rfl⟩
  | step _ _ _ _ ih =>
    obtain ⟨ys, rfl⟩ := ih
    exact ⟨_ :: ys, rfl⟩
theorem Ch.tc (h : Ch al ps st x xs) : x = st ∨ Tc ps st x := by
  induction h with
  | base _ => exact .inl rfl
  | step _ e _ _ ih => exact .inr (ih.elim (fun z => z ▸ .one e) fun t => t.snoc e)
/-- neighbours are pairs -/
theorem Ch.pair (h : Ch al ps st x xs) : ∀ k u v, xs[k]? = some u → xs[k + 1]? = some v → (v, u) ∈ ps := by
  induction h with
  | base _ => intro k u v h1 h2; simp at h2
  | step _ e c _ ih =>
    intro k u v h1 h2
    cases k with
    | zero =>
      obtain ⟨zs, rfl⟩ := c.head
      simp at h1 h2
      subst h1 h2
      exact e
    | succ k => exact ih k u v (by simpa using h1) (by simpa using h2)
theorem m_trail_ok (h : Ch al ps st x xs) (hl : xs.length ≤ 1000) : m_trail [dA iE oD al, .int x] = some (.tuple (iD xs.reverse)) := by
  have go : ∀ {x : Int} {xs : List Int}, Ch al ps st x xs → ∀ (acc : List Int) (n : Nat), xs.length < n → acc.length + xs.length ≤ 1000 → evW (gB (c2 pIsNot (cV 1) (cK .none))) (sSeq (sApp 2 (cV 1)) (sAsg 1 (c2 pIx (cV 0) (cV 1)))) [] n [some (dA iE oD al), some (.int x), some (.list (iD acc))] = some (.nx [some (dA iE oD al), some .none, some (.list (iD (acc ++ xs)))]) := by
    intro x xs h
    have small : ∀ {k : Nat}, k ≤ 1000 → k < sizeLine := fun hk => Nat.lt_of_le_of_lt hk (by decide)
    induction h with
    | base h =>
      intro acc n hn hs
      cases n with
      | zero => omega
      | succ n =>
        cases n with
        | zero => simp at hn
        | succ n =>
        unfold evW
        rw [r_gB (b := true) rfl, Option.bind_some, if_pos rfl]
        rw [r_seq (G' := [some (dA iE oD al), some (.int st), some (.list (iD acc ++ [.int st]))]) (r_app (ds := iD acc) rfl rfl (small (by unfold iD; rw [List.length_map]; omega)) rfl) (r_asg (r_c2 rfl rfl (key_int.ixA h))), Option.bind_some]
        dsimp only
        unfold evW
        rw [show gB (c2 pIsNot (cV 1) (cK .none)) (wp (Rk.st [some (dA iE oD al), some (.int st), some (.list (iD acc ++ [.int st]))] 1 (oD none)) []) = some false from rfl, Option.bind_some, if_neg (by decide)]
        unfold iD
        rw [List.map_append]
        rfl
    | @step x y ys h e c n0 ih =>
      intro acc n hn hs
      cases n with
      | zero => omega
      | succ n =>
        simp only [List.length_cons] at hn hs
        unfold evW
        rw [r_gB (b := true) rfl, Option.bind_some, if_pos rfl]
        rw [r_seq (G' := [some (dA iE oD al), some (.int x), some (.list (iD acc ++ [.int x]))]) (r_app (ds := iD acc) rfl rfl (small (by unfold iD; rw [List.length_map]; omega)) rfl) (r_asg (r_c2 rfl rfl (key_int.ixA h))), Option.bind_some]
        dsimp only
        have := ih (acc ++ [x]) n (by omega) (by rw [List.length_append, List.length_singleton]; omega)
        have e2 : iD (acc ++ [x]) = iD acc ++ [.int x] := by
          unfold iD
          rw [List.map_append]
          rfl
        rw [e2] at this
        rw [List.append_assoc] at this
        exact this
  refine r_mk rfl (r_seq rfl (r_seq (G' := [some (dA iE oD al), some .none, some (.list (iD xs))]) (go h [] 100000 (by omega) (by simpa using hl)) (r_ret (r_c1 rfl ?_))))
  show some (PyData.tuple (iD xs).reverse) = _
  unfold iD
  rw [List.map_reverse]
end
end Rk

set_option Elab.async false
set_option linter.all false
set_option maxRecDepth 100000
set_option maxHeartbeats 4000000
/-! R3: way_back, closed. -/
namespace Rk
open PySem PySem.Spec L2
theorem atI_map {α β : Type} (f : α → β) (xs : List α) (i : Int) : atI (xs.map f) i = (atI xs i).map f := by
  unfold atI
  rw [List.length_map]
  cases ixN xs.length i with
  | none => rfl
  | some j => simp
structure Ring (ps : PP) (r : List Int) : Prop where
  ne : r ≠ []
  nd : r.Nodup
  ed : ∀ k : Nat, k < r.length → ∃ x y, L2.atI r ((k : Int) - 1) = some x ∧ L2.atI r (k : Int) = some y ∧ (x, y) ∈ ps
theorem Ch.ring {al : AL} {ps : PP} {st x : Int} {xs : List Int} (h : Ch al ps st x xs) (e : (x, st) ∈ ps) : Ring ps xs.reverse := by
  obtain ⟨ys, hys⟩ := h.head
  obtain ⟨zs, hzs⟩ := h.last
  refine ⟨fun z => (by rw [List.reverse_eq_nil_iff] at z; rw [hys] at z; cases z), (List.reverse_perm xs).symm.nodup h.nodup, fun k hk => ?_⟩
  rw [List.length_reverse] at hk
  cases k with
  | zero =>
    refine ⟨x, st, ?_, ?_, e⟩
    · rw [hys, List.reverse_cons]
      exact atI_last _ x
    · rw [hzs, List.reverse_append]
      exact atI_nat (j := 0) rfl
  | succ k =>
    have h1 : xs.reverse[k]? = some xs[xs.length - 1 - k] := by
      rw [List.getElem?_reverse (by omega), List.getElem?_eq_getElem]
    have h2 : xs.reverse[k + 1]? = some xs[xs.length - 1 - (k + 1)] := by
      rw [List.getElem?_reverse (by omega), List.getElem?_eq_getElem]
    refine ⟨xs[xs.length - 1 - k], xs[xs.length - 1 - (k + 1)], ?_, atI_nat h2, h.pair (xs.length - 1 - (k + 1)) _ _ (List.getElem?_eq_getElem _) ?_⟩
    · have : ((k + 1 : Nat) : Int) - 1 = (k : Int) := by omega
      rw [this]
      exact atI_nat h1
    · have : xs.length - 1 - (k + 1) + 1 = xs.length - 1 - k := by omega
      rw [this, List.getElem?_eq_getElem]
/-- the search's state -/
structure BI (n : Nat) (ps : PP) (st : Int) (al : AL) : Prop where
  nd : (al.map (·.1)).Nodup
  ch : ∀ x ∈ al.map (·.1), ∃ xs, Ch al ps st x xs
  st : st ∈ al.map (·.1)
theorem BI.range {n : Nat} {ps : PP} {st : Int} {al : AL} (hp : ∀ p ∈ ps, InR n p) (hst : 0 ≤ st ∧ st < n) (I : BI n ps st al) : ∀ x ∈ al.map (·.1), 0 ≤ x ∧ x < (n : Int) := fun x hx => by
  obtain ⟨xs, h⟩ := I.ch x hx
  rcases h.tc with rfl | t
  · exact hst
  · exact (t.inR hp).2
theorem BI.len {n : Nat} {ps : PP} {st : Int} {al : AL} (hp : ∀ p ∈ ps, InR n p) (hst : 0 ≤ st ∧ st < n) (I : BI n ps st al) : al.length ≤ n := by
  have := nodup_range_len I.nd (I.range hp hst)
  rwa [List.length_map] at this
theorem BI.chlen {n : Nat} {ps : PP} {st x : Int} {al : AL} {xs : List Int} (hp : ∀ p ∈ ps, InR n p) (hst : 0 ≤ st ∧ st < n) (I : BI n ps st al) (h : Ch al ps st x xs) : xs.length ≤ n :=
  nodup_range_len h.nodup fun z hz => I.range hp hst z (h.keys z hz)
theorem BI.put {n : Nat} {ps : PP} {st o b : Int} {al : AL} (I : BI n ps st al) (ho : o ∈ al.map (·.1)) (hb : b ∉ al.map (·.1)) (e : (o, b) ∈ ps) : BI n ps st (aPut al b (some o)) := by
  have hk : (aPut al b (some o)).map (·.1) = al.map (·.1) ++ [b] := by rw [aPut_keys, if_neg hb]
  refine ⟨?_, fun x hx => ?_, ?_⟩
  · rw [hk, List.nodup_append]
    refine ⟨I.nd, List.pairwise_singleton _ _, fun a ha c hc => ?_⟩
    rw [List.mem_singleton] at hc
    subst hc
    exact fun z => hb (z ▸ ha)
  · rw [hk] at hx
    rcases List.mem_append.mp hx with hx | hx
    · obtain ⟨xs, h⟩ := I.ch x hx
      exact ⟨xs, h.mono hb⟩
    · rw [List.mem_singleton] at hx
      subst hx
      obtain ⟨ys, h⟩ := I.ch o ho
      exact ⟨x :: ys, .step (by rw [aFind_put, if_pos rfl]) e (h.mono hb) fun z => hb (h.keys x z)⟩
  · rw [hk]
    exact List.mem_append.mpr (.inl I.st)
def RingOut (ps : PP) (st : Int) (d : PyData) : Prop := ∃ r, d = .tuple (iD r) ∧ Ring ps r ∧ Tc ps st st
/-- what stands at place i is done -/
def Done (ps : PP) (st o : Int) (al : AL) : Prop := ∀ b, (o, b) ∈ ps → b ∈ al.map (·.1) ∧ b ≠ st
theorem aPut_sub {al : AL} {b : Int} {v : Option Int} : ∀ x ∈ al.map (·.1), x ∈ (aPut al b v).map (·.1) := fun x hx => by
  rw [aPut_keys]
  split
  · exact hx
  · exact List.mem_append.mpr (.inl hx)
theorem m_way_back_ok {n : Nat} {ps : PP} {st : Int} (hn : n ≤ 900) (hp : ∀ p ∈ ps, InR n p) (hst : 0 ≤ st ∧ st < n) :
    (m_way_back [.tuple (pD ps), .int st] = some (.tuple []) ∧ ¬ Tc ps st st) ∨ ∃ d, RingOut ps st d ∧ m_way_back [.tuple (pD ps), .int st] = some d := by
  have small : ∀ {k : Nat}, k ≤ 1000 → k < sizeLine := fun hk => Nat.lt_of_le_of_lt hk (by decide)
  let keys : AL → List Int := fun al => al.map (·.1)
  let FB : Sx := sSeq (sIf (gAnd (gB (c2 pEq (cV 6) (cV 5))) (gB (c2 pEq (cV 7) (cV 1)))) (sRet (cCall m_trail (cCons (cV 2) (cCons (cV 5) cNil)))) sSkip)
    (sIf (gAnd (gB (c2 pEq (cV 6) (cV 5))) (gB (c2 pNin (cV 7) (cV 2)))) (sSeq (sPut 2 (cV 7) (cV 5)) (sApp 3 (cV 7))) sSkip)
  have inner : ∀ (at_ : Nat) (o : Int) (al : AL), BI n ps st al → o ∈ al.map (·.1) →
      (∃ al', (BI n ps st al' ∧ (∃ ext, keys al' = keys al ++ ext) ∧ Done ps st o al') ∧ evF (xPair 6 7) FB [6, 7] (pD ps) [some (.tuple (pD ps)), some (.int st), some (dA iE oD al), some (.list (iD (keys al))), some (.int at_), some (.int o), none, none]
        = some (.nx [some (.tuple (pD ps)), some (.int st), some (dA iE oD al'), some (.list (iD (keys al'))), some (.int at_), some (.int o), none, none])) ∨
      ∃ d, RingOut ps st d ∧ evF (xPair 6 7) FB [6, 7] (pD ps) [some (.tuple (pD ps)), some (.int st), some (dA iE oD al), some (.list (iD (keys al))), some (.int at_), some (.int o), none, none] = some (.rt d) := by
    intro at_ o al I ho
    have e := evF_any (τ := xPair 6 7) (F := FB) (fg := [6, 7]) pr (fun al : AL => [some (.tuple (pD ps)), some (.int st), some (dA iE oD al), some (.list (iD (keys al))), some (.int at_), some (.int o), none, none])
      (fun i al' => BI n ps st al' ∧ (∃ ext, keys al' = keys al ++ ext) ∧ ∀ j b, j < i → ps[j]? = some (o, b) → b ∈ keys al' ∧ b ≠ st) (RingOut ps st) ps (fun i p s hip hs => ?_) 0 al (Nat.zero_le _) ⟨I, ⟨[], (List.append_nil _).symm⟩, fun j b hj => absurd hj (Nat.not_lt_zero _)⟩
    · rcases e with ⟨al', ⟨h1, h2, h3⟩, e1⟩ | e
      · refine .inl ⟨al', ⟨h1, h2, fun b hb => ?_⟩, e1⟩
        obtain ⟨j, hj⟩ := List.getElem?_of_mem hb
        exact h3 j b (List.getElem?_eq_some_iff.mp hj).1 hj
      · exact .inr e
    · obtain ⟨I1, ⟨ext, hx⟩, hd⟩ := hs
      obtain ⟨a, b⟩ := p
      have hmem : (a, b) ∈ ps := List.mem_of_getElem? hip
      have g1 : gAnd (gB (c2 pEq (cV 6) (cV 5))) (gB (c2 pEq (cV 7) (cV 1))) [some (.tuple (pD ps)), some (.int st), some (dA iE oD s), some (.list (iD (keys s))), some (.int at_), some (.int o), some (.int a), some (.int b)] = some (decide (a = o) && decide (b = st)) :=
        r_and (r_gB (r_c2 rfl rfl (pEq_int _ _))) fun _ => r_gB (r_c2 rfl rfl (pEq_int _ _))
      have g2 : gAnd (gB (c2 pEq (cV 6) (cV 5))) (gB (c2 pNin (cV 7) (cV 2))) [some (.tuple (pD ps)), some (.int st), some (dA iE oD s), some (.list (iD (keys s))), some (.int at_), some (.int o), some (.int a), some (.int b)] = some (decide (a = o) && decide (b ∉ s.map (·.1))) :=
        r_and (r_gB (r_c2 rfl rfl (pEq_int _ _))) fun _ => r_gB (r_c2 rfl rfl (key_int.ninA b s))
      have ho' : o ∈ keys s := by
        rw [hx]
        exact List.mem_append.mpr (.inl ho)
      by_cases ha : a = o
      · subst ha
        rw [decide_eq_true rfl, Bool.true_and] at g1 g2
        by_cases hb : b = st
        · subst hb
          rw [decide_eq_true rfl] at g1
          obtain ⟨xs, hc⟩ := I1.ch a ho'
          refine .inr ⟨_, _, ⟨xs.reverse, rfl, hc.ring hmem, ?_⟩, rfl, r_seqR (r_ifT g1 (r_ret (r_call rfl (m_trail_ok hc (by have := I1.chlen hp hst hc; omega)))))⟩
          rcases hc.tc with e | t
          · rw [e] at hmem
            exact .one hmem
          · exact t.snoc hmem
        · rw [decide_eq_false hb] at g1
          by_cases hk : b ∈ s.map (·.1)
          · rw [decide_eq_false (fun z => z hk)] at g2
            refine .inl ⟨s, ⟨I1, ⟨ext, hx⟩, fun j c hj hjc => ?_⟩, _, _, rfl, r_seq (r_ifF g1 rfl) (r_ifF g2 rfl), rfl⟩
            by_cases hji : j = i
            · subst hji
              rw [hip] at hjc
              cases hjc
              exact ⟨hk, hb⟩
            · exact hd j c (by omega) hjc
          · rw [decide_eq_true hk] at g2
            have I2 := I1.put ho' hk hmem
            have hk2 : keys (aPut s b (some a)) = keys s ++ [b] := by
              show (aPut s b (some a)).map (·.1) = s.map (·.1) ++ [b]
              rw [aPut_keys, if_neg hk]
            have hl := I1.len hp hst
            refine .inl ⟨aPut s b (some a), ⟨I2, ⟨ext ++ [b], by rw [hk2, hx, List.append_assoc]⟩, fun j c hj hjc => ?_⟩, _, _, rfl, r_seq (r_ifF g1 rfl) (r_ifT g2 (r_seq (r_putA key_int (ev := oD) (k := b) (v := some a) (al := s) rfl rfl rfl (small (by omega)) rfl) (r_app (ds := iD (keys s)) rfl rfl (small (by show (iD (s.map (·.1))).length ≤ 1000; unfold iD; rw [List.length_map, List.length_map]; omega)) rfl))), ?_⟩
            · by_cases hji : j = i
              · subst hji
                rw [hip] at hjc
                cases hjc
                exact ⟨by rw [hk2]; simp, hb⟩
              · have := hd j c (by omega) hjc
                exact ⟨by rw [hk2]; exact List.mem_append.mpr (.inl this.1), this.2⟩
            · rw [hk2]
              unfold iD
              rw [List.map_append]
              rfl
      · rw [decide_eq_false ha, Bool.false_and] at g1 g2
        refine .inl ⟨s, ⟨I1, ⟨ext, hx⟩, fun j c hj hjc => ?_⟩, _, _, rfl, r_seq (r_ifF g1 rfl) (r_ifF g2 rfl), rfl⟩
        by_cases hji : j = i
        · subst hji
          rw [hip] at hjc
          cases hjc
          exact absurd rfl ha
        · exact hd j c (by omega) hjc
  let emb : AL × Nat → Rk.Env := fun s => [some (.tuple (pD ps)), some (.int st), some (dA iE oD s.1), some (.list (iD (keys s.1))), some (.int s.2), none, none, none]
  let WI2 : AL × Nat → Prop := fun s => BI n ps st s.1 ∧ s.2 ≤ s.1.length ∧ ∀ i o, i < s.2 → (keys s.1)[i]? = some o → Done ps st o s.1
  have hw := evW_try (g := gB (c2 pLt (cV 4) (c1 pLen (cV 3)))) (F := sSeq (sAsg 5 (c2 pIx (cV 3) (cV 4))) (sSeq (sFor (iSeq (cV 0)) (xPair 6 7) FB [6, 7]) (sAsg 4 (c2 pAdd (cV 4) (cK (.int 1)))))) (fg := [5, 6, 7]) emb (fun s => decide (s.2 < s.1.length)) WI2 (RingOut ps st) (fun s => n - s.2) (fun s hs => ?_) 100000 ([(st, none)], 0)
    ⟨⟨List.pairwise_singleton _ _, fun x hx => ⟨[st], by
      have : x = st := by simpa using hx
      subst this
      exact .base (by simp [aFind])⟩, by simp⟩, Nat.zero_le _, fun i o hi => absurd hi (Nat.not_lt_zero _)⟩ (by show n - 0 < 100000; omega)
  · have start : m_way_back [.tuple (pD ps), .int st] = ((evW (gB (c2 pLt (cV 4) (c1 pLen (cV 3)))) (sSeq (sAsg 5 (c2 pIx (cV 3) (cV 4))) (sSeq (sFor (iSeq (cV 0)) (xPair 6 7) FB [6, 7]) (sAsg 4 (c2 pAdd (cV 4) (cK (.int 1)))))) [5, 6, 7] 100000 (emb ([(st, none)], 0))).bind fun o => match o with
        | .nx G => sRet (cTup cNil) G
        | .rt d => some (.rt d)).bind fun o => match o with
        | .rt d => some d
        | .nx _ => some .none := by
      unfold m_way_back mkM
      refine (if_pos rfl).trans ?_
      congr 1
    rcases hw with ⟨⟨al, k⟩, ⟨I, hk, hd⟩, hc, ew⟩ | ⟨d, hd, ew⟩
    · refine .inl ⟨?_, fun t => ?_⟩
      · rw [start, ew]
        rfl
      · have hke : k = al.length := by
          have := of_decide_eq_false hc
          simp only at this hk
          omega
        subst hke
        have cl : ∀ o ∈ al.map (·.1), Done ps st o al := fun o ho => by
          obtain ⟨i, hi⟩ := List.getElem?_of_mem ho
          have hlt := (List.getElem?_eq_some_iff.mp hi).1
          rw [List.length_map] at hlt
          exact hd i o hlt hi
        have go : ∀ {a b : Int}, Tc ps a b → a ∈ al.map (·.1) → b ≠ st := fun {a b} t => by
          induction t with
          | one q => exact fun ha => (cl _ ha _ q).2
          | cons q _ ih => exact fun ha => ih (cl _ ha _ q).1
        exact go t I.st rfl
    · refine .inr ⟨d, hd, ?_⟩
      rw [start, ew]
      rfl
  · obtain ⟨al, k⟩ := s
    obtain ⟨I, hk, hd⟩ := hs
    simp only at I hk hd
    have hlen : (iD (keys al)).length = al.length := by
      unfold iD
      rw [List.length_map, List.length_map]
    refine ⟨?_, fun hc => ?_⟩
    · show gB _ (emb (al, k)) = some (decide (k < al.length))
      have e0 : gB (c2 pLt (cV 4) (c1 pLen (cV 3))) (emb (al, k)) = some (decide ((k : Int) < ((iD (keys al)).length : Int))) := r_gB (r_c2 (x := .int k) (y := .int (iD (keys al)).length) rfl (r_c1 (x := .list (iD (keys al))) rfl rfl) rfl)
      rw [e0, hlen]
      congr 1
      rw [Bool.eq_iff_iff, decide_eq_true_iff, decide_eq_true_iff]
      omega
    · have hkl : k < al.length := of_decide_eq_true hc
      have hlt : k < (al.map (·.1)).length := by rw [List.length_map]; exact hkl
      have hg : (al.map (·.1))[k]? = some (al.map (·.1))[k] := List.getElem?_eq_getElem hlt
      have ix : c2 pIx (cV 3) (cV 4) (emb (al, k)) = some (.int (al.map (·.1))[k]) := by
        refine r_c2 (x := .list (iD (keys al))) (y := .int k) rfl rfl ?_
        show L2.atI (iD (keys al)) k = _
        exact atI_nat (by unfold iD; rw [List.getElem?_map]; show Option.map _ ((al.map (·.1))[k]?) = _; rw [hg]; rfl)
      have ln := I.len hp hst
      rcases inner k (al.map (·.1))[k] al I (List.getElem_mem hlt) with ⟨al', ⟨I', ⟨ext, hx⟩, dn⟩, ei⟩ | ⟨d, hd', ei⟩
      · have hll : al'.length = al.length + ext.length := by
          have := congrArg List.length hx
          simp only [keys, List.length_append, List.length_map] at this
          exact this
        refine .inl ⟨(al', k + 1), ⟨I', by show k + 1 ≤ al'.length; omega, fun i o hi hio => ?_⟩, by show n - (k + 1) < n - k; omega, _, r_seq (r_asg ix) (r_seq (r_for (ds := pD ps) rfl ei) (r_asg (r_c2 rfl rfl rfl))), rfl⟩
        simp only at hi hio
        by_cases hik : i = k
        · subst hik
          have : (keys al')[i]? = some (al.map (·.1))[i] := by
            rw [hx, List.getElem?_append_left hlt]
            exact hg
          rw [this] at hio
          cases hio
          exact dn
        · have hlt2 : i < (al.map (·.1)).length := by omega
          rw [hx, List.getElem?_append_left hlt2] at hio
          intro b hb
          have := hd i o (by omega) hio b hb
          refine ⟨?_, this.2⟩
          show b ∈ keys al'
          rw [hx]
          exact List.mem_append.mpr (.inl this.1)
      · exact .inr ⟨d, hd', r_seq (r_asg ix) (r_seqR (r_for (ds := pD ps) rfl ei))⟩
end Rk

set_option Elab.async false
set_option linter.all false
set_option maxRecDepth 100000
set_option maxHeartbeats 4000000
/-! R4: closed. -/
namespace Rk
open PySem PySem.Spec L2
def sD (x : Str) (d : PyData) : PyData := .tuple [.str x, d]
theorem clo_of {n : Nat} {ps qs : PP} (hn : n ≤ 1000) (hp : ∀ p ∈ ps, InR n p) (h1 : qs.Pairwise ltP) (h2 : ∀ q, q ∈ qs ↔ Tc ps q.1 q.2) : qs = clo n ps :=
  ltP_uniq h1 (clo_sorted (clo_WI hp)) fun q => by rw [h2, mem_clo hp]
theorem clo_len {n : Nat} {ps : PP} (hn : n ≤ 1000) (hp : ∀ p ∈ ps, InR n p) : (clo n ps).length ≤ n * n := by
  unfold clo
  rw [List.length_mergeSort]
  exact (clo_WI hp).len
theorem m_closed_ok {n : Nat} {ps : PP} (hn : n ≤ 900) (hp : ∀ p ∈ ps, InR n p) :
    ((∀ t, ¬ Tc ps t t) ∧ m_closed [.int n, .tuple (pD ps)] = some (sD "yard" (yardD n (clo n ps)))) ∨ ∃ r st, Ring ps r ∧ Tc ps st st ∧ m_closed [.int n, .tuple (pD ps)] = some (sD "ring" (.tuple (iD r))) := by
  let E0 : Unit → Rk.Env := fun _ => [some (.int n), some (.tuple (pD ps)), none, none, none, none, none]
  have f1 := evF_any (τ := xName 2) (F := sSeq (sAsg 3 (cCall m_way_back (cCons (cV 1) (cCons (cV 2) cNil)))) (sIf (gTr (cV 3)) (sRet (cTup (cCons (cK (.str "ring")) (cCons (cV 3) cNil)))) sSkip)) (fg := [2, 3]) iE E0
    (fun i _ => ∀ t : Int, 0 ≤ t → t < i → ¬ Tc ps t t) (fun d => ∃ r st, Ring ps r ∧ Tc ps st st ∧ d = sD "ring" (.tuple (iD r))) (rngI 0 n) (fun i t s hi hs => ?_) 0 () (Nat.zero_le _) (fun t h1 h2 => absurd h2 (by omega))
  · have r0 : iR1 (cV 0) [some (.int n), some (.tuple (pD ps)), none, none, none, none, none] = some (iD (rngI 0 n)) := r_rng1 (n := n) rfl (by omega) (by omega)
    rcases f1 with ⟨_, hno, e1⟩ | ⟨d, ⟨r, st, hr, ht, rfl⟩, e1⟩
    · refine .inl ?_
      rw [rngI_length] at hno
      have hno' : ∀ t, ¬ Tc ps t t := fun t h => by
        have := (h.inR hp).1
        exact hno t this.1 this.2 h
      refine ⟨hno', ?_⟩
      let E1 : PP → Rk.Env := fun f => [some (.int n), some (.tuple (pD ps)), none, none, some (.list (pD f)), none, none]
      have f2 := evF_any (τ := xName 5) (F := sExt 4 (cLc (iSeq (cCall m_over (cCons (cV 1) (cCons (cV 5) cNil)))) [6] (xName 6) gYes (cTup (cCons (cV 5) (cCons (cV 6) cNil))))) (fg := [5]) iE E1
        (fun i f => f.Pairwise ltP ∧ ∀ q : Int × Int, q ∈ f ↔ Tc ps q.1 q.2 ∧ q.1 < (i : Int)) (fun _ => False) (rngI 0 n) (fun i t f hi hs => .inl ?_) 0 [] (Nat.zero_le _) ⟨List.Pairwise.nil, fun q => by
          constructor
          · intro h; simp at h
          · rintro ⟨h1, h2⟩
            have := (h1.inR hp).1.1
            simp only at this
            omega⟩
      · rcases f2 with ⟨qs, ⟨hq1, hq2⟩, e2⟩ | ⟨_, z, _⟩
        · rw [rngI_length] at hq2
          have hqs : qs = clo n ps := clo_of (by omega) hp hq1 fun q => by
            rw [hq2]
            exact ⟨fun h => h.1, fun h => ⟨h, (h.inR hp).1.2⟩⟩
          subst hqs
          have hl := clo_len (n := n) (by omega) hp
          exact r_mk rfl (r_seq (r_for r0 e1) (r_seq (r_asg (r_lst rfl rfl)) (r_seq (r_for (fi := iR1 (cV 0)) (r_rng1 (n := n) rfl (by omega) (by omega)) e2) (r_ret (r_tup (r_cons rfl (r_cons (r_tup (r_cons rfl (r_cons (r_c1 rfl rfl) rfl)) (okS_two rfl rfl)) rfl)) (okS_two rfl rfl))))))
        · exact z.elim
      · obtain ⟨hs1, hs2⟩ := hs
        obtain ⟨ht, hin⟩ := rngI_get hi
        have ht' : t = (i : Int) := by omega
        subst ht'
        obtain ⟨o, ho1, ho2, eo⟩ := m_over_ok (n := n) (o := (i : Int)) (by omega) hp ⟨by omega, by omega⟩
        have ol : o.length ≤ n := nodup_range_len (ltI_nodup ho1) fun x hx => (((ho2 x).mp hx).inR hp).2
        have fl : f.length ≤ n * n := by
          have : WI n f := ⟨ltP_nodup hs1, fun q hq => ((hs2 q).mp hq).1.inR hp⟩
          exact this.len
        refine ⟨f ++ o.map fun x => ((i : Int), x), ⟨?_, fun q => ?_⟩, _, _, rfl, r_ext (ds := pD f) (es := pD (o.map fun x => ((i : Int), x))) rfl (r_lc (ds := iD o) (show iSeq _ _ = _ from ?_) ?_ ?_) ?_, ?_⟩
        · rw [List.pairwise_append]
          refine ⟨hs1, ?_, fun a ha b hb => ?_⟩
          · rw [List.pairwise_map]
            exact ho1.imp fun h => .inr ⟨rfl, h⟩
          · obtain ⟨x, _, rfl⟩ := List.mem_map.mp hb
            exact .inl ((hs2 a).mp ha).2
        · rw [List.mem_append, List.mem_map, hs2]
          constructor
          · rintro (⟨h1, h2⟩ | ⟨x, hx, rfl⟩)
            · exact ⟨h1, by omega⟩
            · exact ⟨(ho2 x).mp hx, by show (i : Int) < ((i + 1 : Nat) : Int); omega⟩
          · rintro ⟨h1, h2⟩
            by_cases h3 : q.1 < (i : Int)
            · exact .inl ⟨h1, h3⟩
            · have h4 : q.1 = (i : Int) := by omega
              rw [h4] at h1
              exact .inr ⟨q.2, (ho2 _).mpr h1, by rw [← h4]⟩
        · unfold iSeq
          rw [r_call (m := m_over) (ds := [.tuple (pD ps), .int (i : Int)]) rfl eo]
          rfl
        · unfold iD
          rw [List.length_map]
          exact Nat.lt_of_le_of_lt (by omega : o.length ≤ 1000) (by decide)
        · unfold pD
          rw [List.map_map]
          have := evC_filter (t := lcT [6] (xName 6) gYes (cTup (cCons (cV 5) (cCons (cV 6) cNil))) [some (.int n), some (.tuple (pD ps)), none, none, some (.list (pD f)), some (.int (i : Int)), none]) iE pr (fun _ => true) (fun x => ((i : Int), x)) o fun x _ => by
            exact r_lcT (b := true) rfl rfl (fun _ => r_tup rfl (okS_pr _ _)) rfl
          rw [List.filter_eq_self.mpr (fun _ _ => rfl), List.map_map] at this
          exact this
        · unfold pD
          rw [List.length_map, List.length_map, List.length_map]
          have : n * n ≤ 900 * 900 := Nat.mul_le_mul hn hn
          exact Nat.le_trans (by omega : f.length + o.length ≤ 1000000) (by decide)
        · show [some (PyData.int n), some (PyData.tuple (pD ps)), none, none, some (.list (pD f ++ pD (o.map fun x => ((i : Int), x)))), none, none] = E1 _
          unfold pD
          rw [← List.map_append]
          rfl
    · exact .inr ⟨r, st, hr, ht, r_mk rfl (r_seqR (r_for r0 e1))⟩
  · obtain ⟨ht, hin⟩ := rngI_get hi
    have ht' : t = (i : Int) := by omega
    subst ht'
    rcases m_way_back_ok (n := n) (st := (i : Int)) hn hp ⟨by omega, by omega⟩ with ⟨e, hno⟩ | ⟨d, ⟨r, rfl, hr, htc⟩, e⟩
    · refine .inl ⟨(), fun t h1 h2 => ?_, _, _, rfl, r_seq (r_asg (r_call rfl e)) (r_ifF rfl rfl), rfl⟩
      by_cases h3 : t = (i : Int)
      · subst h3
        exact hno
      · exact hs t h1 (by omega)
    · have hg : gTr (cV 3) [some (.int n), some (.tuple (pD ps)), some (.int (i : Int)), some (.tuple (iD r)), none, none, none] = some true := by
        show some (!(iD r).isEmpty) = some true
        cases r with
        | nil => exact absurd rfl hr.ne
        | cons a r => rfl
      exact .inr ⟨_, _, ⟨r, _, hr, htc, rfl⟩, rfl, r_seq (r_asg (r_call rfl e)) (r_ifT hg (r_ret (r_tup rfl (okS_two rfl rfl))))⟩
end Rk

set_option Elab.async false
set_option linter.all false
set_option maxRecDepth 100000
set_option maxHeartbeats 4000000
/-! K03: covers. -/
namespace Rk
open PySem PySem.Spec L2
theorem cutG_map {α β : Type} (f : α → β) (xs : List α) (lo hi : Option Int) : cutG (xs.map f) lo hi = (cutG xs lo hi).map f := by
  unfold cutG
  rw [List.length_map, ← List.map_drop, ← List.map_take]
theorem cutG_to {α : Type} (xs : List α) (k : Nat) : cutG xs none (some (k : Int)) = xs.take k := by
  unfold cutG
  rw [HT.sIx_nat]
  show (xs.drop 0).take (min k xs.length - 0) = _
  rw [List.drop_zero, Nat.sub_zero]
  by_cases h : k ≤ xs.length
  · rw [Nat.min_eq_left h]
  · rw [Nat.min_eq_right (by omega), List.take_length, List.take_of_length_le (by omega)]
theorem cutG_from {α : Type} (xs : List α) (k : Nat) : cutG xs (some (k : Int)) none = xs.drop k := by
  unfold cutG
  rw [HT.sIx_nat]
  show (xs.drop (min k xs.length)).take (xs.length - min k xs.length) = _
  by_cases h : k ≤ xs.length
  · rw [Nat.min_eq_left h, List.take_of_length_le (by rw [List.length_drop]; exact Nat.le_refl _)]
  · rw [Nat.min_eq_right (by omega), List.drop_length, List.drop_of_length_le (by omega), List.take_nil]
def isB (ps : PP) (a b t : Int) : Bool := decide ((a, t) ∈ ps) && decide ((t, b) ∈ ps)
def btw (n : Nat) (ps : PP) (a b : Int) : List Int := (rngI 0 n).filter (isB ps a b)
theorem mem_btw {n : Nat} {ps : PP} (Y : IsY n ps) {a b t : Int} : t ∈ btw n ps a b ↔ (a, t) ∈ ps ∧ (t, b) ∈ ps := by
  unfold btw isB
  rw [List.mem_filter, Bool.and_eq_true, decide_eq_true_iff, decide_eq_true_iff]
  constructor
  · exact fun h => h.2
  · intro h
    have := (Y.rng _ h.1).2
    exact ⟨mem_rngI.mpr (by simp only at this; omega), h⟩
def isCov (n : Nat) (ps : PP) (p : Int × Int) : Bool := (btw n ps p.1 p.2).isEmpty
def cov (n : Nat) (ps : PP) : PP := ps.filter (isCov n ps)
theorem mem_cov {n : Nat} {ps : PP} (Y : IsY n ps) {p : Int × Int} : p ∈ cov n ps ↔ p ∈ ps ∧ ∀ t, ¬ ((p.1, t) ∈ ps ∧ (t, p.2) ∈ ps) := by
  unfold cov isCov
  rw [List.mem_filter, List.isEmpty_iff]
  constructor
  · rintro ⟨h1, h2⟩
    refine ⟨h1, fun t ht => ?_⟩
    have := (mem_btw Y).mpr ht
    rw [h2] at this
    simp at this
  · rintro ⟨h1, h2⟩
    refine ⟨h1, List.eq_nil_iff_forall_not_mem.mpr fun t ht => h2 t ((mem_btw Y).mp ht)⟩
theorem m_between_ok {n : Nat} {ps : PP} {a b : Int} (hn : n ≤ 1000) : m_between [yardD n ps, .int a, .int b] = some (.list (iD (btw n ps a b))) := by
  refine r_mk rfl (r_seq (G' := [some (yardD n ps), some (.int a), some (.int b), some (.int n), some (.tuple (pD ps)), none]) rfl (r_ret (r_lc (ds := iD (rngI 0 n)) (r_rng1 (n := n) rfl (by omega) (by omega)) (by rw [iD_len, rngI_length]; exact small_of (by omega)) ?_)))
  have := evC_filter (t := lcT [5] (xName 5) Cg_between_1 Ce_between_1 [some (yardD n ps), some (.int a), some (.int b), some (.int n), some (.tuple (pD ps)), none]) iE iE (isB ps a b) id (rngI 0 n) fun t _ =>
    r_lcT (b := isB ps a b t) rfl (r_and (r_gB (r_c2 (r_tup rfl (okS_pr a t)) rfl (pIn_prs (a, t) ps))) fun _ => r_gB (r_c2 (r_tup rfl (okS_pr t b)) rfl (pIn_prs (t, b) ps))) (fun _ => rfl) rfl
  rw [List.map_id] at this
  exact this
theorem gTr_iD {f : Fx} {G : Rk.Env} {xs : List Int} (h : f G = some (.list (iD xs))) : gTr f G = some (!xs.isEmpty) := by
  unfold gTr
  rw [h]
  show some (!(iD xs).isEmpty) = _
  unfold iD
  cases xs <;> rfl
theorem m_covers_ok {n : Nat} {ps : PP} (hn : n ≤ 900) (Y : IsY n ps) : m_covers [yardD n ps] = some (.tuple (pD (cov n ps))) := by
  have hl := Y.len
  have nn : n * n ≤ 900 * 900 := Nat.mul_le_mul hn hn
  have := evC_filter (t := lcT [1] (xName 1) Cg_covers_1 Ce_covers_1 [some (yardD n ps), none]) pr pr (isCov n ps) id ps fun p _ =>
    r_lcT (b := isCov n ps p) (y := pr p) rfl (by
      have e := r_not (gTr_iD (r_call (m := m_between) (ds := [yardD n ps, .int p.1, .int p.2]) (G := [some (yardD n ps), some (pr p)]) (fs := cCons (cV 0) (cCons (c2 pIx (cV 1) (cK (.int 0))) (cCons (c2 pIx (cV 1) (cK (.int 1))) cNil))) rfl (m_between_ok (by omega))))
      rw [Bool.not_not] at e
      exact e) (fun _ => rfl) rfl
  rw [List.map_id] at this
  exact r_mk rfl (r_ret (r_c1 (r_lc (ds := pD ps) rfl (by rw [pD_len]; exact small_of (by omega)) this) rfl))
/-! what the covers say -/
theorem cov_sub {n : Nat} {ps : PP} : ∀ p ∈ cov n ps, p ∈ ps := fun p hp => (List.mem_filter.mp hp).1
theorem cov_tc {n : Nat} {ps : PP} (Y : IsY n ps) : ∀ (k : Nat) (a b : Int), (btw n ps a b).length ≤ k → (a, b) ∈ ps → Tc (cov n ps) a b := by
  intro k
  induction k with
  | zero =>
    intro a b hk h
    have : btw n ps a b = [] := List.length_eq_zero_iff.mp (by omega)
    exact .one (List.mem_filter.mpr ⟨h, by unfold isCov; rw [this]; rfl⟩)
  | succ k ih =>
    intro a b hk h
    by_cases e : btw n ps a b = []
    · exact .one (List.mem_filter.mpr ⟨h, by unfold isCov; rw [e]; rfl⟩)
    · obtain ⟨c, hc⟩ := List.exists_mem_of_ne_nil _ e
      obtain ⟨h1, h2⟩ := (mem_btw Y).mp hc
      have lt : ∀ x y : Int, (∀ t, t ∈ btw n ps x y → t ∈ btw n ps a b) → c ∉ btw n ps x y → (btw n ps x y).length ≤ k := fun x y hs hn => by
        have nd : (c :: btw n ps x y).Nodup := List.nodup_cons.mpr ⟨hn, ((rngI_sorted 0 n).imp fun h z => by omega : (rngI 0 n).Nodup).filter _⟩
        have := nodup_sub nd (m := btw n ps a b) fun t ht => by
          rcases List.mem_cons.mp ht with rfl | ht
          · exact hc
          · exact hs t ht
        simp only [List.length_cons] at this
        omega
      refine (ih a c (lt a c (fun t ht => ?_) fun z => ?_) h1).trans (ih c b (lt c b (fun t ht => ?_) fun z => ?_) h2)
      · obtain ⟨q1, q2⟩ := (mem_btw Y).mp ht
        exact (mem_btw Y).mpr ⟨q1, Y.tr _ _ _ q2 h2⟩
      · exact Y.irr _ ((mem_btw Y).mp z).2
      · obtain ⟨q1, q2⟩ := (mem_btw Y).mp ht
        exact (mem_btw Y).mpr ⟨Y.tr _ _ _ h1 q1, q2⟩
      · exact Y.irr _ ((mem_btw Y).mp z).1
/-- pairs among which are all covers make the yard -/
theorem clo_gen {n : Nat} {ps qs : PP} (Y : IsY n ps) (h1 : ∀ p ∈ qs, p ∈ ps) (h2 : ∀ p ∈ cov n ps, p ∈ qs) : clo n qs = ps := by
  have hq : ∀ p ∈ qs, InR n p := fun p hp => Y.rng p (h1 p hp)
  refine ltP_uniq (clo_sorted (clo_WI hq)) Y.srt fun p => ?_
  rw [mem_clo hq]
  constructor
  · intro t
    exact Y.tc (t.mono h1)
  · intro h
    exact (cov_tc Y _ p.1 p.2 (Nat.le_refl _) h).mono h2
theorem m_closed_gen {n : Nat} {ps qs : PP} (hn : n ≤ 900) (Y : IsY n ps) (h1 : ∀ p ∈ qs, p ∈ ps) : m_closed [.int n, .tuple (pD qs)] = some (sD "yard" (yardD n (clo n qs))) := by
  rcases m_closed_ok (n := n) hn (fun p hp => Y.rng p (h1 p hp)) with ⟨_, e⟩ | ⟨r, st, _, t, _⟩
  · exact e
  · exact absurd (Y.tc (t.mono h1)) (Y.irr st)
theorem cl_yard (n : Nat) (ps : PP) : Cl 10 (yardD n ps) := Cl.two (.int _ _) ((Cl.prs 0 ps).mono (by decide))
theorem cl_sy (n : Nat) (ps : PP) : Cl 64 (sD "yard" (yardD n ps)) := (Cl.two (k := 10) (.str _ _ (by decide +kernel)) (cl_yard n ps)).mono (by decide)
theorem pD_inj {xs ys : PP} (h : pD xs = pD ys) : xs = ys := by
  induction xs generalizing ys with
  | nil => cases ys with
    | nil => rfl
    | cons y ys => cases h
  | cons x xs ih => cases ys with
    | nil => cases h
    | cons y ys =>
      unfold pD at h ih
      rw [List.map_cons, List.map_cons, List.cons.injEq] at h
      rw [pr_inj _ _ h.1, ih h.2]
theorem law_true : ∀ ns : List Int, ns.length ≤ 63 → (∀ z ∈ ns, Builtin.Int.intBits z ≤ 1048576) → m_law [.list (ns.map PyData.int)] = some (.bool true) := by
  intro ns hl _
  obtain ⟨n, ps, n1, n7, Y, ey⟩ := m_yard (ns := ns) (k := 0) (most := 7) (by decide) (by decide)
  have hps := Y.len
  have nn : n * n ≤ 7 * 7 := Nat.mul_le_mul n7 n7
  let C := cov n ps
  have cl : C.length ≤ 49 := by
    have : C.length ≤ ps.length := List.length_filter_le _ _
    omega
  let E : PP → Option PyData → Option PyData → Rk.Env := fun f a b => [some (.list (iD ns)), some (yardD n ps), some (.int n), some (.tuple (pD ps)), some (.list (pD f)), a, b, none, none, none]
  -- the covers by hand
  have hand := evF_any (τ := xPair 5 6) (F := L_law_1) (fg := [5, 6]) pr (fun f => E f none none) (fun i f => f = (ps.take i).filter (isCov n ps)) (fun _ => False) ps (fun i p f hi hf => .inl ?_) 0 [] (Nat.zero_le _) rfl
  · rcases hand with ⟨f, hf, eh⟩ | ⟨_, z, _⟩
    · rw [List.take_length] at hf
      have hfC : f = C := hf
      subst hfC
      let G7 : Option PyData → Rk.Env := fun k => [some (.list (iD ns)), some (yardD n ps), some (.int n), some (.tuple (pD ps)), some (.list (pD C)), none, none, some (.tuple (pD C)), k, none]
      have c1 : m_closed [.int n, .tuple (pD C)] = some (sD "yard" (yardD n ps)) := by
        rw [m_closed_gen (by omega) Y cov_sub, clo_gen Y cov_sub fun p hp => hp]
      have c2' : m_closed [.int n, .tuple (pD C.reverse)] = some (sD "yard" (yardD n ps)) := by
        rw [m_closed_gen (by omega) Y fun p hp => cov_sub p (List.mem_reverse.mp hp), clo_gen Y (fun p hp => cov_sub p (List.mem_reverse.mp hp)) fun p hp => List.mem_reverse.mpr hp]
      have g1 : gOr (gNot (gTr (Rk.c1 (pIsi "tuple") (cV 7)))) (gB (c2 pNe (Rk.c1 pList (cV 7)) (cV 4))) (G7 none) = some false :=
        r_or (b1 := false) (b2 := false) rfl fun _ => r_gB (r_c2 (x := .list (pD C)) (y := .list (pD C)) (r_c1 (x := .tuple (pD C)) rfl rfl) rfl (pNe_self ((Cl.prsL 0 _).mono (by decide))))
      have tupY : ∀ k, cTup (cCons (cK (.str "yard")) (cCons (cV 1) cNil)) (G7 k) = some (sD "yard" (yardD n ps)) := fun k => r_tup rfl (okS_two rfl rfl)
      have rv : Rk.c1 pTupRevT (cV 7) (G7 none) = some (.tuple (pD C.reverse)) := by
        refine r_c1 (x := .tuple (pD C)) rfl ?_
        show some (PyData.tuple (pD C).reverse) = _
        unfold pD
        rw [List.map_reverse]
      have g2 : gOr (gB (c2 pNe (cCall m_closed (cCons (cV 2) (cCons (cV 7) cNil))) (cTup (cCons (cK (.str "yard")) (cCons (cV 1) cNil))))) (gB (c2 pNe (cCall m_closed (cCons (cV 2) (cCons (Rk.c1 pTupRevT (cV 7)) cNil))) (cTup (cCons (cK (.str "yard")) (cCons (cV 1) cNil))))) (G7 none) = some false :=
        r_or (b1 := false) (b2 := false) (r_gB (r_c2 (r_call rfl c1) (tupY none) (pNe_self (cl_sy n ps)))) fun _ => r_gB (r_c2 (r_call (r_cons rfl (r_cons rv rfl)) c2') (tupY none) (pNe_self (cl_sy n ps)))
      have lp := evF_any (τ := xName 8) (F := L_law_2) (fg := [8]) iE (fun _ : Unit => G7 none) (fun _ _ => True) (fun _ => False) (rngI 0 C.length) (fun i k s hi _ => .inl ⟨(), trivial, ?_⟩) 0 () (Nat.zero_le _) trivial
      · rcases lp with ⟨_, _, el⟩ | ⟨_, z, _⟩
        · have r0 : iR1 (Rk.c1 pLen (cV 7)) (G7 none) = some (iD (rngI 0 C.length)) := r_rng1 (n := C.length) (r_c1 (x := .tuple (pD C)) rfl (by show some (PyData.int (pD C).length) = _; rw [pD_len])) (by omega) (by omega)
          exact r_mk rfl (r_seq (r_asg (r_call rfl ey)) (r_seq (G' := [some (.list (iD ns)), some (yardD n ps), some (.int n), some (.tuple (pD ps)), none, none, none, none, none, none]) rfl (r_seq (r_asg (r_lst rfl rfl)) (r_seq (r_for (ds := pD ps) rfl eh) (r_seq (r_asg (r_call rfl (m_covers_ok (by omega) Y))) (r_seq (r_ifF g1 rfl) (r_seq (r_ifF g2 rfl) (r_seq (r_for r0 el) (r_ret rfl)))))))))
        · exact z.elim
      · obtain ⟨hk, hin⟩ := rngI_get hi
        have hk' : k = (i : Int) := by omega
        subst hk'
        let D := C.take i ++ C.drop (i + 1)
        have hD : ∀ p ∈ D, p ∈ ps := fun p hp => by
          rcases List.mem_append.mp hp with hp | hp
          · exact cov_sub p (List.mem_of_mem_take hp)
          · exact cov_sub p (List.mem_of_mem_drop hp)
        have hDC : ∀ p ∈ D, p ∈ C := fun p hp => by
          rcases List.mem_append.mp hp with hp | hp
          · exact List.mem_of_mem_take hp
          · exact List.mem_of_mem_drop hp
        have hci : C[i] ∈ C := List.getElem_mem hin
        have nd : C.Nodup := (ltP_nodup Y.srt).filter _
        have hnD : C[i] ∉ D := by
          have e : C = C.take i ++ C[i] :: C.drop (i + 1) := by rw [← List.drop_eq_getElem_cons hin, List.take_append_drop]
          have nd2 : (C.take i ++ C[i] :: C.drop (i + 1)).Nodup := e ▸ nd
          intro z
          rw [List.nodup_append] at nd2
          obtain ⟨_, n2, n3⟩ := nd2
          rcases List.mem_append.mp z with z | z
          · exact n3 _ z _ (List.mem_cons.mpr (.inl rfl)) rfl
          · exact (List.nodup_cons.mp n2).1 z
        have ne : clo n D ≠ ps := fun z => by
          obtain ⟨q1, q2⟩ := (mem_cov Y).mp hci
          have t : Tc D C[i].1 C[i].2 := by
            rw [← mem_clo (fun p hp => Y.rng p (hD p hp)) (C[i]), z]
            exact q1
          generalize hx : C[i].1 = x at t q2
          generalize hy : C[i].2 = y at t q2
          cases t with
          | one h =>
            have : C[i] = (x, y) := by rw [← hx, ← hy]
            exact hnD (this ▸ h)
          | cons h t' => exact q2 _ ⟨hD _ h, Y.tc (t'.mono hD)⟩
        have arg : c2 pAdd (cSl (cV 7) cNo (cPt (cV 8))) (cSl (cV 7) (cPt (c2 pAdd (cV 8) (cK (.int 1)))) cNo) (G7 (some (.int (i : Int)))) = some (.tuple (pD D)) := by
          have a1 : cSl (cV 7) cNo (cPt (cV 8)) (G7 (some (.int (i : Int)))) = some (.tuple (pD (C.take i))) := by
            show some (PyData.tuple (cutG (pD C) none (some (i : Int)))) = _
            unfold pD
            rw [cutG_map, cutG_to]
          have a2 : cSl (cV 7) (cPt (c2 pAdd (cV 8) (cK (.int 1)))) cNo (G7 (some (.int (i : Int)))) = some (.tuple (pD (C.drop (i + 1)))) := by
            show some (PyData.tuple (cutG (pD C) (some ((i : Int) + 1)) none)) = _
            unfold pD
            rw [show ((i : Int) + 1) = ((i + 1 : Nat) : Int) from by omega, cutG_map, cutG_from]
          refine r_c2 a1 a2 ?_
          show (if (pD (C.take i)).length + (pD (C.drop (i + 1))).length ≤ sizeLine then some (PyData.tuple (pD (C.take i) ++ pD (C.drop (i + 1)))) else none) = _
          rw [if_pos (by rw [pD_len, pD_len, List.length_take, List.length_drop]; exact Nat.le_of_lt (small_of (by omega)))]
          unfold pD
          rw [← List.map_append]
        have g3 : gB (c2 pEq (cCall m_closed (cCons (cV 2) (cCons (c2 pAdd (cSl (cV 7) cNo (cPt (cV 8))) (cSl (cV 7) (cPt (c2 pAdd (cV 8) (cK (.int 1)))) cNo)) cNil))) (cTup (cCons (cK (.str "yard")) (cCons (cV 1) cNil)))) (G7 (some (.int (i : Int)))) = some false :=
          r_gB (r_c2 (r_call (r_cons rfl (r_cons arg rfl)) (m_closed_gen (by omega) Y hD)) (tupY _) (pEq_no (cl_sy n _) (cl_sy n ps) fun z => ne (by
            unfold sD yardD at z
            simp only [PyData.tuple.injEq, List.cons.injEq, true_and, and_true] at z
            exact pD_inj z)))
        exact ⟨_, _, rfl, r_ifF g3 rfl, rfl⟩
    · exact z.elim
  · subst hf
    have hlt := (List.getElem?_eq_some_iff.mp hi).1
    have hp := (List.getElem?_eq_some_iff.mp hi).2
    let f := (ps.take i).filter (isCov n ps)
    have fl : f.length ≤ 49 := by
      have h1 : f.length ≤ (ps.take i).length := List.length_filter_le _ _
      rw [List.length_take] at h1
      omega
    have ec := evC_filter (t := lcT [9] (xName 9) Cg_law_1 Ce_law_1 (E f (some (.int p.1)) (some (.int p.2)))) iE iE (isB ps p.1 p.2) id (rngI 0 n) fun t _ =>
      r_lcT (b := isB ps p.1 p.2 t) rfl (r_and (r_gB (r_c2 (r_tup rfl (okS_pr p.1 t)) rfl (pIn_prs (p.1, t) ps))) fun _ => r_gB (r_c2 (r_tup rfl (okS_pr t p.2)) rfl (pIn_prs (t, p.2) ps))) (fun _ => rfl) rfl
    rw [List.map_id] at ec
    have g := r_not (gTr_iD (r_lc (G := E f (some (.int p.1)) (some (.int p.2))) (fi := iR1 (cV 2)) (r_rng1 (n := n) rfl (by omega) (by omega)) (by rw [iD_len, rngI_length]; exact small_of (by omega)) ec))
    rw [Bool.not_not] at g
    have tk : ps.take (i + 1) = ps.take i ++ [p] := by
      rw [List.take_succ, hi]
      rfl
    refine ⟨(ps.take (i + 1)).filter (isCov n ps), rfl, ?_⟩
    rw [tk, List.filter_append]
    by_cases q : isCov n ps p = true
    · have e1 : [p].filter (isCov n ps) = [p] := by rw [List.filter_cons, if_pos q]; rfl
      rw [e1]
      have q' : (List.filter (isB ps p.1 p.2) (rngI 0 n)).isEmpty = true := q
      rw [q'] at g
      refine ⟨_, _, rfl, r_ifT g (r_app (ds := pD f) rfl (r_tup rfl (okS_pr _ _)) (small_of (by rw [pD_len]; omega)) rfl), ?_⟩
      show [some (PyData.list (iD ns)), some (yardD n ps), some (.int n), some (.tuple (pD ps)), some (.list (pD f ++ [pr p])), none, none, none, none, none] = _
      unfold pD
      rw [show f.map pr ++ [pr p] = (f ++ [p]).map pr from by rw [List.map_append]; rfl]
      rfl
    · have e1 : [p].filter (isCov n ps) = [] := by rw [List.filter_cons, if_neg q]; rfl
      rw [e1, List.append_nil]
      have q' : (List.filter (isB ps p.1 p.2) (rngI 0 n)).isEmpty = false := by
        have := Bool.eq_false_iff.mpr q
        exact this
      rw [q'] at g
      exact ⟨_, _, rfl, r_ifF g rfl, rfl⟩
end Rk

open PySem PySem.W PyProof.Rows
set_option maxRecDepth 100000 in
set_option maxHeartbeats 0 in
theorem PySem.Challenge.cw_rankyard_k03_covers_holds : PySem.Challenge.rw_rankyard_k03_covers.Holds := by
  w_on; o_law; k_head; (case hw => w_witness2)
  k_fill
  refine Rk.walk_rk (l := PySem.Challenge.rw_rankyard_k03_covers) (k := 4) (x := "_law_script") (m := Rk.m_law) rfl rfl ⟨rfl, by decide, by decide⟩ (fun w h Y => PySem.W.kIn_of Y) ?F ?K Rk.law_true
  case F =>
    intro w mg fa h KX G hmg
    refine' Rk.all_mk KX G hmg ?a0 ?l0 ?c0 ?k0 ?a1 ?l1 ?c1 ?k1 ?a2 ?l2 ?c2 ?k2 ?a3 ?l3 ?c3 ?k3 ?a4 ?l4 ?c4 ?k4 ?a5 ?l5 ?c5 ?k5 ?a6 ?l6 ?c6 ?k6 ?a7 ?l7 ?c7 ?k7 ?a8 ?l8 ?c8 ?k8 ?a9 ?l9 ?c9 ?k9 ?a10 ?l10 ?c10 ?k10 ?a11 ?l11 ?c11 ?k11 ?z0 ?z1 ?z2 ?z3 ?z4 ?z5 ?z6
    (case a0 => k_is)
    (case l0 => k_is)
    (case c0 => k_is)
    (case k0 => k_is)
    (case a1 => k_is)
    (case l1 => k_is)
    (case c1 => k_is)
    (case k1 => k_is)
    (case a2 => k_is)
    (case l2 => k_is)
    (case c2 => k_is)
    (case k2 => k_is)
    (case a3 => k_is)
    (case l3 => k_is)
    (case c3 => k_is)
    (case k3 => k_is)
    (case a4 => k_is)
    (case l4 => k_is)
    (case c4 => k_is)
    (case k4 => k_is)
    (case a5 => k_is)
    (case l5 => k_is)
    (case c5 => k_is)
    (case k5 => k_is)
    (case a6 => k_is)
    (case l6 => k_is)
    (case c6 => k_is)
    (case k6 => k_is)
    (case a7 => k_is)
    (case l7 => k_is)
    (case c7 => k_is)
    (case k7 => k_is)
    (case a8 => k_is)
    (case l8 => k_is)
    (case c8 => k_is)
    (case k8 => k_is)
    (case a9 => k_is)
    (case l9 => k_is)
    (case c9 => k_is)
    (case k9 => k_is)
    (case a10 => k_is)
    (case l10 => k_is)
    (case c10 => k_is)
    (case k10 => k_is)
    (case a11 => k_is)
    (case l11 => k_is)
    (case c11 => k_is)
    (case k11 => k_is)
    (case z0 => k_is)
    (case z1 => k_is)
    (case z2 => k_is)
    (case z3 => k_is)
    (case z4 => k_is)
    (case z5 => k_is)
    (case z6 => k_is)
  case K =>
    intro w
    show Rk.noLst _ = true
    kernel_rfl
