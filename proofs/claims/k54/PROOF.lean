import PyProof.Rows.All
import Wide.All
import OpenK.AllK
import Wide.FinOn
import HandS.ForMost
import HandS.More
import HandS.Style
import HandS.IsInst
import HandS.Exc
import HandS.ExcOwn
import HandS.TryOnly
import HandS.WordsExc
import HandS.Zip
import KE.DataMinMax
import KE.SortData
import KE.KDictPairs
import HandS.Strs
import HandS.Walk
import KE.DatumOrd
import KE.DatumMoreOrd
import KE.DatumMore
import KE.DatumIndex
import HandS.ExcIs
import HandS.ExcCtx
import HandS.DictComp
import HandS.Finally
import HandS.Rev
import HandS.RevTup
import PyProof.ListStr
import PyProof.StrBlock2
import HandS.NoneIn
import KE.KEqNest
import KE.KDictCopyH
import KE.KDictWalk
import HandS.Ends
import PyProof.ReprText
import HandS.Text
import PySem.Challenge.RW_fivehues_k54_four_hues_mirrored
set_option Elab.async false
set_option linter.all false
set_option maxRecDepth 100000
set_option maxHeartbeats 4000000
section
namespace Five
open PySem PySem.Spec PyProof.Rows L2
/-! a def of the top, by its name, and its promise -/
structure DefAt (K : PySem.W.Frag) (mg : Str → Option Value) (x : Str) (st : Stmt) (ps : List Str) (n : Str := x) : Prop where
  ex : ∃ (f : Addr) (fd : FuncData), Fun K n n st f fd ∧ mg x = some (.ref f) ∧ Binds K fd ps []
structure MetAt (K : PySem.W.Frag) (C : Addr) (m qual : Str) (st : Stmt) (ps : List Str) : Prop where
  ex : ∃ (f : Addr) (fd : FuncData), Fun K m qual st f fd ∧ Meth K C m f ∧ Binds K fd ps []
structure Cal (P : Program) (w : World) (K : PySem.W.Frag) (mg : Str → Option Value) (base : Heap) (k : Nat) (x : Str) (sp : Sp) : Prop where
  ex : ∃ (f : Addr) (fd : FuncData) (ps : List Str), FnOk P w K mg base CX0 k f fd ps sp ∧ mg x = some (.ref f) ∧ PySem.W.keepIn K (.ref f) = true ∧ Binds K fd ps []
structure Met (P : Program) (w : World) (K : PySem.W.Frag) (mg : Str → Option Value) (base : Heap) (k : Nat) (C : Addr) (m : Str) (sp : Sp) : Prop where
  ex : ∃ (f : Addr) (fd : FuncData) (ps : List Str), Cls K C ∧ Meth K C m f ∧ FnOk P w K mg base CX0 k f fd ps sp ∧ Binds K fd ps []
structure Mak (P : Program) (w : World) (K : PySem.W.Frag) (mg : Str → Option Value) (base : Heap) (k : Nat) (x : Str) (C : Addr) (sp : Sp) : Prop where
  ex : ∃ (f : Addr) (fd : FuncData) (ps : List Str), Mk K C f ∧ FnOk P w K mg base CX0 k f fd ps sp ∧ mg x = some (.ref C) ∧ Binds K fd ps []
section
variable {P : Program} {w : World} {K : PySem.W.Frag} {mg : Str → Option Value} {base : Heap}
abbrev BodyOk (P : Program) (w : World) (K : PySem.W.Frag) (mg : Str → Option Value) (base : Heap) (k : Nat) (qual : Str) (st : Stmt) (N : List Str) (sp : Sp) : Prop :=
  ∀ (f : Addr) (cdv : Value) (A : Around) (outer : List Env) (s : Shared) (H : Hp) (vs : List V) (Q : VK) (E : XK), Room k (A.deeper (envOfC qual (defScope st) s.heap.objs.size f cdv)) → sp vs H Q E →
      ∃ t, PSs (cxOf CX0 P w K mg base N qual (defScope st) f cdv A outer s H E).nox (defBody st) t ∧ t { nx := fun _ H' => Q .non H', rt := Q } (start N vs) H
theorem cal_of {x n : Str} {st : Stmt} {N ps : List Str} {k : Nat} {sp : Sp} (D : DefAt K mg x st ps n) (S : FnScope N ps (defScope st)) (len : ∀ vs H Q E, sp vs H Q E → vs.length = ps.length)
    (hb : BodyOk P w K mg base k n st N sp) : Cal P w K mg base (k + 1) x sp := by
  obtain ⟨f, fd, F, hm, b⟩ := D.ex
  exact ⟨f, fd, ps, F.ok S len (fun cdv A outer s H vs Q E => hb f cdv A outer s H vs Q E), hm, F.kp, b⟩
theorem met_of {C : Addr} {m qual : Str} {st : Stmt} {N ps : List Str} {k : Nat} {sp : Sp} (c : Cls K C) (D : MetAt K C m qual st ps) (S : FnScope N ps (defScope st)) (len : ∀ vs H Q E, sp vs H Q E → vs.length = ps.length)
    (hb : BodyOk P w K mg base k qual st N sp) : Met P w K mg base (k + 1) C m sp := by
  obtain ⟨f, fd, F, hm, b⟩ := D.ex
  exact ⟨f, fd, ps, c, hm, F.ok S len (fun cdv A outer s H vs Q E => hb f cdv A outer s H vs Q E), b⟩
end
section
variable {X : Cx} {k j : Nat} {C : Addr} {x m : Str} {sp : Sp} {p pos apos : Pos} {e o : Expr} {es : List Expr} {ta : TE} {t : TA}
theorem pe_c (c : Cal X.prog X.w X.K X.mg X.base k x sp) (hr : Room j X.A) (hk : k ≤ j) (hg : Gl X x) (ha : PA X (e :: es) t)
    (hdb : (x == ("__debug__" : Str)) = false := by decide) (he : starEach (e :: es) X.env = (false, eval e X.env) :: starEach es X.env := by rfl) (hpl : (backTo pos (starEach es X.env)).any (·.1) = false := by rfl) :
    PE X (.Call (.Name x p) (e :: es) [] pos) (tCall sp [] E0 t) := by
  obtain ⟨f, fd, ps, F, hm, kp, b⟩ := c.ex
  exact pe_call F (hr.mono hk) hg hm kp b .nil pass0 ha hdb he hpl
theorem pe_mk (c : Mak X.prog X.w X.K X.mg X.base k x C sp) (hr : Room j X.A) (hk : k + 1 ≤ j) (hg : Gl X x) (ha : PA X (e :: es) t)
    (hdb : (x == ("__debug__" : Str)) = false := by decide) (he : starEach (e :: es) X.env = (false, eval e X.env) :: starEach es X.env := by rfl) (hpl : (backTo pos (starEach es X.env)).any (·.1) = false := by rfl) :
    PE X (.Call (.Name x p) (e :: es) [] pos) (tMake C sp [] E0 t) := by
  obtain ⟨f, fd, ps, M, F, hm, b⟩ := c.ex
  exact pe_make M F (hr.mono hk) hg hm b .nil pass0 ha hdb he hpl
theorem pe_mt {pl : Sem Bool} (c : Met X.prog X.w X.K X.mg X.base k C m sp) (hr : Room j X.A) (hk : k ≤ j) (he : PE X o ta) (ha : PA X (e :: es) t)
    (hst : starEach (e :: es) X.env = (false, eval e X.env) :: starEach es X.env := by rfl) (hpl : (backTo pos (starEach es X.env)).any (·.1) = false := by rfl)
    (ht : eval (.Call (.Attribute o m apos) (e :: es) [] pos) X.env = (do
      let ov ← eval o X.env
      standAt apos.atName
      let (f, first) ← holding [ov] (getMethod ov m pl)
      callWith pos f first (backTo pos (starEach (e :: es) X.env)) (backToKw pos (keywordEach [] X.env))) := by rfl) :
    PE X (.Call (.Attribute o m apos) (e :: es) [] pos) (tMeth C m sp [] E0 ta t) := by
  obtain ⟨f, fd, ps, c, hm, F, b⟩ := c.ex
  exact pe_meth he c hm F (hr.mono hk) b .nil pass0 ha hst hpl ht
theorem pe_mt0 {pl : Sem Bool} (c : Met X.prog X.w X.K X.mg X.base k C m sp) (hr : Room j X.A) (hk : k ≤ j) (he : PE X o ta)
    (ht : eval (.Call (.Attribute o m apos) [] [] pos) X.env = (do
      let ov ← eval o X.env
      standAt apos.atName
      let (f, first) ← holding [ov] (getMethod ov m pl)
      callWith pos f first (backTo pos (starEach [] X.env)) (backToKw pos (keywordEach [] X.env))) := by rfl) :
    PE X (.Call (.Attribute o m apos) [] [] pos) (tMeth C m sp [] E0 ta tNil) := by
  obtain ⟨f, fd, ps, c, hm, F, b⟩ := c.ex
  exact pe_meth0 he c hm F (hr.mono hk) b .nil pass0 ht
theorem pe_gc {v : V} (hg : Gl X x) (h : ∃ u, X.mg x = some u ∧ RelV v u) (hd : (x == ("__debug__" : Str)) = false := by decide) : PE X (.Name x pos) (tC v) := by
  obtain ⟨u, e, r⟩ := h
  exact pe_glob hg e r hd
end
end Five
end
section
namespace Five
open PySem PySem.Spec PyProof.Rows L2
open PySem.W (minD dataLt dataLt_str AlikeAll min_list_data sorted_data dataLe alike alikeAll EachIs AllAlike Sortable)
/-! rules that the layer lacks -/
section
variable {X : Cx}
theorem dpAll_strs {K : PySem.W.Frag} {H : Hp} : ∀ ss : List Str, DpAll K H (ss.map V.str) (ss.map PyData.str)
  | [] => .nil
  | s :: r => .cons (.str s) (dpAll_strs r)
theorem reads_str {h : Heap} {z : Str} {t : Tok} {d : PyData} {as : List Addr} (r : Reads h (.str z t) d as) : d = .str z := by
  cases r
  rfl
theorem minD_str : ∀ (xs : List Str) (x : Str), ∃ m, minD (.str x) (xs.map PyData.str) = .str m ∧ m ∈ x :: xs ∧ ∀ y ∈ x :: xs, ¬ y.cps.toList < m.cps.toList
  | [], x => ⟨x, rfl, List.mem_cons_self, fun y hy => by
    have e : y = x := by simpa using hy
    rw [e]
    exact List.lt_irrefl _⟩
  | a :: r, x => by
    show ∃ m, (r.map PyData.str).foldl (fun a y => if dataLt y a then y else a) (if dataLt (.str a) (.str x) then .str a else .str x) = .str m ∧ _
    by_cases c : a.cps.toList < x.cps.toList
    · have e : dataLt (.str a) (.str x) = true := by rw [dataLt_str]; exact decide_eq_true c
      rw [if_pos e]
      obtain ⟨m, h1, h2, h3⟩ := minD_str r a
      refine ⟨m, h1, List.mem_cons_of_mem _ h2, fun y hy => ?_⟩
      rcases List.mem_cons.mp hy with e | hy
      · rw [e]
        intro q
        exact h3 a List.mem_cons_self (List.lt_trans c q)
      · exact h3 y hy
    · have e : ¬ dataLt (.str a) (.str x) = true := by rw [dataLt_str]; simpa using c
      rw [if_neg e]
      obtain ⟨m, h1, h2, h3⟩ := minD_str r x
      refine ⟨m, h1, ?_, fun y hy => ?_⟩
      · rcases List.mem_cons.mp h2 with e | hm
        · rw [e]; exact List.mem_cons_self
        · exact List.mem_cons_of_mem _ (List.mem_cons_of_mem _ hm)
      · rcases List.mem_cons.mp hy with e | hy
        · rw [e]; exact h3 x List.mem_cons_self
        · rcases List.mem_cons.mp hy with e | hy
          · rw [e]
            intro q
            have hx := h3 x List.mem_cons_self
            exact hx (List.lt_of_le_of_lt (show x.cps.toList ≤ a.cps.toList from c) q)
          · exact h3 y (List.mem_cons_of_mem _ hy)
/-- min(xs) of a list of texts -/
def rMinS (K : PySem.W.Frag) : List V → Hp → VK → Prop := fun vs H Q => ∃ (a : Addr) (ss : List Str), vs = [V.ref a] ∧ SqL K H a (ss.map V.str) ∧ ss ≠ [] ∧ ∀ m, m ∈ ss → (∀ y ∈ ss, ¬ y.cps.toList < m.cps.toList) → Q (.str m) H
theorem alikeAll_strs (ss : List Str) : AlikeAll (ss.map PyData.str) := by
  refine ⟨fun x hx y hy => ?_, fun x hx => ?_⟩
  · obtain ⟨p, _, rfl⟩ := List.mem_map.mp hx
    obtain ⟨q, _, rfl⟩ := List.mem_map.mp hy
    rfl
  · obtain ⟨p, _, rfl⟩ := List.mem_map.mp hx
    exact fun h => nomatch h
theorem depth_strs : ∀ ss : List Str, PyData.depthAll (ss.map PyData.str) = 0
  | [] => by simp [PyData.depthAll]
  | x :: xs => by
    rw [List.map_cons, PyData.depthAll, depth_strs xs]
    simp [PyData.depth]
theorem cr_minS (hc : X.calm = true) (hu : X.A.units + 64 < cLine) : CallR X (.builtin "min") (rMinS X.K) := by
  intro pins s σ H vs us Q I r h
  obtain ⟨a, ss, rfl, hs, hne, q⟩ := h
  obtain ⟨its, rv, hl, _⟩ := I.list hs
  rw [Vals.ref1 r]
  obtain ⟨x, xs, rfl⟩ : ∃ x xs, ss = x :: xs := by
    cases ss with
    | nil => exact absurd rfl hne
    | cons x xs => exact ⟨x, xs, rfl⟩
  obtain ⟨as, hr⟩ := Dp.readsAll I ((x :: xs).map PyData.str) _ its (dpAll_strs (x :: xs)) rv
  refine min_list_data (x := .str x) (xs := xs.map PyData.str) (I.ok.hd hc) hl.isList (by simpa using hr) (alikeAll_strs (x :: xs)) (by have := depth_strs (x :: xs); rw [List.map_cons] at this; omega) fun i v h' tk bs hv rd hk => ?_
  obtain ⟨m, e1, e2, e3⟩ := minD_str xs x
  rw [e1] at rd
  have hv' : its[i]? = some v := by simpa using hv
  have : ∃ z t, v = .str z t := by
    obtain ⟨y, hy⟩ : ∃ y, ((x :: xs).map V.str)[i]? = some y := by
      have hi : i < its.length := (List.getElem?_eq_some_iff.mp hv').1
      rw [← rv.length] at hi
      exact ⟨_, List.getElem?_eq_getElem hi⟩
    obtain ⟨u, hu1, hu2⟩ := Vals.get rv hy
    rw [hv'] at hu1
    cases hu1
    rw [List.getElem?_map] at hy
    cases ez : (x :: xs)[i]? with
    | none => rw [ez] at hy; cases hy
    | some z =>
      rw [ez] at hy
      cases hy
      obtain ⟨t, e⟩ := hu2
      exact ⟨z, t, e⟩
  obtain ⟨z, t, rfl⟩ := this
  have ez := reads_str rd
  injection ez with ez
  subst ez
  exact ⟨.str _, H, I.kept hk, ⟨_, rfl⟩, q _ e2 e3⟩

/-- sorted(xs) of a list that reads as data -/
def rSortedDt (K : PySem.W.Frag) : List V → Hp → VK → Prop := fun vs H Q => ∃ (a : Addr) (bs : List (V × PyData)), vs = [V.ref a] ∧ SqL K H a (bs.map (·.1)) ∧ (∀ b ∈ bs, Dp K H b.1 b.2) ∧ AllAlike (bs.map (·.2)) ∧ Sortable (bs.map (·.2)) ∧ (∀ b ∈ bs, b.2.depth ≤ 60) ∧
  ∀ p, H p = none → Q (.ref p) (upd H p (.lst ((bs.mergeSort (dataLe false (·.2))).map (·.1))))
theorem each_of_vals {H : Hp} : ∀ {bs : List (V × PyData)} {us : List Value}, Vals (bs.map (·.1)) us → EachIs (fun (v : Value) (b : V × PyData) => RelV b.1 v ∧ b ∈ bs) us bs := by
  have key : ∀ (bs : List (V × PyData)) (all : List (V × PyData)) (us : List Value), (∀ b ∈ bs, b ∈ all) → Vals (bs.map (·.1)) us → EachIs (fun (v : Value) (b : V × PyData) => RelV b.1 v ∧ b ∈ all) us bs := by
    intro bs all
    induction bs with
    | nil => intro us _ r; cases r; exact .nil
    | cons b r ih =>
      intro us ha rv
      rw [List.map_cons] at rv
      cases rv with
      | cons h t => exact .cons ⟨h, ha b List.mem_cons_self⟩ (ih _ (fun c hc => ha c (List.mem_cons_of_mem _ hc)) t)
  intro bs us r
  exact key bs bs us (fun _ h => h) r
theorem vals_of_each {R : Value → V × PyData → Prop} (hR : ∀ v b, R v b → RelV b.1 v) : ∀ {out : List Value} {bs : List (V × PyData)}, EachIs R out bs → Vals (bs.map (·.1)) out
  | _, _, .nil => .nil
  | _, _, .cons h t => .cons (hR _ _ h) (vals_of_each hR t)
theorem cr_sortedDt (hu : X.A.units + 64 < cLine) : CallR X (.builtin "sorted") (rSortedDt X.K) := by
  intro pins s σ H vs us Q I r h
  obtain ⟨a, bs, rfl, hs, hd, hal, hk, hdp, q⟩ := h
  obtain ⟨its, rv, hl, hz⟩ := I.list hs
  rw [Vals.ref1 r]
  have e0 := each_of_vals (H := H) rv
  have hlen : bs.length ≤ sizeLine := by
    rw [List.length_map] at hz
    exact hz
  have er : EachIs (fun (v : Value) (b : V × PyData) => ∃ as, Reads s.heap v b.2 as) its bs := e0.mono fun v b ⟨rb, mb⟩ => Dp.reads I b.2 b.1 v (hd b mb) rb
  have fin : ∀ out : List Value, out.length = bs.length → EachIs (fun (v : Value) (b : V × PyData) => RelV b.1 v ∧ b ∈ bs) out (bs.mergeSort (dataLe false (·.2))) → EP X pins σ Q (.ref (s.heap.objs.size + 1)) { s with heap := sortedAll s.heap its (List.toArray out) } := fun out ho eo => by
    obtain ⟨ep, he'⟩ := PyProof.Rows.sortedAll_at s.heap its out.toArray
    have hv := vals_of_each (R := fun (v : Value) (b : V × PyData) => RelV b.1 v ∧ b ∈ bs) (fun v b h => h.1) eo
    have hl2 : ((bs.mergeSort (dataLe false (·.2))).map (·.1)).length ≤ sizeLine := by
      rw [List.length_map, List.length_mergeSort]
      exact hlen
    exact ⟨.ref _, upd H (s.heap.objs.size + 1) (.lst ((bs.mergeSort (dataLe false (·.2))).map (·.1))), I.laid (t' := s.toks) (fun _ _ => PyProof.Rows.sortedAll_old) (Nat.le_succ _) ⟨hl2, out, ep, hv, by simpa using he'⟩, rfl, q _ (I.hok.fresh (Nat.le_succ _))⟩
  exact sorted_data (R := fun (v : Value) (b : V × PyData) => RelV b.1 v ∧ b ∈ bs) (enc := fun b : V × PyData => b.2) (bs := bs) hl.isList e0 er hal hk hlen (fun b hb => by have := hdp b hb; omega) fin

/-! d.update(pairs) -/
theorem paired_get {α β : Type} {R : α → β → Prop} : ∀ {xs : List α} {ys : List β}, Paired R xs ys → ∀ (i : Nat) (x : α), xs[i]? = some x → ∃ y, ys[i]? = some y ∧ R x y
  | _, _, .nil, i, x, h => by simp at h
  | _, _, .cons r t, 0, x, h => by
    have e := Option.some.inj (show some _ = some x from h)
    subst e
    exact ⟨_, rfl, r⟩
  | _, _, .cons r t, i + 1, x, h => by
    obtain ⟨y, h1, h2⟩ := paired_get t i x (by simpa using h)
    exact ⟨y, by simpa using h1, h2⟩
theorem paired_back {α β : Type} {R : α → β → Prop} : ∀ {xs : List α} {ys : List β}, Paired R xs ys → ∀ (i : Nat) (y : β), ys[i]? = some y → ∃ x, xs[i]? = some x ∧ R x y
  | _, _, .nil, i, x, h => by simp at h
  | _, _, .cons r t, 0, x, h => by
    have e := Option.some.inj (show some _ = some x from h)
    subst e
    exact ⟨_, rfl, r⟩
  | _, _, .cons r t, i + 1, x, h => by
    obtain ⟨y, h1, h2⟩ := paired_back t i x (by simpa using h)
    exact ⟨y, by simpa using h1, h2⟩
theorem paired_mem {α β : Type} {R : α → β → Prop} : ∀ {xs : List α} {ys : List β}, Paired R xs ys → ∀ x ∈ xs, ∃ y ∈ ys, R x y
  | _, _, .nil, x, h => nomatch h
  | _, _, .cons r t, x, h => by
    rcases List.mem_cons.mp h with e | h
    · subst e
      exact ⟨_, List.mem_cons_self, r⟩
    · obtain ⟨y, h1, h2⟩ := paired_mem t x h
      exact ⟨y, List.mem_cons_of_mem _ h1, h2⟩
section
variable {pins : List (Addr × Obj)} {σ : L2.St} {H : Hp} {s : Shared}
theorem pair_items (I : Inv X pins σ H s) : ∀ {ps : List Addr} {kvs : List (Key × V)}, Paired (fun p kv => SqT X.K H p [kV kv.1, kv.2]) ps kvs →
    ∃ (prs : List (Key × Value)) (qs : List (Value × Value)), KV kvs prs ∧ Paired (fun (p : Addr) (q : Value × Value) => IsTup s.heap p #[q.1, q.2]) ps qs ∧ Paired (fun (r : Key × Value) (q : Value × Value) => r.2 = q.2 ∧ keyIs r.1 q.1 = true) prs qs
  | _, _, .nil => ⟨[], [], .nil, .nil, .nil⟩
  | _, _, .cons (a := p) (b := kv) h t => by
    obtain ⟨prs, qs, r, h1, h2⟩ := pair_items I t
    obtain ⟨its, rv, ht, _⟩ := I.tuple h
    obtain ⟨u, y, ei, ru, ry⟩ := vals2 rv
    subst ei
    exact ⟨(kv.1, y) :: prs, (u, y) :: qs, .cons ⟨rfl, ry⟩ r, .cons ht h1, .cons ⟨rfl, kV_is (P := X.prog) (w := X.w) ru⟩ h2⟩
theorem pair_arg (I : Inv X pins σ H s) {a d : Addr} {ps : List Addr} {qs : List (Value × Value)} (hs : SqL X.K H a (ps.map V.ref)) (hq : Paired (fun (p : Addr) (q : Value × Value) => IsTup s.heap p #[q.1, q.2]) ps qs) (ho : ∃ o, s.heap.get? d = some o ∧ o.cls = .type "dict") :
    ∃ (fp : List Addr) (OK : Heap → Prop), PairArg X.prog X.w "list" a fp [] qs.length (PairRel qs) OK ∧ OK s.heap ∧ d ∉ fp := by
  obtain ⟨its, rv, pl, hz⟩ := I.list hs
  have ei := refs_at rv
  subst ei
  obtain ⟨od, hd, hdc⟩ := ho
  refine ⟨_, _, PairArg.list a (ps.map Value.ref).toArray (fun j => ps.getD j 0) qs, ⟨pl, ⟨?_, fun j k v hj => ?_⟩⟩, fun hm => ?_⟩
  · simp [Paired.length hq]
  · obtain ⟨p, h1, h2⟩ := paired_back hq j (k, v) hj
    refine ⟨?_, .inl ?_⟩
    · simp [h1]
    · simp only [List.getD, h1, Option.getD_some]
      exact h2
  · rcases List.mem_cons.mp hm with e | hm
    · subst e
      obtain ⟨o, n, e1, e2, _⟩ := pl
      rw [hd] at e1
      cases e1
      rw [hdc] at e2
      exact absurd e2 (by decide)
    · obtain ⟨j, hj, e⟩ := List.mem_map.mp hm
      have hj' : j < qs.length := List.mem_range.mp hj
      obtain ⟨p, h1, o, e1, e2, _⟩ := paired_back hq j qs[j] (List.getElem?_eq_getElem hj')
      have e3 : d = p := by
        rw [← e]
        simp [h1]
      subst e3
      rw [hd] at e1
      cases e1
      rw [hdc] at e2
      exact absurd e2 (by decide)
end
def rUpdP (K : PySem.W.Frag) : V → List V → Hp → VK → Prop := fun x xs H Q => ∃ (d a : Addr) (acc kvs : List (Key × V)) (ps : List Addr), x = .ref d ∧ xs = [.ref a] ∧ H d = some (.dK acc) ∧ SqL K H a (ps.map V.ref) ∧ Paired (fun p kv => SqT K H p [kV kv.1, kv.2]) ps kvs ∧
  acc.length + kvs.length ≤ sizeLine ∧ Q .non (upd H d (.dK (mergeK acc kvs)))
theorem mt_updateP (hc : X.calm = true) : MtR X "dict.update" (rUpdP X.K) := by
  intro pins s σ H x xs v us Q I rx rxs h
  obtain ⟨d, a, acc, kvs, ps, rfl, rfl, hd, hs, hp, hz, q⟩ := h
  cases rx
  obtain ⟨u, eu, rx⟩ := vals1 rxs
  subst eu
  cases rx
  obtain ⟨z, hsys, vs, rel, dd⟩ := dk_of I.hok hd
  obtain ⟨prs, qs, r1, r2, r3⟩ := pair_items I hp
  obtain ⟨fp, OK, P, ok, nf⟩ := pair_arg (d := d) I hs r2 dd.typeIs
  have el : kvs.length = qs.length := (Paired.length r1).trans (Paired.length r3)
  refine call_update_pairs (knd := mixKind X.prog X.w) (acc := vs) (kvs := prs) P (I.ok.hd hc) ok nf ⟨Paired.length r3, fun i key w hr => ?_⟩ dd (by rw [← Paired.length rel, ← el]; exact hz) fun h' tk hd' hk => ?_
  · obtain ⟨⟨k0, v0⟩, e1, e2, e3⟩ := paired_back r3 i (key, w) hr
    simp only at e2 e3
    subst e2
    exact ⟨k0, e1, e3⟩
  · have he : ∃ q, h'.get? d = some q := let ⟨q, _, _, hq, _⟩ := hd'; ⟨q, hq⟩
    have hl2 : (mergeK acc kvs).length ≤ sizeLine := Nat.le_trans (length_mergeK kvs acc) hz
    exact ⟨.non, _, I.write (e := d) (t' := tk) (by rw [hd]; exact True.intro) (.inl rfl) (fun b ob hb hob => hk b ob hb (fun z => nomatch z) hob) he (dk_new hl2 hsys (KV.merge r1 rel) hd'), rfl, q⟩
/-! .. with keys that are tuples -/
def mergeT (kvs more : List (List Key × V)) : List (List Key × V) := more.foldl (fun acc kv => putK acc kv.1 kv.2) kvs
theorem length_mergeT : ∀ (more kvs : List (List Key × V)), (mergeT kvs more).length ≤ kvs.length + more.length
  | [], kvs => by show kvs.length ≤ kvs.length + 0; omega
  | p :: r, kvs => by
    have h1 := length_mergeT r (putK kvs p.1 p.2)
    have h2 := length_putK kvs p.1 p.2
    show (mergeT (putK kvs p.1 p.2) r).length ≤ _
    rw [List.length_cons]; omega
def rUpdT (K : PySem.W.Frag) : V → List V → Hp → VK → Prop := fun x xs H Q => ∃ (d a : Addr) (acc kvs : List (List Key × V)) (ps : List Addr), x = .ref d ∧ xs = [.ref a] ∧ H d = some (.dT acc) ∧ SqL K H a (ps.map V.ref) ∧
  Paired (fun p kv => ∃ b, H b = some (.tup (kv.1.map kV)) ∧ SqT K H p [.ref b, kv.2]) ps kvs ∧ acc.length + kvs.length ≤ sizeLine ∧ Q .non (upd H d (.dT (mergeT acc kvs)))
theorem pair_itemsT {pins : List (Addr × Obj)} {σ : L2.St} {H : Hp} {s : Shared} (I : Inv X pins σ H s) : ∀ {ps : List Addr} {kvs : List (List Key × V)}, Paired (fun p kv => ∃ b, H b = some (.tup (kv.1.map kV)) ∧ SqT X.K H p [.ref b, kv.2]) ps kvs →
    ∃ (prs : List (List Key × Addr × Value)) (qs : List (Value × Value)), KT H kvs prs ∧ Paired (fun (p : Addr) (q : Value × Value) => IsTup s.heap p #[q.1, q.2]) ps qs ∧ Paired (fun (r : List Key × Addr × Value) (q : Value × Value) => r.2.2 = q.2 ∧ q.1 = .ref r.2.1) prs qs
  | _, _, .nil => ⟨[], [], .nil, .nil, .nil⟩
  | _, _, .cons (a := p) (b := kv) h t => by
    obtain ⟨prs, qs, r, h1, h2⟩ := pair_itemsT I t
    obtain ⟨b, hb, h⟩ := h
    obtain ⟨its, rv, ht, _⟩ := I.tuple h
    obtain ⟨u, y, ei, ru, ry⟩ := vals2 rv
    subst ei
    cases ru
    exact ⟨(kv.1, b, y) :: prs, (.ref b, y) :: qs, .cons ⟨rfl, hb, ry⟩ r, .cons ht h1, .cons ⟨rfl, rfl⟩ h2⟩
theorem KT_merge {H : Hp} : ∀ {more : List (List Key × V)} {rs : List (List Key × Addr × Value)} {kvs : List (List Key × V)} {vs : List (List Key × Addr × Value)}, KT H more rs → KT H kvs vs → KT H (mergeT kvs more) (storedAllH vs rs) := by
  intro more rs kvs vs r
  unfold KT at r
  induction r generalizing kvs vs with
  | nil => intro q; exact q
  | @cons p q ps qs h t ih =>
    intro r0
    have e : KT H (putK kvs p.1 p.2) (storedH vs q.1 q.2.1 q.2.2) := by
      have := r0.put p.1 h.2.1 h.2.2
      rw [← h.1]; exact this
    exact ih e
theorem mt_updateT (hc : X.calm = true) (hu : X.A.units + 64 < cLine) : MtR X "dict.update" (rUpdT X.K) := by
  intro pins s σ H x xs v us Q I rx rxs h
  obtain ⟨d, a, acc, kvs, ps, rfl, rfl, hd, hs, hp, hz, q⟩ := h
  cases rx
  obtain ⟨u, eu, rx⟩ := vals1 rxs
  subst eu
  cases rx
  obtain ⟨z, hsys, vs, rel, dd⟩ := dt_of I.hok hd
  obtain ⟨prs, qs, r1, r2, r3⟩ := pair_itemsT I hp
  obtain ⟨fp, OK, P, ok, nf⟩ := pair_arg (d := d) I hs r2 dd.typeIs
  have el : kvs.length = qs.length := (Paired.length r1).trans (Paired.length r3)
  have isk : ∀ (h' : Heap), (∀ b o, b ≠ d → b ∉ ([] : List Addr) → s.heap.get? b = some o → h'.get? b = some o) → ∀ (l : List (List Key × V)) (m : List (List Key × Addr × Value)), KT H l m → ∀ x ∈ m, (tupleKind (mixKind X.prog X.w)).is h' x.1 x.2.1 := by
    intro h' hk l m q
    induction q with
    | nil => intro x hx; exact nomatch hx
    | @cons p q ps qs hq t ih =>
      intro x hx
      rcases List.mem_cons.mp hx with e | hx
      · subst e
        have e1 : H x.2.1 = some (.tup (x.1.map kV)) := by rw [← hq.1]; exact hq.2.1
        obtain ⟨o, its, n, h1, h2⟩ := key_of I.hok e1
        have ne : x.2.1 ≠ d := ne_of e1 hd (fun z => nomatch z)
        exact ⟨o, its, n, hk _ _ ne (fun z => nomatch z) h1, h2⟩
      · exact ih x hx
  have hst : KeysStay (tupleKind (mixKind X.prog X.w)) s.heap d [] (vs ++ prs) := fun h' hk x hx => (List.mem_append.mp hx).elim (isk h' hk acc vs rel x) (isk h' hk kvs prs r1 x)
  refine call_update_pairsH (knd := tupleKind (mixKind X.prog X.w)) (acc := vs) (ps := prs) P (I.ok.hd hc) (tupleKind_room_in1 (by omega)) ok nf ⟨Paired.length r3, fun i key w hr => ?_⟩ hst dd (by rw [← Paired.length rel, ← el]; exact hz) fun h' tk hd' hk => ?_
  · obtain ⟨⟨k0, b0, v0⟩, e1, e2, e3⟩ := paired_back r3 i (key, w) hr
    simp only at e2 e3
    subst e2 e3
    exact ⟨k0, b0, e1, rfl⟩
  · obtain ⟨qo, es, ep, hq, h2, h3, h4, _, h5⟩ := hd'
    have hl2 : (mergeT acc kvs).length ≤ sizeLine := Nat.le_trans (length_mergeT kvs acc) hz
    refine ⟨.non, _, I.write (e := d) (o := .dT (mergeT acc kvs)) (t' := tk) (by rw [hd]; exact True.intro) (.inl rfl) (fun b ob hb hob => hk b ob hb (fun z => nomatch z) hob) ⟨qo, hq⟩ ⟨hl2, hsys, _, (KT_merge r1 rel).keeps fun c ys ec => ?_, qo, es, ep, hq, h2, h3, h4, h5⟩, rfl, q⟩
    rw [upd_ne (ne_of ec hd (fun z => nomatch z))]
    exact ec
end
end Five
end
section
namespace Five
open PySem PySem.Spec PyProof.Rows L2
/-! len(set(xs)) of texts, any of them alike -/
section
variable {κ : Type} [DecidableEq κ]
def ddAdd (acc : List κ) (k : κ) : List κ := if k ∈ acc then acc else acc ++ [k]
/-- the unlike ones, as they are first met -/
def dd (l : List κ) : List κ := l.foldl ddAdd []
theorem dd_snoc (l : List κ) (k : κ) : dd (l ++ [k]) = ddAdd (dd l) k := by unfold dd; rw [List.foldl_append]; rfl
theorem dd_mem (l : List κ) (k : κ) : k ∈ dd l ↔ k ∈ l := by
  have key : ∀ (m acc : List κ), k ∈ m.foldl ddAdd acc ↔ k ∈ acc ∨ k ∈ m := by
    intro m
    induction m with
    | nil => intro acc; simp
    | cons a r ih =>
      intro acc
      rw [List.foldl_cons, ih, List.mem_cons]
      unfold ddAdd
      split
      · rename_i h
        constructor
        · rintro (h1 | h1)
          · exact .inl h1
          · exact .inr (.inr h1)
        · rintro (h1 | h1 | h1)
          · exact .inl h1
          · rw [h1]; exact .inl h
          · exact .inr h1
      · rw [List.mem_append, List.mem_singleton]
        constructor
        · rintro ((h1 | h1) | h1)
          · exact .inl h1
          · exact .inr (.inl h1)
          · exact .inr (.inr h1)
        · rintro (h1 | h1 | h1)
          · exact .inl (.inl h1)
          · exact .inl (.inr h1)
          · exact .inr h1
  unfold dd
  rw [key]
  simp
theorem dd_le (l : List κ) : (dd l).length ≤ l.length := by
  have key : ∀ (m acc : List κ), (m.foldl ddAdd acc).length ≤ acc.length + m.length := by
    intro m
    induction m with
    | nil => intro acc; simp
    | cons a r ih =>
      intro acc
      rw [List.foldl_cons, List.length_cons]
      have h1 := ih (ddAdd acc a)
      have h2 : (ddAdd acc a).length ≤ acc.length + 1 := by unfold ddAdd; split <;> simp
      omega
  have := key l []
  simpa [dd] using this
theorem dd_nodup {l : List κ} (h : l.Nodup) : dd l = l := by
  have key : ∀ (m acc : List κ), (acc ++ m).Nodup → m.foldl ddAdd acc = acc ++ m := by
    intro m
    induction m with
    | nil => intro acc _; simp
    | cons a r ih =>
      intro acc hn
      have ha : a ∉ acc := fun q => (List.nodup_append.mp hn).2.2 a q a (by simp) rfl
      have e : ddAdd acc a = acc ++ [a] := by unfold ddAdd; rw [if_neg ha]
      rw [List.foldl_cons, e, ih (acc ++ [a]) (by simpa using hn)]
      simp
  have := key l [] (by simpa using h)
  simpa [dd] using this
theorem dd_lt {l : List κ} (h : ¬ l.Nodup) : (dd l).length < l.length := by
  have key : ∀ (m acc : List κ), acc.Nodup → ¬ (acc ++ m).Nodup → (m.foldl ddAdd acc).length < acc.length + m.length := by
    intro m
    induction m with
    | nil => intro acc ha hn; exact absurd (by simpa using ha) hn
    | cons a r ih =>
      intro acc ha hn
      rw [List.foldl_cons, List.length_cons]
      by_cases q : a ∈ acc
      · have e : ddAdd acc a = acc := by unfold ddAdd; rw [if_pos q]
        rw [e]
        have h1 : ∀ (m acc : List κ), (m.foldl ddAdd acc).length ≤ acc.length + m.length := by
          intro m
          induction m with
          | nil => intro acc; simp
          | cons a r ih =>
            intro acc
            rw [List.foldl_cons, List.length_cons]
            have h1 := ih (ddAdd acc a)
            have h2 : (ddAdd acc a).length ≤ acc.length + 1 := by unfold ddAdd; split <;> simp
            omega
        have := h1 r acc
        omega
      · have e : ddAdd acc a = acc ++ [a] := by unfold ddAdd; rw [if_neg q]
        rw [e]
        have hn2 : ¬ ((acc ++ [a]) ++ r).Nodup := by simpa using hn
        have ha2 : (acc ++ [a]).Nodup := List.nodup_append.mpr ⟨ha, by simp, fun x hx y hy e => q (by
          have : y = a := by simpa using hy
          rw [← this, ← e]; exact hx)⟩
        have := ih (acc ++ [a]) ha2 hn2
        rw [List.length_append, List.length_singleton] at this
        omega
  have := key l [] (by simp) (by simpa using h)
  simpa [dd] using this
end
section
variable {prog : Program} {w : World} {A : Around} {R : Result → Shared → Prop} {J : Addr} {fp wr : List Addr} {G : Array GenState → Array GenState → Prop} {n : Nat} {P : Nat → Value → Prop} {Wt : Nat → Shared → Prop}
theorem set_texts_loop (W : WalksS prog w A.in1 J fp wr G n P Wt) (Z : Addr) (out : Z ∉ fp) (ks : List Str) (hks : ks.length = n) (isk : ∀ i v, P i v → ∃ x t, ks[i]? = some x ∧ v = .str x t) (room : n + 1 < scanBound) :
    ∀ (d i : Nat) (s : Shared), n - i = d → i ≤ n → Wt i s → s.heap.SetOf (strKind prog w) Z (fun k => decide (k ∈ ks.take i)) (dd (ks.take i)).length →
      (∀ s', Moved (Z :: wr) G s s' → s'.heap.SetOf (strKind prog w) Z (fun k => decide (k ∈ ks)) (dd ks).length → R (.ok (.ret .none)) s') →
      codeAny (model prog w) A (.builtin "set.update.loop" ⟨[.ref Z, .ref J], []⟩) R s := by
  have zw : Z ∉ wr := fun q => out (W.sub _ q)
  have up : ∀ b ∈ wr, b ∈ Z :: wr := fun b q => List.mem_cons_of_mem _ q
  have stay : ∀ {s s' : Shared} {S : Str → Bool} {m : Nat}, Moved wr G s s' → s.heap.SetOf (strKind prog w) Z S m → s'.heap.SetOf (strKind prog w) Z S m := fun mv ⟨o, es, ep, t, e, r⟩ => ⟨o, es, ep, t, mv.heap Z _ zw e, r⟩
  intro d
  induction d with
  | zero =>
    intro i s hd hi st hz fin
    have e : i = n := by omega
    subst e
    refine codeAny_builtin PyProof.Rows.F.entry_set_update_loop ?_
    rw [Around.under_plainId PyProof.Rows.F.plain_set_update_loop _]
    refine wpAny_bind (m := pyNext (.ref J)) (W.done s _ _ st fun s1 mv => ?_)
    refine wpAny_pure (fin s1 (mv.mono up) ?_)
    have h := stay mv hz
    rw [List.take_of_length_le (Nat.le_of_eq hks)] at h
    exact h
  | succ d ih =>
    intro i s hd hi st hz fin
    have lt : i < n := by omega
    refine codeAny_builtin PyProof.Rows.F.entry_set_update_loop ?_
    rw [Around.under_plainId PyProof.Rows.F.plain_set_update_loop _]
    refine wpAny_bind (m := pyNext (.ref J)) (W.item i s _ _ lt st fun v s1 hp st1 mv => ?_)
    obtain ⟨x, t, ex, rfl⟩ := isk i v hp
    have h1 := stay mv hz
    refine wpAny_bind (m := holding [Value.str x t] (setAdd Z (.str x t))) (wpAny_holding ?_)
    unfold setAdd
    refine wpAny_holding (wpAny_bind ((strKind prog w).pyHash (k := x) (strKind_is _ _ _ _) ?_))
    have hl : (dd (ks.take i)).length + 1 < scanBound := by
      have q1 := dd_le (ks.take i)
      rw [List.length_take] at q1
      omega
    refine wpAny_setAddHashed_of (knd := strKind prog w) (s := { s1 with toks := s1.toks + 1 }) (strKind_is _ _ _ _) rfl h1 hl fun h' sb h2 => ?_
    have et : ks.take (i + 1) = ks.take i ++ [x] := by rw [List.take_add_one, ex]; rfl
    have h3 : h'.SetOf (strKind prog w) Z (fun k => decide (k ∈ ks.take (i + 1))) (dd (ks.take (i + 1))).length := by
      refine SetOf_congr h2 (fun k => ?_) ?_
      · rw [et]
        by_cases a : k ∈ ks.take i <;> by_cases b : k = x <;> simp [a, b]
      · rw [et, dd_snoc]
        unfold ddAdd
        by_cases a : x ∈ ks.take i
        · rw [if_pos ((dd_mem _ _).mpr a), if_pos (by simpa using a)]
        · rw [if_neg fun q => a ((dd_mem _ _).mp q), if_neg (by simpa using a), List.length_append, List.length_singleton]
    refine wpAny_pure ⟨plainId_quiet PyProof.Rows.F.plain_set_update_loop _, ih (i + 1) _ (by omega) lt (W.frame _ s1 _ _ st1 (Nat.le_succ _) fun b q o e => ?_) h3 fun s2 mv2 h4 => ?_⟩
    · rw [sb.2 b fun z : b = Z => out (by rw [← z]; exact q)]
      exact e
    · refine fin s2 (Moved.trans W.gtrans ((mv.mono up).then_heap (Nat.le_succ _) fun b o q e => ?_) mv2) h4
      rw [sb.2 b fun z : b = Z => q (by rw [z]; exact List.mem_cons_self)]
      exact e
end

section
variable {prog : Program} {w : World} {A : Around} {E : Value → Shared → Prop} {s : Shared}
/-- a fresh set object -/
abbrev newSetO (led : Bool) : Obj := { cls := .type "set", dict := none, data := .set #[] 0 (.fresh 0 0 led) }
theorem strs_is {us : List Value} {xs : List Str} (h : StrsAre us xs) : ∀ (i : Nat) (v : Value), us[i]? = some v → ∃ x t, xs[i]? = some x ∧ v = .str x t := by
  induction h with
  | nil => intro i v e; simp at e
  | cons n t hr ih =>
    intro i v e
    cases i with
    | zero => simp at e; exact ⟨n, t, rfl, e.symm⟩
    | succ i => exact ih i v (by simpa using e)
theorem strs_len {us : List Value} {xs : List Str} (h : StrsAre us xs) : us.length = xs.length := by
  induction h with
  | nil => rfl
  | cons n t hr ih => rw [List.length_cons, List.length_cons, ih]

/-- what stands behind set(l) -/
def SetBack (prog : Program) (w : World) (s : Shared) (ks : List Str) (s2 : Shared) : Prop := ∃ (h' : Heap) (tk : Nat), s2 = { s with heap := h', toks := tk } ∧ h'.SetOf (strKind prog w) s.heap.objs.size (fun k => decide (k ∈ ks)) (dd ks).length ∧
  ∀ b o, b < s.heap.objs.size → s.heap.get? b = some o → h'.get? b = some o
theorem set_filled {l : Addr} {items : Array Value} {ks : List Str} {led : Bool} {Q : Value → Shared → Prop} (hh : A.handled = none) (hl : s.heap.IsList l items) (hi : StrsAre items.toList ks) (room : items.size + 1 < scanBound)
    (fin : ∀ s2, SetBack prog w s ks s2 → Q .none s2) :
    codeAny (model prog w) A (.builtin "set.update.loop" ⟨[.ref s.heap.objs.size, .ref (s.heap.objs.size + 1)], []⟩) (wants Q E) { s with heap := (s.heap.push (newSetO led)).push { cls := .type "list_iterator", data := .fields #[.ref l, .int 0 0] } } := by
  obtain ⟨ol, hol, cl, nl, dl⟩ := id hl
  have lt : l < s.heap.objs.size := Heap.lt_size hol
  have e1 : (s.heap.push (newSetO led)).objs.size = s.heap.objs.size + 1 := Heap.size_push ..
  have hl1 : (s.heap.push (newSetO led)).IsList l items := ⟨ol, Heap.get?_push_of_some _ hol, cl, nl, dl⟩
  have n1 : l ≠ s.heap.objs.size + 1 := Nat.ne_of_lt (Nat.lt_succ_of_lt lt)
  have n2 : s.heap.objs.size ∉ [s.heap.objs.size + 1, l] := by
    intro q
    rcases List.mem_cons.mp q with q | q
    · exact absurd q (Nat.ne_of_lt (Nat.lt_succ_self _))
    · exact absurd (List.mem_singleton.mp q) (Nat.ne_of_gt lt)
  have hlen : ks.length = items.size := by rw [← strs_len hi]; simp
  have isk : ∀ (i : Nat) (v : Value), items[i]? = some v → ∃ x t, ks[i]? = some x ∧ v = .str x t := fun i v q => strs_is hi i v (by rw [Array.getElem?_toList]; exact q)
  have i0 : ((s.heap.push (newSetO led)).push { cls := .type "list_iterator", data := .fields #[.ref l, .int 0 0] }).IsListIter (s.heap.objs.size + 1) l 0 := ⟨_, by rw [← e1]; exact Heap.get?_push_size _ rfl, rfl, rfl⟩
  refine set_texts_loop ((Walks.list (A := A.in1) (show A.in1.handled = none from hh) (s.heap.objs.size + 1) l n1 items).toS) s.heap.objs.size n2 ks hlen isk room (items.size - 0) 0 _ (by omega) (Nat.zero_le _) ⟨i0, hl1.push _⟩ ?_ fun s2 mv hz => ?_
  · have hg : ((s.heap.push (newSetO led)).push { cls := .type "list_iterator", data := .fields #[.ref l, .int 0 0] }).get? s.heap.objs.size = some (newSetO led) := Heap.get?_push_of_some _ (Heap.get?_push_size _ rfl)
    exact SetOf_congr ((setObjOf_fresh (knd := strKind prog w) led).setOf hg (by unfold scanBound; omega)) (fun _ => by simp) rfl
  · obtain ⟨h2, g2, d2, tk2, os2⟩ := s2
    have eg : g2 = s.gens := mv.gens
    have ed : d2 = s.drawn := mv.drawn
    have eo : os2 = s.os := mv.os
    subst eg ed eo
    refine fin _ ⟨h2, tk2, rfl, hz, fun b o q e => mv.heap b o ?_ (Heap.get?_push_of_some _ (Heap.get?_push_of_some _ e))⟩
    intro m
    rcases List.mem_cons.mp m with m | m
    · exact absurd m (Nat.ne_of_lt q)
    · exact absurd (List.mem_singleton.mp m) (Nat.ne_of_lt (Nat.lt_succ_of_lt q))
theorem set_init_texts {l : Addr} {items : Array Value} {ks : List Str} {led : Bool} (hh : A.handled = none) (hl : s.heap.IsList l items) (hi : StrsAre items.toList ks) (room : items.size + 1 < scanBound) :
    codeAny (model prog w) A (.call (.builtin "set.__init__") ⟨[.ref s.heap.objs.size, .ref l], []⟩) (wants (fun r s2 => r = .none ∧ SetBack prog w s ks s2) E) { s with heap := s.heap.push (newSetO led) } := by
  have hS : (s.heap.push (newSetO led)).get? s.heap.objs.size = some (newSetO led) := Heap.get?_push_size _ rfl
  have hT : Shared.TypeIs { s with heap := s.heap.push (newSetO led) } (.ref s.heap.objs.size) "set" := ⟨_, hS, rfl⟩
  refine codeAny_call_builtin PySem.F.called_set.init.plain PySem.F.entry_set_init (check_set_init_1 hT ?_)
  obtain ⟨⟨oc, od, odt, osl⟩, hol, cl, nl, dl⟩ := id hl
  simp only at cl dl
  subst cl dl
  have hol' : (s.heap.push (newSetO led)).get? l = some ⟨.type "list", od, .seq items nl, osl⟩ := Heap.get?_push_of_some _ hol
  have t1 := PySem.F.sub_list_set
  have t2 := PySem.F.sub_list_frozenset
  have t3 : (Value.type "list" == Value.type "dict") = false := by decide
  have hl1 : (s.heap.push (newSetO led)).IsList l items := ⟨_, hol', rfl, nl, rfl⟩
  unfold Builtin.«set.__init__» noKeywords Builtin.Frozenset.updateFrom
  generalize hPI : pyIter = PI
  wp_walk
  subst hPI
  refine wpAny_pyIter_list hl1 (wpAny_bind (wpAny_runValue ?_))
  have e1 : (s.heap.push (newSetO led)).objs.size = s.heap.objs.size + 1 := Heap.size_push ..
  rw [e1]
  refine set_filled (led := led) hh hl hi room fun s2 z => ?_
  obtain ⟨h2, tk2, rfl, _⟩ := id z
  refine wpAny_pure ?_
  exact wpAny_pure ⟨rfl, z⟩
theorem call_set_texts {l : Addr} {items : Array Value} {ks : List Str} {Q : Value → Shared → Prop} (hh : A.handled = none) (hl : s.heap.IsList l items) (hi : StrsAre items.toList ks) (room : items.size + 1 < scanBound)
    (fin : ∀ s2, SetBack prog w s ks s2 → Q (.ref s.heap.objs.size) s2) : wpAny (model prog w) A (call (.type "set") [.ref l]) Q E s := by
  obtain ⟨c, tl, hmro⟩ := PySem.F.called_set.mro
  have m1 := PySem.F.called_set.made
  have m2 := PySem.F.called_set.sub
  refine wpAny_call (codeAny_of_tree ?_)
  show wpAny _ _ (callAny (.type "set") _) _ _ _
  refine wpAny_pure ⟨Code.quiet_builtin _ (by decide +kernel), codeAny_builtin PySem.F.entry_type_call ?_⟩
  rw [Around.under_plain (weight_type_call_type "set" [.ref l] []) rfl]
  have m3 := PySem.F.called_set.notType
  have m4 := PySem.F.called_set.canCreate
  have m5 := PySem.F.typeCall_set_1 (.ref l)
  repeat (any_goals (first | assumption | wp_step))
  refine codeAny_mono (code_set_new_1 (.ref l) (E := E) (Q₁ := fun obj s1 => ∃ led : Bool, obj = .ref s.heap.objs.size ∧ s1 = { s with heap := s.heap.push (newSetO led) }) fun led => ⟨led, rfl, rfl⟩) fun r s1 hr => ?_
  cases r with
  | error e => exact hr
  | ok fl =>
    cases fl with
    | ret obj =>
      obtain ⟨led, rfl, rfl⟩ := hr
      have hT : Shared.TypeIs { s with heap := s.heap.push (newSetO led) } (.ref s.heap.objs.size) "set" := ⟨_, Heap.get?_push_size _ rfl, rfl⟩
      have m6 := PySem.F.called_set.init.lookup
      have m7 := PySem.F.called_set.init.bind (.ref s.heap.objs.size)
      repeat (any_goals (first | assumption | wp_step))
      refine codeAny_mono (set_init_texts (E := E) (led := led) (s := s) (by first | exact hh | simp [hh]) hl hi room) fun r2 s2 hr2 => ?_
      cases r2 with
      | error e => exact hr2
      | ok fl2 =>
        cases fl2 with
        | ret r =>
          obtain ⟨rfl, z⟩ := hr2
          have f := fin s2 z
          obtain ⟨h2, tk2, rfl, z⟩ := z
          repeat (any_goals (first | assumption | wp_step))
        | _ => exact hr2.elim
    | _ => exact hr.elim
end

/-- len(set(xs)) -/
def tLenSetS (K : PySem.W.Frag) (ta : TE) : TE := fun σ H Q => ta σ H fun x H1 => ∃ (l : Addr) (xs : List Str), x = .ref l ∧ SqL K H1 l (xs.map V.str) ∧ xs.length ≤ 4000 ∧ Q (.int ((dd xs).length : Nat)) H1
theorem pe_lenSetS {X : Cx} {a : Expr} {ta : TE} {p p2 q pos : Pos} (hg : Gl X "len") (hm : X.mg "len" = none) (hg2 : Gl X "set") (hm2 : X.mg "set" = none) (ha : PE X a ta) (hc : X.calm = true := by rfl)
    (na : starEach [a] X.env = (false, eval a X.env) :: starEach [] X.env := by rfl) : PE X (.Call (.Name "len" p) [.Call (.Name "set" p2) [a] [] q] [] pos) (tLenSetS X.K ta) := by
  refine ⟨fun pins s σ H Q I h => ?_⟩
  refine Call_ (ld_blt I hg hm boot_len (PyProof.Rows.callWith_builtin1 (PyProof.Rows.args_cons ?_ rfl) rfl rfl))
  refine Call_ (ld_blt I hg2 hm2 boot_set (PyProof.Rows.callWith_type1 (PyProof.Rows.args_cons (thn (ha.run pins s σ H _ I h) fun v s1 ⟨x, H1, I1, r1, q1⟩ => PyProof.Rows.args_nil ?_) na) na rfl))
  obtain ⟨l, xs, rfl, hq, h4, q1⟩ := q1
  cases r1
  obtain ⟨its, r, pl, hz⟩ := I1.list hq
  have hi : StrsAre its xs := strsAre_of r
  have hsz : its.toArray.size = xs.length := by rw [List.size_toArray, strs_len hi]
  refine call_set_texts (I1.ok.hd hc) pl.isList (by simpa using hi) (by rw [hsz]; unfold scanBound; omega) fun s2 z => PyProof.Rows.args_nil ?_
  obtain ⟨h2, tk2, rfl, hS, hk⟩ := z
  obtain ⟨o, es, ep, t, ho, hex, hd, _, _, _, hf, hn⟩ := hS
  have I2 : L2.Inv X pins σ H1 { s1 with heap := h2, toks := tk2 } := I1.kept fun b o e => hk b o (Heap.lt_size e) e
  have h5 := dd_le xs
  exact call_len_set ho hex hd hf (by rw [hn]; omega) ⟨.int ((dd xs).length : Nat), H1, I2.tok _, ⟨_, by rw [hn]⟩, q1⟩
end Five
end
section
set_option autoImplicit false
namespace Five
/-! plain mathematics: rounds, faces, pieces -/
section
variable {α : Type} [DecidableEq α]
/-- who stands next behind x in a round -/
def nx (l : List α) (x : α) : α := ((l.dropWhile (fun y => decide (y ≠ x))).tail ++ l).headD x
theorem dropWhile_app {A B : List α} {x : α} (h : x ∉ A) : (A ++ x :: B).dropWhile (fun y => decide (y ≠ x)) = x :: B := by
  induction A with
  | nil => simp [List.dropWhile_cons]
  | cons a r ih =>
    have ha : a ≠ x := fun e => h (by rw [e]; exact List.mem_cons_self)
    rw [List.cons_append, List.dropWhile_cons, if_pos (by simpa using ha)]
    exact ih fun hm => h (List.mem_cons_of_mem _ hm)
theorem nx_app {A B : List α} {x : α} (h : x ∉ A) : nx (A ++ x :: B) x = (B ++ (A ++ [x])).headD x := by
  unfold nx
  rw [dropWhile_app h]
  cases B with
  | nil => cases A <;> simp
  | cons b r => simp
theorem mem_split {l : List α} {x : α} (h : x ∈ l) : ∃ A B, l = A ++ x :: B ∧ x ∉ A := by
  induction l with
  | nil => exact nomatch h
  | cons a r ih =>
    by_cases e : a = x
    · exact ⟨[], r, by rw [e]; rfl, by simp⟩
    · have hm : x ∈ r := by
        rcases List.mem_cons.mp h with q | q
        · exact absurd q.symm e
        · exact q
      obtain ⟨A, B, e1, e2⟩ := ih hm
      refine ⟨a :: A, B, by rw [e1]; rfl, ?_⟩
      intro q
      rcases List.mem_cons.mp q with q | q
      · exact e q.symm
      · exact e2 q
theorem headD_mem {l : List α} {x : α} (h : l ≠ []) : l.headD x ∈ l := by
  cases l with
  | nil => exact absurd rfl h
  | cons a r => simp
theorem nx_mem {l : List α} {x : α} (h : x ∈ l) : nx l x ∈ l := by
  obtain ⟨A, B, rfl, hA⟩ := mem_split h
  rw [nx_app hA]
  have := headD_mem (l := B ++ (A ++ [x])) (x := x) (by simp)
  rcases List.mem_append.mp this with q | q
  · exact List.mem_append_right _ (List.mem_cons_of_mem _ q)
  · rcases List.mem_append.mp q with q | q
    · exact List.mem_append_left _ q
    · rw [List.mem_singleton.mp q]; simp
theorem nx_rot {L M : List α} {x : α} (hn : (L ++ M).Nodup) (h : x ∈ L ++ M) : nx (M ++ L) x = nx (L ++ M) x := by
  have key : ∀ (L M : List α), (L ++ M).Nodup → x ∈ L → nx (M ++ L) x = nx (L ++ M) x := by
    intro L M hn h
    obtain ⟨A, B, rfl, hA⟩ := mem_split h
    have hxM : x ∉ M := fun q => (List.nodup_append.mp hn).2.2 x (by simp) x q rfl
    rw [show (A ++ x :: B) ++ M = A ++ x :: (B ++ M) by simp, nx_app hA]
    rw [show M ++ (A ++ x :: B) = (M ++ A) ++ x :: B by simp, nx_app (by simp [hxM, hA])]
    cases B <;> simp
  rcases List.mem_append.mp h with q | q
  · exact key L M hn q
  · refine (key M L ?_ q).symm
    exact (List.perm_append_comm.nodup_iff).mp hn
theorem nx_map {β : Type} [DecidableEq β] {g : α → β} {l : List α} {x : α} (h : x ∈ l) (hg : ∀ y ∈ l, g y = g x → y = x) : nx (l.map g) (g x) = g (nx l x) := by
  obtain ⟨A, B, rfl, hA⟩ := mem_split h
  rw [nx_app hA, List.map_append, List.map_cons, nx_app]
  · have e : B.map g ++ (A.map g ++ [g x]) = (B ++ (A ++ [x])).map g := by simp
    rw [e]
    cases hh : B ++ (A ++ [x]) with
    | nil => simp at hh
    | cons a r => rfl
  · intro q
    obtain ⟨y, hy, e⟩ := List.mem_map.mp q
    have := hg y (by simp [hy]) e
    rw [this] at hy
    exact hA hy
/-- k put in behind z -/
theorem nx_ins {A B : List α} {z k : α} (hn : (A ++ z :: B).Nodup) (hk : k ∉ A ++ z :: B) :
    nx (A ++ z :: k :: B) z = k ∧ nx (A ++ z :: k :: B) k = nx (A ++ z :: B) z ∧ ∀ x ∈ A ++ z :: B, x ≠ z → nx (A ++ z :: k :: B) x = nx (A ++ z :: B) x := by
  have hz : z ∉ A := fun q => (List.nodup_append.mp hn).2.2 z q z (by simp) rfl
  have hkA : k ∉ A := fun q => hk (by simp [q])
  have hkz : k ≠ z := fun q => hk (by simp [q])
  refine ⟨?_, ?_, fun x hx hxz => ?_⟩
  · rw [nx_app hz]
    simp
  · rw [show A ++ z :: k :: B = (A ++ [z]) ++ k :: B by simp, nx_app (by simp [hkA, hkz]), nx_app hz]
    cases B with
    | nil => cases A <;> simp
    | cons b r => simp
  · rcases List.mem_append.mp hx with q | q
    · obtain ⟨C, D, rfl, hC⟩ := mem_split q
      rw [show (C ++ x :: D) ++ z :: k :: B = C ++ x :: (D ++ z :: k :: B) by simp, nx_app hC, show (C ++ x :: D) ++ z :: B = C ++ x :: (D ++ z :: B) by simp, nx_app hC]
      cases D <;> simp
    · have q : x ∈ B := by
        rcases List.mem_cons.mp q with e | q
        · exact absurd e hxz
        · exact q
      have hxA : x ∉ A := fun w => (List.nodup_append.mp hn).2.2 x w x (by simp [q]) rfl
      have hxk : x ≠ k := fun e => hk (by rw [← e]; simp [q])
      obtain ⟨C, D, rfl, hC⟩ := mem_split q
      rw [show A ++ z :: k :: (C ++ x :: D) = (A ++ z :: k :: C) ++ x :: D by simp, nx_app (by simp [hxA, hxz, hxk, hC]), show A ++ z :: (C ++ x :: D) = (A ++ z :: C) ++ x :: D by simp, nx_app (by simp [hxA, hxz, hC])]
      cases D with
      | nil => cases A <;> simp
      | cons b r => simp
/-- k put in anywhere: behind some z -/
theorem nx_insert {P S : List α} {k : α} (hn : (P ++ S).Nodup) (hk : k ∉ P ++ S) (hne : P ++ S ≠ []) :
    ∃ z ∈ P ++ S, nx (P ++ k :: S) z = k ∧ nx (P ++ k :: S) k = nx (P ++ S) z ∧ ∀ x ∈ P ++ S, x ≠ z → nx (P ++ k :: S) x = nx (P ++ S) x := by
  by_cases hP : P = []
  · subst hP
    have hS : S ≠ [] := by simpa using hne
    obtain ⟨S', z, rfl⟩ : ∃ S' z, S = S' ++ [z] := ⟨S.dropLast, S.getLast hS, (List.dropLast_concat_getLast hS).symm⟩
    have hn' : (S' ++ z :: []).Nodup := by simpa using hn
    have hk' : k ∉ S' ++ z :: [] := by simpa using hk
    obtain ⟨h1, h2, h3⟩ := nx_ins hn' hk'
    have hn2 : (([k] : List α) ++ (S' ++ [z])).Nodup := by
      rw [List.singleton_append, List.nodup_cons]
      exact ⟨by simpa using hk, by simpa using hn⟩
    have rot : ∀ x, x ∈ k :: (S' ++ [z]) → nx ([] ++ k :: (S' ++ [z])) x = nx (S' ++ z :: [k]) x := by
      intro x hx
      have := nx_rot (x := x) hn2 (by simpa using hx)
      rw [show (S' ++ z :: [k]) = (S' ++ [z]) ++ [k] by simp, this]
      rfl
    refine ⟨z, by simp, ?_, ?_, fun x hx hxz => ?_⟩
    · rw [rot z (by simp), h1]
    · rw [rot k (by simp), h2]; rfl
    · rw [rot x (List.mem_cons_of_mem _ (by simpa using hx)), h3 x (by simpa using hx) hxz]; rfl
  · obtain ⟨P', z, rfl⟩ : ∃ P' z, P = P' ++ [z] := ⟨P.dropLast, P.getLast hP, (List.dropLast_concat_getLast hP).symm⟩
    have e1 : (P' ++ [z]) ++ S = P' ++ z :: S := by simp
    have e2 : (P' ++ [z]) ++ k :: S = P' ++ z :: k :: S := by simp
    rw [e1] at hn hk
    obtain ⟨h1, h2, h3⟩ := nx_ins hn hk
    rw [e1, e2]
    exact ⟨z, by simp, h1, h2, h3⟩
end
/-! ### ways of a function, and its cycles -/
section
variable {β : Type}
def Path (f : β → β) : β → List β → β → Prop
  | s, [], e => f s = e
  | s, t :: r, e => f s = t ∧ Path f t r e
def Cyc (f : β → β) : List β → Prop
  | [] => False
  | s :: r => Path f s r s
theorem path_app {f : β → β} : ∀ {s t e : β} {r1 r2 : List β}, Path f s (r1 ++ t :: r2) e ↔ Path f s r1 t ∧ Path f t r2 e
  | s, t, e, [], r2 => by simp [Path]
  | s, t, e, a :: r1, r2 => by
    simp only [List.cons_append, Path]
    rw [path_app (s := a)]
    exact ⟨fun ⟨h1, h2, h3⟩ => ⟨⟨h1, h2⟩, h3⟩, fun ⟨⟨h1, h2⟩, h3⟩ => ⟨h1, h2, h3⟩⟩
theorem path_congr {f g : β → β} : ∀ {s e : β} {r : List β}, (∀ x ∈ s :: r, f x = g x) → Path f s r e → Path g s r e
  | s, e, [], h, p => by
    have p : f s = e := p
    show g s = e
    rw [← h s (by simp)]
    exact p
  | s, e, a :: r, h, p => by
    obtain ⟨p1, p2⟩ := p
    refine ⟨?_, path_congr (fun x hx => h x (List.mem_cons_of_mem _ hx)) p2⟩
    rw [← h s (by simp)]
    exact p1
theorem cyc_rot {f : β → β} {A B : List β} (h : Cyc f (A ++ B)) : Cyc f (B ++ A) := by
  cases A with
  | nil => simpa using h
  | cons a A =>
    cases B with
    | nil => simpa using h
    | cons b B =>
      have h : Path f a (A ++ b :: B) a := h
      show Path f b (B ++ a :: A) b
      rw [path_app] at h ⊢
      exact ⟨h.2, h.1⟩
theorem path_mem {f : β → β} : ∀ {s e : β} {r : List β}, Path f s r e → ∀ x ∈ s :: r, f x = e ∨ f x ∈ r
  | s, e, [], p, x, hx => by
    have e1 : x = s := by simpa using hx
    rw [e1]
    exact .inl p
  | s, e, a :: r, p, x, hx => by
    rcases List.mem_cons.mp hx with e1 | hx
    · rw [e1, p.1]
      exact .inr (by simp)
    · rcases path_mem p.2 x hx with q | q
      · exact .inl q
      · exact .inr (List.mem_cons_of_mem _ q)
theorem cyc_step {f : β → β} {c : List β} (h : Cyc f c) {x : β} (hx : x ∈ c) : f x ∈ c := by
  cases c with
  | nil => exact nomatch hx
  | cons s r =>
    rcases path_mem (show Path f s r s from h) x hx with q | q
    · rw [q]; simp
    · exact List.mem_cons_of_mem _ q
theorem cyc_path {f : β → β} {c : List β} (h : Cyc f c) : ∀ {s e : β} {r : List β}, s ∈ c → Path f s r e → e ∈ c
  | s, e, [], hs, p => by
    have p : f s = e := p
    rw [← p]
    exact cyc_step h hs
  | s, e, a :: r, hs, p => cyc_path h (by rw [← p.1]; exact cyc_step h hs) p.2
theorem cyc_congr {f g : β → β} {c : List β} (h : ∀ x ∈ c, f x = g x) (p : Cyc f c) : Cyc g c := by
  cases c with
  | nil => exact p
  | cons s r => exact path_congr h p
theorem cyc_ne {f : β → β} {c : List β} (h : Cyc f c) : c ≠ [] := by
  intro e
  rw [e] at h
  exact h
theorem path_map {γ : Type} {f : β → β} {f' : γ → γ} {g : β → γ} : ∀ {s e : β} {r : List β}, (∀ x ∈ s :: r, f' (g x) = g (f x)) → Path f s r e → Path f' (g s) (r.map g) (g e)
  | s, e, [], h, p => by
    show f' (g s) = g e
    rw [h s (by simp), show f s = e from p]
  | s, e, a :: r, h, p => by
    refine ⟨?_, path_map (fun x hx => h x (List.mem_cons_of_mem _ hx)) p.2⟩
    rw [h s (by simp), p.1]
theorem cyc_map {γ : Type} {f : β → β} {f' : γ → γ} {g : β → γ} {c : List β} (h : ∀ x ∈ c, f' (g x) = g (f x)) (p : Cyc f c) : Cyc f' (c.map g) := by
  cases c with
  | nil => exact p
  | cons s r => exact path_map h p
end
/-! ### webs -/
section
variable {α : Type} [DecidableEq α]
def fs (rd : α → List α) (s : α × α) : α × α := (s.2, nx (rd s.2) s.1)
def darts (vs : List α) (rd : α → List α) : List (α × α) := vs.flatMap fun v => (rd v).map fun u => (v, u)
structure Wf (vs : List α) (rd : α → List α) : Prop where
  nd : vs.Nodup
  rn : ∀ v ∈ vs, (rd v).Nodup
  ties : ∀ v ∈ vs, ∀ u ∈ rd v, u ∈ vs ∧ u ≠ v ∧ v ∈ rd u
/-- the parts of a list of ways that touch places of c -/
def nfc (cs : List (List (α × α))) (c : List α) : Nat := cs.countP fun f => f.any fun s => decide (s.1 ∈ c)
def nlone (rd : α → List α) (c : List α) : Nat := c.countP fun v => (rd v).isEmpty
def deg (rd : α → List α) (c : List α) : Nat := (c.map fun v => (rd v).length).sum
structure FD (vs : List α) (rd : α → List α) (cs : List (List (α × α))) : Prop where
  perm : cs.flatten.Perm (darts vs rd)
  cyc : ∀ c ∈ cs, Cyc (fs rd) c
structure CD (vs : List α) (rd : α → List α) (ps : List (List α)) : Prop where
  perm : ps.flatten.Perm vs
  shut : ∀ c ∈ ps, ∀ v ∈ c, ∀ u ∈ rd v, u ∈ c
  conn : ∀ c ∈ ps, c ≠ [] ∧ ∀ S : α → Prop, (∀ v u, v ∈ c → S v → u ∈ rd v → S u) → ∀ v ∈ c, S v → ∀ u ∈ c, S u
def Flat (vs : List α) (rd : α → List α) : Prop := ∃ cs ps, FD vs rd cs ∧ CD vs rd ps ∧ ∀ c ∈ ps, 2 * c.length + 2 * (nfc cs c + nlone rd c) = deg rd c + 4
structure Pl (vs : List α) (rd : α → List α) : Prop where
  wf : Wf vs rd
  flat : Flat vs rd
theorem mem_darts {vs : List α} {rd : α → List α} {s : α × α} : s ∈ darts vs rd ↔ s.1 ∈ vs ∧ s.2 ∈ rd s.1 := by
  unfold darts
  rw [List.mem_flatMap]
  constructor
  · rintro ⟨v, hv, h⟩
    obtain ⟨u, hu, rfl⟩ := List.mem_map.mp h
    exact ⟨hv, hu⟩
  · rintro ⟨h1, h2⟩
    exact ⟨s.1, h1, List.mem_map.mpr ⟨s.2, h2, rfl⟩⟩
theorem Wf.fs_mem {vs : List α} {rd : α → List α} (w : Wf vs rd) {s : α × α} (h : s ∈ darts vs rd) : fs rd s ∈ darts vs rd := by
  rw [mem_darts] at h ⊢
  obtain ⟨h1, h2, h3⟩ := w.ties s.1 h.1 s.2 h.2
  exact ⟨h1, nx_mem h3⟩
theorem darts_nodup {rd : α → List α} : ∀ {vs : List α}, vs.Nodup → (∀ v ∈ vs, (rd v).Nodup) → (darts vs rd).Nodup
  | [], _, _ => by simp [darts]
  | v :: r, hn, hr => by
    show ((rd v).map (fun u => (v, u)) ++ darts r rd).Nodup
    obtain ⟨h1, h2⟩ := List.nodup_cons.mp hn
    refine List.nodup_append.mpr ⟨?_, darts_nodup h2 fun u hu => hr u (List.mem_cons_of_mem _ hu), fun a ha b hb e => ?_⟩
    · refine List.Pairwise.map _ (fun a b hab e => hab ?_) (hr v (by simp))
      exact (Prod.mk.inj e).2
    · obtain ⟨u, _, rfl⟩ := List.mem_map.mp ha
      rw [← e, mem_darts] at hb
      exact h1 hb.1
end
end Five
end
section
set_option autoImplicit false
namespace Five
section
variable {α : Type} [DecidableEq α]
theorem path_first {β : Type} {f f' : β → β} {s s' e : β} {r : List β} (h0 : f' s' = f s) (h : ∀ x ∈ r, f x = f' x) (p : Path f s r e) : Path f' s' r e := by
  cases r with
  | nil =>
    show f' s' = e
    rw [h0]
    exact p
  | cons t r =>
    refine ⟨by rw [h0]; exact p.1, path_congr h p.2⟩
theorem perm_head {β : Type} [DecidableEq β] {l : List β} {x : β} (h : x ∈ l) : ∃ r, l.Perm (x :: r) := by
  obtain ⟨A, B, rfl, _⟩ := mem_split h
  exact ⟨A ++ B, List.perm_middle⟩
theorem darts_congr {vs : List α} {rd rd' : α → List α} (h : ∀ v ∈ vs, rd' v = rd v) : darts vs rd' = darts vs rd := by
  unfold darts
  induction vs with
  | nil => rfl
  | cons v r ih =>
    rw [List.flatMap_cons, List.flatMap_cons, h v (by simp), ih fun u hu => h u (List.mem_cons_of_mem _ hu)]
theorem darts_app {vs ws : List α} {rd : α → List α} : darts (vs ++ ws) rd = darts vs rd ++ darts ws rd := by
  unfold darts
  rw [List.flatMap_append]
theorem darts_ins {vs : List α} {rd rd' : α → List α} {o k : α} (hn : vs.Nodup) (ho : o ∈ vs) (h1 : (rd' o).Perm (k :: rd o)) (h2 : ∀ v ∈ vs, v ≠ o → rd' v = rd v) : (darts vs rd').Perm ((o, k) :: darts vs rd) := by
  obtain ⟨A, B, rfl, hA⟩ := mem_split ho
  have hB : o ∉ B := fun q => by
    have := (List.nodup_append.mp hn).2.1
    exact (List.nodup_cons.mp this).1 q
  have eA : darts A rd' = darts A rd := darts_congr fun v hv => h2 v (by simp [hv]) fun e => hA (by rw [← e]; exact hv)
  have eB : darts B rd' = darts B rd := darts_congr fun v hv => h2 v (by simp [hv]) fun e => hB (by rw [← e]; exact hv)
  rw [darts_app, darts_app, eA]
  have eo : ∀ r : α → List α, darts (o :: B) r = (r o).map (fun u => (o, u)) ++ darts B r := fun r => rfl
  rw [eo, eo, eB]
  have p1 : ((rd' o).map (fun u => (o, u))).Perm ((o, k) :: (rd o).map (fun u => (o, u))) := by
    have := h1.map (fun u => (o, u))
    simpa using this
  refine (List.Perm.append_left _ (List.Perm.append_right _ p1)).trans ?_
  exact List.perm_middle
theorem fd_in {vs : List α} {rd : α → List α} {cs : List (List (α × α))} (h : FD vs rd cs) {c : List (α × α)} (hc : c ∈ cs) {s : α × α} (hs : s ∈ c) : s ∈ darts vs rd :=
  h.perm.mem_iff.mp (List.mem_flatten.mpr ⟨c, hc, hs⟩)
theorem fd_find {vs : List α} {rd : α → List α} {cs : List (List (α × α))} (h : FD vs rd cs) {s : α × α} (hs : s ∈ darts vs rd) : ∃ c ∈ cs, s ∈ c := by
  obtain ⟨c, h1, h2⟩ := List.mem_flatten.mp (h.perm.mem_iff.mpr hs)
  exact ⟨c, h1, h2⟩
theorem nfc_perm {cs cs' : List (List (α × α))} (h : cs.Perm cs') (c : List α) : nfc cs c = nfc cs' c := h.countP_eq _
/-- one way may be turned to begin with any of its steps, and stand first -/
theorem fd_turn {vs : List α} {rd : α → List α} {cs : List (List (α × α))} (h : FD vs rd cs) {s : α × α} (hs : s ∈ darts vs rd) :
    ∃ T rest, FD vs rd ((s :: T) :: rest) ∧ ∀ c, nfc ((s :: T) :: rest) c = nfc cs c := by
  obtain ⟨c, hc, hsc⟩ := fd_find h hs
  obtain ⟨rest, hp⟩ := perm_head hc
  obtain ⟨X, Y, rfl, _⟩ := mem_split hsc
  refine ⟨Y ++ X, rest, ⟨?_, fun d hd => ?_⟩, fun d => ?_⟩
  · have h1 : ((s :: (Y ++ X)) :: rest).flatten.Perm ((X ++ s :: Y) :: rest).flatten := by
      rw [List.flatten_cons, List.flatten_cons]
      refine List.Perm.append_right _ ?_
      have := List.perm_append_comm (l₁ := X) (l₂ := s :: Y)
      exact this.symm
    exact (h1.trans hp.symm.flatten).trans h.perm
  · rcases List.mem_cons.mp hd with e | hd
    · rw [e]
      exact cyc_rot (A := X) (B := s :: Y) (h.cyc _ hc)
    · exact h.cyc d (hp.mem_iff.mpr (List.mem_cons_of_mem _ hd))
  · rw [nfc_perm hp d]
    unfold nfc
    rw [List.countP_cons, List.countP_cons]
    have e : ((s :: (Y ++ X)).any fun s => decide (s.1 ∈ d)) = ((X ++ s :: Y).any fun s => decide (s.1 ∈ d)) := by
      simp only [List.any_cons, List.any_append]
      cases (X.any fun s => decide (s.1 ∈ d)) <;> cases (Y.any fun s => decide (s.1 ∈ d)) <;> cases (decide (s.1 ∈ d)) <;> rfl
    rw [e]
/-- a way of steps within a piece -/
theorem path_shut {vs : List α} {rd : α → List α} {c : List α} (hsh : ∀ v ∈ c, ∀ u ∈ rd v, u ∈ c) : ∀ {s e : α × α} {r : List (α × α)}, (∀ x ∈ s :: r, x ∈ darts vs rd) → s.1 ∈ c → Path (fs rd) s r e → (∀ x ∈ s :: r, x.1 ∈ c) ∧ e.1 ∈ c
  | s, e, [], hd, hs, p => by
    have p : fs rd s = e := p
    have h2 := (mem_darts.mp (hd s (by simp))).2
    refine ⟨fun x hx => ?_, ?_⟩
    · have : x = s := by simpa using hx
      rw [this]; exact hs
    · rw [← p]
      exact hsh s.1 hs s.2 h2
  | s, e, a :: r, hd, hs, p => by
    have h2 := (mem_darts.mp (hd s (by simp))).2
    have ha : a.1 ∈ c := by
      rw [← p.1]
      exact hsh s.1 hs s.2 h2
    obtain ⟨h3, h4⟩ := path_shut (vs := vs) hsh (fun x hx => hd x (List.mem_cons_of_mem _ hx)) ha p.2
    refine ⟨fun x hx => ?_, h4⟩
    rcases List.mem_cons.mp hx with q | q
    · rw [q]; exact hs
    · exact h3 x q
theorem cyc_shut {vs : List α} {rd : α → List α} {c : List α} (hsh : ∀ v ∈ c, ∀ u ∈ rd v, u ∈ c) {w : List (α × α)} (hd : ∀ x ∈ w, x ∈ darts vs rd) (hw : Cyc (fs rd) w) {s : α × α} (hs : s ∈ w) (h1 : s.1 ∈ c) : ∀ x ∈ w, x.1 ∈ c := by
  obtain ⟨X, Y, rfl, _⟩ := mem_split hs
  have h := cyc_rot (A := X) (B := s :: Y) hw
  obtain ⟨h3, _⟩ := path_shut (vs := vs) (s := s) (e := s) (r := Y ++ X) hsh (fun x hx => hd x (by simp at hx ⊢; rcases hx with q | q | q <;> simp [q])) h1 h
  intro x hx
  exact h3 x (by simp at hx ⊢; rcases hx with q | q | q <;> simp [q])
theorem nodup_flatten_apart {β : Type} {c d : List β} {rest : List (List β)} (h : (c :: rest).flatten.Nodup) (hd : d ∈ rest) {x : β} (hx : x ∈ c) : x ∉ d := by
  rw [List.flatten_cons] at h
  intro q
  exact (List.nodup_append.mp h).2.2 x hx x (List.mem_flatten.mpr ⟨d, hd, q⟩) rfl
theorem deg_congr {rd rd' : α → List α} {c : List α} (h : ∀ v ∈ c, rd' v = rd v) : deg rd' c = deg rd c := by
  unfold deg
  rw [List.map_congr_left fun v hv => by rw [h v hv]]
theorem nlone_congr {rd rd' : α → List α} {c : List α} (h : ∀ v ∈ c, rd' v = rd v) : nlone rd' c = nlone rd c := by
  unfold nlone
  exact List.countP_congr fun v hv => by rw [h v hv]
theorem fs_congr {rd rd' : α → List α} {s : α × α} (h : rd' s.2 = rd s.2) : fs rd' s = fs rd s := by
  unfold fs
  rw [h]
theorem nfc_out {cs : List (List (α × α))} {c : List α} (h : ∀ w ∈ cs, ∀ s ∈ w, s.1 ∉ c) : nfc cs c = 0 := by
  unfold nfc
  rw [List.countP_eq_zero]
  intro w hw
  simp only [List.any_eq_true, decide_eq_true_eq, not_exists, not_and]
  exact fun s hs => h w hw s hs
/-- a place by itself -/
theorem Pl.lone {vs : List α} {rd rd' : α → List α} {k : α} (h : Pl vs rd) (hk : k ∉ vs) (h1 : rd' k = []) (h2 : ∀ v ∈ vs, rd' v = rd v) : Pl (vs ++ [k]) rd' := by
  obtain ⟨cs, ps, F, Cd, eu⟩ := h.flat
  have hsub : ∀ c ∈ ps, ∀ v ∈ c, v ∈ vs := fun c hc v hv => Cd.perm.mem_iff.mp (List.mem_flatten.mpr ⟨c, hc, hv⟩)
  have hdk : darts (vs ++ [k]) rd' = darts vs rd := by
    rw [darts_app, darts_congr h2]
    simp [darts, h1]
  refine ⟨⟨?_, fun v hv => ?_, fun v hv u hu => ?_⟩, cs, ps ++ [[k]], ⟨?_, fun c hc => ?_⟩, ⟨?_, fun c hc v hv u hu => ?_, fun c hc => ?_⟩, fun c hc => ?_⟩
  · refine List.nodup_append.mpr ⟨h.wf.nd, by simp, fun a ha b hb e => ?_⟩
    have : b = k := by simpa using hb
    exact hk (by rw [← this, ← e]; exact ha)
  · rcases List.mem_append.mp hv with q | q
    · rw [h2 v q]; exact h.wf.rn v q
    · rw [List.mem_singleton.mp q, h1]; simp
  · rcases List.mem_append.mp hv with q | q
    · rw [h2 v q] at hu
      obtain ⟨a, b, c⟩ := h.wf.ties v q u hu
      exact ⟨by simp [a], b, by rw [h2 u a]; exact c⟩
    · rw [List.mem_singleton.mp q, h1] at hu
      exact nomatch hu
  · rw [hdk]; exact F.perm
  · refine cyc_congr (fun x hx => ?_) (F.cyc c hc)
    have := mem_darts.mp (fd_in F hc hx)
    exact (fs_congr (h2 x.2 (h.wf.ties x.1 this.1 x.2 this.2).1)).symm
  · rw [List.flatten_append]
    exact List.Perm.append_right _ Cd.perm
  · rcases List.mem_append.mp hc with q | q
    · rw [h2 v (hsub c q v hv)] at hu
      exact Cd.shut c q v hv u hu
    · have e := List.mem_singleton.mp q
      subst e
      rw [List.mem_singleton.mp hv, h1] at hu
      exact nomatch hu
  · rcases List.mem_append.mp hc with q | q
    · refine ⟨(Cd.conn c q).1, fun S hS => (Cd.conn c q).2 S fun v u hv hs hu => hS v u hv hs (by rw [h2 v (hsub c q v hv)]; exact hu)⟩
    · have e := List.mem_singleton.mp q
      subst e
      refine ⟨by simp, fun S _ v hv hs u hu => ?_⟩
      rw [List.mem_singleton.mp hu, ← List.mem_singleton.mp hv]
      exact hs
  · rcases List.mem_append.mp hc with q | q
    · rw [deg_congr fun v hv => h2 v (hsub c q v hv), nlone_congr fun v hv => h2 v (hsub c q v hv)]
      exact eu c q
    · have e := List.mem_singleton.mp q
      subst e
      have e0 : nfc cs [k] = 0 := nfc_out fun w hw s hs hm => by
        have := (mem_darts.mp (fd_in F hw hs)).1
        rw [List.mem_singleton.mp hm] at this
        exact hk this
      rw [e0]
      simp [nlone, deg, h1]
end
end Five
end
section
set_option autoImplicit false
namespace Five
section
variable {α : Type} [DecidableEq α]
theorem nfc_cons {w : List (α × α)} {cs : List (List (α × α))} {c : List α} : nfc (w :: cs) c = nfc cs c + if (w.any fun s => decide (s.1 ∈ c)) = true then 1 else 0 := by
  unfold nfc
  rw [List.countP_cons]
theorem nfc_same {cs : List (List (α × α))} {c d : List α} (h : ∀ w ∈ cs, ∀ s ∈ w, (s.1 ∈ c ↔ s.1 ∈ d)) : nfc cs c = nfc cs d := by
  unfold nfc
  refine List.countP_congr fun w hw => ?_
  simp only [List.any_eq_true, decide_eq_true_eq]
  exact ⟨fun ⟨s, a, b⟩ => ⟨s, a, (h w hw s a).mp b⟩, fun ⟨s, a, b⟩ => ⟨s, a, (h w hw s a).mpr b⟩⟩
theorem any_yes {w : List (α × α)} {c : List α} {s : α × α} (hs : s ∈ w) (h : s.1 ∈ c) : (w.any fun s => decide (s.1 ∈ c)) = true :=
  List.any_eq_true.mpr ⟨s, hs, by simpa using h⟩
theorem any_no {w : List (α × α)} {c : List α} (h : ∀ s ∈ w, s.1 ∉ c) : (w.any fun s => decide (s.1 ∈ c)) = false := by
  rw [Bool.eq_false_iff]
  intro q
  obtain ⟨s, hs, e⟩ := List.any_eq_true.mp q
  exact h s hs (by simpa using e)
theorem Pl.leaf {vs : List α} {rd rd' : α → List α} {k o : α} {P S : List α} (h : Pl vs rd) (hk : k ∉ vs) (ho : o ∈ vs) (h1 : rd' k = [o]) (h2 : rd o = P ++ S) (h3 : rd' o = P ++ k :: S) (h4 : ∀ v ∈ vs, v ≠ o → rd' v = rd v) : Pl (vs ++ [k]) rd' := by
  obtain ⟨cs, ps, F, Cd, eu⟩ := h.flat
  have hsub : ∀ c ∈ ps, ∀ v ∈ c, v ∈ vs := fun c hc v hv => Cd.perm.mem_iff.mp (List.mem_flatten.mpr ⟨c, hc, hv⟩)
  have hko : k ≠ o := fun e => hk (by rw [e]; exact ho)
  have hkr : ∀ v ∈ vs, k ∉ rd v := fun v hv q => hk (h.wf.ties v hv k q).1
  have hp3 : (rd' o).Perm (k :: rd o) := by
    rw [h3, h2]
    exact List.perm_middle
  have hmo : ∀ u, u ∈ rd' o ↔ u = k ∨ u ∈ rd o := fun u => by
    rw [hp3.mem_iff, List.mem_cons]
  -- the rounds
  have wf : Wf (vs ++ [k]) rd' := by
    refine ⟨?_, fun v hv => ?_, fun v hv u hu => ?_⟩
    · refine List.nodup_append.mpr ⟨h.wf.nd, by simp, fun a ha b hb e => ?_⟩
      have : b = k := by simpa using hb
      exact hk (by rw [← this, ← e]; exact ha)
    · rcases List.mem_append.mp hv with q | q
      · by_cases e : v = o
        · rw [e]
          refine hp3.nodup_iff.mpr (List.nodup_cons.mpr ⟨hkr o ho, h.wf.rn o ho⟩)
        · rw [h4 v q e]; exact h.wf.rn v q
      · rw [List.mem_singleton.mp q, h1]; simp
    · have old : ∀ v ∈ vs, ∀ u ∈ rd v, u ∈ vs ++ [k] ∧ u ≠ v ∧ v ∈ rd' u := fun v hv u hu => by
        obtain ⟨a, b, c⟩ := h.wf.ties v hv u hu
        refine ⟨by simp [a], b, ?_⟩
        by_cases e : u = o
        · rw [e] at c ⊢
          exact (hmo v).mpr (.inr c)
        · rw [h4 u a e]; exact c
      rcases List.mem_append.mp hv with q | q
      · by_cases e : v = o
        · rw [e] at hu ⊢
          rcases (hmo u).mp hu with e2 | hu
          · rw [e2]
            exact ⟨by simp, hko, by rw [h1]; simp⟩
          · exact old o ho u hu
        · rw [h4 v q e] at hu
          exact old v q u hu
      · rw [List.mem_singleton.mp q] at hu ⊢
        rw [h1] at hu
        rw [List.mem_singleton.mp hu]
        exact ⟨by simp [ho], fun e => hko e.symm, (hmo k).mpr (.inl rfl)⟩
  -- the pieces
  obtain ⟨c0, hc0, hoc⟩ := List.mem_flatten.mp (Cd.perm.mem_iff.mpr ho)
  obtain ⟨rest, hpr⟩ := perm_head hc0
  have hnd : (c0 :: rest).flatten.Nodup := by
    refine (hpr.flatten.nodup_iff).mp ?_
    exact Cd.perm.nodup_iff.mpr h.wf.nd
  have hin : ∀ c ∈ rest, c ∈ ps := fun c hc => hpr.mem_iff.mpr (List.mem_cons_of_mem _ hc)
  have hno : ∀ c ∈ rest, o ∉ c := fun c hc => nodup_flatten_apart hnd hc hoc
  have hrest : ∀ c ∈ rest, ∀ v ∈ c, rd' v = rd v := fun c hc v hv => h4 v (hsub c (hin c hc) v hv) fun e => hno c hc (by rw [← e]; exact hv)
  have cd : CD (vs ++ [k]) rd' ((k :: c0) :: rest) := by
    refine ⟨?_, fun c hc v hv u hu => ?_, fun c hc => ?_⟩
    · have e1 : ((k :: c0) :: rest).flatten = k :: (c0 :: rest).flatten := by simp
      rw [e1]
      have p2 : (c0 :: rest).flatten.Perm vs := hpr.symm.flatten.trans Cd.perm
      refine (p2.cons k).trans ?_
      exact (List.perm_append_comm (l₁ := [k]) (l₂ := vs))
    · rcases List.mem_cons.mp hc with e | hc
      · rw [e] at hv ⊢
        rcases List.mem_cons.mp hv with e2 | hv
        · rw [e2, h1] at hu
          rw [List.mem_singleton.mp hu]
          exact List.mem_cons_of_mem _ hoc
        · by_cases e3 : v = o
          · rw [e3] at hu
            rcases (hmo u).mp hu with e4 | hu
            · rw [e4]; exact List.mem_cons_self
            · exact List.mem_cons_of_mem _ (Cd.shut c0 hc0 o hoc u hu)
          · rw [h4 v (hsub c0 hc0 v hv) e3] at hu
            exact List.mem_cons_of_mem _ (Cd.shut c0 hc0 v hv u hu)
      · rw [hrest c hc v hv] at hu
        exact Cd.shut c (hin c hc) v hv u hu
    · rcases List.mem_cons.mp hc with e | hc
      · rw [e]
        refine ⟨by simp, fun S hS => ?_⟩
        have cl : ∀ v u, v ∈ c0 → S v → u ∈ rd v → S u := fun v u hv hs hu => hS v u (List.mem_cons_of_mem _ hv) hs (by
          by_cases e3 : v = o
          · rw [e3] at hu ⊢
            exact (hmo u).mpr (.inr hu)
          · rw [h4 v (hsub c0 hc0 v hv) e3]; exact hu)
        have all : ∀ v ∈ c0, S v → ∀ u ∈ k :: c0, S u := fun v hv hs u hu => by
          have h5 := (Cd.conn c0 hc0).2 S cl v hv hs
          rcases List.mem_cons.mp hu with e4 | hu
          · rw [e4]
            exact hS o k (List.mem_cons_of_mem _ hoc) (h5 o hoc) ((hmo k).mpr (.inl rfl))
          · exact h5 u hu
        intro v hv hs
        rcases List.mem_cons.mp hv with e4 | hv
        · rw [e4] at hs
          exact all o hoc (hS k o List.mem_cons_self hs (by rw [h1]; simp))
        · exact all v hv hs
      · refine ⟨(Cd.conn c (hin c hc)).1, fun S hS => (Cd.conn c (hin c hc)).2 S fun v u hv hs hu => hS v u hv hs (by rw [hrest c hc v hv]; exact hu)⟩
  have hdk : (darts (vs ++ [k]) rd').Perm ((o, k) :: (k, o) :: darts vs rd) := by
    rw [darts_app]
    have e1 : darts [k] rd' = [(k, o)] := by simp [darts, h1]
    rw [e1]
    refine ((darts_ins (k := k) h.wf.nd ho hp3 h4).append_right _).trans ?_
    exact (List.perm_append_comm (l₁ := darts vs rd) (l₂ := [(k, o)])).cons (o, k)
  have dart_ne : ∀ {s : α × α}, s ∈ darts vs rd → s.1 ≠ k ∧ s.2 ∈ vs ∧ s.1 ∈ rd s.2 := fun {s} hs => by
    obtain ⟨a, b⟩ := mem_darts.mp hs
    obtain ⟨c, d, e⟩ := h.wf.ties s.1 a s.2 b
    exact ⟨fun q => hk (by rw [← q]; exact a), c, e⟩
  have degk : deg rd' (k :: c0) = deg rd c0 + 2 := by
    have : ∀ c : List α, c.Nodup → o ∈ c → (∀ v ∈ c, v ∈ vs) → deg rd' c = deg rd c + 1 := by
      intro c hn hoc hs
      obtain ⟨A, B, rfl, hA⟩ := mem_split hoc
      have hB : o ∉ B := (List.nodup_cons.mp (List.nodup_append.mp hn).2.1).1
      have eA : deg rd' A = deg rd A := deg_congr fun v hv => h4 v (hs v (by simp [hv])) fun e => hA (by rw [← e]; exact hv)
      have eB : deg rd' B = deg rd B := deg_congr fun v hv => h4 v (hs v (by simp [hv])) fun e => hB (by rw [← e]; exact hv)
      have eo : (rd' o).length = (rd o).length + 1 := by rw [hp3.length_eq, List.length_cons]
      unfold deg at eA eB ⊢
      simp only [List.map_append, List.map_cons, List.sum_append, List.sum_cons, eA, eB, eo]
      omega
    have hnc : c0.Nodup := by
      rw [List.flatten_cons] at hnd
      exact (List.nodup_append.mp hnd).1
    have e1 := this c0 hnc hoc (hsub c0 hc0)
    show ((k :: c0).map fun v => (rd' v).length).sum = _
    rw [List.map_cons, List.sum_cons, h1]
    unfold deg at e1 ⊢
    simp only [List.length_singleton]
    omega
  have hnc : c0.Nodup := by
    rw [List.flatten_cons] at hnd
    exact (List.nodup_append.mp hnd).1
  -- the ways
  by_cases hemp : rd o = []
  · -- a place without ties
    have hP : P = [] ∧ S = [] := by rw [hemp] at h2; exact List.append_eq_nil_iff.mp h2.symm
    have ho' : rd' o = [k] := by rw [h3, hP.1, hP.2]; rfl
    have f1 : fs rd' (k, o) = (o, k) := by unfold fs; rw [ho']; simp [nx, List.dropWhile_cons]
    have f2 : fs rd' (o, k) = (k, o) := by unfold fs; rw [h1]; simp [nx, List.dropWhile_cons]
    refine ⟨wf, [(k, o), (o, k)] :: cs, (k :: c0) :: rest, ⟨?_, fun c hc => ?_⟩, cd, fun c hc => ?_⟩
    · refine List.Perm.trans ?_ hdk.symm
      rw [List.flatten_cons]
      refine (List.Perm.append_left _ F.perm).trans ?_
      exact List.Perm.swap (o, k) (k, o) _
    · rcases List.mem_cons.mp hc with e | hc
      · rw [e]
        exact ⟨f1, f2⟩
      · refine cyc_congr (fun x hx => ?_) (F.cyc c hc)
        obtain ⟨a, b, d⟩ := dart_ne (fd_in F hc hx)
        refine (fs_congr (h4 x.2 b fun e => ?_)).symm
        rw [e, hemp] at d
        exact nomatch d
    · rcases List.mem_cons.mp hc with e | hc
      · rw [e, degk, nfc_cons, any_yes (s := (k, o)) (by simp) (by simp), if_pos rfl]
        have e1 : nfc cs (k :: c0) = nfc cs c0 := nfc_same fun w hw s hs => by
          have := (dart_ne (fd_in F hw hs)).1
          simp [this]
        have e2 : nlone rd' (k :: c0) + 1 = nlone rd c0 := by
          obtain ⟨A, B, rfl, hA⟩ := mem_split hoc
          have hB : o ∉ B := (List.nodup_cons.mp (List.nodup_append.mp hnc).2.1).1
          have eA : nlone rd' A = nlone rd A := nlone_congr fun v hv => h4 v (hsub _ hc0 v (by simp [hv])) fun e => hA (by rw [← e]; exact hv)
          have eB : nlone rd' B = nlone rd B := nlone_congr fun v hv => h4 v (hsub _ hc0 v (by simp [hv])) fun e => hB (by rw [← e]; exact hv)
          unfold nlone at eA eB ⊢
          simp only [List.countP_cons, List.countP_append, eA, eB, h1, ho', hemp]
          simp
          omega
        have e3 := eu c0 hc0
        rw [e1, List.length_cons]
        omega
      · have e0 := eu c (hin c hc)
        rw [deg_congr (hrest c hc), nlone_congr (hrest c hc), nfc_cons, any_no, if_neg (by simp)]
        · exact e0
        · intro s hs
          have hkc : k ∉ c := fun q => hk (hsub c (hin c hc) k q)
          simp only [List.mem_cons, List.not_mem_nil, or_false] at hs
          rcases hs with e | e
          · rw [e]; exact hkc
          · rw [e]; exact hno c hc
  · -- put in behind some z
    have hne : P ++ S ≠ [] := by rw [← h2]; exact hemp
    obtain ⟨z, hz, n1, n2, n3⟩ := nx_insert (P := P) (S := S) (k := k) (by rw [← h2]; exact h.wf.rn o ho) (by rw [← h2]; exact hkr o ho) hne
    rw [← h2] at hz n2 n3
    rw [← h3] at n1 n2 n3
    have hzd : (z, o) ∈ darts vs rd := mem_darts.mpr ⟨(h.wf.ties o ho z hz).1, (h.wf.ties o ho z hz).2.2⟩
    obtain ⟨T, cr, F1, eqn⟩ := fd_turn F hzd
    have hndT : ((z, o) :: T ++ cr.flatten).Nodup := by
      have := F1.perm.nodup_iff.mpr (darts_nodup h.wf.nd h.wf.rn)
      simpa [List.flatten_cons] using this
    have same : ∀ x ∈ darts vs rd, x ≠ (z, o) → fs rd' x = fs rd x := fun x hx hxz => by
      obtain ⟨a, b, d⟩ := dart_ne hx
      by_cases e : x.2 = o
      · unfold fs
        rw [e] at d ⊢
        rw [n3 x.1 d fun q => hxz (by rw [← q, ← e])]
      · exact fs_congr (h4 x.2 b e)
    have hT : ∀ x ∈ T, x ∈ darts vs rd ∧ x ≠ (z, o) := fun x hx => by
      refine ⟨fd_in F1 (c := (z, o) :: T) (by simp) (List.mem_cons_of_mem _ hx), fun e => ?_⟩
      rw [List.cons_append] at hndT
      exact (List.nodup_cons.mp hndT).1 (by rw [← e]; exact List.mem_append_left _ hx)
    have g1 : fs rd' (z, o) = (o, k) := by unfold fs; rw [n1]
    have g2 : fs rd' (o, k) = (k, o) := by unfold fs; rw [h1]; simp [nx, List.dropWhile_cons]
    have g3 : fs rd' (k, o) = fs rd (z, o) := by unfold fs; rw [n2]
    have hcT : Path (fs rd) (z, o) T (z, o) := F1.cyc ((z, o) :: T) (by simp)
    refine ⟨wf, ((z, o) :: (o, k) :: (k, o) :: T) :: cr, (k :: c0) :: rest, ⟨?_, fun c hc => ?_⟩, cd, fun c hc => ?_⟩
    · refine List.Perm.trans ?_ hdk.symm
      have e1 : (((z, o) :: (o, k) :: (k, o) :: T) :: cr).flatten = (z, o) :: (o, k) :: (k, o) :: (T ++ cr.flatten) := by simp
      rw [e1]
      have p1 : ((z, o) :: (T ++ cr.flatten)).Perm (darts vs rd) := by simpa using F1.perm
      have p2 : ((z, o) :: (o, k) :: (k, o) :: (T ++ cr.flatten)).Perm ((o, k) :: (k, o) :: (z, o) :: (T ++ cr.flatten)) :=
        (List.Perm.swap _ _ _).trans ((List.Perm.swap _ _ _).cons _)
      exact p2.trans ((p1.cons _).cons _)
    · rcases List.mem_cons.mp hc with e | hc
      · rw [e]
        exact ⟨g1, g2, path_first g3 (fun x hx => (same x (hT x hx).1 (hT x hx).2).symm) hcT⟩
      · refine cyc_congr (fun x hx => ?_) (F1.cyc c (List.mem_cons_of_mem _ hc))
        refine (same x (fd_in F1 (c := c) (List.mem_cons_of_mem _ hc) hx) fun e => ?_).symm
        rw [List.cons_append] at hndT
        exact (List.nodup_cons.mp hndT).1 (by rw [← e]; exact List.mem_append_right _ (List.mem_flatten.mpr ⟨c, hc, hx⟩))
    · rcases List.mem_cons.mp hc with e | hc
      · rw [e, degk]
        have e1 : nfc cs (k :: c0) = nfc cs c0 := nfc_same fun w hw s hs => by
          have := (dart_ne (fd_in F hw hs)).1
          simp [this]
        have e4 : nfc (((z, o) :: (o, k) :: (k, o) :: T) :: cr) (k :: c0) = nfc (((z, o) :: T) :: cr) (k :: c0) := by
          rw [nfc_cons, nfc_cons, any_yes (s := (o, k)) (by simp) (List.mem_cons_of_mem _ hoc)]
          have hzc : z ∈ c0 := Cd.shut c0 hc0 o hoc z hz
          rw [any_yes (w := (z, o) :: T) (s := (z, o)) (by simp) (List.mem_cons_of_mem _ hzc)]
        have e2 : nlone rd' (k :: c0) = nlone rd c0 := by
          obtain ⟨A, B, rfl, hA⟩ := mem_split hoc
          have hB : o ∉ B := (List.nodup_cons.mp (List.nodup_append.mp hnc).2.1).1
          have eA : nlone rd' A = nlone rd A := nlone_congr fun v hv => h4 v (hsub _ hc0 v (by simp [hv])) fun e => hA (by rw [← e]; exact hv)
          have eB : nlone rd' B = nlone rd B := nlone_congr fun v hv => h4 v (hsub _ hc0 v (by simp [hv])) fun e => hB (by rw [← e]; exact hv)
          have ho' : (rd' o).isEmpty = false := by rw [h3]; simp
          have ho2 : (rd o).isEmpty = false := by simpa using hemp
          unfold nlone at eA eB ⊢
          simp only [List.countP_cons, List.countP_append, eA, eB, h1, ho', ho2]
          simp
        have e3 := eu c0 hc0
        rw [e4, eqn, e1, e2, List.length_cons]
        omega
      · have e0 := eu c (hin c hc)
        have hkc : k ∉ c := fun q => hk (hsub c (hin c hc) k q)
        have e4 : nfc (((z, o) :: (o, k) :: (k, o) :: T) :: cr) c = nfc (((z, o) :: T) :: cr) c := by
          have ha : (((z, o) :: (o, k) :: (k, o) :: T).any fun s => decide (s.1 ∈ c)) = (((z, o) :: T).any fun s => decide (s.1 ∈ c)) := by
            have e5 : decide (o ∈ c) = false := decide_eq_false (hno c hc)
            have e6 : decide (k ∈ c) = false := decide_eq_false hkc
            simp only [List.any_cons, e5, e6, Bool.false_or]
          rw [nfc_cons, nfc_cons, ha]
        rw [deg_congr (hrest c hc), nlone_congr (hrest c hc), e4, eqn]
        exact e0

theorem Pl.chord {vs : List α} {rd rd' : α → List α} {o q a p : α} {A B C D : List α} (h : Pl vs rd) (ho : o ∈ vs) (hq : q ∈ vs) (hqo : q ≠ o) (hnt : q ∉ rd o) (h1 : rd o = A ++ a :: B) (h2 : rd' o = A ++ a :: q :: B) (h3 : rd q = C ++ p :: D) (h4 : rd' q = C ++ p :: o :: D)
    (h5 : ∀ v ∈ vs, v ≠ o → v ≠ q → rd' v = rd v) (hf : ∃ r, Path (fs rd) (a, o) r (p, q)) : Pl vs rd' := by
  obtain ⟨cs, ps, F, Cd, eu⟩ := h.flat
  have hsub : ∀ c ∈ ps, ∀ v ∈ c, v ∈ vs := fun c hc v hv => Cd.perm.mem_iff.mp (List.mem_flatten.mpr ⟨c, hc, hv⟩)
  have hoq : o ∉ rd q := fun w => hnt (h.wf.ties q hq o w).2.2
  have po : (rd' o).Perm (q :: rd o) := by
    rw [h1, h2, show A ++ a :: q :: B = (A ++ [a]) ++ q :: B by simp, show A ++ a :: B = (A ++ [a]) ++ B by simp]
    exact List.perm_middle
  have pq : (rd' q).Perm (o :: rd q) := by
    rw [h3, h4, show C ++ p :: o :: D = (C ++ [p]) ++ o :: D by simp, show C ++ p :: D = (C ++ [p]) ++ D by simp]
    exact List.perm_middle
  have mo : ∀ u, u ∈ rd' o ↔ u = q ∨ u ∈ rd o := fun u => by rw [po.mem_iff, List.mem_cons]
  have mq : ∀ u, u ∈ rd' q ↔ u = o ∨ u ∈ rd q := fun u => by rw [pq.mem_iff, List.mem_cons]
  have more : ∀ v ∈ vs, ∀ u ∈ rd v, u ∈ rd' v := fun v hv u hu => by
    by_cases e : v = o
    · rw [e] at hu ⊢; exact (mo u).mpr (.inr hu)
    · by_cases e2 : v = q
      · rw [e2] at hu ⊢; exact (mq u).mpr (.inr hu)
      · rw [h5 v hv e e2]; exact hu
  have wf : Wf vs rd' := by
    refine ⟨h.wf.nd, fun v hv => ?_, fun v hv u hu => ?_⟩
    · by_cases e : v = o
      · rw [e]; exact po.nodup_iff.mpr (List.nodup_cons.mpr ⟨hnt, h.wf.rn o ho⟩)
      · by_cases e2 : v = q
        · rw [e2]; exact pq.nodup_iff.mpr (List.nodup_cons.mpr ⟨hoq, h.wf.rn q hq⟩)
        · rw [h5 v hv e e2]; exact h.wf.rn v hv
    · have old : u ∈ rd v → u ∈ vs ∧ u ≠ v ∧ v ∈ rd' u := fun hu => by
        obtain ⟨x, y, z⟩ := h.wf.ties v hv u hu
        exact ⟨x, y, more u x v z⟩
      by_cases e : v = o
      · rw [e] at hu
        rcases (mo u).mp hu with e3 | hu
        · rw [e3, e]; exact ⟨hq, hqo, (mq o).mpr (.inl rfl)⟩
        · exact old (by rw [e]; exact hu)
      · by_cases e2 : v = q
        · rw [e2] at hu
          rcases (mq u).mp hu with e3 | hu
          · rw [e3, e2]; exact ⟨ho, fun w => hqo w.symm, (mo q).mpr (.inl rfl)⟩
          · exact old (by rw [e2]; exact hu)
        · rw [h5 v hv e e2] at hu
          exact old hu
  have hao : a ∈ rd o := by rw [h1]; simp
  have hpq : p ∈ rd q := by rw [h3]; simp
  obtain ⟨o1, o2, o3⟩ := nx_ins (A := A) (B := B) (z := a) (k := q) (by rw [← h1]; exact h.wf.rn o ho) (by rw [← h1]; exact hnt)
  obtain ⟨q1, q2, q3⟩ := nx_ins (A := C) (B := D) (z := p) (k := o) (by rw [← h3]; exact h.wf.rn q hq) (by rw [← h3]; exact hoq)
  rw [← h2] at o1 o2 o3
  rw [← h1] at o2 o3
  rw [← h4] at q1 q2 q3
  rw [← h3] at q2 q3
  have hd0 : (a, o) ∈ darts vs rd := mem_darts.mpr ⟨(h.wf.ties o ho a hao).1, (h.wf.ties o ho a hao).2.2⟩
  have hne : (p, q) ≠ (a, o) := fun e => hqo (Prod.mk.inj e).2
  obtain ⟨T, cr, F1, eqn⟩ := fd_turn F hd0
  have hcT : Path (fs rd) (a, o) T (a, o) := F1.cyc ((a, o) :: T) (by simp)
  have hpT : (p, q) ∈ T := by
    obtain ⟨r, hr⟩ := hf
    have := cyc_path (c := (a, o) :: T) hcT (s := (a, o)) (by simp) hr
    rcases List.mem_cons.mp this with e | e
    · exact absurd e hne
    · exact e
  have hndT : ((a, o) :: (T ++ cr.flatten)).Nodup := by
    have := F1.perm.nodup_iff.mpr (darts_nodup h.wf.nd h.wf.rn)
    simpa [List.flatten_cons] using this
  have hinT : ∀ x ∈ T, x ∈ darts vs rd := fun x hx => fd_in F1 (c := (a, o) :: T) (by simp) (List.mem_cons_of_mem _ hx)
  obtain ⟨X, Y, rfl, hX⟩ := mem_split hpT
  have nd2 := (List.nodup_cons.mp hndT)
  have hY : (p, q) ∉ Y := fun w => by
    have z := nd2.2
    rw [List.append_assoc, List.cons_append] at z
    exact (List.nodup_cons.mp (List.nodup_append.mp z).2.1).1 (List.mem_append_left _ w)
  have hnot : ∀ x, x ∈ X ∨ x ∈ Y → x ≠ (a, o) ∧ x ≠ (p, q) := fun x hx => by
    refine ⟨fun e => nd2.1 ?_, fun e => ?_⟩
    · rw [← e]
      rcases hx with w | w <;> simp [w]
    · rw [e] at hx
      rcases hx with w | w
      · exact hX w
      · exact hY w
  have same : ∀ x ∈ darts vs rd, x ≠ (a, o) → x ≠ (p, q) → fs rd x = fs rd' x := fun x hx e1 e2 => by
    obtain ⟨x1, x2⟩ := mem_darts.mp hx
    obtain ⟨y1, y2, y3⟩ := h.wf.ties x.1 x1 x.2 x2
    by_cases e : x.2 = o
    · unfold fs
      rw [e] at y3 ⊢
      rw [o3 x.1 y3 fun w => e1 (by rw [← w, ← e])]
    · by_cases e3 : x.2 = q
      · unfold fs
        rw [e3] at y3 ⊢
        rw [q3 x.1 y3 fun w => e2 (by rw [← w, ← e3])]
      · exact (fs_congr (h5 x.2 y1 e e3)).symm
  obtain ⟨hp1, hp2⟩ := path_app.mp hcT
  have g1 : fs rd' (a, o) = (o, q) := by unfold fs; rw [o1]
  have g2 : fs rd' (o, q) = fs rd (p, q) := by unfold fs; rw [q2]
  have g3 : fs rd' (p, q) = (q, o) := by unfold fs; rw [q1]
  have g4 : fs rd' (q, o) = fs rd (a, o) := by unfold fs; rw [o2]
  have sX : ∀ x ∈ X, fs rd x = fs rd' x := fun x hx => same x (hinT x (by simp [hx])) (hnot x (.inl hx)).1 (hnot x (.inl hx)).2
  have sY : ∀ x ∈ Y, fs rd x = fs rd' x := fun x hx => same x (hinT x (by simp [hx])) (hnot x (.inr hx)).1 (hnot x (.inr hx)).2
  have c1 : Cyc (fs rd') ((a, o) :: (o, q) :: Y) := ⟨g1, path_first g2 sY hp2⟩
  have c2 : Cyc (fs rd') ((q, o) :: (X ++ (p, q) :: [])) := path_app.mpr ⟨path_first g4 sX hp1, g3⟩
  have hdk : (darts vs rd').Perm ((q, o) :: (o, q) :: darts vs rd) := by
    have s1 : (darts vs fun v => if v = o then rd' o else rd v).Perm ((o, q) :: darts vs rd) := by
      refine darts_ins h.wf.nd ho ?_ fun v hv e => by simp [e]
      simpa using po
    have s2 : (darts vs rd').Perm ((q, o) :: darts vs fun v => if v = o then rd' o else rd v) := by
      refine darts_ins h.wf.nd hq ?_ fun v hv e => ?_
      · simpa [hqo] using pq
      · by_cases e2 : v = o
        · simp [e2]
        · simp only [e2, if_false]
          exact h5 v hv e2 e
    exact s2.trans (s1.cons _)
  -- the piece of o and q
  obtain ⟨c0, hc0, hoc⟩ := List.mem_flatten.mp (Cd.perm.mem_iff.mpr ho)
  have hac : a ∈ c0 := Cd.shut c0 hc0 o hoc a hao
  have hcyc : ∀ x ∈ (a, o) :: (X ++ (p, q) :: Y), x.1 ∈ c0 := cyc_shut (vs := vs) (Cd.shut c0 hc0) (fun x hx => fd_in F1 (c := (a, o) :: (X ++ (p, q) :: Y)) (by simp) hx) hcT (s := (a, o)) (by simp) hac
  have hqc : q ∈ c0 := Cd.shut c0 hc0 p (hcyc (p, q) (by simp)) q (h.wf.ties q hq p hpq).2.2
  have hnd : ps.flatten.Nodup := Cd.perm.nodup_iff.mpr h.wf.nd
  have only : ∀ c ∈ ps, c ≠ c0 → ∀ x ∈ c0, x ∉ c := fun c hc e x hx => by
    obtain ⟨rest, hpr⟩ := perm_head hc0
    have hcr : c ∈ rest := by
      rcases List.mem_cons.mp (hpr.mem_iff.mp hc) with w | w
      · exact absurd w e
      · exact w
    exact nodup_flatten_apart ((hpr.flatten.nodup_iff).mp hnd) hcr hx
  have lone_same : ∀ v ∈ vs, (rd' v).isEmpty = (rd v).isEmpty := fun v hv => by
    by_cases e : v = o
    · rw [e, h1, h2]; cases A <;> rfl
    · by_cases e2 : v = q
      · rw [e2, h3, h4]; cases C <;> rfl
      · rw [h5 v hv e e2]
  have nl : ∀ c ∈ ps, nlone rd' c = nlone rd c := fun c hc => List.countP_congr fun v hv => by rw [lone_same v (hsub c hc v hv)]
  refine ⟨wf, ((a, o) :: (o, q) :: Y) :: ((q, o) :: (X ++ (p, q) :: [])) :: cr, ps, ⟨?_, fun c hc => ?_⟩, ⟨Cd.perm, fun c hc v hv u hu => ?_, fun c hc => ⟨(Cd.conn c hc).1, fun S hS => (Cd.conn c hc).2 S fun v u hv hs hu => hS v u hv hs (more v (hsub c hc v hv) u hu)⟩⟩, fun c hc => ?_⟩
  · refine List.Perm.trans ?_ hdk.symm
    have p1 : ((a, o) :: (X ++ (p, q) :: Y) ++ cr.flatten).Perm (darts vs rd) := by simpa using F1.perm
    have e1 : (((a, o) :: (o, q) :: Y) :: ((q, o) :: (X ++ (p, q) :: [])) :: cr).flatten = (a, o) :: (o, q) :: (Y ++ ((q, o) :: (X ++ (p, q) :: []) ++ cr.flatten)) := by simp
    rw [e1]
    have p2 : (Y ++ ((q, o) :: (X ++ (p, q) :: []) ++ cr.flatten)).Perm ((q, o) :: (X ++ (p, q) :: Y ++ cr.flatten)) := by
      rw [List.cons_append]
      refine List.perm_middle.trans (List.Perm.cons _ ?_)
      rw [← List.append_assoc]
      refine List.Perm.append_right _ ?_
      refine List.perm_append_comm.trans ?_
      simp
    refine ((p2.cons _).cons _).trans ?_
    have p3 : ((a, o) :: (o, q) :: (q, o) :: (X ++ (p, q) :: Y ++ cr.flatten)).Perm ((q, o) :: (o, q) :: (a, o) :: (X ++ (p, q) :: Y ++ cr.flatten)) := by
      refine (List.Perm.swap _ _ _).trans ?_
      refine ((List.Perm.swap _ _ _).cons _).trans ?_
      exact List.Perm.swap _ _ _
    exact p3.trans ((p1.cons _).cons _)
  · rcases List.mem_cons.mp hc with e | hc
    · rw [e]; exact c1
    · rcases List.mem_cons.mp hc with e | hc
      · rw [e]; exact c2
      · refine cyc_congr (fun x hx => ?_) (F1.cyc c (List.mem_cons_of_mem _ hc))
        have hxf : x ∈ cr.flatten := List.mem_flatten.mpr ⟨c, hc, hx⟩
        refine same x (fd_in F1 (c := c) (List.mem_cons_of_mem _ hc) hx) (fun e => nd2.1 (by rw [← e]; exact List.mem_append_right _ hxf)) fun e => ?_
        have z := nd2.2
        exact (List.nodup_append.mp z).2.2 (p, q) (by simp) x hxf e.symm
  · by_cases e : v = o
    · rw [e] at hu hv
      have hcc : c = c0 := Classical.byContradiction fun w => only c hc w o hoc hv
      rcases (mo u).mp hu with e2 | hu
      · rw [e2, hcc]; exact hqc
      · exact Cd.shut c hc o hv u hu
    · by_cases e2 : v = q
      · rw [e2] at hu hv
        have hcc : c = c0 := Classical.byContradiction fun w => only c hc w q hqc hv
        rcases (mq u).mp hu with e3 | hu
        · rw [e3, hcc]; exact hoc
        · exact Cd.shut c hc q hv u hu
      · rw [h5 v (hsub c hc v hv) e e2] at hu
        exact Cd.shut c hc v hv u hu
  · have e0 := eu c hc
    rw [nl c hc]
    by_cases e : c = c0
    · subst e
      have hnc : c.Nodup := by
        obtain ⟨rest, hpr⟩ := perm_head hc0
        have := (hpr.flatten.nodup_iff).mp hnd
        rw [List.flatten_cons] at this
        exact (List.nodup_append.mp this).1
      have dg : deg rd' c = deg rd c + 2 := by
        have ins : ∀ (r r' : α → List α) (x : α), x ∈ c → (r' x).length = (r x).length + 1 → (∀ v ∈ c, v ≠ x → r' v = r v) → deg r' c = deg r c + 1 := by
          intro r r' x hx hl hs
          obtain ⟨E, G, e9, hE⟩ := mem_split hx
          have hG : x ∉ G := by
            rw [e9] at hnc
            exact (List.nodup_cons.mp (List.nodup_append.mp hnc).2.1).1
          have eA : deg r' E = deg r E := deg_congr fun v hv => hs v (by rw [e9]; simp [hv]) fun w => hE (by rw [← w]; exact hv)
          have eB : deg r' G = deg r G := deg_congr fun v hv => hs v (by rw [e9]; simp [hv]) fun w => hG (by rw [← w]; exact hv)
          rw [e9]
          unfold deg at eA eB ⊢
          simp only [List.map_append, List.map_cons, List.sum_append, List.sum_cons, eA, eB, hl]
          omega
        have s1 := ins rd (fun v => if v = o then rd' o else rd v) o hoc (by simpa using po.length_eq) fun v hv e => by simp [e]
        have s2 := ins (fun v => if v = o then rd' o else rd v) rd' q hqc (by simpa [hqo] using pq.length_eq) fun v hv e => by
          by_cases e2 : v = o
          · simp [e2]
          · simp only [e2, if_false]
            exact h5 v (hsub c hc v hv) e2 e
        omega
      have e5 := eqn c
      rw [nfc_cons, any_yes (s := (a, o)) (by simp) hac, if_pos rfl] at e5
      rw [nfc_cons, nfc_cons, any_yes (w := (a, o) :: (o, q) :: Y) (s := (a, o)) (by simp) hac, any_yes (w := (q, o) :: (X ++ (p, q) :: [])) (s := (q, o)) (by simp) hqc, if_pos rfl, dg]
      omega
    · have hno : ∀ x ∈ c0, x ∉ c := only c hc e
      have dg : deg rd' c = deg rd c := deg_congr fun v hv => h5 v (hsub c hc v hv) (fun w => hno o hoc (by rw [← w]; exact hv)) fun w => hno q hqc (by rw [← w]; exact hv)
      have e5 := eqn c
      rw [nfc_cons, any_no fun s hs => hno s.1 (hcyc s hs), if_neg (by simp)] at e5
      have n1 : ((((a, o) :: (o, q) :: Y)).any fun s => decide (s.1 ∈ c)) = false := any_no fun s hs => by
        rcases List.mem_cons.mp hs with w | w
        · rw [w]; exact hno a hac
        · rcases List.mem_cons.mp w with w | w
          · rw [w]; exact hno o hoc
          · exact hno s.1 (hcyc s (by simp [w]))
      have n2 : (((q, o) :: (X ++ (p, q) :: [])).any fun s => decide (s.1 ∈ c)) = false := any_no fun s hs => by
        rcases List.mem_cons.mp hs with w | w
        · rw [w]; exact hno q hqc
        · exact hno s.1 (hcyc s (by simp at w ⊢; rcases w with w | w <;> simp [w]))
      rw [nfc_cons, nfc_cons, n1, n2, if_neg (by simp), dg]
      omega
/-- other names, rounds turned, places in another order -/
theorem Pl.named {β : Type} [DecidableEq β] {vs : List α} {rd : α → List α} {vs' : List β} {rd' : β → List β} (g : α → β) (h : Pl vs rd) (hg : ∀ x ∈ vs, ∀ y ∈ vs, g x = g y → x = y) (hv : vs'.Perm (vs.map g))
    (hr : ∀ v ∈ vs, ∃ L M, (rd v).map g = L ++ M ∧ rd' (g v) = M ++ L) : Pl vs' rd' := by
  obtain ⟨cs, ps, F, Cd, eu⟩ := h.flat
  have hsub : ∀ c ∈ ps, ∀ v ∈ c, v ∈ vs := fun c hc v hv => Cd.perm.mem_iff.mp (List.mem_flatten.mpr ⟨c, hc, hv⟩)
  have nodup_map : ∀ (l : List α), l.Nodup → (∀ x ∈ l, x ∈ vs) → (l.map g).Nodup := by
    intro l
    induction l with
    | nil => intro _ _; simp
    | cons a r ih =>
      intro hn hs
      obtain ⟨h1, h2⟩ := List.nodup_cons.mp hn
      rw [List.map_cons]
      refine List.nodup_cons.mpr ⟨fun q => ?_, ih h2 fun x hx => hs x (List.mem_cons_of_mem _ hx)⟩
      obtain ⟨y, hy, e⟩ := List.mem_map.mp q
      have := hg y (hs y (List.mem_cons_of_mem _ hy)) a (hs a (by simp)) e
      rw [this] at hy
      exact h1 hy
  have pr : ∀ v ∈ vs, (rd' (g v)).Perm ((rd v).map g) := fun v hv => by
    obtain ⟨L, M, e1, e2⟩ := hr v hv
    rw [e1, e2]
    exact List.perm_append_comm
  have mr : ∀ v ∈ vs, ∀ u ∈ vs, (g u ∈ rd' (g v) ↔ u ∈ rd v) := fun v hv u hu => by
    rw [(pr v hv).mem_iff, List.mem_map]
    constructor
    · rintro ⟨y, hy, e⟩
      rw [← hg y (h.wf.ties v hv y hy).1 u hu e]
      exact hy
    · exact fun q => ⟨u, q, rfl⟩
  have rnd : ∀ v ∈ vs, ((rd v).map g).Nodup := fun v hv => nodup_map _ (h.wf.rn v hv) fun x hx => (h.wf.ties v hv x hx).1
  have gnx : ∀ v ∈ vs, ∀ u ∈ rd v, nx (rd' (g v)) (g u) = g (nx (rd v) u) := fun v hv u hu => by
    obtain ⟨L, M, e1, e2⟩ := hr v hv
    have hn := rnd v hv
    rw [e1] at hn
    rw [e2, nx_rot hn (by rw [← e1]; exact List.mem_map.mpr ⟨u, hu, rfl⟩), ← e1]
    exact nx_map hu fun y hy e => hg y (h.wf.ties v hv y hy).1 u (h.wf.ties v hv u hu).1 e
  have mv : ∀ x, x ∈ vs' ↔ ∃ v ∈ vs, g v = x := fun x => by rw [hv.mem_iff, List.mem_map]
  have mc : ∀ (c : List α), (∀ v ∈ c, v ∈ vs) → ∀ v ∈ vs, (g v ∈ c.map g ↔ v ∈ c) := fun c hc v hv => by
    rw [List.mem_map]
    constructor
    · rintro ⟨y, hy, e⟩
      rw [← hg y (hc y hy) v hv e]
      exact hy
    · exact fun q => ⟨v, q, rfl⟩
  have lr : ∀ v ∈ vs, (rd' (g v)).length = (rd v).length := fun v hv => by rw [(pr v hv).length_eq, List.length_map]
  refine ⟨⟨hv.nodup_iff.mpr (nodup_map _ h.wf.nd fun _ q => q), fun x hx => ?_, fun x hx u hu => ?_⟩, cs.map (List.map fun s => (g s.1, g s.2)), ps.map (List.map g), ⟨?_, fun c hc => ?_⟩, ⟨?_, fun c hc x hx u hu => ?_, fun c hc => ?_⟩, fun c hc => ?_⟩
  · obtain ⟨v, hvv, rfl⟩ := (mv x).mp hx
    exact (pr v hvv).nodup_iff.mpr (rnd v hvv)
  · obtain ⟨v, hvv, rfl⟩ := (mv x).mp hx
    obtain ⟨y, hy, rfl⟩ := List.mem_map.mp ((pr v hvv).mem_iff.mp hu)
    obtain ⟨a, b, c⟩ := h.wf.ties v hvv y hy
    exact ⟨(mv _).mpr ⟨y, a, rfl⟩, fun e => b (hg y a v hvv e), (mr y a v hvv).mpr c⟩
  · have e1 : (cs.map (List.map fun s => (g s.1, g s.2))).flatten = cs.flatten.map fun s => (g s.1, g s.2) := by rw [List.map_flatten]
    rw [e1]
    refine (F.perm.map _).trans ?_
    have e2 : ∀ (l : List α), (∀ v ∈ l, v ∈ vs) → ((darts l rd).map fun s => (g s.1, g s.2)).Perm (darts (l.map g) rd') := by
      intro l
      induction l with
      | nil => intro _; simp [darts]
      | cons v r ih =>
        intro hl
        have e3 : darts (v :: r) rd = (rd v).map (fun u => (v, u)) ++ darts r rd := rfl
        have e4 : darts ((v :: r).map g) rd' = (rd' (g v)).map (fun u => (g v, u)) ++ darts (r.map g) rd' := rfl
        rw [e3, e4, List.map_append]
        refine List.Perm.append ?_ (ih fun u hu => hl u (List.mem_cons_of_mem _ hu))
        have := ((pr v (hl v (by simp))).map fun u => (g v, u)).symm
        simpa [List.map_map, Function.comp_def] using this
    refine (e2 vs fun _ q => q).trans ?_
    unfold darts
    exact (hv.symm.flatMap_right _)
  · obtain ⟨w, hw, rfl⟩ := List.mem_map.mp hc
    refine cyc_map (fun x hx => ?_) (F.cyc w hw)
    have hx' := mem_darts.mp (fd_in F hw hx)
    obtain ⟨a, b, c⟩ := h.wf.ties x.1 hx'.1 x.2 hx'.2
    show (g x.2, nx (rd' (g x.2)) (g x.1)) = (g x.2, g (nx (rd x.2) x.1))
    rw [gnx x.2 a x.1 c]
  · rw [← List.map_flatten]
    exact (Cd.perm.map g).trans hv.symm
  · obtain ⟨c, hd, rfl⟩ := List.mem_map.mp hc
    obtain ⟨v, hvc, rfl⟩ := List.mem_map.mp hx
    obtain ⟨y, hy, rfl⟩ := List.mem_map.mp ((pr v (hsub c hd v hvc)).mem_iff.mp hu)
    exact List.mem_map.mpr ⟨y, Cd.shut c hd v hvc y hy, rfl⟩
  · obtain ⟨c, hd, rfl⟩ := List.mem_map.mp hc
    refine ⟨by simpa using (Cd.conn c hd).1, fun S hS x hx hs u hu => ?_⟩
    obtain ⟨v, hvc, rfl⟩ := List.mem_map.mp hx
    obtain ⟨y, hy, rfl⟩ := List.mem_map.mp hu
    refine (Cd.conn c hd).2 (fun z => S (g z)) (fun a b ha hsa hb => ?_) v hvc hs y hy
    exact hS (g a) (g b) (List.mem_map.mpr ⟨a, ha, rfl⟩) hsa ((mr a (hsub c hd a ha) b (h.wf.ties a (hsub c hd a ha) b hb).1).mpr hb)
  · obtain ⟨c, hd, rfl⟩ := List.mem_map.mp hc
    have e0 := eu c hd
    have e1 : deg rd' (c.map g) = deg rd c := by
      unfold deg
      rw [List.map_map]
      exact congrArg List.sum (List.map_congr_left fun v hv => lr v (hsub c hd v hv))
    have e2 : nlone rd' (c.map g) = nlone rd c := by
      unfold nlone
      rw [List.countP_map]
      refine List.countP_congr fun v hv => ?_
      have e5 : (rd' (g v)).isEmpty = (rd v).isEmpty := by
        have := lr v (hsub c hd v hv)
        cases e6 : rd v <;> cases e7 : rd' (g v) <;> simp_all
      simp only [Function.comp]
      rw [e5]
    have e3 : nfc (cs.map (List.map fun s => (g s.1, g s.2))) (c.map g) = nfc cs c := by
      unfold nfc
      rw [List.countP_map]
      refine List.countP_congr fun w hw => ?_
      simp only [Function.comp, List.any_eq_true, decide_eq_true_eq]
      constructor
      · rintro ⟨s, hs, e⟩
        obtain ⟨t, ht, rfl⟩ := List.mem_map.mp hs
        exact ⟨t, ht, (mc c (hsub c hd) t.1 (mem_darts.mp (fd_in F hw ht)).1).mp e⟩
      · rintro ⟨t, ht, e⟩
        exact ⟨_, List.mem_map.mpr ⟨t, ht, rfl⟩, (mc c (hsub c hd) t.1 (mem_darts.mp (fd_in F hw ht)).1).mpr e⟩
    rw [e1, e2, e3, List.length_map]
    exact e0
end
end Five
end
section
namespace Five
open PySem PySem.Spec PyProof.Rows L2
/-! the heap without some objects (those that one may change) -/
def wo (H : Hp) (M : List Addr) : Hp := fun a => if a ∈ M then none else H a
def Al (M : List Addr) (H : Hp) : Prop := ∀ m ∈ M, H m ≠ none
/-- what is to be read in the one is to be read in the other -/
def Pln : HO → Prop
  | .frz _ _ => False
  | _ => True
def Ex : HO → Prop
  | .dK _ => False
  | .dT _ => False
  | .frz _ _ => False
  | _ => True
structure Sm (G H : Hp) : Prop where
  r : ∀ a u, Pln u → Rd G a u → Rd H a u
  t : ∀ a u, Ex u → G a = some u → H a = some u
theorem _root_.L2.Same.rd {H H' : Hp} {d : Addr} {u : HO} (s : Same H H') (h : Rd H d u) : Rd H' d u := by
  rcases h with h | ⟨o, h⟩
  · exact .inl (s _ _ h)
  · exact .inr ⟨o, s _ _ h⟩
theorem _root_.L2.Same.sm {H H' : Hp} (s : Same H H') : Sm H H' := ⟨fun _ _ _ h => s.rd h, fun _ _ _ h => s _ _ h⟩
theorem _root_.L2.Same.new {H : Hp} {p : Addr} {o : HO} (h : H p = none) : Same H (upd H p o) := fun a u e => by
  rw [upd_ne (ne_of_none e h)]
  exact e
theorem _root_.L2.Same.mut {H H' : Hp} {p : Addr} {o : HO} (e : Same H H') (h : H p = none) : Same H (upd H' p o) := fun a u ha => by
  rw [upd_ne (ne_of_none ha h)]
  exact e a u ha
theorem Sm.trans {A B C : Hp} (a : Sm A B) (b : Sm B C) : Sm A C := ⟨fun x u q h => b.r x u q (a.r x u q h), fun x u q h => b.t x u q (a.t x u q h)⟩
theorem Sm.seq {K : PySem.W.Frag} {H H' : Hp} {a : Addr} {xs : List V} (e : Sm H H') (h : SqL K H a xs) : SqL K H' a xs := by
  rcases h with h | h
  · exact .inl (e.r _ _ trivial h)
  · exact .inr h
theorem Sm.seqT {K : PySem.W.Frag} {H H' : Hp} {a : Addr} {xs : List V} (e : Sm H H') (h : SqT K H a xs) : SqT K H' a xs := by
  rcases h with h | h
  · exact .inl (e.r _ _ trivial h)
  · exact .inr h
section
variable {H H' G : Hp} {M L : List Addr} {p a : Addr} {o : HO}
theorem wo_in (h : a ∈ M) : wo H M a = none := by unfold wo; rw [if_pos h]
theorem wo_out (h : a ∉ M) : wo H M a = H a := by unfold wo; rw [if_neg h]
theorem wo_get (h : wo H M a = some o) : H a = some o ∧ a ∉ M := by
  unfold wo at h
  split at h
  · cases h
  · next q => exact ⟨h, q⟩
theorem wo_same : Same (wo H M) H := fun _ _ h => (wo_get h).1
theorem wo_nil : wo H [] = H := by funext a; unfold wo; rw [if_neg (by simp)]
theorem _root_.L2.Same.wo (s : Same H H') : Same (wo H M) (wo H' M) := fun a o h => by
  obtain ⟨h1, h2⟩ := wo_get h
  rw [wo_out h2]
  exact s _ _ h1
theorem wo_ext (s : Same H H') (h : ∀ l ∈ L, H l = none) : Same (wo H M) (wo H' (L ++ M)) := fun a o e => by
  obtain ⟨h1, h2⟩ := wo_get e
  have h3 : a ∉ L ++ M := fun q => by
    rcases List.mem_append.mp q with q | q
    · rw [h a q] at h1; cases h1
    · exact h2 q
  rw [wo_out h3]
  exact s _ _ h1
theorem wo_ext1 {l : Addr} (s : Same H H') (h : H l = none) : Same (wo H M) (wo H' (l :: M)) := wo_ext (L := [l]) s (by simpa using h)
theorem wo_ext2 {l k : Addr} (s : Same H H') (h : H l = none) (h2 : H k = none) : Same (wo H M) (wo H' (l :: k :: M)) := wo_ext (L := [l, k]) s (fun x hx => by simp at hx; rcases hx with e | e <;> rw [e] <;> assumption)
theorem wo_ext3 {l k j : Addr} (s : Same H H') (h : H l = none) (h2 : H k = none) (h3 : H j = none) : Same (wo H M) (wo H' (l :: k :: j :: M)) := wo_ext (L := [l, k, j]) s (fun x hx => by simp at hx; rcases hx with e | e | e <;> rw [e] <;> assumption)
theorem Al.fresh (al : Al M H) (h : H p = none) : p ∉ M := fun q => al p q h
theorem Al.same (al : Al M H) (s : Same H H') : Al M H' := fun m hm e => al m hm (s.free e)
theorem Al.cons (al : Al M H) (h : H p = some o) : Al (p :: M) H := fun m hm => by
  rcases List.mem_cons.mp hm with e | e
  · rw [e, h]; exact fun z => nomatch z
  · exact al m e
theorem Al.upd (al : Al M H) : Al M (upd H p o) := fun m hm => by
  unfold L2.upd
  split
  · exact fun z => nomatch z
  · exact al m hm
theorem Al.new (al : Al M H) : Al (p :: M) (L2.upd H p o) := Al.cons al.upd upd_same
theorem al_nil : Al [] H := fun _ h => nomatch h
theorem wo_mut (h : p ∈ M) : wo (L2.upd H p o) M = wo H M := by
  funext a
  by_cases q : a ∈ M
  · rw [wo_in q, wo_in q]
  · rw [wo_out q, wo_out q, upd_ne fun e => q (by rw [e]; exact h)]
theorem wo_new (h : p ∉ M) : wo (L2.upd H p o) M = L2.upd (wo H M) p o := by
  funext a
  by_cases q : a = p
  · rw [q, wo_out h, upd_same, upd_same]
  · rw [upd_ne q]
    by_cases q2 : a ∈ M
    · rw [wo_in q2, wo_in q2]
    · rw [wo_out q2, wo_out q2, upd_ne q]
theorem wo_push (h : H p = none) : wo (L2.upd H p o) (p :: M) = wo H M := by
  funext a
  by_cases q : a = p
  · rw [q, wo_in (by simp)]
    by_cases q2 : p ∈ M
    · rw [wo_in q2]
    · rw [wo_out q2, h]
  · by_cases q2 : a ∈ M
    · rw [wo_in q2, wo_in (List.mem_cons_of_mem _ q2)]
    · rw [wo_out q2, wo_out (by simp [q, q2]), upd_ne q]
theorem wo_pop : Same (wo H (p :: M)) (wo H M) := fun a o e => by
  obtain ⟨h1, h2⟩ := wo_get e
  rw [wo_out fun q => h2 (List.mem_cons_of_mem _ q)]
  exact h1
theorem wo_less (h : ∀ x ∈ M, x ∈ L) : Same (wo H L) (wo H M) := fun a o e => by
  obtain ⟨h1, h2⟩ := wo_get e
  rw [wo_out fun q => h2 (h _ q)]
  exact h1
/-! locks -/
theorem lock_sm {od : Obj} {d : Addr} {u : HO} (h : G d = some u) (mu : Mut (some u)) (nx : ¬ Ex u) : Sm G (L2.upd G d (.frz od u)) := ⟨fun a x _ r => by
  by_cases e : a = d
  · subst e
    rcases r with r | ⟨o, r⟩
    · rw [h] at r
      cases r
      exact .inr ⟨od, upd_same⟩
    · rw [h] at r
      cases r
      exact mu.elim
  · rcases r with r | ⟨o, r⟩
    · exact .inl (by rw [upd_ne e]; exact r)
    · exact .inr ⟨o, by rw [upd_ne e]; exact r⟩
  , fun a xs q2 h2 => by
    have e : a ≠ d := fun q => by
      rw [q, h] at h2
      cases h2
      exact nx q2
    rw [upd_ne e]; exact h2⟩
theorem unlock_sm {od : Obj} {d : Addr} {u : HO} (h : G d = some (.frz od u)) : Sm G (L2.upd G d u) := ⟨fun a x pl r => by
  by_cases e : a = d
  · subst e
    rcases r with r | ⟨o, r⟩
    · rw [h] at r
      cases r
      exact pl.elim
    · rw [h] at r
      cases r
      exact .inl upd_same
  · rcases r with r | ⟨o, r⟩
    · exact .inl (by rw [upd_ne e]; exact r)
    · exact .inr ⟨o, by rw [upd_ne e]; exact r⟩
  , fun a xs q2 h2 => by
    have e : a ≠ d := fun q => by
      rw [q, h] at h2
      cases h2
      exact q2
    rw [upd_ne e]; exact h2⟩
theorem unlock_same {od : Obj} {d : Addr} {u : HO} (h : H d = some u) (s : Same (L2.upd H d (.frz od u)) H') : Same H (L2.upd H' d u) := fun a x e => by
  by_cases q : a = d
  · rw [q, upd_same]
    rw [q, h] at e
    exact e
  · rw [upd_ne q]
    exact s _ _ (by rw [upd_ne q]; exact e)
end
/-! what stands in the heap, by its address; K: the written part -/
abbrev Row := Str × List Str
def rdf (rows : List Row) (v : Str) : List Str := ((rows.find? fun r => decide (r.1 = v)).map (·.2)).getD []
abbrev vsf (rows : List Row) : List Str := rows.map (·.1)
theorem rdf_cons {r : Row} {rows : List Row} {v : Str} : rdf (r :: rows) v = if r.1 = v then r.2 else rdf rows v := by
  unfold rdf
  rw [List.find?_cons]
  by_cases e : r.1 = v <;> simp [e]
class Mn {α : Type} (R : Hp → Addr → α → Prop) : Prop where
  up : ∀ {G G' : Hp} {a : Addr} {x : α}, Sm G G' → R G a x → R G' a x
class Ms {α : Type} (R : Hp → Addr → α → Prop) : Prop where
  up : ∀ {G G' : Hp} {a : Addr} {x : α}, Same G G' → R G a x → R G' a x
instance {α : Type} {R : Hp → Addr → α → Prop} [m : Mn R] : Ms R := ⟨fun s h => m.up s.sm h⟩
def LS (K : PySem.W.Frag) (G : Hp) (a : Addr) (l : List Str) : Prop := SqL K G a (l.map V.str)
def LI (K : PySem.W.Frag) (G : Hp) (a : Addr) (l : List Int) : Prop := SqL K G a (l.map V.int)
def LR (K : PySem.W.Frag) {α : Type} (R : Hp → Addr → α → Prop) (G : Hp) (a : Addr) (l : List α) : Prop := ∃ as : List Addr, SqL K G a (as.map V.ref) ∧ Paired (R G) as l
def T2 (K : PySem.W.Frag) (G : Hp) (t : Addr) (s : Str × Str) : Prop := G t = some (.tup [.str s.1, .str s.2])
def I2 (K : PySem.W.Frag) (G : Hp) (t : Addr) (s : Int × Int) : Prop := G t = some (.tup [.int s.1, .int s.2])
def RowT (K : PySem.W.Frag) (G : Hp) (t : Addr) (r : Row) : Prop := ∃ b, G t = some (.tup [.str r.1, .ref b]) ∧ G b = some (.lst (r.2.map V.str))
def RowKV (K : PySem.W.Frag) (G : Hp) (kv : Key × V) (r : Row) : Prop := kv.1 = Sum.inr r.1 ∧ ∃ a, kv.2 = .ref a ∧ LS K G a r.2
/-- a dict from names to lists of names -/
def RdsAt (K : PySem.W.Frag) (G : Hp) (d : Addr) (rows : List Row) : Prop := ∃ kvs, Rd G d (.dK kvs) ∧ Paired (RowKV K G) kvs rows
/-- a web by its rows -/
def WebAt (K : PySem.W.Frag) (C : Addr) (G : Hp) (x : Addr) (rows : List Row) : Prop := ∃ dx d kvs, G x = some (.ins C dx [("rounds", .ref d)]) ∧ G d = some (.dK kvs) ∧ Paired (RowKV K G) kvs rows
section
variable {K : PySem.W.Frag} {C : Addr} {α : Type}
instance : Mn (SqL K) := ⟨fun s h => s.seq h⟩
instance : Mn (SqT K) := ⟨fun s h => s.seqT h⟩
instance : Mn (LS K) := ⟨fun s h => s.seq h⟩
instance : Mn (LI K) := ⟨fun s h => s.seq h⟩
instance : Mn (T2 K) := ⟨fun s h => s.t _ _ trivial h⟩
instance : Mn (I2 K) := ⟨fun s h => s.t _ _ trivial h⟩
instance {R : Hp → Addr → α → Prop} [m : Mn R] : Mn (LR K R) := ⟨fun s ⟨as, h1, h2⟩ => ⟨as, s.seq h1, Paired.mapP h2 fun _ _ h => m.up s h⟩⟩
instance : Mn (RowT K) := ⟨fun s ⟨b, h1, h2⟩ => ⟨b, s.t _ _ trivial h1, s.t _ _ trivial h2⟩⟩
theorem rowKV_up {G G' : Hp} (s : Sm G G') {kv : Key × V} {r : Row} : RowKV K G kv r → RowKV K G' kv r := fun ⟨e, a, e2, e3⟩ => ⟨e, a, e2, Mn.up s e3⟩
instance : Mn (RdsAt K) := ⟨fun s ⟨kvs, h1, h2⟩ => ⟨kvs, s.r _ _ trivial h1, Paired.mapP h2 fun _ _ h => rowKV_up s h⟩⟩
instance : Ms (WebAt K C) := ⟨fun s ⟨dx, d, kvs, h1, h2, h3⟩ => ⟨dx, d, kvs, s _ _ h1, s _ _ h2, Paired.mapP h3 fun _ _ h => rowKV_up s.sm h⟩⟩
variable {R : Hp → Addr → α → Prop} [Ms R] {G H H' : Hp} {M : List Addr} {a p l : Addr} {x : α}
theorem up (s : Same G H) (h : R G a x) : R H a x := Ms.up s h
theorem upw (s : Same H H') (h : R (wo H M) a x) : R (wo H' M) a x := Ms.up s.wo h
theorem rd (h : R (wo H M) a x) : R H a x := Ms.up wo_same h
theorem ups (s : Same H H') (h : Paired (R (wo H M)) as xs) : Paired (R (wo H' M)) as xs := Paired.mapP h fun _ _ q => upw s q
theorem upp (s : Same G H) (h : Paired (R G) as xs) : Paired (R H) as xs := Paired.mapP h fun _ _ q => up s q
theorem LR.app {as : List Addr} {xs : List α} (h : H l = some (.lst (as.map V.ref))) (h2 : l ∉ M) (h3 : Paired (R (wo H (l :: M))) as xs) : LR K R (wo H M) l xs :=
  ⟨as, .inl (.inl (by rw [wo_out h2]; exact h)), upp wo_pop h3⟩
theorem LS.of {ys : List Str} (h : H l = some (.lst (ys.map V.str))) (h2 : l ∉ M) : LS K (wo H M) l ys := .inl (.inl (by rw [wo_out h2]; exact h))
theorem LI.of {ys : List Int} (h : H l = some (.lst (ys.map V.int))) (h2 : l ∉ M) : LI K (wo H M) l ys := .inl (.inl (by rw [wo_out h2]; exact h))
theorem T2.of {x y : Str} (h : H l = some (.tup [.str x, .str y])) (h2 : l ∉ M) : T2 K (wo H M) l (x, y) := by show wo H M l = _; rw [wo_out h2]; exact h
theorem I2.of {x y : Int} (h : H l = some (.tup [.int x, .int y])) (h2 : l ∉ M) : I2 K (wo H M) l (x, y) := by show wo H M l = _; rw [wo_out h2]; exact h
theorem RowT.of {x : Str} {b : Addr} {ys : List Str} (h : H l = some (.tup [.str x, .ref b])) (h2 : l ∉ M) (h3 : H b = some (.lst (ys.map V.str))) (h4 : b ∉ M) : RowT K (wo H M) l (x, ys) := ⟨b, by rw [wo_out h2]; exact h, by rw [wo_out h4]; exact h3⟩
theorem rowKV_get {v : Str} : ∀ {kvs : List (Key × V)} {rows : List Row}, Paired (RowKV K G) kvs rows → v ∈ vsf rows → ∃ a, valV kvs (Sum.inr v) = some (.ref a) ∧ LS K G a (rdf rows v)
  | _, _, .nil, hv => nomatch hv
  | _, _, .cons (a := kv) (b := r) h t, hv => by
    obtain ⟨e1, a, e2, e3⟩ := h
    by_cases e : r.1 = v
    · refine ⟨a, ?_, ?_⟩
      · rw [valV_pos (by rw [e1, e]), e2]
      · rw [rdf_cons, if_pos e]; exact e3
    · have hv' : v ∈ vsf _ := (List.mem_cons.mp hv).resolve_left fun q => e q.symm
      obtain ⟨b, h1, h2⟩ := rowKV_get t hv'
      refine ⟨b, ?_, ?_⟩
      · rw [valV_neg (by rw [e1]; exact fun q => e (Sum.inr.inj q)), h1]
      · rw [rdf_cons, if_neg e]; exact h2
theorem rowKV_no {v : Str} : ∀ {kvs : List (Key × V)} {rows : List Row}, Paired (RowKV K G) kvs rows → v ∉ vsf rows → valV kvs (Sum.inr v) = none
  | _, _, .nil, hv => rfl
  | _, _, .cons (a := kv) (b := r) h t, hv => by
    obtain ⟨e1, a, e2, e3⟩ := h
    have e : r.1 ≠ v := fun q => hv (by rw [← q]; exact List.mem_cons_self)
    rw [valV_neg (by rw [e1]; exact fun q => e (Sum.inr.inj q))]
    exact rowKV_no t fun q => hv (List.mem_cons_of_mem _ q)
theorem RdsAt.get {d : Addr} {rows : List Row} {v : Str} (h : RdsAt K G d rows) (hv : v ∈ vsf rows) : ∃ a, DGet G d (.str v) (some (.ref a)) ∧ LS K G a (rdf rows v) := by
  obtain ⟨kvs, h1, h2⟩ := h
  obtain ⟨a, e1, e2⟩ := rowKV_get h2 hv
  exact ⟨a, .inl ⟨kvs, Sum.inr v, h1, rfl, e1.symm⟩, e2⟩
theorem RdsAt.no {d : Addr} {rows : List Row} {v : Str} (h : RdsAt K G d rows) (hv : v ∉ vsf rows) : DGet G d (.str v) none := by
  obtain ⟨kvs, h1, h2⟩ := h
  exact .inl ⟨kvs, Sum.inr v, h1, rfl, (rowKV_no h2 hv).symm⟩
/-- the list at a name, once for all heaps that keep this one -/
theorem RdsAt.at {d : Addr} {rows : List Row} {v : Str} (h : RdsAt K G d rows) (hv : v ∈ vsf rows) : ∃ a, LS K G a (rdf rows v) ∧ ∀ H', Sm G H' → DGet H' d (.str v) (some (.ref a)) := by
  obtain ⟨kvs, h1, h2⟩ := h
  obtain ⟨a, e1, e2⟩ := rowKV_get h2 hv
  exact ⟨a, e2, fun H' s => .inl ⟨kvs, Sum.inr v, s.r _ _ trivial h1, rfl, e1.symm⟩⟩
theorem rds_keys : ∀ {kvs : List (Key × V)} {rows : List Row}, Paired (RowKV K G) kvs rows → kvs.map (·.1) = (vsf rows).map Sum.inr
  | _, _, .nil => rfl
  | _, _, .cons h t => by rw [List.map_cons, h.1, rds_keys t]; rfl
end
theorem paired_snoc {α β : Type} {R : α → β → Prop} : ∀ {xs : List α} {ys : List β} {x : α} {y : β}, Paired R xs ys → R x y → Paired R (xs ++ [x]) (ys ++ [y])
  | _, _, _, _, .nil, h => .cons h .nil
  | _, _, _, _, .cons r t, h => .cons r (paired_snoc t h)
/-! comprehensions: what is made stands at D, a list of things that R tells -/
theorem lcM {J : It} {n : Nat} {GG : Hp → Prop} {Y : Nat → Hp → V → Hp → Prop} (w : Walk J n GG Y) {g : TG} {tt : TT} {te : TE} {vs : List Nat} {σ : L2.St} {H1 : Hp} {D : Addr} {Qd : Hp → Prop} {α : Type} {M : List Addr}
    (R : Hp → V → α → Prop) (mono : ∀ G G' v x, Same G G' → R G v x → R G' v x) (zs : List (Option α)) (hD : H1 D = none) (al : Al M H1) (hn : zs.length = n) (hsz : n < sizeLine) (hG : ∀ H, Same H1 H → GG H)
    (hs : ∀ i x z H H' (Ky : V → Hp → Prop) (Kn : Hp → Prop), i < n → zs[i]? = some z → Same H1 H → Al (D :: M) H → Y i H x H' → (∀ y d H4, z = some d → Same H H4 → R (wo H4 (D :: M)) y d → Ky y H4) → (∀ H3, z = none → Same H H3 → Kn H3) →
      g x (wipe σ vs) H' fun σ2 H2 => wipe σ2 vs = wipe σ vs ∧ tt σ2 H2 fun b H3 => if b = true then te σ2 H3 Ky else Kn H3)
    (hd : ∀ ys H, Same H1 H → H D = some (.lst ys) → Paired (R (wo H (D :: M))) ys (zs.filterMap id) → Qd H) :
    ∃ W : Nat → Nat → Hp → Prop, (∃ m, W 0 m (upd H1 D (.lst []))) ∧ ∀ i m H, W i m H →
      (J.stop i H ∧ Qd H) ∨ (J.go i H ∧ ∃ Nx : Hp → Prop, (∀ H', Nx H' → ∃ m', m' < m ∧ W (i + 1) m' H') ∧ ∀ x H', J.yld i H x H' → g x (wipe σ vs) H' fun σ2 H2 => wipe σ2 vs = wipe σ vs ∧ tt σ2 H2 fun b H3 =>
        if b = true then te σ2 H3 fun y H4 => ∃ acc, H4 D = some (.lst acc) ∧ acc.length < sizeLine ∧ Nx (upd H4 D (.lst (acc ++ [y]))) else Nx H3) := by
  have key : ∀ (i : Nat) (ys : List V) (H : Hp), Paired (R (wo H (D :: M))) ys ((zs.take i).filterMap id) → ys.length ≤ i := fun i ys H h => by
    rw [Paired.length h]
    refine Nat.le_trans (List.length_filterMap_le _ _) ?_
    rw [List.length_take]
    omega
  refine lc_it w (fun i H => ∃ ys, Same H1 H ∧ H D = some (.lst ys) ∧ Paired (R (wo H (D :: M))) ys ((zs.take i).filterMap id)) ⟨[], Same.new hD, upd_same, .nil⟩ (fun i H _ ⟨ys, s, _⟩ => hG H s) (fun i x H H' hi ⟨ys, s, hy, hp⟩ y => ?_) (fun H ⟨ys, s, hy, hp⟩ => ?_)
  · obtain ⟨z, hz⟩ : ∃ z, zs[i]? = some z := ⟨_, List.getElem?_eq_getElem (by omega)⟩
    have et : zs.take (i + 1) = zs.take i ++ [z] := by rw [List.take_add_one, hz]; rfl
    refine hs i x z H H' _ _ hi hz s ((al.same s).cons hy) y (fun y d H4 e s4 r => ?_) (fun H3 e s3 => ?_)
    · have hl := key i ys H hp
      refine ⟨ys, s4 _ _ hy, by omega, ys ++ [y], (s.trans s4).mut hD, upd_same, ?_⟩
      rw [wo_mut (by simp), et, List.filterMap_append, e]
      exact paired_snoc (Paired.mapP hp fun v x q => mono _ _ _ _ s4.wo q) r
    · refine ⟨ys, s.trans s3, s3 _ _ hy, ?_⟩
      rw [et, List.filterMap_append, e]
      simpa using Paired.mapP hp fun v x q => mono _ _ _ _ s3.wo q
  · refine hd ys H s hy ?_
    rw [List.take_of_length_le (by omega)] at hp
    exact hp
/-- .. all are kept, each a new or a standing object -/
theorem rV_up {α : Type} {R : Hp → Addr → α → Prop} [Ms R] (G G' : Hp) (v : V) (x : α) (s : Same G G') (h : ∃ a, v = .ref a ∧ R G a x) : ∃ a, v = .ref a ∧ R G' a x := let ⟨a, e, r⟩ := h; ⟨a, e, Ms.up s r⟩
theorem paired_refs {α : Type} {R : Addr → α → Prop} : ∀ {ys : List V} {l : List α}, Paired (fun v x => ∃ a, v = V.ref a ∧ R a x) ys l → ∃ as : List Addr, ys = as.map V.ref ∧ Paired R as l
  | _, _, .nil => ⟨[], rfl, .nil⟩
  | _, _, .cons ⟨a, e, h⟩ t => by
    obtain ⟨as, e2, h2⟩ := paired_refs t
    exact ⟨a :: as, by rw [e, e2]; rfl, .cons h h2⟩
theorem paired_vals {α : Type} {c : α → V} : ∀ {ys : List V} {l : List α}, Paired (fun v x => v = c x) ys l → ys = l.map c
  | _, _, .nil => rfl
  | _, _, .cons e t => by rw [e, paired_vals t]; rfl
theorem filterMap_somes {α : Type} (l : List α) : (l.map some).filterMap id = l := by induction l <;> simp_all
theorem flat_strs (l : List Str) : (l.map V.str).all flatV = true := by
  rw [List.all_map]
  exact List.all_eq_true.mpr fun _ _ => rfl
theorem flat_ints (l : List Int) : (l.map V.int).all flatV = true := by
  rw [List.all_map]
  exact List.all_eq_true.mpr fun _ _ => rfl
theorem eqV_str (a b : Str) : eqV (.str a) (.str b) = decide (a = b) := by
  first | rfl | (unfold eqV; rfl) | (by_cases e : a = b <;> simp [eqV, e])
theorem inV_str (x : Str) (l : List Str) : inV (.str x) (l.map V.str) = decide (x ∈ l) := by
  unfold inV
  rw [List.any_map]
  induction l with
  | nil => rfl
  | cons a r ih =>
    rw [List.any_cons, ih]
    simp only [Function.comp, eqV_str]
    by_cases e : a = x
    · subst e; simp
    · have e' : ¬ x = a := fun q => e q.symm
      simp [e, e']
/-- the place behind the one found -/
theorem nx_at {α : Type} [DecidableEq α] {l : List α} {x : α} (h : x ∈ l) : ∃ j, l[j]? = some x ∧ (∀ m z, m < j → l[m]? = some z → z ≠ x) ∧ j < l.length ∧ l[(j + 1) % l.length]? = some (nx l x) := by
  obtain ⟨A, B, rfl, hA⟩ := mem_split h
  refine ⟨A.length, by simp, fun m z hm hz e => ?_, by simp, ?_⟩
  · rw [List.getElem?_append_left hm] at hz
    rw [e] at hz
    exact hA (List.mem_of_getElem? hz)
  · rw [nx_app hA]
    cases B with
    | nil =>
      have e : (A.length + 1) % (A ++ [x]).length = 0 := by simp
      rw [e]
      cases A <;> simp
    | cons b r =>
      have e : (A.length + 1) % (A ++ x :: b :: r).length = A.length + 1 := Nat.mod_eq_of_lt (by simp)
      rw [e]
      simp

theorem eqV_int (a b : Int) : eqV (.int a) (.int b) = decide (a = b) := by
  first | rfl | (unfold eqV; rfl) | (by_cases e : a = b <;> simp [eqV, e])
theorem inV_int (x : Int) (l : List Int) : inV (.int x) (l.map V.int) = decide (x ∈ l) := by
  unfold inV
  rw [List.any_map]
  induction l with
  | nil => rfl
  | cons a r ih =>
    rw [List.any_cons, ih]
    simp only [Function.comp, eqV_int]
    by_cases e : a = x
    · subst e; simp
    · have e' : ¬ x = a := fun q => e q.symm
      simp [e, e']
/-- xs.index(x), x in xs -/
theorem ixG {α : Type} [DecidableEq α] (c : α → V) (hc : ∀ a b, eqV (c a) (c b) = decide (a = b)) {l : List α} {x : α} (hx : x ∈ l) :
    ∃ j, (l.map c)[j]? = some (c x) ∧ eqV (c x) (c x) = true ∧ (∀ (m : Nat) (z' : V), m < j → (l.map c)[m]? = some z' → eqV z' (c x) = false) ∧ l[j]? = some x ∧ (∀ m z, m < j → l[m]? = some z → z ≠ x) ∧ j < l.length ∧ l[(j + 1) % l.length]? = some (nx l x) := by
  obtain ⟨j, h1, h2, h3, h4⟩ := nx_at hx
  refine ⟨j, ?_, ?_, ?_, h1, h2, h3, h4⟩
  · rw [List.getElem?_map, h1]; rfl
  · rw [hc]; simp
  · intro m z hm hz
    rw [List.getElem?_map] at hz
    cases e : l[m]? with
    | none => rw [e] at hz; cases hz
    | some y =>
      rw [e] at hz
      cases hz
      rw [hc]
      exact decide_eq_false (h2 m y hm e)
theorem ixS {l : List Str} {x : Str} (hx : x ∈ l) : ∃ j, (l.map V.str)[j]? = some (.str x) ∧ eqV (.str x) (.str x) = true ∧ (∀ (m : Nat) (z' : V), m < j → (l.map V.str)[m]? = some z' → eqV z' (.str x) = false) ∧ l[j]? = some x ∧ (∀ m z, m < j → l[m]? = some z → z ≠ x) ∧ j < l.length ∧ l[(j + 1) % l.length]? = some (nx l x) := ixG V.str eqV_str hx
theorem ixI {l : List Int} {x : Int} (hx : x ∈ l) : ∃ j, (l.map V.int)[j]? = some (.int x) ∧ eqV (.int x) (.int x) = true ∧ (∀ (m : Nat) (z' : V), m < j → (l.map V.int)[m]? = some z' → eqV z' (.int x) = false) ∧ l[j]? = some x ∧ (∀ m z, m < j → l[m]? = some z → z ≠ x) ∧ j < l.length ∧ l[(j + 1) % l.length]? = some (nx l x) := ixG V.int eqV_int hx
theorem at_map {α : Type} (c : α → V) {l : List α} {j : Nat} {x : α} {i : Int} (e : i = (j : Int)) (h : l[j]? = some x) : atI (l.map c) i = some (c x) := by
  rw [e]
  exact atI_nat (by rw [List.getElem?_map, h]; rfl)
theorem cast_mod (j n : Nat) : ((j : Int) + 1) % (n : Int) = ((j + 1) % n : Nat) := by
  simp

theorem path_next {β : Type} {f : β → β} {s e : β} {r : List β} (h : Path f s r e) : f s = (r ++ [e]).headD e := by
  cases r with
  | nil => exact h
  | cons a r => exact h.1
theorem dp_strs {K : PySem.W.Frag} {H : Hp} {a : Addr} {l : List Str} (h : LS K H a l) : Dp K H (.ref a) (.list (l.map PyData.str)) := .lst h (dpAll_strs l)
theorem dp_pair {K : PySem.W.Frag} {H : Hp} {a : Addr} {x y : Str} (h : T2 K H a (x, y)) : Dp K H (.ref a) (.tuple [.str x, .str y]) := .tup (SqT.of h) (.cons (.str x) (.cons (.str y) .nil))
theorem eqv_pair (a b c d : Str) : PyData.eqv (.tuple [.str a, .str b]) (.tuple [.str c, .str d]) = decide ((a, b) = (c, d)) := by
  by_cases e1 : a = c <;> by_cases e2 : b = d <;> simp [PyData.eqv, PyData.eqvAll, e1, e2]

/-- a name -/
def Nm (x : Str) : Prop := 1 ≤ x.length ∧ x.length ≤ 8 ∧ ∀ c ∈ x.cps.toList, 97 ≤ c ∧ c ≤ 122
theorem Nm.ok {x : Str} (h : Nm x) : PyData.canLay0 (.str x) = true := by
  show x.cps.all (fun c => decide (c < 0x110000)) = true
  rw [Array.all_eq_true_iff_forall_mem]
  intro c hc
  have := h.2.2 c (by simpa using hc)
  exact decide_eq_true (by omega)
theorem can_strs : ∀ {l : List Str}, (∀ x ∈ l, Nm x) → PyData.canLayAll0 (l.map PyData.str) = true
  | [], _ => rfl
  | x :: r, h => by
    rw [List.map_cons, PyData.canLayAll0, (h x (by simp)).ok, can_strs fun y hy => h y (List.mem_cons_of_mem _ hy)]
    rfl
theorem shaped_strs {l : List Str} (h : ∀ x ∈ l, Nm x) : SeqAt.shaped (.list (l.map PyData.str)) = true := by
  unfold SeqAt.shaped
  rw [PyData.canLay0, can_strs h, PyData.depth, depth_strs]
  rfl
theorem shaped_pair {a b : Str} (ha : Nm a) (hb : Nm b) : SeqAt.shaped (.tuple [.str a, .str b]) = true := by
  unfold SeqAt.shaped
  rw [PyData.canLay0, PyData.canLayAll0, PyData.canLayAll0, PyData.canLayAll0, ha.ok, hb.ok]
  simp [PyData.depth, PyData.depthAll]

theorem cut_from (xs : List V) (j : Nat) : cutV xs (some (j : Int)) none = xs.drop j := by
  unfold cutV
  rw [HT.sIx_nat, HT.sIx_none]
  by_cases h : j ≤ xs.length
  · rw [Nat.min_eq_left h]
    exact List.take_of_length_le (by rw [List.length_drop]; exact Nat.le_refl _)
  · rw [Nat.min_eq_right (by omega), List.drop_of_length_le (Nat.le_refl _), List.drop_of_length_le (by omega)]
    simp
theorem cut_to (xs : List V) (j : Nat) : cutV xs none (some (j : Int)) = xs.take j := by
  unfold cutV
  rw [HT.sIx_nat, HT.sIx_none, List.drop_zero, Nat.sub_zero]
  by_cases h : j ≤ xs.length
  · rw [Nat.min_eq_left h]
  · rw [Nat.min_eq_right (by omega), List.take_of_length_le (Nat.le_refl _), List.take_of_length_le (by omega)]
theorem eqv_strs_nil (l : List Str) : PyData.eqv (.list (l.map PyData.str)) (.list []) = l.isEmpty := by
  cases l <;> simp [PyData.eqv, PyData.eqvAll]
theorem shaped_nil : SeqAt.shaped (.list []) = true := by
  unfold SeqAt.shaped
  simp [PyData.canLay0, PyData.canLayAll0, PyData.depth, PyData.depthAll]
theorem dp_nil {K : PySem.W.Frag} {H : Hp} {a : Addr} (h : SqL K H a []) : Dp K H (.ref a) (.list []) := .lst h .nil
/-! the least of some texts -/
theorem str_ext {a b : Str} (h1 : ¬ a.cps.toList < b.cps.toList) (h2 : ¬ b.cps.toList < a.cps.toList) : a = b := by
  have h : a.cps.toList = b.cps.toList := List.le_antisymm h2 h1
  cases a; cases b
  congr
  exact Array.ext' h
def minS : List Str → Str
  | [] => Str.empty
  | x :: r => r.foldl (fun a y => if y.cps.toList < a.cps.toList then y else a) x
theorem minS_is : ∀ (r : List Str) (x : Str), minS (x :: r) ∈ x :: r ∧ ∀ y ∈ x :: r, ¬ y.cps.toList < (minS (x :: r)).cps.toList
  | [], x => ⟨by simp [minS], fun y hy => by
      have e : y = x := by simpa using hy
      rw [e]
      exact List.lt_irrefl _⟩
  | a :: r, x => by
    have e : minS (x :: a :: r) = minS ((if a.cps.toList < x.cps.toList then a else x) :: r) := rfl
    rw [e]
    by_cases c : a.cps.toList < x.cps.toList
    · rw [if_pos c]
      obtain ⟨h1, h2⟩ := minS_is r a
      refine ⟨List.mem_cons_of_mem _ h1, fun y hy => ?_⟩
      rcases List.mem_cons.mp hy with q | hy
      · rw [q]
        exact fun q => h2 a (by simp) (List.lt_trans c q)
      · exact h2 y hy
    · rw [if_neg c]
      obtain ⟨h1, h2⟩ := minS_is r x
      refine ⟨?_, fun y hy => ?_⟩
      · rcases List.mem_cons.mp h1 with q | q
        · rw [q]; simp
        · exact List.mem_cons_of_mem _ (List.mem_cons_of_mem _ q)
      · rcases List.mem_cons.mp hy with q | hy
        · rw [q]; exact h2 x (by simp)
        · rcases List.mem_cons.mp hy with q | hy
          · rw [q]
            exact fun q => h2 x (by simp) (List.lt_of_le_of_lt (show x.cps.toList ≤ a.cps.toList from c) q)
          · exact h2 y (List.mem_cons_of_mem _ hy)
theorem minS_eq {l : List Str} {m : Str} (h : m ∈ l) (h2 : ∀ y ∈ l, ¬ y.cps.toList < m.cps.toList) : m = minS l := by
  cases l with
  | nil => exact nomatch h
  | cons x r =>
    obtain ⟨h3, h4⟩ := minS_is r x
    exact str_ext (h4 m h) (h2 _ h3)
/-- a round from its least on -/
def fl (l : List Str) : List Str := match l with
  | [] => []
  | _ => l.drop (l.idxOf (minS l)) ++ l.take (l.idxOf (minS l))
theorem idx_first {α : Type} [DecidableEq α] {l : List α} {x : α} {j : Nat} (h1 : l[j]? = some x) (h2 : ∀ m z, m < j → l[m]? = some z → z ≠ x) : l.idxOf x = j := by
  induction l generalizing j with
  | nil => simp at h1
  | cons a r ih =>
    cases j with
    | zero =>
      have e : a = x := by simpa using h1
      rw [e]
      simp
    | succ j =>
      have ne : a ≠ x := h2 0 a (Nat.succ_pos _) rfl
      rw [List.idxOf_cons, ih (j := j) (by simpa using h1) fun m z hm hz => h2 (m + 1) z (by omega) (by simpa using hz)]
      have : (a == x) = false := by simpa using ne
      simp [this]
theorem fl_of {l : List Str} (hne : l ≠ []) {m : Str} {j : Nat} (h : m ∈ l) (h2 : ∀ y ∈ l, ¬ y.cps.toList < m.cps.toList) (h3 : l[j]? = some m) (h4 : ∀ i z, i < j → l[i]? = some z → z ≠ m) : fl l = l.drop j ++ l.take j := by
  have e := minS_eq h h2
  cases l with
  | nil => exact absurd rfl hne
  | cons x r =>
    show (x :: r).drop _ ++ (x :: r).take _ = _
    rw [← e, idx_first h3 h4]
theorem fl_perm (l : List Str) : ∃ L M, l = L ++ M ∧ fl l = M ++ L := by
  cases l with
  | nil => exact ⟨[], [], rfl, rfl⟩
  | cons x r => exact ⟨_, _, (List.take_append_drop ((x :: r).idxOf (minS (x :: r))) (x :: r)).symm, rfl⟩

/-! dicts that only tell which keys there are -/
def tk (l : List Str) : List (Key × V) := l.map fun x => (Sum.inr x, V.bl true)
theorem tk_keys (l : List Str) : (tk l).map (·.1) = l.map Sum.inr := by unfold tk; rw [List.map_map]; rfl
theorem valV_tk (y : Str) : ∀ l : List Str, valV (tk l) (Sum.inr y) = if y ∈ l then some (.bl true) else none
  | [] => rfl
  | a :: r => by
    show valV ((Sum.inr a, V.bl true) :: tk r) (Sum.inr y) = _
    by_cases e : a = y
    · rw [valV_pos (by rw [e]), if_pos (by simp [e])]
    · rw [valV_neg (fun q => e (Sum.inr.inj q)), valV_tk y r]
      have e' : ¬ y = a := fun q => e q.symm
      by_cases h : y ∈ r <;> simp [h, e']
theorem putK_tk {y : Str} {l : List Str} (h : y ∉ l) : putK (tk l) (Sum.inr y) (.bl true) = tk (l ++ [y]) := by
  have hv : valV (tk l) (Sum.inr y) = none := by rw [valV_tk, if_neg h]
  rw [putK_new _ hv]
  unfold tk
  rw [List.map_append]
  rfl
theorem dget_tk {H : Hp} {d : Addr} {l : List Str} (y : Str) (h : H d = some (.dK (tk l))) : DGet H d (.str y) (if y ∈ l then some (.bl true) else none) := by
  rw [← valV_tk]
  exact DGet.k (k := Sum.inr y) h
theorem perm_of_mem {α : Type} [DecidableEq α] {a b : List α} (ha : a.Nodup) (hb : b.Nodup) (h : ∀ x, x ∈ a ↔ x ∈ b) : a.Perm b := by
  induction a generalizing b with
  | nil =>
    cases b with
    | nil => exact .nil
    | cons x r => exact absurd ((h x).mpr (by simp)) (by simp)
  | cons x r ih =>
    obtain ⟨h1, h2⟩ := List.nodup_cons.mp ha
    obtain ⟨A, B, rfl, hA⟩ := mem_split ((h x).mp (by simp))
    refine List.Perm.trans (List.Perm.cons x (ih (b := A ++ B) h2 ?_ fun y => ?_)) List.perm_middle.symm
    · have := (List.perm_middle.nodup_iff).mp hb
      exact (List.nodup_cons.mp this).2
    · have hx : x ∉ A ++ B := by
        have := (List.perm_middle.nodup_iff).mp hb
        exact (List.nodup_cons.mp this).1
      constructor
      · intro hy
        have ne : y ≠ x := fun e => h1 (by rw [← e]; exact hy)
        have := (h y).mp (List.mem_cons_of_mem _ hy)
        simp only [List.mem_append, List.mem_cons] at this ⊢
        rcases this with q | q | q
        · exact .inl q
        · exact absurd q ne
        · exact .inr q
      · intro hy
        have ne : y ≠ x := fun e => hx (by rw [← e]; exact hy)
        have := (h y).mpr (by simp only [List.mem_append, List.mem_cons] at hy ⊢; rcases hy with q | q; exact .inl q; exact .inr (.inr q))
        exact (List.mem_cons.mp this).resolve_left ne
theorem nodup_le {α : Type} [DecidableEq α] : ∀ {a b : List α}, a.Nodup → (∀ x ∈ a, x ∈ b) → a.length ≤ b.length
  | [], _, _, _ => Nat.zero_le _
  | x :: r, b, ha, h => by
    obtain ⟨h1, h2⟩ := List.nodup_cons.mp ha
    obtain ⟨A, B, rfl, hA⟩ := mem_split (h x (by simp))
    have := nodup_le (b := A ++ B) h2 fun y hy => by
      have ne : y ≠ x := fun e => h1 (by rw [← e]; exact hy)
      have q := h y (List.mem_cons_of_mem _ hy)
      simp only [List.mem_append, List.mem_cons] at q ⊢
      rcases q with q | q | q
      · exact .inl q
      · exact absurd q ne
      · exact .inr q
    simp only [List.length_append, List.length_cons] at this ⊢
    omega

theorem mergeK_tk : ∀ (ys l : List Str), (l ++ ys).Nodup → mergeK (tk l) (tk ys) = tk (l ++ ys)
  | [], l, _ => by show tk l = tk (l ++ []); rw [List.append_nil]
  | y :: r, l, h => by
    have hy : y ∉ l := fun q => (List.nodup_append.mp h).2.2 y q y (by simp) rfl
    show mergeK (putK (tk l) (Sum.inr y) (.bl true)) (tk r) = _
    rw [putK_tk hy, mergeK_tk r (l ++ [y]) (by simpa using h)]
    simp
theorem tk_length (l : List Str) : (tk l).length = l.length := by unfold tk; rw [List.length_map]
theorem item_str {l : List Str} {i : Nat} {y : V} (h : (l.map V.str)[i]? = some y) : ∃ u, l[i]? = some u ∧ y = V.str u := by
  rw [List.getElem?_map] at h
  cases e : l[i]? with
  | none => rw [e] at h; cases h
  | some u => rw [e] at h; exact ⟨u, rfl, (Option.some.inj h).symm⟩
theorem item_ref {l : List Addr} {i : Nat} {y : V} (h : (l.map V.ref)[i]? = some y) : ∃ u, l[i]? = some u ∧ y = V.ref u := by
  rw [List.getElem?_map] at h
  cases e : l[i]? with
  | none => rw [e] at h; cases h
  | some u => rw [e] at h; exact ⟨u, rfl, (Option.some.inj h).symm⟩
theorem take_snoc {α : Type} {l : List α} {i : Nat} {u : α} (h : l[i]? = some u) : l.take (i + 1) = l.take i ++ [u] := by rw [List.take_add_one, h]; rfl
end Five
end
section
set_option autoImplicit false
namespace Five
/-! ### a tie taken away -/
section
variable {α : Type} [DecidableEq α]
theorem filter_split {l : List α} {k : α} (hn : l.Nodup) (hk : k ∈ l) : ∃ P S, l = P ++ k :: S ∧ k ∉ P ∧ k ∉ S ∧ l.filter (fun u => decide (u ≠ k)) = P ++ S := by
  obtain ⟨P, S, rfl, hP⟩ := mem_split hk
  have hS : k ∉ S := (List.nodup_cons.mp (List.nodup_append.mp hn).2.1).1
  refine ⟨P, S, rfl, hP, hS, ?_⟩
  rw [List.filter_append, List.filter_cons_of_neg (by simp)]
  congr 1
  · exact List.filter_eq_self.mpr fun a ha => by simpa using fun e : a = k => hP (by rw [← e]; exact ha)
  · exact List.filter_eq_self.mpr fun a ha => by simpa using fun e : a = k => hS (by rw [← e]; exact ha)
theorem nx_cut {l : List α} {k x : α} (hn : l.Nodup) (hk : k ∈ l) (hx : x ∈ l) (hxk : x ≠ k) : (nx l x = k ∧ nx (l.filter fun u => decide (u ≠ k)) x = nx l k) ∨ (nx l x ≠ k ∧ nx (l.filter fun u => decide (u ≠ k)) x = nx l x) := by
  obtain ⟨P, S, e, hP, hS, ef⟩ := filter_split hn hk
  have hxPS : x ∈ P ++ S := by
    rw [e] at hx
    simp at hx ⊢
    rcases hx with q | q | q
    · exact .inl q
    · exact absurd q hxk
    · exact .inr q
  have hnPS : (P ++ S).Nodup := by rw [← ef]; exact hn.sublist List.filter_sublist
  have hkPS : k ∉ P ++ S := by simp [hP, hS]
  obtain ⟨z, hz, h1, h2, h3⟩ := nx_insert hnPS hkPS (List.ne_nil_of_mem hxPS)
  rw [ef, e]
  by_cases hxz : x = z
  · rw [hxz]; exact .inl ⟨h1, h2.symm⟩
  · have := h3 x hxPS hxz
    refine .inr ⟨fun q => hkPS ?_, this.symm⟩
    rw [← q, this]
    exact nx_mem hxPS
structure Cut (vs : List α) (rd rd' : α → List α) (o q : α) : Prop where
  ho : o ∈ vs
  hq : q ∈ rd o
  eo : rd' o = (rd o).filter fun u => decide (u ≠ q)
  eq : rd' q = (rd q).filter fun u => decide (u ≠ o)
  same : ∀ v ∈ vs, v ≠ o → v ≠ q → rd' v = rd v
variable {vs : List α} {rd rd' : α → List α} {o q : α}
theorem Cut.hqv (c : Cut vs rd rd' o q) (w : Wf vs rd) : q ∈ vs ∧ q ≠ o ∧ o ∈ rd q := w.ties o c.ho q c.hq
theorem Cut.symm (c : Cut vs rd rd' o q) (w : Wf vs rd) : Cut vs rd rd' q o := ⟨(c.hqv w).1, (c.hqv w).2.2, c.eq, c.eo, fun v hv h1 h2 => c.same v hv h2 h1⟩
theorem Cut.mem (c : Cut vs rd rd' o q) (w : Wf vs rd) {v u : α} (hv : v ∈ vs) : u ∈ rd' v ↔ u ∈ rd v ∧ (v, u) ≠ (o, q) ∧ (v, u) ≠ (q, o) := by
  have hqo := (c.hqv w).2.1
  by_cases e : v = o
  · subst e
    rw [c.eo, List.mem_filter, decide_eq_true_eq]
    refine and_congr_right fun _ => ⟨fun h => ⟨fun z => h (Prod.mk.inj z).2, fun z => hqo (Prod.mk.inj z).1.symm⟩, fun h z => h.1 (by rw [z])⟩
  · by_cases e2 : v = q
    · subst e2
      rw [c.eq, List.mem_filter, decide_eq_true_eq]
      refine and_congr_right fun _ => ⟨fun h => ⟨fun z => e (Prod.mk.inj z).1, fun z => h (Prod.mk.inj z).2⟩, fun h z => h.2 (by rw [z])⟩
    · rw [c.same v hv e e2]
      exact ⟨fun h => ⟨h, fun z => e (Prod.mk.inj z).1, fun z => e2 (Prod.mk.inj z).1⟩, fun h => h.1⟩
theorem Cut.wf (c : Cut vs rd rd' o q) (w : Wf vs rd) : Wf vs rd' := by
  refine ⟨w.nd, fun v hv => ?_, fun v hv u hu => ?_⟩
  · by_cases e : v = o
    · subst e; rw [c.eo]; exact (w.rn v hv).sublist List.filter_sublist
    · by_cases e2 : v = q
      · subst e2; rw [c.eq]; exact (w.rn v hv).sublist List.filter_sublist
      · rw [c.same v hv e e2]; exact w.rn v hv
  · obtain ⟨h1, h2, h3⟩ := (c.mem w hv).mp hu
    obtain ⟨a, b, d⟩ := w.ties v hv u h1
    refine ⟨a, b, (c.mem w a).mpr ⟨d, fun z => h3 ?_, fun z => h2 ?_⟩⟩
    · rw [(Prod.mk.inj z).1, (Prod.mk.inj z).2]
    · rw [(Prod.mk.inj z).1, (Prod.mk.inj z).2]
theorem Cut.fs (c : Cut vs rd rd' o q) (w : Wf vs rd) {s : α × α} (hs : s ∈ darts vs rd) (h1 : s ≠ (o, q)) (h2 : s ≠ (q, o)) :
    (fs rd s = (o, q) ∧ Five.fs rd' s = fs rd (q, o)) ∨ (fs rd s = (q, o) ∧ Five.fs rd' s = fs rd (o, q)) ∨ (fs rd s ≠ (o, q) ∧ fs rd s ≠ (q, o) ∧ Five.fs rd' s = fs rd s) := by
  obtain ⟨s1, s2⟩ := mem_darts.mp hs
  obtain ⟨t1, t2, t3⟩ := w.ties s.1 s1 s.2 s2
  obtain ⟨hqv, hqo, hoq⟩ := c.hqv w
  by_cases e : s.2 = o
  · have hx : s.1 ∈ rd o := by rw [← e]; exact t3
    have hxq : s.1 ≠ q := fun z => h2 (by rw [← z, ← e])
    unfold Five.fs
    rw [e, c.eo]
    rcases nx_cut (w.rn o c.ho) c.hq hx hxq with ⟨a, b⟩ | ⟨a, b⟩
    · exact .inl ⟨by rw [a], by rw [b]⟩
    · exact .inr (.inr ⟨fun z => a (Prod.mk.inj z).2, fun z => hqo (Prod.mk.inj z).1.symm, by rw [b]⟩)
  · by_cases e2 : s.2 = q
    · have hx : s.1 ∈ rd q := by rw [← e2]; exact t3
      have hxo : s.1 ≠ o := fun z => h1 (by rw [← z, ← e2])
      unfold Five.fs
      rw [e2, c.eq]
      rcases nx_cut (w.rn q hqv) hoq hx hxo with ⟨a, b⟩ | ⟨a, b⟩
      · exact .inr (.inl ⟨by rw [a], by rw [b]⟩)
      · exact .inr (.inr ⟨fun z => hqo (Prod.mk.inj z).1, fun z => a (Prod.mk.inj z).2, by rw [b]⟩)
    · refine .inr (.inr ⟨fun z => e (Prod.mk.inj z).1, fun z => e2 (Prod.mk.inj z).1, ?_⟩)
      unfold Five.fs
      rw [c.same s.2 t1 e e2]
theorem path_cut {β : Type} {f f' : β → β} {a b e e' : β} : ∀ {s : β} {r : List β}, (∀ x ∈ s :: r, x ≠ a ∧ x ≠ b) → (∀ x ∈ s :: r, f x ≠ a → f x ≠ b → f' x = f x) → (∀ x ∈ s :: r, f x = e → f' x = e') → Path f s r e → Path f' s r e'
  | s, [], _, _, h3, p => h3 s (by simp) p
  | s, t :: r, h1, h2, h3, p => by
    have ht := h1 t (by simp)
    refine ⟨?_, path_cut (fun x hx => h1 x (List.mem_cons_of_mem _ hx)) (fun x hx => h2 x (List.mem_cons_of_mem _ hx)) (fun x hx => h3 x (List.mem_cons_of_mem _ hx)) p.2⟩
    rw [h2 s (by simp) (by rw [p.1]; exact ht.1) (by rw [p.1]; exact ht.2)]
    exact p.1
theorem Cut.darts (c : Cut vs rd rd' o q) (w : Wf vs rd) : (darts vs rd).Perm ((o, q) :: (q, o) :: Five.darts vs rd') := by
  obtain ⟨hqv, hqo, hoq⟩ := c.hqv w
  have w' := c.wf w
  refine perm_of_mem (darts_nodup w.nd w.rn) ?_ fun x => ?_
  · refine List.nodup_cons.mpr ⟨fun h => ?_, List.nodup_cons.mpr ⟨fun h => ?_, darts_nodup w'.nd w'.rn⟩⟩
    · rcases List.mem_cons.mp h with z | z
      · exact hqo (Prod.mk.inj z).1.symm
      · exact ((c.mem w c.ho).mp (mem_darts.mp z).2).2.1 rfl
    · exact ((c.mem w hqv).mp (mem_darts.mp h).2).2.2 rfl
  · rw [List.mem_cons, List.mem_cons, mem_darts, mem_darts]
    constructor
    · rintro ⟨h1, h2⟩
      by_cases e : x = (o, q)
      · exact .inl e
      · by_cases e2 : x = (q, o)
        · exact .inr (.inl e2)
        · exact .inr (.inr ⟨h1, (c.mem w h1).mpr ⟨h2, e, e2⟩⟩)
    · rintro (e | e | ⟨h1, h2⟩)
      · rw [e]; exact ⟨c.ho, c.hq⟩
      · rw [e]; exact ⟨hqv, hoq⟩
      · exact ⟨h1, ((c.mem w h1).mp h2).1⟩
theorem fd_turn2 {cs : List (List (α × α))} (h : FD vs rd cs) {s : α × α} (hs : s ∈ darts vs rd) : ∃ T rest, FD vs rd ((s :: T) :: rest) ∧ rest.length + 1 = cs.length := by
  obtain ⟨c, hc, hsc⟩ := fd_find h hs
  obtain ⟨rest, hp⟩ := perm_head hc
  obtain ⟨X, Y, rfl, _⟩ := mem_split hsc
  refine ⟨Y ++ X, rest, ⟨?_, fun d hd => ?_⟩, ?_⟩
  · have h1 : ((s :: (Y ++ X)) :: rest).flatten.Perm ((X ++ s :: Y) :: rest).flatten := by
      rw [List.flatten_cons, List.flatten_cons]
      refine List.Perm.append_right _ ?_
      have := List.perm_append_comm (l₁ := X) (l₂ := s :: Y)
      exact this.symm
    exact (h1.trans hp.symm.flatten).trans h.perm
  · rcases List.mem_cons.mp hd with e | hd
    · rw [e]
      exact cyc_rot (A := X) (B := s :: Y) (h.cyc _ hc)
    · exact h.cyc d (hp.mem_iff.mpr (List.mem_cons_of_mem _ hd))
  · have := hp.length_eq
    simp at this
    omega
theorem lone_cut {l : List α} {x : α} (hn : l.Nodup) (hx : x ∈ l) : (l.filter fun u => decide (u ≠ x)) = [] ↔ nx l x = x := by
  constructor
  · intro h
    have := nx_mem hx
    apply Classical.byContradiction
    intro q
    have : nx l x ∈ l.filter fun u => decide (u ≠ x) := List.mem_filter.mpr ⟨this, by simpa using q⟩
    rw [h] at this
    cases this
  · intro h
    obtain ⟨P, S, e, hP, hS, ef⟩ := filter_split hn hx
    rw [ef]
    rw [e, nx_app hP] at h
    cases S with
    | cons a S => exact absurd (by simpa using h) fun z : a = x => hS (by rw [z]; exact List.mem_cons_self)
    | nil =>
      cases P with
      | cons a P => exact absurd (by simpa using h) fun z : a = x => hP (by rw [z]; exact List.mem_cons_self)
      | nil => rfl
theorem two_perm (hn : vs.Nodup) (ho : o ∈ vs) (hq : q ∈ vs) (hqo : q ≠ o) : ∃ r, vs.Perm (o :: q :: r) ∧ o ∉ r ∧ q ∉ r := by
  obtain ⟨r1, h1⟩ := perm_head ho
  have hn1 := h1.nodup_iff.mp hn
  have hq1 : q ∈ r1 := (List.mem_cons.mp (h1.mem_iff.mp hq)).resolve_left hqo
  obtain ⟨r2, h2⟩ := perm_head hq1
  have hp : vs.Perm (o :: q :: r2) := h1.trans (h2.cons o)
  have hn2 := hp.nodup_iff.mp hn
  obtain ⟨a, b⟩ := List.nodup_cons.mp hn2
  exact ⟨r2, hp, fun z => a (List.mem_cons_of_mem _ z), (List.nodup_cons.mp b).1⟩
theorem Cut.deg (c : Cut vs rd rd' o q) (w : Wf vs rd) : deg rd vs = Five.deg rd' vs + 2 := by
  obtain ⟨hqv, hqo, hoq⟩ := c.hqv w
  obtain ⟨r, hp, ho, hq⟩ := two_perm w.nd c.ho hqv hqo
  have hr : ∀ v ∈ r, rd' v = rd v := fun v hv => c.same v (hp.mem_iff.mpr (by simp [hv])) (fun e => ho (by rw [← e]; exact hv)) (fun e => hq (by rw [← e]; exact hv))
  have dp : ∀ rr : α → List α, Five.deg rr vs = (rr o).length + ((rr q).length + Five.deg rr r) := fun rr => by
    unfold Five.deg
    rw [(hp.map fun v => (rr v).length).sum_nat]
    simp
  have l1 : (rd o).length = (rd' o).length + 1 := by
    obtain ⟨P, S, e, _, _, ef⟩ := filter_split (w.rn o c.ho) c.hq
    rw [c.eo, ef, e]
    simp
    omega
  have l2 : (rd q).length = (rd' q).length + 1 := by
    obtain ⟨P, S, e, _, _, ef⟩ := filter_split (w.rn q hqv) hoq
    rw [c.eq, ef, e]
    simp
    omega
  rw [dp rd, dp rd', deg_congr hr]
  omega
theorem Cut.lone (c : Cut vs rd rd' o q) (w : Wf vs rd) : nlone rd' vs = nlone rd vs + (if rd' o = [] then 1 else 0) + (if rd' q = [] then 1 else 0) := by
  obtain ⟨hqv, hqo, hoq⟩ := c.hqv w
  obtain ⟨r, hp, ho, hq⟩ := two_perm w.nd c.ho hqv hqo
  have hr : ∀ v ∈ r, rd' v = rd v := fun v hv => c.same v (hp.mem_iff.mpr (by simp [hv])) (fun e => ho (by rw [← e]; exact hv)) (fun e => hq (by rw [← e]; exact hv))
  have dp : ∀ rr : α → List α, nlone rr vs = nlone rr r + (if (rr q).isEmpty = true then 1 else 0) + (if (rr o).isEmpty = true then 1 else 0) := fun rr => by
    unfold nlone
    rw [hp.countP_eq, List.countP_cons, List.countP_cons]
  have e1 : (rd o).isEmpty = false := by
    cases h : rd o with
    | nil => have := c.hq; rw [h] at this; cases this
    | cons _ _ => rfl
  have e2 : (rd q).isEmpty = false := by
    cases h : rd q with
    | nil => rw [h] at hoq; cases hoq
    | cons _ _ => rfl
  rw [dp rd, dp rd', nlone_congr hr, e1, e2]
  simp only [List.isEmpty_iff, Bool.false_eq_true, if_false]
  omega
/-- the ways, when a tie is taken away -/
theorem Cut.faces (c : Cut vs rd rd' o q) (w : Wf vs rd) {cs : List (List (α × α))} (F : FD vs rd cs) :
    (∃ cs', FD vs rd' cs' ∧ cs'.length + nlone rd' vs = cs.length + nlone rd vs + 1) ∨
    (∃ cs', FD vs rd' cs' ∧ cs'.length + nlone rd' vs + 1 = cs.length + nlone rd vs ∧ ∀ S : α → Prop, (∀ v u, v ∈ vs → S v → u ∈ rd' v → S u) → S o → S q) := by
  obtain ⟨hqv, hqo, hoq⟩ := c.hqv w
  have hda : (o, q) ∈ Five.darts vs rd := mem_darts.mpr ⟨c.ho, c.hq⟩
  have hdb : (q, o) ∈ Five.darts vs rd := mem_darts.mpr ⟨hqv, hoq⟩
  have hab : (q, o) ≠ (o, q) := fun z => hqo (Prod.mk.inj z).1
  obtain ⟨T, rest, F1, len1⟩ := fd_turn2 F hda
  have hcT : Path (Five.fs rd) (o, q) T (o, q) := F1.cyc ((o, q) :: T) (by simp)
  have hnd : ((o, q) :: T ++ rest.flatten).Nodup := by
    have := F1.perm.nodup_iff.mpr (darts_nodup w.nd w.rn)
    rwa [List.flatten_cons] at this
  have hin : ∀ c' ∈ (((o, q) :: T) :: rest), ∀ x ∈ c', x ∈ Five.darts vs rd := fun c' hc' x hx => fd_in F1 hc' hx
  have lo : rd' o = [] ↔ Five.fs rd (q, o) = (o, q) := by
    rw [c.eo, lone_cut (w.rn o c.ho) c.hq]
    unfold Five.fs
    exact ⟨fun h => by show (o, nx (rd o) q) = _; rw [h], fun h => (Prod.mk.inj h).2⟩
  have lq : rd' q = [] ↔ Five.fs rd (o, q) = (q, o) := by
    rw [c.eq, lone_cut (w.rn q hqv) hoq]
    unfold Five.fs
    exact ⟨fun h => by show (q, nx (rd q) o) = _; rw [h], fun h => (Prod.mk.inj h).2⟩
  -- what stays
  have keep : ∀ x ∈ Five.darts vs rd, x ≠ (o, q) → x ≠ (q, o) → Five.fs rd x ≠ (o, q) → Five.fs rd x ≠ (q, o) → Five.fs rd' x = Five.fs rd x := fun x hx h1 h2 h3 h4 => by
    rcases c.fs w hx h1 h2 with ⟨z, _⟩ | ⟨z, _⟩ | ⟨_, _, z⟩
    · exact absurd z h3
    · exact absurd z h4
    · exact z
  have toa : ∀ x ∈ Five.darts vs rd, x ≠ (o, q) → x ≠ (q, o) → Five.fs rd x = (o, q) → Five.fs rd' x = Five.fs rd (q, o) := fun x hx h1 h2 h3 => by
    rcases c.fs w hx h1 h2 with ⟨_, z⟩ | ⟨z, _⟩ | ⟨z, _⟩
    · exact z
    · rw [h3] at z; exact absurd z.symm hab
    · exact absurd h3 z
  have tob : ∀ x ∈ Five.darts vs rd, x ≠ (o, q) → x ≠ (q, o) → Five.fs rd x = (q, o) → Five.fs rd' x = Five.fs rd (o, q) := fun x hx h1 h2 h3 => by
    rcases c.fs w hx h1 h2 with ⟨z, _⟩ | ⟨_, z⟩ | ⟨_, z, _⟩
    · rw [h3] at z; exact absurd z hab
    · exact z
    · exact absurd h3 z
  have whole : ∀ d ∈ rest, (o, q) ∉ d → (q, o) ∉ d → Cyc (Five.fs rd') d := fun d hd h1 h2 => by
    have hcd := F1.cyc d (List.mem_cons_of_mem _ hd)
    refine cyc_congr (fun x hx => ?_) hcd
    have hs := cyc_step hcd hx
    exact (keep x (hin d (List.mem_cons_of_mem _ hd) x hx) (fun z => h1 (by rw [← z]; exact hx)) (fun z => h2 (by rw [← z]; exact hx)) (fun z => h1 (by rw [← z]; exact hs)) (fun z => h2 (by rw [← z]; exact hs))).symm
  have hdk := c.darts w
  have pieces : ∀ {x : α × α} {X : List (α × α)}, (∀ y ∈ x :: X, y ∈ Five.darts vs rd ∧ y ≠ (o, q) ∧ y ≠ (q, o)) → (Path (Five.fs rd) x X (o, q) → Path (Five.fs rd') x X (Five.fs rd (q, o))) ∧ (Path (Five.fs rd) x X (q, o) → Path (Five.fs rd') x X (Five.fs rd (o, q))) := fun {x X} hX =>
    ⟨fun p => path_cut (a := (o, q)) (b := (q, o)) (fun y hy => (hX y hy).2) (fun y hy h1 h2 => keep y (hX y hy).1 (hX y hy).2.1 (hX y hy).2.2 h1 h2) (fun y hy h => toa y (hX y hy).1 (hX y hy).2.1 (hX y hy).2.2 h) p,
     fun p => path_cut (a := (o, q)) (b := (q, o)) (fun y hy => (hX y hy).2) (fun y hy h1 h2 => keep y (hX y hy).1 (hX y hy).2.1 (hX y hy).2.2 h1 h2) (fun y hy h => tob y (hX y hy).1 (hX y hy).2.1 (hX y hy).2.2 h) p⟩
  by_cases hbT : (q, o) ∈ T
  · -- both on one way
    left
    obtain ⟨X, Y, rfl, hbX⟩ := mem_split hbT
    have hrest : ∀ d ∈ rest, (o, q) ∉ d ∧ (q, o) ∉ d := fun d hd => ⟨fun z => (List.nodup_append.mp hnd).2.2 _ (by simp) _ (List.mem_flatten.mpr ⟨d, hd, z⟩) rfl, fun z => (List.nodup_append.mp hnd).2.2 _ (by simp) _ (List.mem_flatten.mpr ⟨d, hd, z⟩) rfl⟩
    obtain ⟨p1, p2⟩ := path_app.mp hcT
    have nd1 : ((o, q) :: (X ++ (q, o) :: Y)).Nodup := (List.nodup_append.mp hnd).1
    have haXY : (o, q) ∉ X ++ (q, o) :: Y := (List.nodup_cons.mp nd1).1
    have hbY : (q, o) ∉ Y := (List.nodup_cons.mp (List.nodup_append.mp (List.nodup_cons.mp nd1).2).2.1).1
    have okX : ∀ y ∈ X, y ∈ Five.darts vs rd ∧ y ≠ (o, q) ∧ y ≠ (q, o) := fun y hy => ⟨hin ((o, q) :: (X ++ (q, o) :: Y)) List.mem_cons_self y (by simp [hy]), fun z => haXY (by rw [← z]; simp [hy]), fun z => hbX (by rw [← z]; exact hy)⟩
    have okY : ∀ y ∈ Y, y ∈ Five.darts vs rd ∧ y ≠ (o, q) ∧ y ≠ (q, o) := fun y hy => ⟨hin ((o, q) :: (X ++ (q, o) :: Y)) List.mem_cons_self y (by simp [hy]), fun z => haXY (by rw [← z]; simp [hy]), fun z => hbY (by rw [← z]; exact hy)⟩
    have cX : ∀ d ∈ (if X = [] then [] else [X] : List (List (α × α))), Cyc (Five.fs rd') d := fun d hd => by
      cases X with
      | nil => rw [if_pos rfl] at hd; cases hd
      | cons x X =>
        rw [if_neg (by simp), List.mem_singleton] at hd
        subst hd
        have := (pieces okX).2 p1.2
        rw [p1.1] at this
        exact this
    have cY : ∀ d ∈ (if Y = [] then [] else [Y] : List (List (α × α))), Cyc (Five.fs rd') d := fun d hd => by
      cases Y with
      | nil => rw [if_pos rfl] at hd; cases hd
      | cons y Y =>
        rw [if_neg (by simp), List.mem_singleton] at hd
        subst hd
        have := (pieces okY).1 p2.2
        rw [p2.1] at this
        exact this
    have eX : (rd' q = []) ↔ X = [] := by
      rw [lq]
      cases X with
      | nil => exact ⟨fun _ => rfl, fun _ => p1⟩
      | cons x X =>
        refine ⟨fun z => ?_, fun z => by cases z⟩
        rw [p1.1] at z
        exact absurd z (okX x (by simp)).2.2
    have eY : (rd' o = []) ↔ Y = [] := by
      rw [lo]
      cases Y with
      | nil => exact ⟨fun _ => rfl, fun _ => p2⟩
      | cons y Y =>
        refine ⟨fun z => ?_, fun z => by cases z⟩
        rw [p2.1] at z
        exact absurd z (okY y (by simp)).2.1
    refine ⟨(if X = [] then [] else [X]) ++ ((if Y = [] then [] else [Y]) ++ rest), ⟨?_, fun d hd => ?_⟩, ?_⟩
    · have h1 : ((o, q) :: (q, o) :: ((if X = [] then [] else [X] : List (List (α × α))) ++ ((if Y = [] then [] else [Y]) ++ rest)).flatten).Perm ((o, q) :: (q, o) :: Five.darts vs rd') := by
        refine List.Perm.trans ?_ hdk
        refine List.Perm.trans ?_ F1.perm
        have f1 : (if X = [] then [] else [X] : List (List (α × α))).flatten = X := by cases X <;> simp
        have f2 : (if Y = [] then [] else [Y] : List (List (α × α))).flatten = Y := by cases Y <;> simp
        rw [List.flatten_append, List.flatten_append, f1, f2, List.flatten_cons, List.cons_append]
        refine List.Perm.cons _ ?_
        rw [List.append_assoc, List.cons_append]
        exact List.perm_middle.symm
      exact (List.Perm.cons_inv (List.Perm.cons_inv h1))
    · rcases List.mem_append.mp hd with z | z
      · exact cX d z
      · rcases List.mem_append.mp z with z | z
        · exact cY d z
        · exact whole d z (hrest d z).1 (hrest d z).2
    · rw [c.lone w, List.length_append, List.length_append]
      by_cases x0 : X = [] <;> by_cases y0 : Y = [] <;> simp [x0, y0, eX, eY] <;> omega
  · -- on two ways
    right
    have hbr : (q, o) ∈ rest.flatten := by
      have := F1.perm.mem_iff.mpr hdb
      rw [List.flatten_cons] at this
      rcases List.mem_append.mp this with z | z
      · rcases List.mem_cons.mp z with z | z
        · exact absurd z hab
        · exact absurd z hbT
      · exact z
    obtain ⟨c2, hc2, hbc2⟩ := List.mem_flatten.mp hbr
    obtain ⟨r2, hp2⟩ := perm_head hc2
    obtain ⟨X, Y, rfl, hbX⟩ := mem_split hbc2
    have hcy2 : Path (Five.fs rd) (q, o) (Y ++ X) (q, o) := cyc_rot (A := X) (B := (q, o) :: Y) (F1.cyc _ (List.mem_cons_of_mem _ hc2))
    have hperm : ((o, q) :: T ++ ((q, o) :: (Y ++ X) ++ r2.flatten)).Perm (Five.darts vs rd) := by
      refine List.Perm.trans ?_ F1.perm
      rw [List.flatten_cons]
      refine List.Perm.append_left _ ?_
      refine List.Perm.trans ?_ hp2.flatten.symm
      rw [List.flatten_cons]
      refine List.Perm.append_right _ ?_
      have := List.perm_append_comm (l₁ := X) (l₂ := (q, o) :: Y)
      exact this.symm
    have hnd2 := hperm.nodup_iff.mpr (darts_nodup w.nd w.rn)
    generalize Y ++ X = U at *
    obtain ⟨n1, n2, n3⟩ := List.nodup_append.mp hnd2
    obtain ⟨n4, n5, n6⟩ := List.nodup_append.mp n2
    have hinT : ∀ y ∈ T, y ∈ Five.darts vs rd ∧ y ≠ (o, q) ∧ y ≠ (q, o) := fun y hy => ⟨hperm.mem_iff.mp (by simp [hy]), fun z => (List.nodup_cons.mp n1).1 (by rw [← z]; exact hy), fun z => hbT (by rw [← z]; exact hy)⟩
    have hinU : ∀ y ∈ U, y ∈ Five.darts vs rd ∧ y ≠ (o, q) ∧ y ≠ (q, o) := fun y hy => ⟨hperm.mem_iff.mp (by simp [hy]), fun z => n3 (o, q) (by simp) y (by simp [hy]) z.symm, fun z => (List.nodup_cons.mp n4).1 (by rw [← z]; exact hy)⟩
    have hr2 : ∀ d ∈ r2, (o, q) ∉ d ∧ (q, o) ∉ d := fun d hd => ⟨fun z => n3 (o, q) (by simp) (o, q) (by simp; exact .inr (.inr ⟨d, hd, z⟩)) rfl, fun z => n6 (q, o) (by simp) (q, o) (List.mem_flatten.mpr ⟨d, hd, z⟩) rfl⟩
    cases T with
    | nil =>
      exfalso
      have z : Five.fs rd (o, q) = (o, q) := hcT
      unfold Five.fs at z
      exact hqo (Prod.mk.inj z).1
    | cons x T =>
      cases U with
      | nil =>
        exfalso
        have z : Five.fs rd (q, o) = (q, o) := hcy2
        unfold Five.fs at z
        exact hqo (Prod.mk.inj z).1.symm
      | cons y U =>
        have e1 : ¬ rd' o = [] := fun z => by
          rw [lo, hcy2.1] at z
          exact (hinU y (by simp)).2.1 z
        have e2 : ¬ rd' q = [] := fun z => by
          rw [lq, hcT.1] at z
          exact (hinT x (by simp)).2.2 z
        have q1 := (pieces hinT).1 hcT.2
        have q2 := (pieces hinU).2 hcy2.2
        rw [hcy2.1] at q1
        rw [hcT.1] at q2
        refine ⟨((x :: T) ++ (y :: U)) :: r2, ⟨?_, fun d hd => ?_⟩, ?_, fun S hS ho => ?_⟩
        · have h1 : ((o, q) :: (q, o) :: (((x :: T) ++ (y :: U)) :: r2).flatten).Perm ((o, q) :: (q, o) :: Five.darts vs rd') := by
            refine List.Perm.trans ?_ hdk
            refine List.Perm.trans ?_ hperm
            rw [List.flatten_cons, List.cons_append]
            refine List.Perm.cons _ ?_
            show ((q, o) :: (((x :: T) ++ (y :: U)) ++ r2.flatten)).Perm ((x :: T) ++ (q, o) :: ((y :: U) ++ r2.flatten))
            rw [List.append_assoc]
            exact List.perm_middle.symm
          exact List.Perm.cons_inv (List.Perm.cons_inv h1)
        · rcases List.mem_cons.mp hd with z | z
          · rw [z]
            exact path_app.mpr ⟨q1, q2⟩
          · have zr : d ∈ rest := hp2.mem_iff.mpr (List.mem_cons_of_mem _ z)
            exact whole d zr (hr2 d z).1 (hr2 d z).2
        · rw [c.lone w, if_neg e1, if_neg e2]
          have := hp2.length_eq
          simp at this ⊢
          omega
        · have w' := c.wf w
          have go : ∀ {s : α × α} {r : List (α × α)}, (∀ y ∈ s :: r, y ∈ Five.darts vs rd ∧ y ≠ (o, q) ∧ y ≠ (q, o)) → S s.1 → Path (Five.fs rd) s r (q, o) → S q := by
            intro s r
            induction r generalizing s with
            | nil =>
              intro hh hs p
              obtain ⟨a1, a2, a3⟩ := hh s (by simp)
              obtain ⟨b1, b2⟩ := mem_darts.mp a1
              have h2 : S s.2 := hS s.1 s.2 b1 hs ((c.mem w b1).mpr ⟨b2, a2, a3⟩)
              have p : Five.fs rd s = (q, o) := p
              unfold Five.fs at p
              rw [← (Prod.mk.inj p).1]
              exact h2
            | cons t r ih =>
              intro hh hs p
              obtain ⟨a1, a2, a3⟩ := hh s (by simp)
              obtain ⟨b1, b2⟩ := mem_darts.mp a1
              have h2 : S s.2 := hS s.1 s.2 b1 hs ((c.mem w b1).mpr ⟨b2, a2, a3⟩)
              refine ih (fun y hy => hh y (List.mem_cons_of_mem _ hy)) ?_ p.2
              have p1 : Five.fs rd s = t := p.1
              rw [← p1]
              exact h2
          refine go hinU ?_ hcy2.2
          have p1 : Five.fs rd (q, o) = y := hcy2.1
          rw [← p1]
          exact ho
end
end Five
end
section
set_option autoImplicit false
namespace Five
section
variable {α : Type} [DecidableEq α] {vs : List α} {rd rd' : α → List α} {o q : α}
/-- come to by ties from o -/
def Rch (vs : List α) (rd : α → List α) (o x : α) : Prop := ∀ S : α → Prop, (∀ v u, v ∈ vs → S v → u ∈ rd v → S u) → S o → S x
theorem Rch.step {v u : α} (h : Rch vs rd o v) (hv : v ∈ vs) (hu : u ∈ rd v) : Rch vs rd o u := fun S hS ho => hS v u hv (h S hS ho) hu
theorem Rch.refl : Rch vs rd o o := fun _ _ h => h
theorem Cut.part (c : Cut vs rd rd' o q) (w : Wf vs rd) {c0 : List α} (hsub : ∀ v ∈ c0, v ∈ vs) (shut : ∀ v ∈ c0, ∀ u ∈ rd v, u ∈ c0) (conn : ∀ S : α → Prop, (∀ v u, v ∈ c0 → S v → u ∈ rd v → S u) → ∀ v ∈ c0, S v → ∀ u ∈ c0, S u)
    (ho : o ∈ c0) (hq : q ∈ c0) {A : α → Prop} (cA : ∀ v u, v ∈ c0 → A v → u ∈ rd' v → A u) (cB : ∀ v u, v ∈ c0 → ¬ A v → u ∈ rd' v → ¬ A u) (ao : A o) (aq : ¬ A q) :
    ∀ S : α → Prop, (∀ v u, v ∈ c0 → A v → S v → u ∈ rd' v → S u) → ∀ v ∈ c0, A v → S v → ∀ u ∈ c0, A u → S u := by
  intro S hS v hv av sv u hu au
  have sub : ∀ x ∈ c0, ∀ y ∈ rd x, y ∈ rd' x ∨ (x = o ∧ y = q) ∨ (x = q ∧ y = o) := fun x hx y hy => by
    by_cases e1 : (x, y) = (o, q)
    · exact .inr (.inl ⟨(Prod.mk.inj e1).1, (Prod.mk.inj e1).2⟩)
    · by_cases e2 : (x, y) = (q, o)
      · exact .inr (.inr ⟨(Prod.mk.inj e2).1, (Prod.mk.inj e2).2⟩)
      · exact .inl ((c.mem w (hsub x hx)).mpr ⟨hy, e1, e2⟩)
  have so : S o := by
    apply Classical.byContradiction
    intro nso
    have := conn (fun x => A x ∧ S x) (fun x y hx ⟨a, b⟩ hy => by
      rcases sub x hx y hy with z | ⟨z, _⟩ | ⟨z, _⟩
      · exact ⟨cA x y hx a z, hS x y hx a b z⟩
      · rw [z] at b; exact absurd b nso
      · rw [z] at a; exact absurd a aq) v hv ⟨av, sv⟩ q hq
    exact aq this.1
  have := conn (fun x => (A x ∧ S x) ∨ ¬ A x) (fun x y hx h hy => by
    rcases sub x hx y hy with z | ⟨_, z⟩ | ⟨_, z⟩
    · rcases h with ⟨a, b⟩ | a
      · exact .inl ⟨cA x y hx a z, hS x y hx a b z⟩
      · exact .inr (cB x y hx a z)
    · rw [z]; exact .inr aq
    · rw [z]; exact .inl ⟨ao, so⟩) v hv (.inl ⟨av, sv⟩) u hu
  rcases this with ⟨_, z⟩ | z
  · exact z
  · exact absurd au z
/-- the pieces, when a tie is taken away -/
theorem Cut.parts (c : Cut vs rd rd' o q) (w : Wf vs rd) {ps : List (List α)} (Cd : CD vs rd ps) :
    (Rch vs rd' o q ∧ CD vs rd' ps) ∨ ∃ ps', CD vs rd' ps' ∧ ps'.length = ps.length + 1 ∧ ¬ Rch vs rd' o q := by
  obtain ⟨hqv, hqo, hoq⟩ := c.hqv w
  have w' := c.wf w
  have hsub : ∀ d ∈ ps, ∀ v ∈ d, v ∈ vs := fun d hd v hv => Cd.perm.mem_iff.mp (List.mem_flatten.mpr ⟨d, hd, hv⟩)
  have less : ∀ v ∈ vs, ∀ u ∈ rd' v, u ∈ rd v := fun v hv u hu => ((c.mem w hv).mp hu).1
  have sub : ∀ x ∈ vs, ∀ y ∈ rd x, y ∈ rd' x ∨ (x = o ∧ y = q) ∨ (x = q ∧ y = o) := fun x hx y hy => by
    by_cases e1 : (x, y) = (o, q)
    · exact .inr (.inl ⟨(Prod.mk.inj e1).1, (Prod.mk.inj e1).2⟩)
    · by_cases e2 : (x, y) = (q, o)
      · exact .inr (.inr ⟨(Prod.mk.inj e2).1, (Prod.mk.inj e2).2⟩)
      · exact .inl ((c.mem w hx).mpr ⟨hy, e1, e2⟩)
  by_cases hR : Rch vs rd' o q
  · refine .inl ⟨hR, Cd.perm, fun d hd v hv u hu => Cd.shut d hd v hv u (less v (hsub d hd v hv) u hu), fun d hd => ⟨(Cd.conn d hd).1, fun S hS => (Cd.conn d hd).2 S fun v u hv sv hu => ?_⟩⟩
    rcases sub v (hsub d hd v hv) u hu with z | ⟨z1, z2⟩ | ⟨z1, z2⟩
    · exact hS v u hv sv z
    · subst z1
      subst z2
      exact (hR (fun x => x ∈ d ∧ S x) (fun x y hx ⟨a, b⟩ hy => ⟨Cd.shut d hd x a y (less x hx y hy), hS x y a b hy⟩) ⟨hv, sv⟩).2
    · subst z1
      subst z2
      apply Classical.byContradiction
      intro nso
      have huv : u ∈ d := Cd.shut d hd v hv u hu
      have := (hR (fun x => x ∈ d ∧ ¬ S x) (fun x y hx ⟨a, b⟩ hy => by
        have hyd := Cd.shut d hd x a y (less x hx y hy)
        exact ⟨hyd, fun sy => b (hS y x hyd sy (w'.ties x hx y hy).2.2)⟩) ⟨huv, nso⟩).2
      exact this sv
  · right
    obtain ⟨c0, hc0, ho0⟩ := List.mem_flatten.mp (Cd.perm.mem_iff.mpr c.ho)
    have hq0 : q ∈ c0 := Cd.shut c0 hc0 o ho0 q c.hq
    obtain ⟨rest, hp⟩ := perm_head hc0
    have hnd : (c0 :: rest).flatten.Nodup := hp.flatten.nodup_iff.mp (Cd.perm.nodup_iff.mpr w.nd)
    have apart : ∀ d ∈ rest, ∀ x ∈ c0, x ∉ d := fun d hd x hx => nodup_flatten_apart hnd hd hx
    have hc0n : c0.Nodup := by
      rw [List.flatten_cons] at hnd
      exact (List.nodup_append.mp hnd).1
    haveI : DecidablePred (Rch vs rd' o) := fun x => Classical.propDecidable _
    have cA : ∀ v u, v ∈ c0 → Rch vs rd' o v → u ∈ rd' v → Rch vs rd' o u := fun v u hv h hu => h.step (hsub c0 hc0 v hv) hu
    have cB : ∀ v u, v ∈ c0 → ¬ Rch vs rd' o v → u ∈ rd' v → ¬ Rch vs rd' o u := fun v u hv h hu r => by
      obtain ⟨a, _, b⟩ := w'.ties v (hsub c0 hc0 v hv) u hu
      exact h (r.step a b)
    have p1 := c.part w (hsub c0 hc0) (Cd.shut c0 hc0) (Cd.conn c0 hc0).2 ho0 hq0 (A := Rch vs rd' o) cA cB .refl hR
    have p2 := (c.symm w).part w (hsub c0 hc0) (Cd.shut c0 hc0) (Cd.conn c0 hc0).2 hq0 ho0 (A := fun x => ¬ Rch vs rd' o x) cB (fun v u hv h hu => fun z => z (cA v u hv (Classical.not_not.mp h) hu)) hR (fun z => z .refl)
    refine ⟨(c0.filter fun x => decide (Rch vs rd' o x)) :: (c0.filter fun x => decide (¬ Rch vs rd' o x)) :: rest, ⟨?_, fun d hd v hv u hu => ?_, fun d hd => ?_⟩, ?_, hR⟩
    · refine List.Perm.trans ?_ (hp.flatten.symm.trans Cd.perm)
      rw [List.flatten_cons, List.flatten_cons, List.flatten_cons, ← List.append_assoc]
      refine List.Perm.append_right _ ?_
      refine perm_of_mem ?_ hc0n fun x => ?_
      · refine List.nodup_append.mpr ⟨hc0n.sublist List.filter_sublist, hc0n.sublist List.filter_sublist, fun a ha b hb e => ?_⟩
        subst e
        exact (of_decide_eq_true (List.mem_filter.mp hb).2) (of_decide_eq_true (List.mem_filter.mp ha).2)
      · rw [List.mem_append, List.mem_filter, List.mem_filter, decide_eq_true_eq, decide_eq_true_eq]
        constructor
        · rintro (z | z) <;> exact z.1
        · intro z
          by_cases r : Rch vs rd' o x
          · exact .inl ⟨z, r⟩
          · exact .inr ⟨z, r⟩
    · rcases List.mem_cons.mp hd with e | hd
      · subst e
        obtain ⟨a, b⟩ := List.mem_filter.mp hv
        have b := of_decide_eq_true b
        exact List.mem_filter.mpr ⟨Cd.shut c0 hc0 v a u (less v (hsub c0 hc0 v a) u hu), decide_eq_true (cA v u a b hu)⟩
      · rcases List.mem_cons.mp hd with e | hd
        · subst e
          obtain ⟨a, b⟩ := List.mem_filter.mp hv
          have b := of_decide_eq_true b
          exact List.mem_filter.mpr ⟨Cd.shut c0 hc0 v a u (less v (hsub c0 hc0 v a) u hu), decide_eq_true (cB v u a b hu)⟩
        · have hd' : d ∈ ps := hp.mem_iff.mpr (List.mem_cons_of_mem _ hd)
          exact Cd.shut d hd' v hv u (less v (hsub d hd' v hv) u hu)
    · rcases List.mem_cons.mp hd with e | hd
      · subst e
        refine ⟨List.ne_nil_of_mem (List.mem_filter.mpr ⟨ho0, decide_eq_true .refl⟩), fun S hS v hv sv u hu => ?_⟩
        obtain ⟨a, b⟩ := List.mem_filter.mp hv
        obtain ⟨a2, b2⟩ := List.mem_filter.mp hu
        exact p1 S (fun x y hx ax sx hy => hS x y (List.mem_filter.mpr ⟨hx, decide_eq_true ax⟩) sx hy) v a (of_decide_eq_true b) sv u a2 (of_decide_eq_true b2)
      · rcases List.mem_cons.mp hd with e | hd
        · subst e
          refine ⟨List.ne_nil_of_mem (List.mem_filter.mpr ⟨hq0, decide_eq_true hR⟩), fun S hS v hv sv u hu => ?_⟩
          obtain ⟨a, b⟩ := List.mem_filter.mp hv
          obtain ⟨a2, b2⟩ := List.mem_filter.mp hu
          exact p2 S (fun x y hx ax sx hy => hS x y (List.mem_filter.mpr ⟨hx, decide_eq_true ax⟩) sx hy) v a (of_decide_eq_true b) sv u a2 (of_decide_eq_true b2)
        · have hd' : d ∈ ps := hp.mem_iff.mpr (List.mem_cons_of_mem _ hd)
          refine ⟨(Cd.conn d hd').1, fun S hS => (Cd.conn d hd').2 S fun v u hv sv hu => ?_⟩
          rcases sub v (hsub d hd' v hv) u hu with z | ⟨z, _⟩ | ⟨z, _⟩
          · exact hS v u hv sv z
          · exact absurd hv (by rw [z]; exact apart d hd o ho0)
          · exact absurd hv (by rw [z]; exact apart d hd q hq0)
    · have := hp.length_eq
      simp at this ⊢
      omega
/-- the count never grows -/
theorem Cut.step (c : Cut vs rd rd' o q) (w : Wf vs rd) {cs : List (List (α × α))} {ps : List (List α)} (F : FD vs rd cs) (Cd : CD vs rd ps) :
    ∃ cs' ps', FD vs rd' cs' ∧ CD vs rd' ps' ∧ 4 * ps'.length + Five.deg rd' vs + 2 * (cs.length + nlone rd vs) ≤ 4 * ps.length + Five.deg rd vs + 2 * (cs'.length + nlone rd' vs) := by
  have hd := c.deg w
  rcases c.faces w F with ⟨cs', F', e1⟩ | ⟨cs', F', e1, hr⟩
  · rcases c.parts w Cd with ⟨_, Cd'⟩ | ⟨ps', Cd', e2, _⟩
    · exact ⟨cs', ps, F', Cd', by omega⟩
    · exact ⟨cs', ps', F', Cd', by omega⟩
  · rcases c.parts w Cd with ⟨_, Cd'⟩ | ⟨ps', Cd', e2, hn⟩
    · exact ⟨cs', ps, F', Cd', by omega⟩
    · exact absurd hr hn
def cutR (rd : α → List α) (o q : α) (v : α) : List α := if v = o then (rd o).filter (fun u => decide (u ≠ q)) else if v = q then (rd q).filter (fun u => decide (u ≠ o)) else rd v
theorem cutR_cut (w : Wf vs rd) (ho : o ∈ vs) (hq : q ∈ rd o) : Cut vs rd (cutR rd o q) o q := by
  have hqo := (w.ties o ho q hq).2.1
  exact ⟨ho, hq, if_pos rfl, by unfold cutR; rw [if_neg hqo, if_pos rfl], fun v _ h1 h2 => by unfold cutR; rw [if_neg h1, if_neg h2]⟩
theorem flatten_short {β : Type} : ∀ {ps : List (List β)}, (∀ c ∈ ps, c.length ≤ 1) → ps.flatten.length ≤ ps.length
  | [], _ => by simp
  | c :: ps, h => by
    rw [List.flatten_cons, List.length_append, List.length_cons]
    have := h c List.mem_cons_self
    have := flatten_short (ps := ps) fun d hd => h d (List.mem_cons_of_mem _ hd)
    omega
/-- Euler: never more -/
theorem euler_le : ∀ (n : Nat) {rd : α → List α} {cs : List (List (α × α))} {ps : List (List α)}, deg rd vs = n → Wf vs rd → FD vs rd cs → CD vs rd ps → 2 * vs.length + 2 * (cs.length + nlone rd vs) ≤ deg rd vs + 4 * ps.length := by
  intro n
  induction n using Nat.strongRecOn with
  | ind n ih =>
    intro rd cs ps hn w F Cd
    by_cases h : ∃ v ∈ vs, rd v ≠ []
    · obtain ⟨v, hv, hne⟩ := h
      obtain ⟨u, hu⟩ := List.exists_mem_of_ne_nil _ hne
      have c := cutR_cut w hv hu
      obtain ⟨cs', ps', F', Cd', e⟩ := c.step w F Cd
      have hd := c.deg w
      have := ih (deg (cutR rd v u) vs) (by omega) rfl (c.wf w) F' Cd'
      omega
    · have hall : ∀ v ∈ vs, rd v = [] := fun v hv => Classical.byContradiction fun q => h ⟨v, hv, q⟩
      have hdarts : darts vs rd = [] := by
        unfold darts
        rw [List.flatMap_eq_nil_iff]
        intro v hv
        rw [hall v hv]; rfl
      have hcs : cs = [] := by
        cases cs with
        | nil => rfl
        | cons d cs =>
          have hp := F.perm
          rw [hdarts] at hp
          have := hp.eq_nil
          rw [List.flatten_cons] at this
          exact absurd (List.append_eq_nil_iff.mp this).1 (cyc_ne (F.cyc d List.mem_cons_self))
      have hlone : nlone rd vs = vs.length := by
        unfold nlone
        rw [List.countP_eq_length]
        intro v hv
        rw [hall v hv]; rfl
      have hps : vs.length ≤ ps.length := by
        rw [← Cd.perm.length_eq]
        refine flatten_short fun d hd => ?_
        have hdn : d.Nodup := by
          obtain ⟨rest, hp⟩ := perm_head hd
          have := hp.flatten.nodup_iff.mp (Cd.perm.nodup_iff.mpr w.nd)
          rw [List.flatten_cons] at this
          exact (List.nodup_append.mp this).1
        cases d with
        | nil => simp
        | cons x d =>
          have hsub : ∀ y ∈ x :: d, y ∈ vs := fun y hy => Cd.perm.mem_iff.mp (List.mem_flatten.mpr ⟨_, hd, hy⟩)
          have hx := (Cd.conn _ hd).2 (fun y => y = x) (fun a b ha hb hab => by rw [hall a (hsub a ha)] at hab; cases hab) x List.mem_cons_self rfl
          cases d with
          | nil => simp
          | cons y d =>
            have := hx y (by simp)
            rw [this] at hdn
            exact absurd List.mem_cons_self (List.nodup_cons.mp hdn).1
      rw [hcs, hlone]
      simp
      omega
/-! ### piece by piece -/
theorem sub_flat {β : Type} {l m : List (List β)} (h : l.Sublist m) : l.flatten.Sublist m.flatten := by
  induction h with
  | slnil => exact List.Sublist.refl _
  | cons a _ ih => rw [List.flatten_cons]; exact ih.trans (List.sublist_append_right _ _)
  | cons_cons a _ ih => rw [List.flatten_cons, List.flatten_cons]; exact List.Sublist.append (List.Sublist.refl _) ih
theorem len_sum {β : Type} : ∀ c : List β, c.length = (c.map fun _ => 1).sum
  | [] => rfl
  | a :: c => by rw [List.map_cons, List.sum_cons, List.length_cons, len_sum c]; omega
theorem wf_part (w : Wf vs rd) {c : List α} (hn : c.Nodup) (hsub : ∀ v ∈ c, v ∈ vs) (shut : ∀ v ∈ c, ∀ u ∈ rd v, u ∈ c) : Wf c rd :=
  ⟨hn, fun v hv => w.rn v (hsub v hv), fun v hv u hu => ⟨shut v hv u hu, (w.ties v (hsub v hv) u hu).2⟩⟩
theorem fd_part (w : Wf vs rd) {cs : List (List (α × α))} (F : FD vs rd cs) {c : List α} (hn : c.Nodup) (hsub : ∀ v ∈ c, v ∈ vs) (shut : ∀ v ∈ c, ∀ u ∈ rd v, u ∈ c) :
    FD c rd (cs.filter fun f => f.any fun s => decide (s.1 ∈ c)) ∧ (cs.filter fun f => f.any fun s => decide (s.1 ∈ c)).length = nfc cs c := by
  refine ⟨⟨?_, fun d hd => F.cyc d (List.mem_filter.mp hd).1⟩, by unfold nfc; rw [List.countP_eq_length_filter]⟩
  have hnf : cs.flatten.Nodup := F.perm.nodup_iff.mpr (darts_nodup w.nd w.rn)
  refine perm_of_mem (hnf.sublist (sub_flat List.filter_sublist)) (darts_nodup hn fun v hv => w.rn v (hsub v hv)) fun x => ?_
  rw [mem_darts, List.mem_flatten]
  constructor
  · rintro ⟨d, hd, hx⟩
    obtain ⟨h1, h2⟩ := List.mem_filter.mp hd
    obtain ⟨s, hs, hsc⟩ := List.any_eq_true.mp h2
    have := cyc_shut (vs := vs) shut (fun y hy => fd_in F h1 hy) (F.cyc d h1) hs (of_decide_eq_true hsc) x hx
    exact ⟨this, (mem_darts.mp (fd_in F h1 hx)).2⟩
  · rintro ⟨h1, h2⟩
    obtain ⟨d, hd, hx⟩ := fd_find F (mem_darts.mpr ⟨hsub _ h1, h2⟩)
    exact ⟨d, List.mem_filter.mpr ⟨hd, List.any_eq_true.mpr ⟨x, hx, decide_eq_true h1⟩⟩, hx⟩
theorem euler_part (w : Wf vs rd) {cs : List (List (α × α))} {ps : List (List α)} (F : FD vs rd cs) (Cd : CD vs rd ps) {c : List α} (hc : c ∈ ps) : 2 * c.length + 2 * (nfc cs c + nlone rd c) ≤ deg rd c + 4 := by
  have hsub : ∀ v ∈ c, v ∈ vs := fun v hv => Cd.perm.mem_iff.mp (List.mem_flatten.mpr ⟨c, hc, hv⟩)
  have hn : c.Nodup := by
    obtain ⟨rest, hp⟩ := perm_head hc
    have := hp.flatten.nodup_iff.mp (Cd.perm.nodup_iff.mpr w.nd)
    rw [List.flatten_cons] at this
    exact (List.nodup_append.mp this).1
  obtain ⟨F1, e1⟩ := fd_part w F hn hsub (Cd.shut c hc)
  have Cd1 : CD c rd [c] := ⟨by simp, fun d hd => by rw [List.mem_singleton.mp hd]; exact Cd.shut c hc, fun d hd => by rw [List.mem_singleton.mp hd]; exact Cd.conn c hc⟩
  have := euler_le _ rfl (wf_part w hn hsub (Cd.shut c hc)) F1 Cd1
  rw [e1] at this
  simpa using this
/-- the sums over the pieces -/
theorem sum_touch {w : List (α × α)} {c0 : List α} {ps : List (List α)} (hc0 : c0 ∈ ps) (hn : ps.flatten.Nodup) (hw : w ≠ []) (hin : ∀ s ∈ w, s.1 ∈ c0) : (ps.map fun c => if (w.any fun s => decide (s.1 ∈ c)) = true then 1 else 0).sum = 1 := by
  obtain ⟨rest, hp⟩ := perm_head hc0
  rw [(hp.map _).sum_nat, List.map_cons, List.sum_cons]
  obtain ⟨s, hs⟩ := List.exists_mem_of_ne_nil _ hw
  rw [any_yes hs (hin s hs), if_pos rfl]
  have hz : ∀ c ∈ rest, (if (w.any fun s => decide (s.1 ∈ c)) = true then 1 else 0) = 0 := fun c hc => by
    rw [any_no fun t ht => nodup_flatten_apart (hp.flatten.nodup_iff.mp hn) hc (hin t ht)]
    rfl
  have : (rest.map fun c => if (w.any fun s => decide (s.1 ∈ c)) = true then 1 else 0).sum = 0 := by
    clear hp hc0
    induction rest with
    | nil => rfl
    | cons c rest ih => rw [List.map_cons, List.sum_cons, hz c List.mem_cons_self, ih fun d hd => hz d (List.mem_cons_of_mem _ hd)]
  omega
theorem sum_add {β : Type} (f g : β → Nat) : ∀ l : List β, (l.map fun x => f x + g x).sum = (l.map f).sum + (l.map g).sum
  | [] => rfl
  | a :: l => by
    rw [List.map_cons, List.map_cons, List.map_cons, List.sum_cons, List.sum_cons, List.sum_cons, sum_add f g l]
    omega
theorem sum_mul {β : Type} (k : Nat) (f : β → Nat) : ∀ l : List β, (l.map fun x => k * f x).sum = k * (l.map f).sum
  | [] => by simp
  | a :: l => by
    rw [List.map_cons, List.map_cons, List.sum_cons, List.sum_cons, sum_mul k f l, Nat.mul_add]
theorem sum_nfc (w : Wf vs rd) {cs : List (List (α × α))} {ps : List (List α)} (F : FD vs rd cs) (Cd : CD vs rd ps) : (ps.map fun c => nfc cs c).sum = cs.length := by
  have hn : ps.flatten.Nodup := Cd.perm.nodup_iff.mpr w.nd
  have hcy := F.cyc
  have hin : ∀ d ∈ cs, ∀ s ∈ d, s ∈ darts vs rd := fun d hd s hs => fd_in F hd hs
  clear F
  induction cs with
  | nil =>
    have : ∀ l : List (List α), (l.map fun c => nfc ([] : List (List (α × α))) c).sum = 0 := fun l => by
      induction l with
      | nil => rfl
      | cons a l ih => rw [List.map_cons, List.sum_cons, ih]; rfl
    rw [this]; rfl
  | cons d cs ih =>
    have hd := hcy d List.mem_cons_self
    have e : (fun c => nfc (d :: cs) c) = fun c => nfc cs c + if (d.any fun s => decide (s.1 ∈ c)) = true then 1 else 0 := by
      funext c
      exact nfc_cons
    rw [e, sum_add, ih (fun x hx => hcy x (List.mem_cons_of_mem _ hx)) fun x hx => hin x (List.mem_cons_of_mem _ hx)]
    have hne := cyc_ne hd
    obtain ⟨s, hs⟩ := List.exists_mem_of_ne_nil _ hne
    obtain ⟨c0, hc0, hsc⟩ := List.mem_flatten.mp (Cd.perm.mem_iff.mpr (mem_darts.mp (hin d List.mem_cons_self s hs)).1)
    have hall := cyc_shut (vs := vs) (Cd.shut c0 hc0) (fun x hx => hin d List.mem_cons_self x hx) hd hs hsc
    rw [sum_touch hc0 hn hne hall, List.length_cons]
theorem sum_flat (f : List α → Nat) (g : α → Nat) (hf : ∀ c, f c = (c.map g).sum) : ∀ ps : List (List α), (ps.map f).sum = (ps.flatten.map g).sum
  | [] => rfl
  | c :: ps => by
    rw [List.map_cons, List.sum_cons, List.flatten_cons, List.map_append, List.sum_append, sum_flat f g hf ps, hf c]
theorem euler_sum (w : Wf vs rd) {cs : List (List (α × α))} {ps : List (List α)} (F : FD vs rd cs) (Cd : CD vs rd ps) :
    (ps.map fun c => 2 * c.length + 2 * (nfc cs c + nlone rd c)).sum = 2 * vs.length + 2 * (cs.length + nlone rd vs) ∧ (ps.map fun c => deg rd c + 4).sum = deg rd vs + 4 * ps.length := by
  have l1 : (ps.map fun c => c.length).sum = vs.length := by
    rw [sum_flat (fun c => c.length) (fun _ => 1) len_sum ps, ← len_sum, Cd.perm.length_eq]
  have l2 : (ps.map fun c => nlone rd c).sum = nlone rd vs := by
    have hg : ∀ c : List α, nlone rd c = (c.map fun v => if (rd v).isEmpty = true then 1 else 0).sum := fun c => by
      unfold nlone
      induction c with
      | nil => rfl
      | cons a c ih =>
        rw [List.countP_cons, List.map_cons, List.sum_cons, ih]
        omega
    rw [sum_flat (fun c => nlone rd c) (fun v => if (rd v).isEmpty = true then 1 else 0) hg ps, (Cd.perm.map _).sum_nat, hg]
  have l3 : (ps.map fun c => deg rd c).sum = deg rd vs := by
    rw [sum_flat (fun c => deg rd c) (fun v => (rd v).length) (fun c => rfl) ps, (Cd.perm.map _).sum_nat]
    rfl
  have l4 := sum_nfc w F Cd
  refine ⟨?_, ?_⟩
  · rw [sum_add (fun c => 2 * c.length) (fun c => 2 * (nfc cs c + nlone rd c)), sum_mul 2 (fun c : List α => c.length), sum_mul 2 (fun c => nfc cs c + nlone rd c), sum_add (fun c => nfc cs c) (fun c => nlone rd c), l1, l2, l4]
  · rw [sum_add (fun c => deg rd c) (fun _ => 4), l3]
    congr 1
    clear l1 l2 l3 l4 Cd
    induction ps with
    | nil => rfl
    | cons c ps ih =>
      rw [List.map_cons, List.sum_cons, ih, List.length_cons]
      omega
theorem sum_tight {β : Type} {f g : β → Nat} : ∀ {l : List β}, (∀ x ∈ l, f x ≤ g x) → (l.map g).sum ≤ (l.map f).sum → ∀ x ∈ l, f x = g x
  | [], _, _, x, hx => nomatch hx
  | a :: l, h, hs, x, hx => by
    rw [List.map_cons, List.map_cons, List.sum_cons, List.sum_cons] at hs
    have h1 := h a List.mem_cons_self
    have h2 : (l.map f).sum ≤ (l.map g).sum := by
      have : ∀ {l : List β}, (∀ x ∈ l, f x ≤ g x) → (l.map f).sum ≤ (l.map g).sum := by
        intro l
        induction l with
        | nil => intro _; simp
        | cons b l ih =>
          intro hh
          rw [List.map_cons, List.map_cons, List.sum_cons, List.sum_cons]
          have := hh b List.mem_cons_self
          have := ih fun x hx => hh x (List.mem_cons_of_mem _ hx)
          omega
      exact this fun y hy => h y (List.mem_cons_of_mem _ hy)
    rcases List.mem_cons.mp hx with e | e
    · rw [e]; omega
    · exact sum_tight (fun y hy => h y (List.mem_cons_of_mem _ hy)) (by omega) x e
/-- flat: as many in all as there may be -/
theorem flat_of_sum (w : Wf vs rd) {cs : List (List (α × α))} {ps : List (List α)} (F : FD vs rd cs) (Cd : CD vs rd ps) (h : deg rd vs + 4 * ps.length ≤ 2 * vs.length + 2 * (cs.length + nlone rd vs)) : Pl vs rd := by
  obtain ⟨e1, e2⟩ := euler_sum w F Cd
  refine ⟨w, cs, ps, F, Cd, sum_tight (fun c hc => euler_part w F Cd hc) ?_⟩
  rw [e1, e2]
  exact h
/-- a tie taken away -/
theorem Pl.cut (h : Pl vs rd) (c : Cut vs rd rd' o q) : Pl vs rd' := by
  obtain ⟨cs, ps, F, Cd, eu⟩ := h.flat
  obtain ⟨cs', ps', F', Cd', e⟩ := c.step h.wf F Cd
  obtain ⟨e1, e2⟩ := euler_sum h.wf F Cd
  have e3 : (ps.map fun c => 2 * c.length + 2 * (nfc cs c + nlone rd c)).sum = (ps.map fun c => Five.deg rd c + 4).sum := by
    rw [List.map_congr_left eu]
  refine flat_of_sum (c.wf h.wf) F' Cd' ?_
  omega
end
end Five
end
section
set_option autoImplicit false
namespace Five
section
variable {α : Type} [DecidableEq α] {vs : List α} {rd rd' : α → List α} {o q : α}
theorem Pl.congr (h : Pl vs rd) (e : ∀ v ∈ vs, rd' v = rd v) : Pl vs rd' :=
  Pl.named id h (fun x _ y _ z => z) (by rw [List.map_id]) fun v hv => ⟨[], rd v, by rw [List.map_id]; rfl, by show rd' v = _; rw [e v hv, List.append_nil]⟩
/-- ties taken away, many at once -/
theorem Pl.sub : ∀ (n : Nat) {rd rd' : α → List α}, deg rd vs = n → Pl vs rd → ∀ keep : α → α → Bool, (∀ v u, keep v u = keep u v) → (∀ v ∈ vs, rd' v = (rd v).filter (keep v)) → Pl vs rd' := by
  intro n
  induction n using Nat.strongRecOn with
  | ind n ih =>
    intro rd rd' hn h keep sym e
    by_cases hx : ∃ v ∈ vs, ∃ u ∈ rd v, keep v u = false
    · obtain ⟨v, hv, u, hu, hk⟩ := hx
      have c := cutR_cut h.wf hv hu
      have hd := c.deg h.wf
      obtain ⟨huv, hne, hvu⟩ := c.hqv h.wf
      refine ih (deg (cutR rd v u) vs) (by omega) rfl (h.cut c) keep sym fun x hx => ?_
      rw [e x hx]
      unfold cutR
      by_cases e1 : x = v
      · rw [if_pos e1, e1, List.filter_filter]
        refine List.filter_congr fun y hy => ?_
        by_cases e2 : y = u
        · rw [e2, hk]; rfl
        · simp [e2]
      · rw [if_neg e1]
        by_cases e2 : x = u
        · rw [if_pos e2, e2, List.filter_filter]
          refine List.filter_congr fun y hy => ?_
          by_cases e3 : y = v
          · rw [e3, sym u v, hk]; rfl
          · simp [e3]
        · rw [if_neg e2]
    · refine h.congr fun v hv => ?_
      rw [e v hv]
      refine List.filter_eq_self.mpr fun u hu => ?_
      cases hk : keep v u with
      | true => rfl
      | false => exact absurd ⟨v, hv, u, hu, hk⟩ hx
theorem len_flat_ge {β : Type} {k : Nat} : ∀ {cs : List (List β)}, (∀ c ∈ cs, k ≤ c.length) → k * cs.length ≤ cs.flatten.length
  | [], _ => by simp
  | c :: cs, h => by
    rw [List.flatten_cons, List.length_append, List.length_cons, Nat.mul_add]
    have := h c List.mem_cons_self
    have := len_flat_ge fun d hd => h d (List.mem_cons_of_mem _ hd)
    omega
theorem darts_deg : ∀ (vs : List α) (rd : α → List α), (darts vs rd).length = deg rd vs
  | [], rd => rfl
  | v :: vs, rd => by
    show ((rd v).map (fun u => (v, u)) ++ darts vs rd).length = _
    rw [List.length_append, List.length_map, darts_deg vs rd]
    rfl
theorem deg_ge {k : Nat} : ∀ {c : List α}, (∀ v ∈ c, k ≤ (rd v).length) → k * c.length ≤ deg rd c
  | [], _ => by simp
  | v :: c, h => by
    show _ ≤ ((rd v).length + deg rd c)
    have := h v List.mem_cons_self
    have := deg_ge (c := c) fun u hu => h u (List.mem_cons_of_mem _ hu)
    rw [List.length_cons, Nat.mul_add]
    omega
/-- a place with five ties at most, among those come to -/
theorem low_place (h : Pl vs rd) {v0 : α} (h0 : v0 ∈ vs) (P : α → Prop) (hP : ∀ v u, v ∈ vs → P v → u ∈ rd v → P u) (p0 : P v0) : ∃ v ∈ vs, P v ∧ (rd v).length ≤ 5 := by
  apply Classical.byContradiction
  intro hno
  have hmany : ∀ v ∈ vs, P v → 6 ≤ (rd v).length := fun v hv pv => by
    apply Classical.byContradiction
    intro q
    exact hno ⟨v, hv, pv, by omega⟩
  obtain ⟨cs, ps, F, Cd, eu⟩ := h.flat
  obtain ⟨c, hc, hvc⟩ := List.mem_flatten.mp (Cd.perm.mem_iff.mpr h0)
  have hsub : ∀ v ∈ c, v ∈ vs := fun v hv => Cd.perm.mem_iff.mp (List.mem_flatten.mpr ⟨c, hc, hv⟩)
  have hcP : ∀ v ∈ c, P v := (Cd.conn c hc).2 P (fun v u hv pv hu => hP v u (hsub v hv) pv hu) v0 hvc p0
  have hn : c.Nodup := by
    obtain ⟨rest, hp⟩ := perm_head hc
    have := hp.flatten.nodup_iff.mp (Cd.perm.nodup_iff.mpr h.wf.nd)
    rw [List.flatten_cons] at this
    exact (List.nodup_append.mp this).1
  have h6 : ∀ v ∈ c, 6 ≤ (rd v).length := fun v hv => hmany v (hsub v hv) (hcP v hv)
  obtain ⟨F1, e1⟩ := fd_part h.wf F hn hsub (Cd.shut c hc)
  have w1 := wf_part h.wf hn hsub (Cd.shut c hc)
  have hlone : nlone rd c = 0 := by
    unfold nlone
    rw [List.countP_eq_zero]
    intro v hv
    have := h6 v hv
    cases hr : rd v with
    | nil => rw [hr] at this; simp at this
    | cons _ _ => simp
  have h3 : ∀ f ∈ (cs.filter fun f => f.any fun s => decide (s.1 ∈ c)), 3 ≤ f.length := fun f hf => by
    have hcy := F1.cyc f hf
    have hin : ∀ s ∈ f, s ∈ darts c rd := fun s hs => fd_in F1 hf hs
    cases f with
    | nil => exact absurd rfl (cyc_ne hcy)
    | cons s r =>
      obtain ⟨s1, s2⟩ := mem_darts.mp (hin s (by simp))
      obtain ⟨t1, t2, t3⟩ := w1.ties s.1 s1 s.2 s2
      cases r with
      | nil =>
        have z : fs rd s = s := hcy
        unfold fs at z
        have := (Prod.mk.inj z).1
        exact absurd this t2
      | cons t r =>
        cases r with
        | nil =>
          have z1 : fs rd s = t := hcy.1
          have z2 : fs rd t = s := hcy.2
          have e2 : t.1 = s.2 := by rw [← z1]; rfl
          have e3 : s.1 = t.2 := by rw [← z2]; rfl
          have e4 : nx (rd s.2) s.1 = s.1 := by
            have : (fs rd s).2 = t.2 := by rw [z1]
            rw [e3]
            have h5 : nx (rd s.2) s.1 = t.2 := this
            rw [← e3, h5, ← e3]
          have := (lone_cut (w1.rn s.2 t1) t3).mpr e4
          obtain ⟨A, B, e5, _, _, e6⟩ := filter_split (w1.rn s.2 t1) t3
          rw [e6] at this
          have hl := h6 s.2 t1
          obtain ⟨a0, b0⟩ := List.append_eq_nil_iff.mp this
          rw [e5, a0, b0] at hl
          simp at hl
        | cons _ _ => simp
  have hlen := len_flat_ge h3
  rw [F1.perm.length_eq, darts_deg, e1] at hlen
  have he := eu c hc
  have hdg := deg_ge h6
  have hcpos : 0 < c.length := List.length_pos_iff.mpr (Cd.conn c hc).1
  omega
/-- of any places of a flat web one is tied to five of them at most -/
theorem low_in (h : Pl vs rd) {S : List α} (hS : ∀ v ∈ S, v ∈ vs) {v0 : α} (h0 : v0 ∈ S) : ∃ v ∈ S, ((rd v).filter fun u => decide (u ∈ S)).length ≤ 5 := by
  have hp : Pl vs fun v => (rd v).filter fun u => decide (v ∈ S) && decide (u ∈ S) := Pl.sub _ rfl h (fun v u => decide (v ∈ S) && decide (u ∈ S)) (fun v u => Bool.and_comm _ _) fun v _ => rfl
  obtain ⟨v, hv, pv, hl⟩ := low_place hp (hS v0 h0) (fun v => v ∈ S) (fun v u _ _ hu => by
    have := (List.mem_filter.mp hu).2
    simp at this
    exact this.2) h0
  refine ⟨v, pv, ?_⟩
  have : ((rd v).filter fun u => decide (v ∈ S) && decide (u ∈ S)) = (rd v).filter fun u => decide (u ∈ S) := List.filter_congr fun u _ => by simp [pv]
  rw [this] at hl
  exact hl
end
end Five
end
section
set_option autoImplicit false
namespace Five
section
variable {β : Type}
theorem path_all {f : β → β} {w : List β} (hw : ∀ x ∈ w, f x ∈ w) : ∀ {s e : β} {r : List β}, s ∈ w → Path f s r e → ∀ x ∈ r, x ∈ w
  | s, e, [], _, _, x, hx => by cases hx
  | s, e, t :: r, hs, ⟨p1, p2⟩, x, hx => by
    have ht : t ∈ w := by rw [← p1]; exact hw s hs
    rcases List.mem_cons.mp hx with q | q
    · rw [q]; exact ht
    · exact path_all hw ht p2 x q
theorem path_uniq {f : β → β} : ∀ {s e : β} {r r' : List β}, Path f s r e → Path f s r' e → e ∉ r → e ∉ r' → r = r'
  | s, e, [], [], _, _, _, _ => rfl
  | s, e, [], t :: r', p, q, _, h => by
    have p : f s = e := p
    exact absurd (show e ∈ t :: r' by rw [← p, q.1]; simp) h
  | s, e, t :: r, [], p, q, h, _ => by
    have q : f s = e := q
    exact absurd (show e ∈ t :: r by rw [← q, p.1]; simp) h
  | s, e, t :: r, t' :: r', p, q, h, h' => by
    have e1 : t = t' := p.1.symm.trans q.1
    subst e1
    rw [path_uniq p.2 q.2 (fun z => h (List.mem_cons_of_mem _ z)) fun z => h' (List.mem_cons_of_mem _ z)]
theorem path_nodup [DecidableEq β] {f : β → β} : ∀ {s e : β} {r : List β}, Path f s r e → e ∉ r → r.Nodup
  | s, e, [], _, _ => by simp
  | s, e, t :: r, ⟨p1, p2⟩, h => by
    have h2 : e ∉ r := fun z => h (List.mem_cons_of_mem _ z)
    refine List.nodup_cons.mpr ⟨fun ht => ?_, path_nodup p2 h2⟩
    obtain ⟨A, B, e1, _⟩ := mem_split ht
    have p3 := p2
    rw [e1] at p3
    have p4 := (path_app.mp p3).2
    have := path_uniq p2 p4 h2 fun z => h2 (by rw [e1]; simp [z])
    rw [e1] at this
    have := congrArg List.length this
    simp only [List.length_append, List.length_cons] at this
    omega
end
section
variable {α : Type} [DecidableEq α] {vs : List α} {rd : α → List α}
/-- ties that all lie on one face make a tree -/
theorem one_face (h : Pl vs rd) {s : α × α} {r : List (α × α)} (hs : s ∉ r) (sym : ∀ a b, (a, b) ∈ s :: r → (b, a) ∈ s :: r) (hin : ∀ x ∈ s :: r, x.1 ∈ vs ∧ x.2 ∈ rd x.1)
    (hc : Cyc (fs fun v => (rd v).filter fun u => decide ((v, u) ∈ s :: r)) (s :: r)) :
    ∃ c : List α, c.Nodup ∧ (∀ x, x ∈ c ↔ ∃ y, (x, y) ∈ s :: r) ∧ (s :: r).length + 2 = 2 * c.length := by
  have hD : (s :: r).Nodup := List.nodup_cons.mpr ⟨hs, path_nodup hc hs⟩
  have hsD : s ∈ s :: r := List.mem_cons_self
  generalize s :: r = D at *
  obtain ⟨rd', erd⟩ : ∃ rd' : α → List α, rd' = fun v => (rd v).filter fun u => decide ((v, u) ∈ D) := ⟨_, rfl⟩
  rw [← erd] at hc
  have pl : Pl vs rd' := Pl.sub _ rfl h (fun v u => decide ((v, u) ∈ D)) (fun v u => by
    by_cases c : (v, u) ∈ D
    · rw [decide_eq_true c, decide_eq_true (sym _ _ c)]
    · rw [decide_eq_false c, decide_eq_false fun z => c (sym _ _ z)]) (fun v hv => by rw [erd])
  have hm : ∀ v u, u ∈ rd' v ↔ u ∈ rd v ∧ (v, u) ∈ D := fun v u => by
    rw [erd]
    simp
  have hd : ∀ x, x ∈ darts vs rd' ↔ x ∈ D := fun x => by
    rw [mem_darts, hm]
    exact ⟨fun q => q.2.2, fun q => ⟨(hin x q).1, (hin x q).2, q⟩⟩
  obtain ⟨cs, ps, F, Cd, eu⟩ := pl.flat
  have hsv := (hin s hsD).1
  obtain ⟨c, hcp, hsc⟩ := List.mem_flatten.mp (Cd.perm.mem_iff.mpr hsv)
  have hcn : c.Nodup := by
    have := Cd.perm.nodup_iff.mpr pl.wf.nd
    exact (List.pairwise_flatten.mp this).1 c hcp
  have hcm : ∀ x, x ∈ c ↔ ∃ y, (x, y) ∈ D := fun x => by
    constructor
    · intro hx
      exact (Cd.conn c hcp).2 (fun x => ∃ y, (x, y) ∈ D) (fun v u _ _ hu => ⟨v, sym _ _ ((hm v u).mp hu).2⟩) s.1 hsc ⟨s.2, hsD⟩ x hx
    · rintro ⟨y, hy⟩
      exact cyc_shut (vs := vs) (Cd.shut c hcp) (fun x hx => (hd x).mpr hx) hc hsD hsc (x, y) hy
  refine ⟨c, hcn, hcm, ?_⟩
  have hfn : cs.flatten.Nodup := F.perm.nodup_iff.mpr (darts_nodup pl.wf.nd pl.wf.rn)
  have hall : ∀ w ∈ cs, s ∈ w := fun w hw => by
    have hwc := F.cyc w hw
    obtain ⟨t, ht⟩ := List.exists_mem_of_ne_nil w (cyc_ne hwc)
    have htD : t ∈ D := (hd t).mp (fd_in F hw ht)
    obtain ⟨A, B, e1, _⟩ := mem_split htD
    rw [e1] at hc hsD
    have hr := cyc_rot hc
    have hp : Path (fs rd') t (B ++ A) t := hr
    have := path_all (w := w) (fun x hx => cyc_step hwc hx) ht hp
    rcases List.mem_append.mp hsD with q | q
    · exact this s (List.mem_append_right _ q)
    · rcases List.mem_cons.mp q with q | q
      · rw [q]; exact ht
      · exact this s (List.mem_append_left _ q)
  have hcs : ∃ w, cs = [w] ∧ s ∈ w := by
    cases cs with
    | nil =>
      have : s ∈ ([] : List (List (α × α))).flatten := F.perm.mem_iff.mpr ((hd s).mpr hsD)
      cases this
    | cons w cs =>
      cases cs with
      | nil => exact ⟨w, rfl, hall w (by simp)⟩
      | cons w2 cs => exact absurd (hall w2 (by simp)) (nodup_flatten_apart hfn (by simp) (hall w (by simp)))
  obtain ⟨w, rfl, hsw⟩ := hcs
  have e1 : nfc [w] c = 1 := by
    rw [nfc_cons, any_yes hsw hsc, if_pos rfl]
    rfl
  have e2 : nlone rd' c = 0 := by
    unfold nlone
    rw [List.countP_eq_zero]
    intro v hv q
    obtain ⟨y, hy⟩ := (hcm v).mp hv
    have : y ∈ rd' v := (hm v y).mpr ⟨(hin _ hy).2, hy⟩
    cases e : rd' v with
    | nil => rw [e] at this; cases this
    | cons a r => rw [e] at q; cases q
  have e3 : deg rd' c = D.length := by
    rw [← darts_deg]
    refine (perm_of_mem (darts_nodup hcn fun v hv => ?_) hD fun x => ?_).length_eq
    · obtain ⟨y, hy⟩ := (hcm v).mp hv
      exact pl.wf.rn v (hin _ hy).1
    · rw [mem_darts, hm]
      exact ⟨fun q => q.2.2, fun q => ⟨(hcm _).mpr ⟨_, q⟩, (hin x q).2, q⟩⟩
  have := eu c hcp
  rw [e1, e2, e3] at this
  omega
/-! steps of a way -/
def prs : List α → List (α × α)
  | a :: b :: r => (a, b) :: prs (b :: r)
  | _ => []
theorem prs_len : ∀ (l : List α), (prs l).length = l.length - 1
  | [] => rfl
  | [_] => rfl
  | a :: b :: r => by
    show (prs (b :: r)).length + 1 = _
    rw [prs_len (b :: r)]
    simp
theorem prs_mem {x u : α} : ∀ {l : List α}, (x, u) ∈ prs l ↔ ∃ A B, l = A ++ x :: u :: B
  | [] => by simp [prs]
  | [a] => by
    simp only [prs, List.not_mem_nil, false_iff]
    rintro ⟨A, B, e⟩
    have := congrArg List.length e
    simp at this
    omega
  | a :: b :: r => by
    show (x, u) ∈ (a, b) :: prs (b :: r) ↔ _
    rw [List.mem_cons, prs_mem (l := b :: r)]
    constructor
    · rintro (e | ⟨A, B, e⟩)
      · obtain ⟨rfl, rfl⟩ := Prod.mk.inj e
        exact ⟨[], r, rfl⟩
      · exact ⟨a :: A, B, by rw [e]; rfl⟩
    · rintro ⟨A, B, e⟩
      cases A with
      | nil =>
        simp at e
        obtain ⟨rfl, rfl, _⟩ := e
        exact .inl rfl
      | cons z A =>
        simp at e
        exact .inr ⟨A, B, e.2⟩
theorem prs_rev {x u : α} {l : List α} : (x, u) ∈ prs l.reverse ↔ (u, x) ∈ prs l := by
  rw [prs_mem, prs_mem]
  constructor
  · rintro ⟨A, B, e⟩
    refine ⟨B.reverse, A.reverse, ?_⟩
    have := congrArg List.reverse e
    rw [List.reverse_reverse] at this
    rw [this]
    simp
  · rintro ⟨A, B, e⟩
    refine ⟨B.reverse, A.reverse, ?_⟩
    rw [e]
    simp
theorem prs_app {a : α} : ∀ (A : List α) (B : List α), prs (A ++ a :: B) = prs (A ++ [a]) ++ prs (a :: B)
  | [], B => rfl
  | [x], B => rfl
  | x :: y :: A, B => by
    show (x, y) :: prs ((y :: A) ++ a :: B) = ((x, y) :: prs ((y :: A) ++ [a])) ++ prs (a :: B)
    rw [prs_app (y :: A) B]
    rfl
theorem app_uniq {x : α} : ∀ {A A' B B' : List α}, A ++ x :: B = A' ++ x :: B' → x ∉ A → x ∉ B → A = A' ∧ B = B'
  | [], [], B, B', h, _, _ => by simpa using h
  | [], a :: A', B, B', h, _, hb => by
    simp at h
    exact absurd (by rw [h.2]; simp) hb
  | a :: A, [], B, B', h, ha, _ => by
    simp at h
    exact absurd (by rw [h.1]; simp) ha
  | a :: A, a' :: A', B, B', h, ha, hb => by
    simp at h
    obtain ⟨rfl, h⟩ := h
    obtain ⟨rfl, rfl⟩ := app_uniq h (fun q => ha (List.mem_cons_of_mem _ q)) hb
    exact ⟨rfl, rfl⟩
theorem nx_two {l : List α} {a c : α} (hn : l.Nodup) (hm : ∀ u, u ∈ l ↔ u = a ∨ u = c) (ne : a ≠ c) : nx l a = c := by
  have hp : l.Perm [a, c] := perm_of_mem hn (by simpa using ne) fun u => by rw [hm]; simp
  have hl := hp.length_eq
  match l, hl with
  | [x, y], _ =>
    have hx := (hm x).mp (by simp)
    have hy := (hm y).mp (by simp)
    have hxy : x ≠ y := by simpa using hn
    rcases hx with rfl | rfl
    · rcases hy with rfl | rfl
      · exact absurd rfl hxy
      · have := nx_app (A := ([] : List α)) (B := [y]) (x := x) (by simp)
        simpa using this
    · rcases hy with rfl | rfl
      · have := nx_app (A := [x]) (B := ([] : List α)) (x := y) (by simpa using hxy.symm)
        simpa using this
      · exact absurd rfl hxy
/-- at each place of the way it goes on with the next one of the round -/
def Tr (rd : α → List α) : List α → Prop
  | a :: x :: c :: r => nx (rd x) a = c ∧ Tr rd (x :: c :: r)
  | _ => True
theorem Tr.of {rd : α → List α} : ∀ {L : List α}, (∀ A a x c B, L = A ++ a :: x :: c :: B → nx (rd x) a = c) → Tr rd L
  | [], _ => trivial
  | [_], _ => trivial
  | [_, _], _ => trivial
  | a :: x :: c :: r, h => ⟨h [] a x c r rfl, Tr.of fun A a' x' c' B e => h (a :: A) a' x' c' B (by rw [e]; rfl)⟩
theorem Tr.join {rd : α → List α} {a v c : α} (hn : nx (rd v) a = c) {B : List α} (h2 : Tr rd (v :: c :: B)) : ∀ {A : List α}, Tr rd (A ++ [a, v]) → Tr rd (A ++ a :: v :: c :: B)
  | [], _ => ⟨hn, h2⟩
  | [x], h => ⟨h.1, hn, h2⟩
  | x :: y :: A, h => by
    have h : Tr rd (x :: y :: (A ++ [a, v])) := h
    show Tr rd (x :: y :: (A ++ a :: v :: c :: B))
    cases A with
    | nil => exact ⟨h.1, Tr.join hn h2 (A := [y]) h.2⟩
    | cons z A => exact ⟨h.1, Tr.join hn h2 (A := y :: z :: A) h.2⟩
theorem Tr.path {rd : α → List α} : ∀ {L : List α} {a b c d : α}, Tr rd (a :: b :: L ++ [c, d]) → Path (fs rd) (a, b) (prs (b :: L ++ [c])) (c, d) 
  | [], a, b, c, d, h => by
    have h1 : nx (rd b) a = c := h.1
    have h2 : nx (rd c) b = d := h.2.1
    exact ⟨by show (b, nx (rd b) a) = (b, c); rw [h1], by show (c, nx (rd c) b) = (c, d); rw [h2]⟩
  | x :: L, a, b, c, d, h => by
    have h1 : nx (rd b) a = x := h.1
    exact ⟨by show (b, nx (rd b) a) = (b, x); rw [h1], Tr.path (L := L) h.2⟩
end
end Five
end
section
set_option autoImplicit false
namespace Five
section
variable {α : Type} [DecidableEq α] {vs : List α} {rd : α → List α} {v : α} {P Q : List α}
theorem ring_in (hn : P.Nodup) (hv : v ∉ P) (h2 : 2 ≤ P.length) {A B : List α} {a x c : α} (e : v :: P ++ [v] = A ++ a :: x :: c :: B) :
    x ∈ P ∧ a ≠ c ∧ (∀ u, (x, u) ∈ prs (v :: P ++ [v]) ↔ u = c) ∧ ∀ u, (u, x) ∈ prs (v :: P ++ [v]) ↔ u = a := by
  obtain ⟨B', z, eB⟩ : ∃ B' z, c :: B = B' ++ [z] := ⟨(c :: B).dropLast, (c :: B).getLast (by simp), (List.dropLast_concat_getLast _).symm⟩
  have e1 : (v :: P) ++ [v] = (A ++ a :: x :: B') ++ [z] := by
    rw [e, eB]; simp
  obtain ⟨e2, e3⟩ := List.append_inj' e1 rfl
  have e3 : v = z := by simpa using e3
  subst e3
  obtain ⟨A'', eP, eA⟩ : ∃ A'', P = A'' ++ x :: B' ∧ A ++ [a] = v :: A'' := by
    cases A with
    | nil =>
      simp at e2
      exact ⟨[], by rw [e2.2]; rfl, by rw [e2.1]; rfl⟩
    | cons y A =>
      simp at e2
      exact ⟨A ++ [a], by rw [e2.2]; simp, by rw [e2.1]; rfl⟩
  have hx : x ∈ P := by rw [eP]; simp
  have hxv : x ≠ v := fun q => hv (by rw [← q]; exact hx)
  have hn' := hn
  rw [eP] at hn'
  obtain ⟨n1, n2, n3⟩ := List.nodup_append.mp hn'
  have hxA : x ∉ A ++ [a] := by
    rw [eA]
    intro q
    rcases List.mem_cons.mp q with q | q
    · exact hxv q
    · exact n3 x q x (by simp) rfl
  have hxB : x ∉ c :: B := by
    rw [eB]
    intro q
    rcases List.mem_append.mp q with q | q
    · exact (List.nodup_cons.mp n2).1 q
    · exact hxv (List.mem_singleton.mp q)
  have eL : v :: P ++ [v] = (A ++ [a]) ++ x :: (c :: B) := by rw [e]; simp
  refine ⟨hx, ?_, fun u => ?_, fun u => ?_⟩
  · have hc : c ∈ B' ∨ (B' = [] ∧ c = v) := by
      cases B' with
      | nil =>
        simp at eB
        exact .inr ⟨rfl, eB.1⟩
      | cons b B' =>
        simp at eB
        exact .inl (by rw [eB.1]; simp)
    have ha : a ∈ A'' ∨ (A'' = [] ∧ a = v) := by
      cases A with
      | nil =>
        simp at eA
        exact .inr ⟨eA.2, eA.1⟩
      | cons y A =>
        simp at eA
        exact .inl (by rw [← eA.2]; simp)
    intro q
    rcases ha with ha | ⟨ha, ha2⟩
    · rcases hc with hc | ⟨hc, hc2⟩
      · exact n3 a ha c (List.mem_cons_of_mem _ hc) q
      · exact hv (by rw [← hc2, ← q, eP]; exact List.mem_append_left _ ha)
    · rcases hc with hc | ⟨hc, hc2⟩
      · exact hv (by rw [← ha2, q, eP]; exact List.mem_append_right _ (List.mem_cons_of_mem _ hc))
      · rw [eP, ha, hc] at h2
        simp at h2
  · rw [prs_mem]
    constructor
    · rintro ⟨A2, B2, e4⟩
      rw [eL] at e4
      obtain ⟨_, e5⟩ := app_uniq e4 hxA hxB
      exact (List.cons.inj e5).1.symm
    · rintro rfl
      exact ⟨A ++ [a], B, eL⟩
  · rw [prs_mem]
    constructor
    · rintro ⟨A2, B2, e4⟩
      rw [eL, show A2 ++ u :: x :: B2 = (A2 ++ [u]) ++ x :: B2 by simp] at e4
      obtain ⟨e5, _⟩ := app_uniq e4 hxA hxB
      have := List.append_inj' e5 rfl
      simpa using this.2.symm
    · rintro rfl
      exact ⟨A, c :: B, e⟩
theorem ring_tr {rd' : α → List α} (hn : P.Nodup) (hv : v ∉ P) (h2 : 2 ≤ P.length) (hr : ∀ x ∈ P, (rd' x).Nodup) (hm : ∀ x ∈ P, ∀ u, u ∈ rd' x ↔ (x, u) ∈ prs (v :: P ++ [v]) ∨ (u, x) ∈ prs (v :: P ++ [v])) :
    Tr rd' (v :: P ++ [v]) ∧ Tr rd' (v :: P ++ [v]).reverse := by
  have key : ∀ A a x c B, v :: P ++ [v] = A ++ a :: x :: c :: B → nx (rd' x) a = c ∧ nx (rd' x) c = a := fun A a x c B e => by
    obtain ⟨hx, ne, q1, q2⟩ := ring_in hn hv h2 e
    have h3 : ∀ u, u ∈ rd' x ↔ u = a ∨ u = c := fun u => by
      rw [hm x hx, q1, q2]
      exact ⟨fun q => q.symm, fun q => q.symm⟩
    exact ⟨nx_two (hr x hx) h3 ne, nx_two (hr x hx) (fun u => (h3 u).trans ⟨fun q => q.symm, fun q => q.symm⟩) ne.symm⟩
  refine ⟨Tr.of fun A a x c B e => (key A a x c B e).1, Tr.of fun A a x c B e => ?_⟩
  refine (key B.reverse c x a A.reverse ?_).2
  have := congrArg List.reverse e
  rw [List.reverse_reverse] at this
  rw [this]
  simp
theorem ring_v {n0 n2 : α} {P1 P2 : List α} (hv : v ∉ P) (e1 : P = n0 :: P1) (e2 : P = P2 ++ [n2]) (u : α) : ((v, u) ∈ prs (v :: P ++ [v]) ↔ u = n0) ∧ ((u, v) ∈ prs (v :: P ++ [v]) ↔ u = n2) := by
  have half : ∀ {P : List α} {n0 : α} {P1 : List α}, v ∉ P → P = n0 :: P1 → ∀ u, (v, u) ∈ prs (v :: P ++ [v]) ↔ u = n0 := fun {P n0 P1} hv e1 u => by
    rw [prs_mem]
    constructor
    · rintro ⟨A, B, e⟩
      cases A with
      | nil =>
        rw [e1] at e
        simp at e
        exact e.1.symm
      | cons y A =>
        exfalso
        obtain ⟨B', z, eB⟩ : ∃ B' z, u :: B = B' ++ [z] := ⟨(u :: B).dropLast, (u :: B).getLast (by simp), (List.dropLast_concat_getLast _).symm⟩
        have e3 : P ++ [v] = (A ++ v :: B') ++ [z] := by
          have := (List.cons.inj e).2
          rw [show A ++ v :: B' ++ [z] = A ++ v :: (B' ++ [z]) by simp, ← eB]
          exact this
        obtain ⟨e4, _⟩ := List.append_inj' e3 rfl
        exact hv (by rw [e4]; simp)
    · rintro rfl
      exact ⟨[], P1 ++ [v], by rw [e1]; rfl⟩
  refine ⟨half hv e1 u, ?_⟩
  rw [← prs_rev]
  have e3 : (v :: P ++ [v]).reverse = v :: P.reverse ++ [v] := by simp
  rw [e3]
  exact half (n0 := n2) (P1 := P2.reverse) (by simpa using hv) (by rw [e2]; simp) u
theorem prs_sub {l : List α} {x u : α} (h : (x, u) ∈ prs l) : x ∈ l ∧ u ∈ l := by
  obtain ⟨A, B, e⟩ := prs_mem.mp h
  rw [e]
  simp
/-- two rings through a place do not cross there -/
theorem no_cross (h : Pl vs rd) {n0 n1 n2 n3 : α} {P1 P2 Q1 Q2 : List α} (hr : (rd v).filter (fun u => decide (u ∈ [n0, n1, n2, n3])) = [n0, n1, n2, n3]) (hnd : [n0, n1, n2, n3].Nodup)
    (hPn : P.Nodup) (hQn : Q.Nodup) (hPv : v ∉ P) (hQv : v ∉ Q) (hP2 : 2 ≤ P.length) (hQ2 : 2 ≤ Q.length) (dis : ∀ x ∈ P, x ∉ Q)
    (eP1 : P = n0 :: P1) (eP2 : P = P2 ++ [n2]) (eQ1 : Q = n1 :: Q1) (eQ2 : Q = Q2 ++ [n3])
    (tP : ∀ a b, (a, b) ∈ prs (v :: P ++ [v]) → a ∈ vs ∧ b ∈ rd a) (tQ : ∀ a b, (a, b) ∈ prs (v :: Q ++ [v]) → a ∈ vs ∧ b ∈ rd a) : False := by
  have wf := h.wf
  -- the walk
  obtain ⟨M, eM⟩ : ∃ M, M = P1 ++ v :: (Q.reverse ++ v :: (P.reverse ++ v :: Q)) := ⟨_, rfl⟩
  have rP : (v :: P ++ [v]).reverse = v :: P.reverse ++ [v] := by simp
  have rQ : (v :: Q ++ [v]).reverse = v :: Q.reverse ++ [v] := by simp
  have eD : (v, n0) :: prs (n0 :: M ++ [v]) = prs (v :: P ++ [v]) ++ (prs (v :: Q.reverse ++ [v]) ++ (prs (v :: P.reverse ++ [v]) ++ prs (v :: Q ++ [v]))) := by
    have e1 : (v, n0) :: prs (n0 :: M ++ [v]) = prs ((v :: P) ++ v :: (Q.reverse ++ v :: (P.reverse ++ v :: (Q ++ [v])))) := by
      rw [eP1, eM, eP1]
      show (v, n0) :: prs (n0 :: _) = (v, n0) :: prs (n0 :: _)
      congr 2
      simp
    rw [e1, prs_app (a := v) (v :: P) (Q.reverse ++ v :: (P.reverse ++ v :: (Q ++ [v])))]
    have e2 := prs_app (a := v) (v :: Q.reverse) (P.reverse ++ v :: (Q ++ [v]))
    have e3 := prs_app (a := v) (v :: P.reverse) (Q ++ [v])
    have e2 : prs (v :: (Q.reverse ++ v :: (P.reverse ++ v :: (Q ++ [v])))) = prs (v :: Q.reverse ++ [v]) ++ prs (v :: (P.reverse ++ v :: (Q ++ [v]))) := e2
    have e3 : prs (v :: (P.reverse ++ v :: (Q ++ [v]))) = prs (v :: P.reverse ++ [v]) ++ prs (v :: (Q ++ [v])) := e3
    rw [e2, e3]
    rfl
  have mD : ∀ x u, (x, u) ∈ (v, n0) :: prs (n0 :: M ++ [v]) ↔ ((x, u) ∈ prs (v :: P ++ [v]) ∨ (u, x) ∈ prs (v :: P ++ [v])) ∨ ((x, u) ∈ prs (v :: Q ++ [v]) ∨ (u, x) ∈ prs (v :: Q ++ [v])) := fun x u => by
    rw [eD, List.mem_append, List.mem_append, List.mem_append, ← rQ, ← rP, prs_rev, prs_rev]
    constructor
    · rintro (q | q | q | q)
      · exact .inl (.inl q)
      · exact .inr (.inr q)
      · exact .inl (.inr q)
      · exact .inr (.inl q)
    · rintro ((q | q) | (q | q))
      · exact .inl q
      · exact .inr (.inr (.inl q))
      · exact .inr (.inr (.inr q))
      · exact .inr (.inl q)
  have hlen : ((v, n0) :: prs (n0 :: M ++ [v])).length = 2 * (P.length + 1) + 2 * (Q.length + 1) := by
    rw [eD]
    simp [prs_len]
    omega
  have inP : ∀ x, x ∈ v :: P ++ [v] → x = v ∨ x ∈ P := fun x hx => by
    simp at hx
    rcases hx with q | q | q
    · exact .inl q
    · exact .inr q
    · exact .inl q
  have inQ : ∀ x, x ∈ v :: Q ++ [v] → x = v ∨ x ∈ Q := fun x hx => by
    simp at hx
    rcases hx with q | q | q
    · exact .inl q
    · exact .inr q
    · exact .inl q
  have outQ : ∀ x ∈ P, x ∉ v :: Q ++ [v] := fun x hx q => by
    rcases inQ x q with z | z
    · exact hPv (by rw [← z]; exact hx)
    · exact dis x hx z
  have outP : ∀ x ∈ Q, x ∉ v :: P ++ [v] := fun x hx q => by
    rcases inP x q with z | z
    · exact hQv (by rw [← z]; exact hx)
    · exact dis x z hx
  have hn0P : n0 ∈ P := by rw [eP1]; simp
  have ne02 : n0 ≠ n2 := by
    intro e
    rw [e] at hnd
    simp at hnd
  have hs : (v, n0) ∉ prs (n0 :: M ++ [v]) := by
    have e0 : prs (n0 :: M ++ [v]) = prs (P ++ [v]) ++ (prs (v :: Q.reverse ++ [v]) ++ (prs (v :: P.reverse ++ [v]) ++ prs (v :: Q ++ [v]))) := by
      have := eD
      rw [show prs (v :: P ++ [v]) = (v, n0) :: prs (P ++ [v]) by rw [eP1]; rfl, List.cons_append] at this
      exact (List.cons.inj this).2
    rw [e0, List.mem_append, List.mem_append, List.mem_append, ← rQ, ← rP, prs_rev, prs_rev]
    rintro (q | q | q | q)
    · obtain ⟨A, B, e⟩ := prs_mem.mp q
      obtain ⟨B', z, eB⟩ : ∃ B' z, n0 :: B = B' ++ [z] := ⟨(n0 :: B).dropLast, (n0 :: B).getLast (by simp), (List.dropLast_concat_getLast _).symm⟩
      rw [eB, show A ++ v :: (B' ++ [z]) = (A ++ v :: B') ++ [z] by simp] at e
      obtain ⟨e4, _⟩ := List.append_inj' e rfl
      exact hPv (by rw [e4]; simp)
    · exact outQ n0 hn0P (prs_sub q).1
    · exact ne02 (((ring_v hPv eP1 eP2 n0).2).mp q)
    · exact outQ n0 hn0P (prs_sub q).2
  have sym : ∀ a b, (a, b) ∈ (v, n0) :: prs (n0 :: M ++ [v]) → (b, a) ∈ (v, n0) :: prs (n0 :: M ++ [v]) := fun a b q => by
    rw [mD] at q ⊢
    rcases q with (q | q) | (q | q)
    · exact .inl (.inr q)
    · exact .inl (.inl q)
    · exact .inr (.inr q)
    · exact .inr (.inl q)
  have back : ∀ a b, a ∈ vs ∧ b ∈ rd a → b ∈ vs ∧ a ∈ rd b := fun a b q => ⟨(wf.ties a q.1 b q.2).1, (wf.ties a q.1 b q.2).2.2⟩
  have hin : ∀ x ∈ (v, n0) :: prs (n0 :: M ++ [v]), x.1 ∈ vs ∧ x.2 ∈ rd x.1 := fun x q => by
    obtain ⟨a, b⟩ := x
    rcases (mD a b).mp q with (q | q) | (q | q)
    · exact tP a b q
    · exact back b a (tP b a q)
    · exact tQ a b q
    · exact back b a (tQ b a q)
  obtain ⟨rd', erd⟩ : ∃ rd' : α → List α, rd' = fun x => (rd x).filter fun u => decide ((x, u) ∈ (v, n0) :: prs (n0 :: M ++ [v])) := ⟨_, rfl⟩
  have hm : ∀ x u, u ∈ rd' x ↔ u ∈ rd x ∧ (x, u) ∈ (v, n0) :: prs (n0 :: M ++ [v]) := fun x u => by
    rw [erd]
    simp only [List.mem_filter, decide_eq_true_eq]
  have hm' : ∀ x u, u ∈ rd' x ↔ (x, u) ∈ (v, n0) :: prs (n0 :: M ++ [v]) := fun x u => (hm x u).trans ⟨fun q => q.2, fun q => ⟨(hin _ q).2, q⟩⟩
  have hrn : ∀ x, x ∈ vs → (rd' x).Nodup := fun x hx => by
    rw [erd]
    exact (wf.rn x hx).sublist List.filter_sublist
  have rv : rd' v = [n0, n1, n2, n3] := by
    rw [← hr, erd]
    refine List.filter_congr fun u _ => ?_
    have : (v, u) ∈ (v, n0) :: prs (n0 :: M ++ [v]) ↔ u ∈ [n0, n1, n2, n3] := by
      rw [mD, (ring_v hPv eP1 eP2 u).1, (ring_v hPv eP1 eP2 u).2, (ring_v hQv eQ1 eQ2 u).1, (ring_v hQv eQ1 eQ2 u).2]
      simp
      constructor
      · rintro ((q | q) | (q | q)) <;> simp [q]
      · rintro (q | q | q | q) <;> simp [q]
    by_cases c : u ∈ [n0, n1, n2, n3]
    · rw [decide_eq_true c, decide_eq_true (this.mpr c)]
    · rw [decide_eq_false c, decide_eq_false fun z => c (this.mp z)]
  have hPvs : ∀ x ∈ P, x ∈ vs := fun x hx => by
    obtain ⟨A, B, e⟩ := List.append_of_mem hx
    cases B with
    | nil => exact (tP x v (prs_mem.mpr ⟨v :: A, [], by rw [e]; simp⟩)).1
    | cons b B => exact (tP x b (prs_mem.mpr ⟨v :: A, B ++ [v], by rw [e]; simp⟩)).1
  have hQvs : ∀ x ∈ Q, x ∈ vs := fun x hx => by
    obtain ⟨A, B, e⟩ := List.append_of_mem hx
    cases B with
    | nil => exact (tQ x v (prs_mem.mpr ⟨v :: A, [], by rw [e]; simp⟩)).1
    | cons b B => exact (tQ x b (prs_mem.mpr ⟨v :: A, B ++ [v], by rw [e]; simp⟩)).1
  obtain ⟨T1, T3⟩ := ring_tr (rd' := rd') hPn hPv hP2 (fun x hx => hrn x (hPvs x hx)) fun x hx u => by
    rw [hm', mD]
    exact ⟨fun q => q.resolve_right fun z => z.elim (fun z => outQ x hx (prs_sub z).1) fun z => outQ x hx (prs_sub z).2, .inl⟩
  obtain ⟨T4, T2⟩ := ring_tr (rd' := rd') hQn hQv hQ2 (fun x hx => hrn x (hQvs x hx)) fun x hx u => by
    rw [hm', mD]
    exact ⟨fun q => q.resolve_left fun z => z.elim (fun z => outP x hx (prs_sub z).1) fun z => outP x hx (prs_sub z).2, .inr⟩
  rw [rP] at T3
  rw [rQ] at T2
  have d01 : n0 ≠ n1 ∧ n0 ≠ n2 ∧ n0 ≠ n3 ∧ n1 ≠ n2 ∧ n1 ≠ n3 ∧ n2 ≠ n3 := by
    simp at hnd
    obtain ⟨⟨a, b, c⟩, ⟨d, e⟩, f⟩ := hnd
    exact ⟨a, b, c, d, e, f⟩
  obtain ⟨a1, a2, a3, a4, a5, a6⟩ := d01
  have x0 : nx (rd' v) n0 = n1 := by
    rw [rv]
    have := nx_app (A := ([] : List α)) (B := [n1, n2, n3]) (x := n0) (by simp)
    simpa using this
  have x1 : nx (rd' v) n1 = n2 := by
    rw [rv]
    have := nx_app (A := [n0]) (B := [n2, n3]) (x := n1) (by simpa using a1.symm)
    simpa using this
  have x2 : nx (rd' v) n2 = n3 := by
    rw [rv]
    have := nx_app (A := [n0, n1]) (B := [n3]) (x := n2) (by simp; exact ⟨a2.symm, a4.symm⟩)
    simpa using this
  have x3 : nx (rd' v) n3 = n0 := by
    rw [rv]
    have := nx_app (A := [n0, n1, n2]) (B := ([] : List α)) (x := n3) (by simp; exact ⟨a3.symm, a5.symm, a6.symm⟩)
    simpa using this
  have U4 : Tr rd' (v :: Q ++ [v, n0]) := by
    have : Tr rd' ((v :: Q2) ++ n3 :: v :: n0 :: []) := Tr.join (B := []) x3 trivial (by rw [eQ2] at T4; simpa using T4)
    rw [eQ2]
    simpa using this
  have U3 : Tr rd' (v :: P.reverse ++ (v :: Q ++ [v, n0])) := by
    have h1 : P.reverse = P1.reverse ++ [n0] := by rw [eP1]; simp
    have : Tr rd' ((v :: P1.reverse) ++ n0 :: v :: n1 :: (Q1 ++ [v, n0])) := Tr.join x0 (by rw [eQ1] at U4; simpa using U4) (by rw [h1] at T3; simpa using T3)
    rw [h1, eQ1]
    simpa using this
  have U2 : Tr rd' (v :: Q.reverse ++ (v :: P.reverse ++ (v :: Q ++ [v, n0]))) := by
    have h1 : Q.reverse = Q1.reverse ++ [n1] := by rw [eQ1]; simp
    have h2 : P.reverse = n2 :: P2.reverse := by rw [eP2]; simp
    have : Tr rd' ((v :: Q1.reverse) ++ n1 :: v :: n2 :: (P2.reverse ++ (v :: Q ++ [v, n0]))) := Tr.join x1 (by rw [h2] at U3; simpa using U3) (by rw [h1] at T2; simpa using T2)
    rw [h1, h2]
    simpa using this
  have U1 : Tr rd' (v :: P ++ (v :: Q.reverse ++ (v :: P.reverse ++ (v :: Q ++ [v, n0])))) := by
    have h2 : Q.reverse = n3 :: Q2.reverse := by rw [eQ2]; simp
    have : Tr rd' ((v :: P2) ++ n2 :: v :: n3 :: (Q2.reverse ++ (v :: P.reverse ++ (v :: Q ++ [v, n0])))) := Tr.join x2 (by rw [h2] at U2; simpa using U2) (by rw [eP2] at T1; simpa using T1)
    rw [h2]
    conv => rw [eP2]
    rw [eP2] at this
    simpa using this
  have hcyc : Cyc (fs rd') ((v, n0) :: prs (n0 :: M ++ [v])) := by
    refine Tr.path (rd := rd') (L := M) (a := v) (b := n0) (c := v) (d := n0) ?_
    have e1 : v :: n0 :: M ++ [v, n0] = v :: P ++ (v :: Q.reverse ++ (v :: P.reverse ++ (v :: Q ++ [v, n0]))) := by
      rw [eM]
      conv => rhs; rw [eP1]
      rw [eP1]
      simp
    rw [e1]
    exact U1
  rw [erd] at hcyc
  obtain ⟨c, hcn, hcm, hcl⟩ := one_face h hs sym hin hcyc
  have hp : c.Perm (v :: P ++ Q) := by
    refine perm_of_mem hcn ?_ fun x => ?_
    · show (v :: (P ++ Q)).Nodup
      refine List.nodup_cons.mpr ⟨fun q => (List.mem_append.mp q).elim hPv hQv, List.nodup_append.mpr ⟨hPn, hQn, fun a ha b hb e => dis a ha (by rw [e]; exact hb)⟩⟩
    · rw [hcm]
      constructor
      · rintro ⟨y, hy⟩
        rcases (mD x y).mp hy with (q | q) | (q | q)
        · rcases inP x (prs_sub q).1 with z | z <;> simp [z]
        · rcases inP x (prs_sub q).2 with z | z <;> simp [z]
        · rcases inQ x (prs_sub q).1 with z | z <;> simp [z]
        · rcases inQ x (prs_sub q).2 with z | z <;> simp [z]
      · intro hx
        have hx : x ∈ v :: (P ++ Q) := hx
        rcases List.mem_cons.mp hx with q | q
        · exact ⟨n0, by rw [q]; simp⟩
        · rcases List.mem_append.mp q with q | q
          · obtain ⟨A, B, e⟩ := List.append_of_mem q
            cases B with
            | nil => exact ⟨v, (mD x v).mpr (.inl (.inl (prs_mem.mpr ⟨v :: A, [], by rw [e]; simp⟩)))⟩
            | cons b B => exact ⟨b, (mD x b).mpr (.inl (.inl (prs_mem.mpr ⟨v :: A, B ++ [v], by rw [e]; simp⟩)))⟩
          · obtain ⟨A, B, e⟩ := List.append_of_mem q
            cases B with
            | nil => exact ⟨v, (mD x v).mpr (.inr (.inl (prs_mem.mpr ⟨v :: A, [], by rw [e]; simp⟩)))⟩
            | cons b B => exact ⟨b, (mD x b).mpr (.inr (.inl (prs_mem.mpr ⟨v :: A, B ++ [v], by rw [e]; simp⟩)))⟩
  have := hp.length_eq
  rw [hlen] at hcl
  simp at this
  omega
end
end Five
end
section
namespace Five
open PySem PySem.Spec PyProof.Rows L2
open PySem.W (Datum DatumOrd dataLt dataLe minOf EachIs AllAlike Sortable Holds HoldAll)
/-! data with a type: what a rule asks and tells of them -/
abbrev tD {α : Type} [DecidableEq α] [Datum α] (x : α) : PyData := Datum.toD x
section
variable {α : Type} [DecidableEq α] [DatumOrd α]
def leD (a b : α) : Bool := !DatumOrd.lt b a
def srt (l : List α) : List α := l.mergeSort leD
theorem lt_tri {a b : α} (h1 : DatumOrd.lt a b = false) (h2 : DatumOrd.lt b a = false) : a = b := by
  rw [← DatumOrd.lt_eq] at h1 h2
  have e : PySem.W.keyToks (Datum.toD a) = PySem.W.keyToks (Datum.toD b) := lex_total _ _ h1 h2
  cases q : PyData.eqv (Datum.toD a) (Datum.toD b) with
  | true => rw [Datum.eqv] at q; exact of_decide_eq_true q
  | false =>
    have z := (PySem.W.toks_eqv _ _ (DatumOrd.alike a b)).2 q [] [Sum.inl 0]
    have z2 : PyProof.Rows.lexLt itemOrd (PySem.W.keyToks (Datum.toD a)) (PySem.W.keyToks (Datum.toD b)) = false := h1
    rw [z2, e, PySem.W.lex_pre] at z
    exact absurd z (by decide)
theorem leD_trans (a b c : α) (h1 : leD a b = true) (h2 : leD b c = true) : leD a c = true := by
  unfold leD at *
  cases q : DatumOrd.lt c a with
  | false => rfl
  | true =>
    rw [← DatumOrd.lt_eq] at q
    have := lex_negTrans _ (PySem.W.keyToks (Datum.toD b)) _ q
    rcases this with z | z
    · have z' : dataLt (Datum.toD c) (Datum.toD b) = true := z
      rw [DatumOrd.lt_eq] at z'
      rw [z'] at h2
      exact absurd h2 (by simp)
    · have z' : dataLt (Datum.toD b) (Datum.toD a) = true := z
      rw [DatumOrd.lt_eq] at z'
      rw [z'] at h1
      exact absurd h1 (by simp)
theorem lt_irr (a : α) : DatumOrd.lt a a = false := by rw [← DatumOrd.lt_eq]; exact lex_irrefl _
theorem lt_tr {a b c : α} (h1 : DatumOrd.lt a b = true) (h2 : DatumOrd.lt b c = true) : DatumOrd.lt a c = true := by
  rw [← DatumOrd.lt_eq] at *
  exact lex_trans _ _ _ h1 h2
theorem lt_asym {a b : α} (h1 : DatumOrd.lt a b = true) : DatumOrd.lt b a = false := by
  cases q : DatumOrd.lt b a with
  | false => rfl
  | true =>
    have := lt_tr h1 q
    rw [lt_irr] at this
    exact absurd this (by simp)
theorem leD_total (a b : α) : (leD a b || leD b a) = true := by
  unfold leD
  cases h : DatumOrd.lt b a with
  | false => rfl
  | true => rw [lt_asym h]; rfl
theorem leD_anti {a b : α} (h1 : leD a b = true) (h2 : leD b a = true) : a = b := by
  unfold leD at *
  exact lt_tri (by simpa using h2) (by simpa using h1)
theorem srt_perm (l : List α) : (srt l).Perm l := List.mergeSort_perm l _
theorem srt_pw (l : List α) : (srt l).Pairwise (fun a b => leD a b = true) := List.pairwise_mergeSort leD_trans leD_total l
theorem srt_uniq {l m : List α} (h : m.Perm l) (p : m.Pairwise (fun a b => leD a b = true)) : m = srt l :=
  List.Perm.eq_of_pairwise (le := fun a b => leD a b = true) (fun a b _ _ h1 h2 => leD_anti h1 h2) p (srt_pw l) (h.trans (srt_perm l).symm)
theorem srt_congr {l m : List α} (h : l.Perm m) : srt l = srt m := srt_uniq ((srt_perm l).trans h) (srt_pw l)
theorem srt_mem {l : List α} {x : α} : x ∈ srt l ↔ x ∈ l := (srt_perm l).mem_iff
theorem srt_length (l : List α) : (srt l).length = l.length := (srt_perm l).length_eq
theorem srt_nil : srt ([] : List α) = [] := by simp [srt]
theorem srt_srt (l : List α) : srt (srt l) = srt l := srt_congr (srt_perm l)
end
theorem leS_iff (a b : Str) : leD a b = true ↔ ¬ b.cps.toList < a.cps.toList := by
  unfold leD
  show (!decide (b.cps.toList < a.cps.toList)) = true ↔ _
  simp
theorem ltCps_iff : ∀ a b : List Nat, ltCps a b = decide (a < b)
  | [], [] => by simp [ltCps]
  | [], b :: t => by simp [ltCps]
  | a :: r, [] => by simp [ltCps]
  | a :: r, b :: t => by
    rw [ltCps, ltCps_iff r t]
    by_cases h1 : a < b
    · simp [h1, List.cons_lt_cons_iff]
    · by_cases h2 : a = b
      · subst h2; simp [List.cons_lt_cons_iff]
      · simp [h1, h2, List.cons_lt_cons_iff]
theorem risingS_pw : ∀ (r : List Str) (p : Str), risingS p r = true → (p :: r).Pairwise (fun a b => leD a b = true)
  | [], p, _ => by simp
  | x :: r, p, h => by
    rw [risingS, Bool.and_eq_true] at h
    have h1 : leD p x = true := by
      rw [leS_iff]
      have := h.1
      rw [ltCps_iff] at this
      simpa using this
    have ih := risingS_pw r x h.2
    refine List.pairwise_cons.mpr ⟨fun y hy => ?_, ih⟩
    rcases List.mem_cons.mp hy with e | hy
    · rw [e]; exact h1
    · exact leD_trans _ _ _ h1 ((List.pairwise_cons.mp ih).1 y hy)
theorem sortedS_srt {ys xs : List Str} (h : ys.Perm xs) (hs : sortedS ys = true) : ys = srt xs := by
  refine srt_uniq h ?_
  cases ys with
  | nil => exact .nil
  | cons p r => exact risingS_pw r p hs
/-! tests whose answer is known -/
theorem iteYes {c A B : Prop} {inst : Decidable c} (hc : c) (h : A) : if decide c = true then A else B := by rw [if_pos (decide_eq_true hc)]; exact h
theorem iteNo {c A B : Prop} {inst : Decidable c} (hc : ¬ c) (h : B) : if decide c = true then A else B := by rw [if_neg (by simpa using hc)]; exact h
theorem iteNe {α : Type} {x : α} {A B : Prop} {inst : Decidable (x ≠ x)} (h : B) : if decide (x ≠ x) = true then A else B := iteNo (fun q => q rfl) h
theorem iteEq {α : Type} {x y : α} {A B : Prop} {inst : Decidable (x ≠ y)} (hc : x ≠ y) (h : A) : if decide (x ≠ y) = true then A else B := iteYes hc h
/-! rules -/
section
variable {K : PySem.W.Frag} {G H : Hp} {a : Addr} {α : Type} [DecidableEq α] [Datum α]
theorem dp_sm {G' : Hp} (s : Sm G G') : ∀ {v : V} {d : PyData}, Dp K G v d → Dp K G' v d := by
  intro v d h
  induction h using Dp.rec (motive_2 := fun vs ds _ => DpAll K G' vs ds) with
  | non => exact .non
  | bl b => exact .bl b
  | int i => exact .int i
  | str x => exact .str x
  | lst h _ ih => exact .lst (s.seq h) ih
  | tup h _ ih => exact .tup (s.seqT h) ih
  | nil => exact .nil
  | cons _ _ h1 h2 => exact .cons h1 h2
theorem LS.dp {l : List Str} (h : LS K G a l) : Dp K G (.ref a) (tD l) := .lst h (dpAll_strs l)
theorem T2.dp {p : Str × Str} (h : T2 K G a p) : Dp K G (.ref a) (tD p) := .tup (SqT.of h) (.cons (.str _) (.cons (.str _) .nil))
theorem I2.dp {p : Int × Int} (h : I2 K G a p) : Dp K G (.ref a) (tD p) := .tup (SqT.of h) (.cons (.int _) (.cons (.int _) .nil))
theorem dpAll_ints : ∀ ss : List Int, DpAll K G (ss.map V.int) (ss.map PyData.int)
  | [] => .nil
  | s :: r => .cons (.int s) (dpAll_ints r)
theorem LI.dp {l : List Int} (h : LI K G a l) : Dp K G (.ref a) (tD l) := .lst h (dpAll_ints l)
theorem RowT.dp {r : Row} (h : RowT K G a r) : Dp K G (.ref a) (tD r) := let ⟨_, h1, h2⟩ := h; .tup (SqT.of h1) (.cons (.str _) (.cons (LS.dp (K := K) (SqL.of h2)) .nil))
theorem dpAll_refs {R : Hp → Addr → α → Prop} (f : ∀ a x, R G a x → Dp K G (.ref a) (tD x)) : ∀ {as : List Addr} {xs : List α}, Paired (R G) as xs → DpAll K G (as.map V.ref) (xs.map Datum.toD)
  | _, _, .nil => .nil
  | _, _, .cons h t => .cons (f _ _ h) (dpAll_refs f t)
theorem LR.dp {R : Hp → Addr → α → Prop} (f : ∀ a x, R G a x → Dp K G (.ref a) (tD x)) {xs : List α} (h : LR K R G a xs) : Dp K G (.ref a) (tD xs) := let ⟨_, h1, h2⟩ := h; .lst h1 (dpAll_refs f h2)
theorem nil_dp (h : SqL K G a []) : Dp K G (.ref a) (tD ([] : List α)) := .lst h .nil
end
section
variable {X : Cx} {α : Type} [DecidableEq α]
def rEqT (K : PySem.W.Frag) (α : Type) [DecidableEq α] [Datum α] : R2 := fun v u H Q => ∃ x y : α, Dp K H v (tD x) ∧ Dp K H u (tD y) ∧ Q (.bl (decide (x = y))) H
def rNeT (K : PySem.W.Frag) (α : Type) [DecidableEq α] [Datum α] : R2 := fun v u H Q => ∃ x y : α, Dp K H v (tD x) ∧ Dp K H u (tD y) ∧ Q (.bl (decide (x ≠ y))) H
theorem op_eqT (α : Type) [DecidableEq α] [Datum α] (hu : X.A.units + 64 < cLine) (hd : Datum.depth α ≤ 60 := by decide) : OpR X (compareOp .Eq) (rEqT X.K α) := by
  intro pins s σ H x y v u Q I rx ry h
  obtain ⟨d, e, hd1, he, q⟩ := h
  exact PySem.W.eq_datum (Dp.reads I _ x v hd1 rx) (Dp.reads I _ y u he ry) (by omega) ⟨.bl _, H, I, rfl, q⟩
theorem op_neT (α : Type) [DecidableEq α] [Datum α] (hu : X.A.units + 64 < cLine) (hd : Datum.depth α ≤ 60 := by decide) : OpR X (compareOp .NotEq) (rNeT X.K α) := by
  intro pins s σ H x y v u Q I rx ry h
  obtain ⟨d, e, hd1, he, q⟩ := h
  exact PySem.W.ne_datum (Dp.reads I _ x v hd1 rx) (Dp.reads I _ y u he ry) (by omega) ⟨.bl _, H, I, rfl, q⟩
/-- x in xs, a list of data -/
def rInT (K : PySem.W.Frag) (α : Type) [DecidableEq α] [Datum α] : R2 := fun v u H Q => ∃ (x : α) (a : Addr) (vs : List V) (xs : List α), u = .ref a ∧ Dp K H v (tD x) ∧ SqL K H a vs ∧ DpAll K H vs (xs.map Datum.toD) ∧ Q (.bl (decide (x ∈ xs))) H
def rNotInT (K : PySem.W.Frag) (α : Type) [DecidableEq α] [Datum α] : R2 := fun v u H Q => ∃ (x : α) (a : Addr) (vs : List V) (xs : List α), u = .ref a ∧ Dp K H v (tD x) ∧ SqL K H a vs ∧ DpAll K H vs (xs.map Datum.toD) ∧ Q (.bl (decide (x ∉ xs))) H
theorem op_inT (α : Type) [DecidableEq α] [Datum α] (hu : X.A.units + 64 < cLine) (hd : Datum.depth α ≤ 60 := by decide) : OpR X (compareOp .In) (rInT X.K α) := by
  intro pins s σ H x y v u Q I rx ry h
  obtain ⟨d, a, vs, xs, rfl, h1, h2, h3, q⟩ := h
  cases ry
  obtain ⟨its, rv, hl, _⟩ := I.list h2
  obtain ⟨as, hr⟩ := Dp.readsAll I _ _ its h3 rv
  exact PySem.W.in_list_datum (xs := xs) hl.isList ⟨as, by simpa using hr⟩ (Dp.reads I _ x v h1 rx) (by omega) ⟨.bl _, H, I, rfl, q⟩
theorem op_notInT (α : Type) [DecidableEq α] [Datum α] (hu : X.A.units + 64 < cLine) (hd : Datum.depth α ≤ 60 := by decide) : OpR X (compareOp .NotIn) (rNotInT X.K α) := by
  intro pins s σ H x y v u Q I rx ry h
  obtain ⟨d, a, vs, xs, rfl, h1, h2, h3, q⟩ := h
  cases ry
  obtain ⟨its, rv, hl, _⟩ := I.list h2
  obtain ⟨as, hr⟩ := Dp.readsAll I _ _ its h3 rv
  exact PySem.W.notIn_list_datum (xs := xs) hl.isList ⟨as, by simpa using hr⟩ (Dp.reads I _ x v h1 rx) (by omega) ⟨.bl _, H, I, rfl, q⟩
/-- sorted(xs) of texts, of things by their data -/
def rSrtS (K : PySem.W.Frag) : List V → Hp → VK → Prop := fun vs H Q => ∃ (a : Addr) (ss : List Str), vs = [V.ref a] ∧ LS K H a ss ∧ ∀ p, H p = none → Q (.ref p) (upd H p (.lst ((srt ss).map V.str)))
def rSrtR (K : PySem.W.Frag) (α : Type) [DecidableEq α] [DatumOrd α] : List V → Hp → VK → Prop := fun vs H Q => ∃ (a : Addr) (as : List Addr) (xs : List α), vs = [V.ref a] ∧ SqL K H a (as.map V.ref) ∧ Paired (fun b x => Dp K H (.ref b) (tD x)) as xs ∧ (∀ x ∈ xs, Sortable [tD x]) ∧
  ∀ (cs : List (Addr × α)) p, cs.Perm (as.zip xs) → cs.map (·.2) = srt xs → H p = none → Q (.ref p) (upd H p (.lst (cs.map fun c => V.ref c.1)))
theorem map_pair_fst {β γ δ : Type} (l : List β) (f : β → γ) (g : β → δ) : (l.map fun x => (f x, g x)).map (·.1) = l.map f := by rw [List.map_map]; rfl
theorem cr_srtS (hu : X.A.units + 64 < cLine) : CallR X (.builtin "sorted") (rSrtS X.K) := by
  intro pins s σ H vs us Q I r h
  obtain ⟨a, ss, rfl, hs, q⟩ := h
  refine cr_sortedDt hu pins s σ H _ us Q I r ⟨a, ss.map fun x => (V.str x, PyData.str x), rfl, by rw [map_pair_fst]; exact hs, fun b hb => ?_, ?_, ?_, fun b hb => ?_, fun p hp => ?_⟩
  · obtain ⟨x, _, rfl⟩ := List.mem_map.mp hb
    exact .str x
  · intro d hd d' hd'
    simp only [List.map_map, List.mem_map, Function.comp] at hd hd'
    obtain ⟨x, _, rfl⟩ := hd
    obtain ⟨y, _, rfl⟩ := hd'
    simp [PySem.W.alike]
  · refine .inr fun d hd => ?_
    simp only [List.map_map, List.mem_map, Function.comp] at hd
    obtain ⟨x, _, rfl⟩ := hd
    exact ⟨fun z => (nomatch z), fun _ z => (nomatch z)⟩
  · obtain ⟨x, _, rfl⟩ := List.mem_map.mp hb
    simp [PyData.depth]
  · have e : ((ss.map fun x => (V.str x, PyData.str x)).mergeSort (dataLe false (·.2))) = (srt ss).map fun x => (V.str x, PyData.str x) := by
      unfold srt
      refine (List.map_mergeSort fun x _ y _ => ?_).symm
      show leD x y = !dataLt (.str y) (.str x)
      rw [PySem.W.dataLt_str]
      rfl
    rw [e, map_pair_fst]
    exact q p hp
theorem zip_fst {β γ : Type} {R : β → γ → Prop} : ∀ {as : List β} {xs : List γ}, Paired R as xs → (as.zip xs).map (·.1) = as ∧ (as.zip xs).map (·.2) = xs ∧ ∀ c ∈ as.zip xs, R c.1 c.2
  | _, _, .nil => ⟨rfl, rfl, fun c h => (nomatch h)⟩
  | _, _, .cons h t => by
    obtain ⟨h1, h2, h3⟩ := zip_fst t
    refine ⟨by simp [h1], by simp [h2], fun c hc => ?_⟩
    rcases List.mem_cons.mp (by simpa using hc) with e | e
    · rw [e]; exact h
    · exact h3 c e
theorem cr_srtR (α : Type) [DecidableEq α] [DatumOrd α] (hu : X.A.units + 64 < cLine) (hdp : Datum.depth α ≤ 60 := by decide) : CallR X (.builtin "sorted") (rSrtR X.K α) := by
  intro pins s σ H vs us Q I r h
  obtain ⟨a, as, xs, rfl, hs, hp, hso, q⟩ := h
  obtain ⟨z1, z2, z3⟩ := zip_fst hp
  have em : ∀ cs : List (Addr × α), (cs.map fun c => (V.ref c.1, tD c.2)).map (·.1) = cs.map fun c => V.ref c.1 := fun cs => map_pair_fst cs _ _
  refine cr_sortedDt hu pins s σ H _ us Q I r ⟨a, (as.zip xs).map fun c => (V.ref c.1, tD c.2), rfl, ?_, fun b hb => ?_, ?_, ?_, fun b hb => ?_, fun p hp => ?_⟩
  · rw [em]
    have : (as.zip xs).map (fun c => V.ref c.1) = as.map V.ref := by rw [← z1, List.map_map, z1]; rfl
    rw [this]; exact hs
  · obtain ⟨c, hc, rfl⟩ := List.mem_map.mp hb
    exact z3 c hc
  · intro d hd d' hd'
    simp only [List.map_map, List.mem_map, Function.comp] at hd hd'
    obtain ⟨x, _, rfl⟩ := hd
    obtain ⟨y, _, rfl⟩ := hd'
    exact DatumOrd.alike _ _
  · have hx : ∀ c ∈ as.zip xs, c.2 ∈ xs := fun c hc => by rw [← z2]; exact List.mem_map.mpr ⟨c, hc, rfl⟩
    by_cases em0 : as.zip xs = []
    · rw [em0]; exact .inl fun d hd => (nomatch hd)
    · obtain ⟨c0, hc0⟩ : ∃ c, c ∈ as.zip xs := by
        cases hh : as.zip xs with
        | nil => exact absurd hh em0
        | cons c r => exact ⟨c, by simp⟩
      rcases hso c0.2 (hx c0 hc0) with t | t
      · obtain ⟨x0, r0, e0⟩ := t (tD c0.2) (by simp)
        refine .inl fun d hd => ?_
        simp only [List.map_map, List.mem_map, Function.comp] at hd
        obtain ⟨c, hc, rfl⟩ := hd
        rcases hso c.2 (hx c hc) with t2 | t2
        · exact t2 _ (by simp)
        · have al := DatumOrd.alike c0.2 c.2
          rw [show Datum.toD c0.2 = _ from e0] at al
          have h2 := (t2 (tD c.2) (by simp)).2
          cases hq : (Datum.toD c.2 : PyData) <;> rw [hq] at al <;> simp [PySem.W.alike] at al
          exact absurd hq (h2 _)
      · have t0 := t (tD c0.2) (by simp)
        refine .inr fun d hd => ?_
        simp only [List.map_map, List.mem_map, Function.comp] at hd
        obtain ⟨c, hc, rfl⟩ := hd
        refine ⟨DatumOrd.notNone _, fun ys e => ?_⟩
        have al := DatumOrd.alike c0.2 c.2
        rw [show Datum.toD c.2 = _ from e] at al
        cases hq : (Datum.toD c0.2 : PyData) <;> rw [hq] at al <;> simp [PySem.W.alike] at al
        exact t0.2 _ hq
  · obtain ⟨c, hc, rfl⟩ := List.mem_map.mp hb
    exact Nat.le_trans (Datum.depth_le c.2) hdp
  · have e : (((as.zip xs).map fun c => (V.ref c.1, tD c.2)).mergeSort (dataLe false (·.2))) = ((as.zip xs).mergeSort fun p q => leD p.2 q.2).map fun c => (V.ref c.1, tD c.2) := by
      refine (List.map_mergeSort fun x _ y _ => ?_).symm
      show leD x.2 y.2 = !dataLt (tD y.2) (tD x.2)
      rw [DatumOrd.lt_eq]
      rfl
    rw [e, em]
    refine q _ p (List.mergeSort_perm _ _) ?_ hp
    rw [List.map_mergeSort (s := leD) (fun _ _ _ _ => rfl), z2]
    rfl
/-- sorted(d), keys texts -/
theorem call_srtD (hc : X.calm = true) : CallR X (.builtin "sorted") (fun xs H Q => ∃ (a : Addr) (kvs : List (Key × V)) (ks : List Str), xs = [.ref a] ∧ Rd H a (.dK kvs) ∧ kvs.map (·.1) = ks.map Sum.inr ∧ ks.length < 64 ∧
    ∀ p, H p = none → Q (.ref p) (upd H p (.lst ((srt ks).map V.str)))) := by
  intro pins s σ H xs us Q I r q
  obtain ⟨a, kvs, ks, ex, hd, hks, h64, q⟩ := q
  exact call_sortedD hc pins s σ H xs us Q I r ⟨a, kvs, ks, ex, hd, hks, h64, fun ys p hp hs hn => by rw [sortedS_srt hp hs]; exact q p hn⟩
end
end Five
end
section
namespace Five
open PySem PySem.Spec PyProof.Rows L2
open PySem.W (Datum DatumOrd)
/-! comprehensions over things l, each told by S, what is made by f -/
section
variable {J : It} {n : Nat} {GG : Hp → Prop} {Y : Nat → Hp → V → Hp → Prop} {g : TG} {tt : TT} {te : TE} {vs : List Nat} {σ : L2.St} {H1 : Hp} {D : Addr} {Qd : Hp → Prop} {α β : Type} {M : List Addr} {K : PySem.W.Frag}
theorem lcW (w : Walk J n GG Y) {S : V → β → Prop} (R : Hp → V → α → Prop) (mono : ∀ G G' v x, Same G G' → R G v x → R G' v x) (l : List β) (f : β → Option α) (hD : H1 D = none) (al : Al M H1) (hn : l.length = n) (hsz : n < sizeLine) (hG : ∀ H, Same H1 H → GG H)
    (hY : ∀ i H x H', i < n → Y i H x H' → H' = H ∧ ∃ b, l[i]? = some b ∧ S x b)
    (hs : ∀ v b H (Ky : V → Hp → Prop) (Kn : Hp → Prop), b ∈ l → S v b → Same H1 H → Al (D :: M) H → (∀ y d H4, f b = some d → Same H H4 → R (wo H4 (D :: M)) y d → Ky y H4) → (∀ H3, f b = none → Same H H3 → Kn H3) →
      g v (wipe σ vs) H fun σ2 H2 => wipe σ2 vs = wipe σ vs ∧ tt σ2 H2 fun b H3 => if b = true then te σ2 H3 Ky else Kn H3)
    (hd : ∀ ys H, Same H1 H → H D = some (.lst ys) → Paired (R (wo H (D :: M))) ys (l.filterMap f) → Qd H) :
    ∃ W : Nat → Nat → Hp → Prop, (∃ m, W 0 m (upd H1 D (.lst []))) ∧ ∀ i m H, W i m H →
      (J.stop i H ∧ Qd H) ∨ (J.go i H ∧ ∃ Nx : Hp → Prop, (∀ H', Nx H' → ∃ m', m' < m ∧ W (i + 1) m' H') ∧ ∀ x H', J.yld i H x H' → g x (wipe σ vs) H' fun σ2 H2 => wipe σ2 vs = wipe σ vs ∧ tt σ2 H2 fun b H3 =>
        if b = true then te σ2 H3 fun y H4 => ∃ acc, H4 D = some (.lst acc) ∧ acc.length < sizeLine ∧ Nx (upd H4 D (.lst (acc ++ [y]))) else Nx H3) := by
  refine lcM w R mono (l.map f) hD al (by rw [List.length_map]; exact hn) hsz hG (fun i x z H H' Ky Kn hi hz s al2 y ky kn => ?_) (fun ys H s h p => hd ys H s h ?_)
  · obtain ⟨e, b, hb, hS⟩ := hY i H x H' hi y
    subst e
    have ez : z = f b := by
      rw [List.getElem?_map, hb] at hz
      exact (Option.some.inj hz).symm
    subst ez
    exact hs x b H' Ky Kn (List.mem_of_getElem? hb) hS s al2 ky kn
  · rw [List.filterMap_map] at p
    exact p
/-- over a list -/
theorem lcL {a : Addr} {xs : List V} {S : V → β → Prop} {l : List β} (hp : Paired S xs l) (R : Hp → V → α → Prop) (mono : ∀ G G' v x, Same G G' → R G v x → R G' v x) (f : β → Option α) (hD : H1 D = none) (al : Al M H1) (hsz : l.length < sizeLine) (hq : SqL K H1 a xs)
    (hs : ∀ v b H (Ky : V → Hp → Prop) (Kn : Hp → Prop), b ∈ l → S v b → Same H1 H → Al (D :: M) H → (∀ y d H4, f b = some d → Same H H4 → R (wo H4 (D :: M)) y d → Ky y H4) → (∀ H3, f b = none → Same H H3 → Kn H3) →
      g v (wipe σ vs) H fun σ2 H2 => wipe σ2 vs = wipe σ vs ∧ tt σ2 H2 fun b H3 => if b = true then te σ2 H3 Ky else Kn H3)
    (hd : ∀ ys H, Same H1 H → H D = some (.lst ys) → Paired (R (wo H (D :: M))) ys (l.filterMap f) → Qd H) :
    ∃ W : Nat → Nat → Hp → Prop, (∃ m, W 0 m (upd H1 D (.lst []))) ∧ ∀ i m H, W i m H →
      ((Itl K a).stop i H ∧ Qd H) ∨ ((Itl K a).go i H ∧ ∃ Nx : Hp → Prop, (∀ H', Nx H' → ∃ m', m' < m ∧ W (i + 1) m' H') ∧ ∀ x H', (Itl K a).yld i H x H' → g x (wipe σ vs) H' fun σ2 H2 => wipe σ2 vs = wipe σ vs ∧ tt σ2 H2 fun b H3 =>
        if b = true then te σ2 H3 fun y H4 => ∃ acc, H4 D = some (.lst acc) ∧ acc.length < sizeLine ∧ Nx (upd H4 D (.lst (acc ++ [y]))) else Nx H3) := by
  have hl := Paired.length hp
  refine lcW (walk_list (xs := xs)) R mono l f hD al hl.symm (by rw [hl]; exact hsz) (fun H s => s.seq hq) (fun i H x H' hi y => ⟨y.1, ?_⟩) hs hd
  obtain ⟨b, h1, h2⟩ := paired_get hp i x y.2
  exact ⟨b, h1, h2⟩
/-- over the keys of a locked dict, all texts -/
theorem lcK {d : Addr} {o : Obj} {kvs : List (Key × V)} {l : List Str} (hp : kvs.map (·.1) = l.map Sum.inr) (R : Hp → V → α → Prop) (mono : ∀ G G' v x, Same G G' → R G v x → R G' v x) (f : Str → Option α) (hD : H1 D = none) (al : Al M H1) (hsz : l.length < sizeLine) (hq : H1 d = some (.frz o (.dK kvs)))
    (hs : ∀ b H (Ky : V → Hp → Prop) (Kn : Hp → Prop), b ∈ l → Same H1 H → Al (D :: M) H → (∀ y d H4, f b = some d → Same H H4 → R (wo H4 (D :: M)) y d → Ky y H4) → (∀ H3, f b = none → Same H H3 → Kn H3) →
      g (.str b) (wipe σ vs) H fun σ2 H2 => wipe σ2 vs = wipe σ vs ∧ tt σ2 H2 fun b H3 => if b = true then te σ2 H3 Ky else Kn H3)
    (hd : ∀ ys H, Same H1 H → H D = some (.lst ys) → Paired (R (wo H (D :: M))) ys (l.filterMap f) → Qd H) :
    ∃ W : Nat → Nat → Hp → Prop, (∃ m, W 0 m (upd H1 D (.lst []))) ∧ ∀ i m H, W i m H →
      ((Itk d o kvs).stop i H ∧ Qd H) ∨ ((Itk d o kvs).go i H ∧ ∃ Nx : Hp → Prop, (∀ H', Nx H' → ∃ m', m' < m ∧ W (i + 1) m' H') ∧ ∀ x H', (Itk d o kvs).yld i H x H' → g x (wipe σ vs) H' fun σ2 H2 => wipe σ2 vs = wipe σ vs ∧ tt σ2 H2 fun b H3 =>
        if b = true then te σ2 H3 fun y H4 => ∃ acc, H4 D = some (.lst acc) ∧ acc.length < sizeLine ∧ Nx (upd H4 D (.lst (acc ++ [y]))) else Nx H3) := by
  have hl : l.length = kvs.length := by have := congrArg List.length hp; simpa using this.symm
  refine lcW (S := fun v b => v = V.str b) walk_keys R mono l f hD al hl (by omega) (fun H s => s _ _ hq) (fun i H x H' hi y => ?_) (fun v b H Ky Kn hb e => by rw [e]; exact hs b H Ky Kn hb) hd
  obtain ⟨e, k, v, h1, h2⟩ := y
  refine ⟨e, ?_⟩
  have h3 : (kvs.map (·.1))[i]? = some k := by rw [List.getElem?_map, h1]; rfl
  rw [hp, List.getElem?_map] at h3
  cases q : l[i]? with
  | none => rw [q] at h3; cases h3
  | some b =>
    rw [q] at h3
    refine ⟨b, rfl, ?_⟩
    have : k = Sum.inr b := (Option.some.inj h3).symm
    rw [h2, this]
    rfl
end
theorem filterMap_some {α β : Type} (f : β → α) (l : List β) : l.filterMap (fun b => some (f b)) = l.map f := by induction l <;> simp_all
theorem paired_map {α β : Type} (c : α → β) (l : List α) : Paired (fun v b => v = c b) (l.map c) l := by
  induction l with
  | nil => exact .nil
  | cons a r ih => exact .cons rfl ih
theorem paired_refs' {α : Type} {R : Addr → α → Prop} : ∀ {as : List Addr} {l : List α}, Paired R as l → Paired (fun v x => ∃ a, v = V.ref a ∧ R a x) (as.map V.ref) l
  | _, _, .nil => .nil
  | _, _, .cons h t => .cons ⟨_, rfl, h⟩ (paired_refs' t)
theorem paired_mono {α β : Type} {R R' : α → β → Prop} (f : ∀ a b, R a b → R' a b) {l : List α} {m : List β} (h : Paired R l m) : Paired R' l m := Paired.mapP h f
/-! sorted lists -/
section
variable {α : Type} [DecidableEq α] [DatumOrd α] {ss : List α} {u x : α} {i : Nat}
theorem srt_before (hp : ss.Pairwise (fun a b => leD a b = true)) (hi : ss[i]? = some u) (hx : x ∈ ss) (h : DatumOrd.lt x u = true) : x ∈ ss.take i := by
  have hlt : i < ss.length := (List.getElem?_eq_some_iff.mp hi).1
  have e : ss = ss.take i ++ u :: ss.drop (i + 1) := by
    conv => lhs; rw [← List.take_append_drop i ss]
    congr 1
    rw [List.drop_eq_getElem_cons hlt]
    congr 1
    exact (List.getElem?_eq_some_iff.mp hi).2
  rw [e] at hx hp
  rcases List.mem_append.mp hx with q | q
  · exact q
  · exfalso
    have h2 := (List.pairwise_append.mp hp).2.1
    rcases List.mem_cons.mp q with q | q
    · rw [q, lt_irr] at h; cases h
    · have := (List.pairwise_cons.mp h2).1 x q
      unfold leD at this
      rw [h] at this
      cases this
theorem srt_after (hp : ss.Pairwise (fun a b => leD a b = true)) (hn : ss.Nodup) (hi : ss[i]? = some u) (hx : x ∈ ss.take i) : DatumOrd.lt x u = true := by
  have hlt : i < ss.length := (List.getElem?_eq_some_iff.mp hi).1
  have e : ss = ss.take i ++ u :: ss.drop (i + 1) := by
    conv => lhs; rw [← List.take_append_drop i ss]
    congr 1
    rw [List.drop_eq_getElem_cons hlt]
    congr 1
    exact (List.getElem?_eq_some_iff.mp hi).2
  rw [e] at hp hn
  have h1 := (List.pairwise_append.mp hp).2.2 x hx u (by simp)
  have h2 := (List.nodup_append.mp hn).2.2 x hx u (by simp)
  cases q : DatumOrd.lt x u with
  | true => rfl
  | false =>
    unfold leD at h1
    exact absurd (lt_tri q (by simpa using h1)) h2
theorem srt_head {c : List α} (hc : c ≠ []) : ∃ h t, srt c = h :: t ∧ h ∈ c ∧ ∀ y ∈ c, leD h y = true := by
  cases e : srt c with
  | nil =>
    have := srt_length c
    rw [e] at this
    cases c with
    | nil => exact absurd rfl hc
    | cons _ _ => simp at this
  | cons h t =>
    refine ⟨h, t, rfl, srt_mem.mp (by rw [e]; simp), fun y hy => ?_⟩
    have hy : y ∈ h :: t := by rw [← e]; exact srt_mem.mpr hy
    have hp := srt_pw c
    rw [e] at hp
    rcases List.mem_cons.mp hy with q | q
    · rw [q]; unfold leD; rw [lt_irr]; rfl
    · exact (List.pairwise_cons.mp hp).1 y q
theorem lt_cons {h k : α} {t r : List α} (e : DatumOrd.lt h k = true) : DatumOrd.lt (h :: t) (k :: r) = true := by
  show PySem.W.listLt (h :: t) (k :: r) = true
  have ne : h ≠ k := fun q => by rw [q, lt_irr] at e; cases e
  rw [PySem.W.listLt, if_neg ne]
  exact e
end
end Five
namespace Five
open PySem PySem.Spec PyProof.Rows L2
open PySem.W (Datum DatumOrd)
theorem lcy {σ : L2.St} {H : Hp} {te : TE} {Ky : V → Hp → Prop} {Kn : Hp → Prop} (h : te σ H Ky) : tYes σ H fun b H3 => if b = true then te σ H3 Ky else Kn H3 := by
  show if true = true then te σ H Ky else Kn H
  rw [if_pos rfl]
  exact h
theorem flat_srt_perm {α : Type} [DecidableEq α] [DatumOrd α] : ∀ dn : List (List α), (dn.map srt).flatten.Perm dn.flatten
  | [] => .refl _
  | a :: r => List.Perm.append (srt_perm a) (flat_srt_perm r)
theorem flat_srt_len {α : Type} [DecidableEq α] [DatumOrd α] (dn : List (List α)) : (dn.map srt).flatten.length = dn.flatten.length := (flat_srt_perm dn).length_eq
theorem flat_len_le {α : Type} : ∀ {dn : List (List α)}, (∀ c ∈ dn, c ≠ []) → dn.length ≤ dn.flatten.length
  | [], _ => Nat.zero_le _
  | a :: r, h => by
    have h1 := h a (by simp)
    have h2 := flat_len_le (dn := r) fun c hc => h c (List.mem_cons_of_mem _ hc)
    have h3 : 1 ≤ a.length := by
      cases a with
      | nil => exact absurd rfl h1
      | cons _ _ => simp
    simp only [List.flatten_cons, List.length_append, List.length_cons]
    omega
theorem pairs_tk {K : PySem.W.Frag} {G H : Hp} (s : Same G H) : ∀ {ts : List Addr} {ys : List Str}, Paired (fun t x => SqT K G t [.str x, .bl true]) ts ys → Paired (fun p kv => SqT K H p [kV kv.1, kv.2]) ts (tk ys)
  | _, _, .nil => .nil
  | _, _, .cons h t => .cons (s.sm.seqT h) (pairs_tk s t)
end Five
end
section
namespace Five
open PySem PySem.Spec PyProof.Rows L2
open PySem.W (Datum DatumOrd minOf)
/-! a list turned to begin with its least -/
section
variable {α : Type} [DecidableEq α] [DatumOrd α]
theorem leD_refl (a : α) : leD a a = true := by unfold leD; rw [lt_irr]; rfl
theorem minOf_is : ∀ (r : List α) (x : α), minOf x r ∈ x :: r ∧ ∀ y ∈ x :: r, leD (minOf x r) y = true
  | [], x => ⟨by simp [minOf], fun y hy => by
      have e : y = x := by simpa using hy
      rw [e]
      exact leD_refl x⟩
  | a :: r, x => by
    have e : minOf x (a :: r) = minOf (if DatumOrd.lt a x = true then a else x) r := rfl
    rw [e]
    by_cases c : DatumOrd.lt a x = true
    · rw [if_pos c]
      obtain ⟨h1, h2⟩ := minOf_is r a
      refine ⟨List.mem_cons_of_mem _ h1, fun y hy => ?_⟩
      rcases List.mem_cons.mp hy with q | hy
      · rw [q]
        refine leD_trans _ _ _ (h2 a (by simp)) ?_
        unfold leD
        rw [lt_asym c]
        rfl
      · exact h2 y hy
    · rw [if_neg c]
      obtain ⟨h1, h2⟩ := minOf_is r x
      refine ⟨?_, fun y hy => ?_⟩
      · rcases List.mem_cons.mp h1 with q | q
        · rw [q]; simp
        · exact List.mem_cons_of_mem _ (List.mem_cons_of_mem _ q)
      · rcases List.mem_cons.mp hy with q | hy
        · rw [q]; exact h2 x (by simp)
        · rcases List.mem_cons.mp hy with q | hy
          · rw [q]
            refine leD_trans _ _ _ (h2 x (by simp)) ?_
            unfold leD
            simpa using c
          · exact h2 y (List.mem_cons_of_mem _ hy)
def flD (l : List α) : List α := match l with
  | [] => []
  | x :: r => (x :: r).drop ((x :: r).idxOf (minOf x r)) ++ (x :: r).take ((x :: r).idxOf (minOf x r))
theorem flD_rot {l X Y : List α} {m : α} (e : l = X ++ m :: Y) (hX : m ∉ X) (h : ∀ y ∈ l, leD m y = true) : flD l = m :: Y ++ X := by
  cases l with
  | nil => simp at e
  | cons x r =>
    have h2 := minOf_is r x
    have em : minOf x r = m := leD_anti (h2.2 m (by rw [e]; simp)) (h _ h2.1)
    show (x :: r).drop ((x :: r).idxOf (minOf x r)) ++ (x :: r).take ((x :: r).idxOf (minOf x r)) = _
    have ei : (x :: r).idxOf m = X.length := by
      rw [e]
      refine idx_first (by simp) fun k z hk hz ez => ?_
      rw [List.getElem?_append_left hk, ez] at hz
      exact hX (List.mem_of_getElem? hz)
    rw [em, ei, e]
    simp
theorem flD_perm (l : List α) : (flD l).Perm l := by
  cases l with
  | nil => exact .refl _
  | cons x r =>
    refine List.perm_append_comm.trans ?_
    rw [List.take_append_drop]
theorem flD_mem {l : List α} {x : α} : x ∈ flD l ↔ x ∈ l := (flD_perm l).mem_iff
theorem flat_flD_perm : ∀ dn : List (List α), (dn.map flD).flatten.Perm dn.flatten
  | [] => .refl _
  | a :: r => List.Perm.append (flD_perm a) (flat_flD_perm r)
end
theorem lt_pair (s t : Str × Str) : DatumOrd.lt s t = true ↔ (s.1 = t.1 ∧ DatumOrd.lt s.2 t.2 = true) ∨ (s.1 ≠ t.1 ∧ DatumOrd.lt s.1 t.1 = true) := by
  show (if s.1 = t.1 then DatumOrd.lt s.2 t.2 else DatumOrd.lt s.1 t.1) = true ↔ _
  by_cases h : s.1 = t.1
  · simp [h]
  · simp [h]
/-! dicts of pairs -/
def tkT (l : List (Str × Str)) : List (List Key × V) := l.map fun s => ([Sum.inr s.1, Sum.inr s.2], V.bl true)
theorem valV_tkT (p q : Str) : ∀ l : List (Str × Str), valV (tkT l) [Sum.inr p, Sum.inr q] = if (p, q) ∈ l then some (.bl true) else none
  | [] => rfl
  | a :: r => by
    show valV (([Sum.inr a.1, Sum.inr a.2], V.bl true) :: tkT r) [Sum.inr p, Sum.inr q] = _
    by_cases e : a = (p, q)
    · rw [valV_pos (by rw [e]), if_pos (by simp [e])]
    · rw [valV_neg (fun z => e ?_), valV_tkT p q r]
      · have e' : ¬ (p, q) = a := fun z => e z.symm
        by_cases h : (p, q) ∈ r <;> simp [h, e']
      · simp at z
        exact Prod.ext z.1 z.2
theorem putK_tkT {s : Str × Str} {l : List (Str × Str)} (h : s ∉ l) : putK (tkT l) [Sum.inr s.1, Sum.inr s.2] (.bl true) = tkT (l ++ [s]) := by
  have hv : valV (tkT l) [Sum.inr s.1, Sum.inr s.2] = none := by rw [valV_tkT, if_neg h]
  rw [putK_new _ hv]
  unfold tkT
  rw [List.map_append]
  rfl
theorem mergeT_tkT : ∀ (ys l : List (Str × Str)), (l ++ ys).Nodup → mergeT (tkT l) (tkT ys) = tkT (l ++ ys)
  | [], l, _ => by show tkT l = tkT (l ++ []); rw [List.append_nil]
  | y :: r, l, h => by
    have hy : y ∉ l := fun q => (List.nodup_append.mp h).2.2 y q y (by simp) rfl
    show mergeT (putK (tkT l) [Sum.inr y.1, Sum.inr y.2] (.bl true)) (tkT r) = _
    rw [putK_tkT hy, mergeT_tkT r (l ++ [y]) (by simpa using h)]
    simp
theorem tkT_length (l : List (Str × Str)) : (tkT l).length = l.length := by unfold tkT; rw [List.length_map]
theorem dget_tkT {K : PySem.W.Frag} {H : Hp} {d t : Addr} {l : List (Str × Str)} {s : Str × Str} (h : H d = some (.dT (tkT l))) (ht : T2 K H t s) : DGet H d (.ref t) (if s ∈ l then some (.bl true) else none) := by
  rw [← valV_tkT]
  exact DGet.t (k := [Sum.inr s.1, Sum.inr s.2]) h ht
theorem pairs_tkT {K : PySem.W.Frag} {G H : Hp} (s : Same G H) : ∀ {ts : List Addr} {ys : List (Str × Str)}, Paired (fun p x => ∃ t, T2 K G t x ∧ SqT K G p [.ref t, .bl true]) ts ys → Paired (fun p kv => ∃ b, H b = some (.tup (kv.1.map kV)) ∧ SqT K H p [.ref b, kv.2]) ts (tkT ys)
  | _, _, .nil => .nil
  | _, _, .cons ⟨t, h1, h2⟩ r => .cons ⟨t, s _ _ h1, s.sm.seqT h2⟩ (pairs_tkT s r)
/-! locks -/
theorem unlock_all {H H' : Hp} {d : Addr} {od : Obj} {u : HO} {N : List Addr} (hd : H d = some u) (s : Same (upd H d (.frz od u)) H') (hn : d ∉ N) : H' d = some (.frz od u) ∧ Same H (upd H' d u) ∧ Sm (wo H' N) (wo (upd H' d u) N) := by
  have h1 : H' d = some (.frz od u) := s _ _ upd_same
  refine ⟨h1, unlock_same hd s, ?_⟩
  rw [wo_new hn]
  exact unlock_sm (od := od) (by rw [wo_out hn]; exact h1)
theorem rds_x {K : PySem.W.Frag} {H : Hp} {d : Addr} {rows : List Row} (h : RdsAt K H d rows) (hx : ∃ kvs, H d = some (.dK kvs)) : ∃ kvs, H d = some (.dK kvs) ∧ Paired (RowKV K H) kvs rows := by
  obtain ⟨kvs, h1, h2⟩ := h
  obtain ⟨kvs', h3⟩ := hx
  rcases h1 with h1 | ⟨o, h1⟩
  · exact ⟨kvs, h1, h2⟩
  · rw [h3] at h1; cases h1
theorem rds_out {K : PySem.W.Frag} {H : Hp} {M : List Addr} {d : Addr} {rows : List Row} (h : RdsAt K (wo H M) d rows) : d ∉ M := by
  obtain ⟨kvs, h1, _⟩ := h
  intro q
  rcases h1 with h1 | ⟨o, h1⟩ <;> rw [wo_in q] at h1 <;> cases h1
theorem darts_len {α : Type} [DecidableEq α] {vs : List α} {rd : α → List α} (w : Wf vs rd) : (darts vs rd).length ≤ vs.length * vs.length := by
  have key : ∀ l : List α, (∀ v ∈ l, v ∈ vs) → (darts l rd).length ≤ l.length * vs.length := by
    intro l
    induction l with
    | nil => intro _; simp [darts]
    | cons v r ih =>
      intro h
      have e : darts (v :: r) rd = (rd v).map (fun u => (v, u)) ++ darts r rd := rfl
      rw [e, List.length_append, List.length_map, List.length_cons, Nat.succ_mul]
      have h1 := ih fun u hu => h u (List.mem_cons_of_mem _ hu)
      have h2 : (rd v).length ≤ vs.length := nodup_le (w.rn v (h v (by simp))) fun u hu => (w.ties v (h v (by simp)) u hu).1
      omega
  exact key vs fun _ h => h
/-- the faces told -/
def lonesF (rows : List Row) : List (List Str) := (vsf rows).filterMap fun v => if rdf rows v = [] then some [v] else none
def facesF (rows : List Row) (cs : List (List (Str × Str))) : List (List Str) := srt (lonesF rows ++ cs.map fun c => (flD c).map (·.1))
end Five
end
section
namespace Five
open PySem PySem.Spec PyProof.Rows L2
open PySem.W (Datum DatumOrd)
/-! rules by the written part K, told -/
section
variable {X : Cx} {K : PySem.W.Frag}
def rLenQ (K : PySem.W.Frag) : List V → Hp → VK → Prop := fun xs H Q => ∃ p ys, xs = [.ref p] ∧ (SqL K H p ys ∨ SqT K H p ys) ∧ Q (.int ys.length) H
def rListQ (K : PySem.W.Frag) : List V → Hp → VK → Prop := fun xs H Q => ∃ p ys, xs = [.ref p] ∧ (SqL K H p ys ∨ SqT K H p ys) ∧ ∀ l, H l = none → Q (.ref l) (upd H l (.lst ys))
theorem pg_tupK {es : List Expr} {k : Nat} {t : TGs} {pos : Pos} (n : Nat) (hc : X.calm = true) (h : PGs X es t) (hK : X.K = K := by rfl) (hn : (assignEach es X.env).length = n := by rfl) (hst : (assignEach es X.env).findIdx? (·.1) = none := by rfl) : PG X (.Tuple es k pos) (gTup K n t) := by subst hK; exact pg_tup hc h hn hst
theorem ix_listK (hK : X.K = K := by rfl) : IxR X (rIxL K) := by subst hK; exact ix_list
theorem ix_tupK (hK : X.K = K := by rfl) : IxR X (rIxT K) := by subst hK; exact ix_tup
theorem sl_listK (hK : X.K = K := by rfl) : SlR X (rSlL K) := by subst hK; exact sl_list
theorem op_inK (hK : X.K = K := by rfl) : OpR X (compareOp .In) (rIn K false) := by subst hK; exact op_in_seq
theorem op_notInK (hK : X.K = K := by rfl) : OpR X (compareOp .NotIn) (rIn K true) := by subst hK; exact op_notIn_seq
theorem op_catTK (hK : X.K = K := by rfl) : OpR X (binaryOp .Add) (rCatT K) := by subst hK; exact op_catT
theorem call_lenK (hK : X.K = K := by rfl) : CallR X (.builtin "len") (rLenQ K) := by subst hK; exact call_len_seq
theorem call_listK (hK : X.K = K := by rfl) : CallR X (.type "list") (rListQ K) := by subst hK; exact call_list_of
theorem cr_sumK (hc : X.calm = true) (hK : X.K = K := by rfl) : CallR X (.builtin "sum") (rSum K) := by subst hK; exact cr_sum hc
theorem cr_maxK (hc : X.calm = true) (hK : X.K = K := by rfl) : CallR X (.builtin "max") (rMax K) := by subst hK; exact cr_max hc
theorem cr_minK (hc : X.calm = true) (hK : X.K = K := by rfl) : CallR X (.builtin "min") (rMin K) := by subst hK; exact cr_min hc
theorem cr_anyK (hc : X.calm = true) (hK : X.K = K := by rfl) : CallR X (.builtin "any") (rAny K) := by subst hK; exact cr_any hc
theorem cr_allK (hc : X.calm = true) (hK : X.K = K := by rfl) : CallR X (.builtin "all") (rAll K) := by subst hK; exact cr_all hc
theorem mt_indexK (hK : X.K = K := by rfl) : MtR X "list.index" (rIndex K) := by subst hK; exact mt_index
theorem call_isiK' (hK : X.K = K := by rfl) : CallR X (.builtin "isinstance") (rIsi K) := by subst hK; exact call_isi
def rDictQ (K : PySem.W.Frag) : List V → Hp → VK → Prop := fun xs H Q => ∃ (a : Addr) (ps : List Addr) (kvs : List (Key × V)), xs = [.ref a] ∧ SqL K H a (ps.map V.ref) ∧ Paired (fun p kv => SqT K H p [kV kv.1, kv.2]) ps kvs ∧ ∀ p, H p = none → Q (.ref p) (upd H p (.dK (mergeK [] kvs)))
theorem call_dictK (hc : X.calm = true) (hK : X.K = K := by rfl) : CallR X (.type "dict") (rDictQ K) := by
  subst hK
  intro pins s σ H xs us Q I r h
  exact call_dictP hc pins s σ H xs us Q I r h
theorem op_eqK (α : Type) [DecidableEq α] [Datum α] (hu : X.A.units + 64 < cLine) (hd : Datum.depth α ≤ 60 := by decide) (hK : X.K = K := by rfl) : OpR X (compareOp .Eq) (rEqT K α) := by subst hK; exact op_eqT α hu hd
theorem op_neK (α : Type) [DecidableEq α] [Datum α] (hu : X.A.units + 64 < cLine) (hd : Datum.depth α ≤ 60 := by decide) (hK : X.K = K := by rfl) : OpR X (compareOp .NotEq) (rNeT K α) := by subst hK; exact op_neT α hu hd
theorem op_inTK (α : Type) [DecidableEq α] [Datum α] (hu : X.A.units + 64 < cLine) (hd : Datum.depth α ≤ 60 := by decide) (hK : X.K = K := by rfl) : OpR X (compareOp .In) (rInT K α) := by subst hK; exact op_inT α hu hd
theorem op_notInTK (α : Type) [DecidableEq α] [Datum α] (hu : X.A.units + 64 < cLine) (hd : Datum.depth α ≤ 60 := by decide) (hK : X.K = K := by rfl) : OpR X (compareOp .NotIn) (rNotInT K α) := by subst hK; exact op_notInT α hu hd
theorem cr_srtSK (hu : X.A.units + 64 < cLine) (hK : X.K = K := by rfl) : CallR X (.builtin "sorted") (rSrtS K) := by subst hK; exact cr_srtS hu
theorem cr_srtRK (α : Type) [DecidableEq α] [DatumOrd α] (hu : X.A.units + 64 < cLine) (hd : Datum.depth α ≤ 60 := by decide) (hK : X.K = K := by rfl) : CallR X (.builtin "sorted") (rSrtR K α) := by subst hK; exact cr_srtR α hu hd
theorem cr_minSK (hc : X.calm = true) (hu : X.A.units + 64 < cLine) (hK : X.K = K := by rfl) : CallR X (.builtin "min") (rMinS K) := by subst hK; exact cr_minS hc hu
theorem mt_updatePK (hc : X.calm = true) (hK : X.K = K := by rfl) : MtR X "dict.update" (rUpdP K) := by subst hK; exact mt_updateP hc
theorem mt_updateTK (hc : X.calm = true) (hu : X.A.units + 64 < cLine) (hK : X.K = K := by rfl) : MtR X "dict.update" (rUpdT K) := by subst hK; exact mt_updateT hc hu
end
end Five
end
section
namespace Five
open PySem PySem.Spec PyProof.Rows L2
open PySem.W (Datum DatumOrd)
abbrev abc : Str := "abcdefghijklmnopqrstuvwxyz"
def isNm (x : Str) : Bool := decide (1 ≤ x.length) && decide (x.length ≤ 8) && (x.cps.toList.map fun c => decide (c ∈ abc.cps.toList)).all id
theorem abc_mem (c : Nat) : c ∈ abc.cps.toList ↔ 97 ≤ c ∧ c ≤ 122 := by
  have e : abc.cps.toList = [97, 98, 99, 100, 101, 102, 103, 104, 105, 106, 107, 108, 109, 110, 111, 112, 113, 114, 115, 116, 117, 118, 119, 120, 121, 122] := by decide +kernel
  rw [e]
  simp only [List.mem_cons, List.not_mem_nil, or_false]
  omega
theorem isNm_iff (x : Str) : isNm x = true ↔ Nm x := by
  unfold isNm Nm
  simp only [Bool.and_eq_true, decide_eq_true_eq, List.all_eq_true, List.mem_map, id]
  constructor
  · rintro ⟨⟨h1, h2⟩, h3⟩
    exact ⟨h1, h2, fun c hc => (abc_mem c).mp (of_decide_eq_true (h3 _ ⟨c, hc, rfl⟩))⟩
  · rintro ⟨h1, h2, h3⟩
    exact ⟨⟨h1, h2⟩, fun b ⟨c, hc, e⟩ => by rw [← e]; exact decide_eq_true ((abc_mem c).mpr (h3 c hc))⟩
/-- over the signs of a text -/
theorem lcT {z : Str} {g : TG} {tt : TT} {te : TE} {vs : List Nat} {σ : L2.St} {H1 : Hp} {D : Addr} {Qd : Hp → Prop} {α : Type} {M : List Addr}
    (R : Hp → V → α → Prop) (mono : ∀ G G' v x, Same G G' → R G v x → R G' v x) (f : Nat → Option α) (hD : H1 D = none) (al : Al M H1) (hsz : z.cps.toList.length < sizeLine)
    (hs : ∀ c H (Ky : V → Hp → Prop) (Kn : Hp → Prop), c ∈ z.cps.toList → Same H1 H → Al (D :: M) H → (∀ y d H4, f c = some d → Same H H4 → R (wo H4 (D :: M)) y d → Ky y H4) → (∀ H3, f c = none → Same H H3 → Kn H3) →
      g (.str ⟨#[c]⟩) (wipe σ vs) H fun σ2 H2 => wipe σ2 vs = wipe σ vs ∧ tt σ2 H2 fun b H3 => if b = true then te σ2 H3 Ky else Kn H3)
    (hd : ∀ ys H, Same H1 H → H D = some (.lst ys) → Paired (R (wo H (D :: M))) ys (z.cps.toList.filterMap f) → Qd H) :
    ∃ W : Nat → Nat → Hp → Prop, (∃ m, W 0 m (upd H1 D (.lst []))) ∧ ∀ i m H, W i m H →
      ((Its z).stop i H ∧ Qd H) ∨ ((Its z).go i H ∧ ∃ Nx : Hp → Prop, (∀ H', Nx H' → ∃ m', m' < m ∧ W (i + 1) m' H') ∧ ∀ x H', (Its z).yld i H x H' → g x (wipe σ vs) H' fun σ2 H2 => wipe σ2 vs = wipe σ vs ∧ tt σ2 H2 fun b H3 =>
        if b = true then te σ2 H3 fun y H4 => ∃ acc, H4 D = some (.lst acc) ∧ acc.length < sizeLine ∧ Nx (upd H4 D (.lst (acc ++ [y]))) else Nx H3) := by
  refine lcW (S := fun v c => v = V.str ⟨#[c]⟩) walk_str R mono z.cps.toList f hD al (by simp) (by simpa using hsz) (fun H s => trivial) (fun i H x H' hi y => ?_) (fun v b H Ky Kn hb e => by rw [e]; exact hs b H Ky Kn hb) hd
  obtain ⟨e, c, h1, h2⟩ := y
  exact ⟨e, c, by simpa using h1, h2⟩
theorem str_len (x : Str) : x.cps.toList.length = x.length := by simp [Str.length]
end Five
end
section
namespace Five
open PySem PySem.Spec PyProof.Rows L2
open PySem.W (Datum DatumOrd)
def hdS : List Str → Str
  | [] => Str.empty
  | x :: _ => x
theorem hdS_one (v : Str) : hdS [v] = v := rfl
theorem fm_count {c : List Str} {rows : List Row} : ∀ vs : List Str, ((vs.filterMap fun v => if rdf rows v = [] then some [v] else none).filter fun f => decide (hdS f ∈ c)).length = ((vs.filter fun v => decide (v ∈ c)).countP fun v => (rdf rows v).isEmpty)
  | [] => rfl
  | v :: r => by
    rw [List.filterMap_cons]
    have ih := fm_count (c := c) (rows := rows) r
    by_cases h1 : rdf rows v = []
    · rw [if_pos h1]
      simp only [List.filter_cons]
      by_cases h2 : v ∈ c
      · simp [h2, h1, ih, hdS_one]
      · simp [h2, ih, hdS_one]
    · rw [if_neg h1]
      simp only [List.filter_cons]
      by_cases h2 : v ∈ c
      · have : (rdf rows v).isEmpty = false := by simpa using h1
        simp [h2, this, ih]
      · simp [h2, ih]
theorem count_lone {rows : List Row} {c : List Str} (hn : (vsf rows).Nodup) (hc : c.Nodup) (hs : ∀ v ∈ c, v ∈ vsf rows) : ((lonesF rows).filter fun f => decide (hdS f ∈ c)).length = nlone (rdf rows) c := by
  unfold lonesF nlone
  rw [fm_count]
  refine List.Perm.countP_eq _ (perm_of_mem (hn.filter _) hc fun x => ?_)
  simp only [List.mem_filter, decide_eq_true_eq]
  exact ⟨fun h => h.2, fun h => ⟨hs x h, h⟩⟩
theorem hd_flD {c : List (Str × Str)} (h : c ≠ []) : ∃ s ∈ c, hdS ((flD c).map (·.1)) = s.1 := by
  cases e : flD c with
  | nil =>
    have := (flD_perm c).length_eq
    rw [e] at this
    cases c with
    | nil => exact absurd rfl h
    | cons _ _ => simp at this
  | cons s r => exact ⟨s, flD_mem.mp (by rw [e]; simp), rfl⟩
theorem count_faces {rows : List Row} {cs : List (List (Str × Str))} {c : List Str} (F : FD (vsf rows) (rdf rows) cs) (hsh : ∀ v ∈ c, ∀ u ∈ rdf rows v, u ∈ c) : ((cs.map fun w => (flD w).map (·.1)).filter fun f => decide (hdS f ∈ c)).length = nfc cs c := by
  unfold nfc
  rw [List.countP_eq_length_filter, List.filter_map, List.length_map]
  congr 1
  refine List.filter_congr fun w hw => ?_
  simp only [Function.comp]
  obtain ⟨s, hs, e⟩ := hd_flD (cyc_ne (F.cyc w hw))
  rw [e]
  by_cases h : s.1 ∈ c
  · rw [decide_eq_true h, any_yes hs h]
  · rw [decide_eq_false h, any_no fun x hx hxc => h (cyc_shut (vs := vsf rows) hsh (fun y hy => fd_in F hw hy) (F.cyc w hw) hx hxc s hs)]
theorem own_count {rows : List Row} {cs : List (List (Str × Str))} {c : List Str} (hn : (vsf rows).Nodup) (F : FD (vsf rows) (rdf rows) cs) (hc : c.Nodup) (hs : ∀ v ∈ c, v ∈ vsf rows) (hsh : ∀ v ∈ c, ∀ u ∈ rdf rows v, u ∈ c) :
    ((facesF rows cs).filter fun f => decide (hdS f ∈ c)).length = nfc cs c + nlone (rdf rows) c := by
  unfold facesF
  rw [((srt_perm _).filter _).length_eq, List.filter_append, List.length_append, count_lone hn hc hs, count_faces F hsh]
  omega
theorem faces_ne {rows : List Row} {cs : List (List (Str × Str))} (F : FD (vsf rows) (rdf rows) cs) {f : List Str} (h : f ∈ facesF rows cs) : f ≠ [] := by
  unfold facesF at h
  rcases List.mem_append.mp (srt_mem.mp h) with q | q
  · unfold lonesF at q
    obtain ⟨v, _, e⟩ := List.mem_filterMap.mp q
    split at e
    · cases e; simp
    · cases e
  · obtain ⟨w, hw, rfl⟩ := List.mem_map.mp q
    have := cyc_ne (F.cyc w hw)
    intro z
    have e2 := congrArg List.length z
    rw [List.length_map, (flD_perm w).length_eq] at e2
    cases w with
    | nil => exact this rfl
    | cons _ _ => simp at e2
theorem faces_len {rows : List Row} {cs : List (List (Str × Str))} (F : FD (vsf rows) (rdf rows) cs) (wf : Wf (vsf rows) (rdf rows)) (hl : rows.length ≤ 60) : (facesF rows cs).length ≤ 3660 := by
  unfold facesF
  rw [srt_length, List.length_append, List.length_map]
  have h1 : (lonesF rows).length ≤ 60 := Nat.le_trans (List.length_filterMap_le _ _) (by rw [List.length_map]; exact hl)
  have h2 : cs.length ≤ cs.flatten.length := flat_len_le fun c hc => cyc_ne (F.cyc c hc)
  have h3 := F.perm.length_eq
  have h4 := darts_len wf
  have h5 : (vsf rows).length ≤ 60 := by rw [List.length_map]; exact hl
  have h6 : (vsf rows).length * (vsf rows).length ≤ 60 * 60 := Nat.mul_le_mul h5 h5
  omega
theorem deg_sum (rd : Str → List Str) (c : List Str) : (c.map fun v => ((rd v).length : Int)).sum = (deg rd c : Int) := by
  unfold deg
  induction c with
  | nil => rfl
  | cons v r ih => rw [List.map_cons, List.sum_cons, List.map_cons, List.sum_cons, ih]; omega
theorem deg_perm {rd : Str → List Str} {c c' : List Str} (h : c.Perm c') : deg rd c = deg rd c' := by
  unfold deg
  exact (h.map _).sum_nat
end Five
end
section
namespace Five
open PySem PySem.Spec PyProof.Rows L2
open PySem.W (Datum DatumOrd)
theorem rdf_of {rows : List Row} {r : Row} (hn : (vsf rows).Nodup) (h : r ∈ rows) : rdf rows r.1 = r.2 := by
  induction rows with
  | nil => exact nomatch h
  | cons a l ih =>
    obtain ⟨h1, h2⟩ := List.nodup_cons.mp hn
    rw [rdf_cons]
    rcases List.mem_cons.mp h with e | e
    · rw [e, if_pos rfl]
    · rw [if_neg, ih h2 e]
      intro q
      exact h1 (List.mem_map.mpr ⟨r, e, q.symm⟩)
theorem valV_out {kvs : List (Key × V)} {k : Key} (h : k ∉ kvs.map (·.1)) : valV kvs k = none := by
  induction kvs with
  | nil => rfl
  | cons a l ih =>
    rw [valV_neg fun q => h (by rw [← q]; simp)]
    exact ih fun q => h (List.mem_cons_of_mem _ q)
theorem mergeK_app : ∀ (kvs acc : List (Key × V)), ((acc ++ kvs).map (·.1)).Nodup → mergeK acc kvs = acc ++ kvs
  | [], acc, _ => by show acc = acc ++ []; rw [List.append_nil]
  | kv :: r, acc, h => by
    show mergeK (putK acc kv.1 kv.2) r = _
    rw [putK_new _ (valV_out fun q => ?_), mergeK_app r (acc ++ [kv]) (by simpa using h)]
    · simp
    · rw [List.map_append] at h
      exact (List.nodup_append.mp h).2.2 _ q kv.1 (by simp) rfl
theorem mergeK_nodup {kvs : List (Key × V)} (h : (kvs.map (·.1)).Nodup) : mergeK [] kvs = kvs := by
  have := mergeK_app kvs [] (by simpa using h)
  simpa using this
theorem nodup_inr {l : List Str} (h : l.Nodup) : (l.map (Sum.inr : Str → Key)).Nodup := by
  refine List.Pairwise.map _ (fun a b hab e => hab (Sum.inr.inj e)) h
/-- a tuple of a name and a list -/
def RowP (K : PySem.W.Frag) (G : Hp) (t : Addr) (r : Row) : Prop := ∃ b, SqT K G t [.str r.1, .ref b] ∧ LS K G b r.2
instance {K : PySem.W.Frag} : Mn (RowP K) := ⟨fun s ⟨b, h1, h2⟩ => ⟨b, s.seqT h1, Mn.up s h2⟩⟩
theorem kv_of_rows {K : PySem.W.Frag} {G : Hp} : ∀ {ts : List Addr} {rows : List Row}, Paired (RowP K G) ts rows → ∃ kvs, Paired (fun p kv => SqT K G p [kV kv.1, kv.2]) ts kvs ∧ Paired (RowKV K G) kvs rows
  | _, _, .nil => ⟨[], .nil, .nil⟩
  | _, _, .cons (b := r) ⟨b, h1, h2⟩ t => by
    obtain ⟨kvs, h3, h4⟩ := kv_of_rows t
    exact ⟨(Sum.inr r.1, .ref b) :: kvs, .cons h1 h3, .cons ⟨rfl, b, rfl, h2⟩ h4⟩
/-- only what is new -/
def nw (H H' : Hp) : Hp := fun a => if H a = none then H' a else none
theorem nw_get {H H' : Hp} {a : Addr} {o : HO} (h : nw H H' a = some o) : H a = none ∧ H' a = some o := by
  unfold nw at h
  split at h
  · next q => exact ⟨q, h⟩
  · cases h
theorem nw_of {H H' : Hp} {a : Addr} (h : H a = none) : nw H H' a = H' a := by unfold nw; rw [if_pos h]
theorem nw_same {H H' : Hp} : Same (nw H H') H' := fun _ _ h => (nw_get h).2
theorem nw_up {H H1 H2 : Hp} (s : Same H1 H2) : Same (nw H H1) (nw H H2) := fun a o h => by
  obtain ⟨h1, h2⟩ := nw_get h
  rw [nw_of h1]
  exact s _ _ h2
theorem nw_wo {H H' : Hp} {M : List Addr} (al : Al M H) : Same (nw H H') (wo H' M) := fun a o h => by
  obtain ⟨h1, h2⟩ := nw_get h
  rw [wo_out (al.fresh h1)]
  exact h2
theorem nw_back {H H1 H' : Hp} (s : Same H H1) : Same (nw H1 H') (nw H H') := fun a o h => by
  obtain ⟨h1, h2⟩ := nw_get h
  rw [nw_of (s.free h1)]
  exact h2
/-- a new list of names -/
def LsN (H0 : Hp) (G : Hp) (a : Addr) (l : List Str) : Prop := nw H0 G a = some (.lst (l.map V.str))
instance {H0 : Hp} : Ms (LsN H0) := ⟨fun s h => nw_up s _ _ h⟩
theorem LsN.of {H0 H : Hp} {M : List Addr} {a : Addr} {l : List Str} (h0 : H0 a = none) (h : H a = some (.lst (l.map V.str))) (hn : a ∉ M) : LsN H0 (wo H M) a l := by
  show nw H0 (wo H M) a = _
  rw [nw_of h0, wo_out hn]
  exact h
theorem LsN.ls {K : PySem.W.Frag} {H0 G : Hp} {a : Addr} {l : List Str} (h : LsN H0 G a l) : LS K G a l := SqL.of (nw_get h).2
/-- a new list of new lists of names -/
def NewLL (H H' : Hp) (l : Addr) (xs : List (List Str)) : Prop := ∃ as : List Addr, nw H H' l = some (.lst (as.map V.ref)) ∧ Paired (LsN H H') as xs
theorem NewLL.lr {K : PySem.W.Frag} {H H' : Hp} {M : List Addr} {l : Addr} {xs : List (List Str)} (h : NewLL H H' l xs) (al : Al M H) : LR K (LS K) (wo H' M) l xs := by
  obtain ⟨as, h1, h2⟩ := h
  exact ⟨as, SqL.of (nw_wo al _ _ h1), Paired.mapP h2 fun _ _ q => SqL.of (nw_wo al _ _ q)⟩
/-- a tuple of a name and a new list -/
def RowN (K : PySem.W.Frag) (H0 : Hp) (G : Hp) (t : Addr) (r : Row) : Prop := ∃ b, SqT K G t [.str r.1, .ref b] ∧ LS K (nw H0 G) b r.2
instance {K : PySem.W.Frag} {H0 : Hp} : Ms (RowN K H0) := ⟨fun s ⟨b, h1, h2⟩ => ⟨b, s.sm.seqT h1, up (nw_up s) h2⟩⟩
theorem kv_of_rowsN {K : PySem.W.Frag} {H0 G : Hp} : ∀ {ts : List Addr} {rows : List Row}, Paired (RowN K H0 G) ts rows → ∃ kvs, Paired (fun p kv => SqT K G p [kV kv.1, kv.2]) ts kvs ∧ Paired (RowKV K (nw H0 G)) kvs rows
  | _, _, .nil => ⟨[], .nil, .nil⟩
  | _, _, .cons (b := r) ⟨b, h1, h2⟩ t => by
    obtain ⟨kvs, h3, h4⟩ := kv_of_rowsN t
    exact ⟨(Sum.inr r.1, .ref b) :: kvs, .cons h1 h3, .cons ⟨rfl, b, rfl, h2⟩ h4⟩
/-- what a web tells of its rows -/
def webRows (rows : List Row) : List Row := (srt (vsf rows)).map fun v => (v, fl (rdf rows v))
theorem vsf_web (rows : List Row) : vsf (webRows rows) = srt (vsf rows) := by
  unfold webRows vsf
  rw [List.map_map]
  exact List.map_id _
theorem rdf_map {g : Str → List Str} {v : Str} : ∀ {l : List Str}, v ∈ l → rdf (l.map fun v => (v, g v)) v = g v
  | [], h => nomatch h
  | a :: r, h => by
    rw [List.map_cons, rdf_cons]
    by_cases e : a = v
    · rw [if_pos e, e]
    · rw [if_neg e]
      exact rdf_map ((List.mem_cons.mp h).resolve_left fun q => e q.symm)
theorem rdf_web {rows : List Row} {v : Str} (h : v ∈ vsf rows) : rdf (webRows rows) v = fl (rdf rows v) := rdf_map (srt_mem.mpr h)
theorem fl_mem {l : List Str} {x : Str} : x ∈ fl l ↔ x ∈ l := by
  obtain ⟨L, M, e1, e2⟩ := fl_perm l
  rw [e2]
  conv => rhs; rw [e1]
  simp only [List.mem_append]
  exact ⟨fun h => h.symm, fun h => h.symm⟩
theorem fl_Perm (l : List Str) : (fl l).Perm l := by
  obtain ⟨L, M, e1, e2⟩ := fl_perm l
  rw [e2]
  conv => rhs; rw [e1]
  exact List.perm_append_comm
structure RowsOk (rows : List Row) : Prop where
  nm : ∀ v ∈ vsf rows, Nm v
  pl : Pl (vsf rows) (rdf rows)
  len : rows.length ≤ 60
theorem RowsOk.row {rows : List Row} (h : RowsOk rows) {r : Row} (hr : r ∈ rows) : r.1 ∈ vsf rows ∧ rdf rows r.1 = r.2 ∧ r.2.Nodup ∧ (∀ x ∈ r.2, x ∈ vsf rows ∧ x ≠ r.1 ∧ r.1 ∈ rdf rows x) ∧ r.2.length ≤ 60 := by
  have h1 : r.1 ∈ vsf rows := List.mem_map.mpr ⟨r, hr, rfl⟩
  have e := rdf_of h.pl.wf.nd hr
  have h2 := h.pl.wf.rn r.1 h1
  have h3 := h.pl.wf.ties r.1 h1
  rw [e] at h2 h3
  refine ⟨h1, e, h2, h3, Nat.le_trans (nodup_le h2 fun x hx => (h3 x hx).1) ?_⟩
  rw [List.length_map]; exact h.len
theorem paired_app {α β : Type} {R : α → β → Prop} : ∀ {xs : List α} {ys : List β} {xs' : List α} {ys' : List β}, Paired R xs ys → Paired R xs' ys' → Paired R (xs ++ xs') (ys ++ ys')
  | _, _, _, _, .nil, h => h
  | _, _, _, _, .cons r t, h => .cons r (paired_app t h)
def tiesF (rows : List Row) : List (Str × Str) := rows.flatMap fun r => ((srt r.2).filter fun o => decide (r.1.cps.toList < o.cps.toList)).map fun o => (r.1, o)
end Five
end
section
namespace Five
open PySem PySem.Spec PyProof.Rows L2
/-! pots -/
def PotAt (H : Hp) (p : Addr) : Prop := ∃ x y : Int, H p = some (.lst [.int x, .int y]) ∧ 0 ≤ x ∧ 0 ≤ y ∧ y < 2147483648
theorem PotAt.eq {H H' : Hp} {p : Addr} (h : PotAt H p) (e : H' p = H p) : PotAt H' p := by
  obtain ⟨x, y, h1, h2⟩ := h
  exact ⟨x, y, by rw [e]; exact h1, h2⟩
theorem PotAt.same {H H' : Hp} {p : Addr} (h : PotAt H p) (s : Same H H') : PotAt H' p := by
  obtain ⟨x, y, h1, h2⟩ := h
  exact ⟨x, y, s _ _ h1, h2⟩
theorem PotAt.ne {H : Hp} {p : Addr} (h : PotAt H p) : H p ≠ none := by
  obtain ⟨x, y, h1, _⟩ := h
  rw [h1]; exact fun z => nomatch z
/-- all but what stands at p is as it was -/
def But (p : Addr) (H H' : Hp) : Prop := ∀ b, b ≠ p → H' b = H b
theorem But.refl (p : Addr) (H : Hp) : But p H H := fun _ _ => rfl
theorem But.trans {p : Addr} {A B C : Hp} (a : But p A B) (b : But p B C) : But p A C := fun q h => (b q h).trans (a q h)
theorem But.upd (p : Addr) (H : Hp) (o : HO) : But p H (L2.upd H p o) := fun _ h => upd_ne h
theorem But.wo {p : Addr} {H H' : Hp} {M : List Addr} (b : But p H H') (h : p ∈ M) : wo H' M = wo H M := by
  funext a
  by_cases q : a ∈ M
  · rw [wo_in q, wo_in q]
  · rw [wo_out q, wo_out q, b a fun e => q (by rw [e]; exact h)]
theorem But.al {p : Addr} {H H' : Hp} {M : List Addr} (b : But p H H') (al : Al M H) (h : H' p ≠ none) : Al M H' := fun m hm => by
  by_cases q : m = p
  · rw [q]; exact h
  · rw [b m q]; exact al m hm
end Five
namespace Five
open PySem PySem.Spec PyProof.Rows L2
/-- drawn from the pot p; all else is as it was -/
structure Dr (p : Addr) (H H' : Hp) : Prop where
  s : Same (wo H [p]) H'
  pot : PotAt H' p
section
variable {p q : Addr} {H H1 H2 : Hp} {o : HO}
theorem Dr.refl (h : PotAt H p) : Dr p H H := ⟨wo_same, h⟩
theorem Dr.get (d : Dr p H H1) (n : q ≠ p) (h : H q = some o) : H1 q = some o := d.s _ _ (by rw [wo_out (by simpa using n)]; exact h)
theorem Dr.dig (d : Dr p H H1) (b : But p H1 H2) (h : PotAt H2 p) : Dr p H H2 := ⟨fun a o e => by
  obtain ⟨h1, h2⟩ := wo_get e
  rw [b a (by simpa using h2)]
  exact d.s _ _ e, h⟩
theorem Dr.same (d : Dr p H H1) (s : Same H1 H2) : Dr p H H2 := ⟨d.s.trans s, d.pot.same s⟩
theorem Dr.free (d : Dr p H H1) (h : H1 q = none) : H q = none := by
  have n : q ≠ p := fun e => d.pot.ne (by rw [← e]; exact h)
  have := d.s.free h
  rw [wo_out (by simpa using n)] at this
  exact this
theorem Dr.new (d : Dr p H H1) (h : H1 q = none) : Dr p H (upd H1 q o) := d.same (.new h)
theorem Dr.trans (a : Dr p H H1) (b : Dr p H1 H2) : Dr p H H2 := ⟨fun x o e => by
  obtain ⟨h1, h2⟩ := wo_get e
  exact b.s _ _ (by rw [wo_out h2]; exact a.s _ _ e), b.pot⟩
theorem Dr.ne (d : Dr p H H1) (h : H1 q = none) : q ≠ p := fun e => d.pot.ne (by rw [← e]; exact h)
theorem Dr.mut (d : Dr p H H1) (h : H q = none) (n : q ≠ p) : Dr p H (upd H1 q o) := ⟨fun a o' e => by
  obtain ⟨h1, h2⟩ := wo_get e
  rw [upd_ne (ne_of_none h1 h)]
  exact d.s _ _ e, d.pot.eq (upd_ne n.symm)⟩
theorem Dr.wos {M : List Addr} (d : Dr p H H1) : Same (wo H (p :: M)) (wo H1 (p :: M)) := fun a o e => by
  obtain ⟨h1, h2⟩ := wo_get e
  rw [wo_out h2]
  exact d.s _ _ (by rw [wo_out fun z => h2 (by simp at z; simp [z])]; exact h1)
theorem Dr.woL {L M : List Addr} (d : Dr p H H1) (h : ∀ l ∈ L, H l = none) : Same (wo H (p :: M)) (wo H1 (L ++ p :: M)) := fun a o e => by
  obtain ⟨h1, h2⟩ := wo_get e
  have h3 : a ∉ L ++ p :: M := fun z => by
    rcases List.mem_append.mp z with z | z
    · rw [h a z] at h1; cases h1
    · exact h2 z
  rw [wo_out h3]
  exact d.s _ _ (by rw [wo_out fun z => h2 (by simp at z; simp [z])]; exact h1)
theorem Dr.al {M : List Addr} (d : Dr p H H1) (al : Al M H) : Al M H1 := fun m hm e => by
  by_cases q : m = p
  · exact d.pot.ne (by rw [← q]; exact e)
  · exact al m hm (d.free e)
end
end Five
end
section
namespace Five
open PySem PySem.Spec PyProof.Rows L2
/-! names -/
def cnt (L : List Nat) : Nat → List Nat
  | 0 => []
  | n + 1 => cnt L (n / L.length) ++ [L.getD (n % L.length) 0]
termination_by n => n
decreasing_by exact Nat.lt_succ_of_le (Nat.div_le_self _ _)
theorem cnt_zero (L : List Nat) : cnt L 0 = [] := by rw [cnt]
theorem cnt_succ (L : List Nat) (n : Nat) : cnt L (n + 1) = cnt L (n / L.length) ++ [L.getD (n % L.length) 0] := by rw [cnt]
theorem getD_inj {L : List Nat} (h : L.Nodup) {i j : Nat} (hi : i < L.length) (hj : j < L.length) (e : L.getD i 0 = L.getD j 0) : i = j := by
  rw [List.getD_eq_getElem?_getD, List.getD_eq_getElem?_getD, List.getElem?_eq_getElem hi, List.getElem?_eq_getElem hj] at e
  exact (List.getElem_inj h).mp e
theorem cnt_inj {L : List Nat} (hn : L.Nodup) (hl : 0 < L.length) : ∀ (n m : Nat), cnt L n = cnt L m → n = m := by
  intro n
  induction n using Nat.strongRecOn with
  | ind n ih =>
    intro m e
    cases n with
    | zero =>
      cases m with
      | zero => rfl
      | succ m => rw [cnt_zero, cnt_succ] at e; simp at e
    | succ n =>
      cases m with
      | zero => rw [cnt_zero, cnt_succ] at e; simp at e
      | succ m =>
        rw [cnt_succ, cnt_succ] at e
        obtain ⟨e1, e2⟩ := List.append_inj' e rfl
        have h1 := ih (n / L.length) (Nat.lt_succ_of_le (Nat.div_le_self _ _)) _ e1
        have h2 := getD_inj hn (Nat.mod_lt _ hl) (Nat.mod_lt _ hl) (by simpa using e2)
        have h3 := Nat.div_add_mod n L.length
        have h4 := Nat.div_add_mod m L.length
        rw [h1, h2, h4] at h3
        omega
theorem cnt_len {L : List Nat} (hl : 2 ≤ L.length) : ∀ (b n : Nat), n + 2 ≤ 2 ^ (b + 1) → (cnt L n).length ≤ b
  | b, 0, _ => by rw [cnt_zero]; exact Nat.zero_le _
  | 0, n + 1, h => by simp at h
  | b + 1, n + 1, h => by
    rw [cnt_succ, List.length_append, List.length_singleton]
    have h1 : n / L.length ≤ n / 2 := Nat.div_le_div_left hl (by decide)
    have h2 : 2 ^ (b + 1 + 1) = 2 * 2 ^ (b + 1) := by rw [Nat.pow_succ]; omega
    have := cnt_len hl b (n / L.length) (by omega)
    omega
theorem cnt_mem {L : List Nat} (hl : 0 < L.length) : ∀ (n : Nat), ∀ c ∈ cnt L n, c ∈ L := by
  intro n
  induction n using Nat.strongRecOn with
  | ind n ih =>
    cases n with
    | zero => intro c hc; rw [cnt_zero] at hc; exact nomatch hc
    | succ n =>
      intro c hc
      rw [cnt_succ] at hc
      rcases List.mem_append.mp hc with q | q
      · exact ih _ (Nat.lt_succ_of_le (Nat.div_le_self _ _)) c q
      · rw [List.mem_singleton.mp q, List.getD_eq_getElem?_getD, List.getElem?_eq_getElem (Nat.mod_lt _ hl)]
        exact List.getElem_mem _
theorem cnt_ne {L : List Nat} (n : Nat) (h : 0 < n) : cnt L n ≠ [] := by
  cases n with
  | zero => exact absurd h (by decide)
  | succ n => rw [cnt_succ]; simp
/-- a text by its signs -/
def txt (l : List Nat) : Str := ⟨l.toArray⟩
theorem txt_cps (l : List Nat) : (txt l).cps.toList = l := rfl
theorem txt_len (l : List Nat) : (txt l).length = l.length := by simp [txt, Str.length]
theorem txt_of (x : Str) : txt x.cps.toList = x := by cases x; rfl
theorem txt_inj {l m : List Nat} (h : txt l = txt m) : l = m := by
  have := congrArg (fun x : Str => x.cps.toList) h
  simpa [txt] using this
theorem txt_app (l m : List Nat) : txt l ++ txt m = txt (l ++ m) := by
  show Str.append (txt l) (txt m) = _
  simp [Str.append, txt]
theorem nm_txt {l : List Nat} (h1 : l ≠ []) (h2 : l.length ≤ 8) (h3 : ∀ c ∈ l, 97 ≤ c ∧ c ≤ 122) : Nm (txt l) := by
  refine ⟨?_, by rw [txt_len]; exact h2, h3⟩
  rw [txt_len]
  cases l with
  | nil => exact absurd rfl h1
  | cons _ _ => simp
theorem abc_at {i : Nat} (h : i < 26) : abc.cps.toList[i]? = some (97 + i) := by
  have e : abc.cps.toList = (List.range 26).map (97 + ·) := by decide +kernel
  rw [e, List.getElem?_map, List.getElem?_range h]
  rfl
def bys : List Nat := [1, 3, 5, 7, 9, 25, 27, 675]
def nmL (c f b : Nat) (L tl : List Nat) (k : Nat) : List Nat :=
  if c = 0 then [97 + (f + b * k) % 676 % 26] else if c = 1 then cnt L (1 + (f + b * k) % 97) else [97 + (f + b * k) % 676 / 26, 97 + (f + b * k) % 676 % 26] ++ tl.take ((f + k) % (tl.length + 1))
theorem by_inj {f b i j : Nat} (hb : b ∈ bys) : (i < 26 → j < 26 → (f + b * i) % 676 % 26 = (f + b * j) % 676 % 26 → i = j) ∧ (i < 97 → j < 97 → (f + b * i) % 97 = (f + b * j) % 97 → i = j) ∧ (i < 676 → j < 676 → (f + b * i) % 676 = (f + b * j) % 676 → i = j) := by
  simp only [bys, List.mem_cons, List.not_mem_nil, or_false] at hb
  rcases hb with e | e | e | e | e | e | e | e <;> subst e <;> refine ⟨?_, ?_, ?_⟩ <;> omega
theorem nmL_inj {c f b : Nat} {L tl : List Nat} (hb : b ∈ bys) (hL : L.Nodup) (hl : 0 < L.length) {i j : Nat} (hi : i < 97) (hj : j < 97) (h0 : c = 0 → i < 26 ∧ j < 26) (e : nmL c f b L tl i = nmL c f b L tl j) : i = j := by
  obtain ⟨h1, h2, h3⟩ := by_inj (f := f) (i := i) (j := j) hb
  unfold nmL at e
  by_cases c0 : c = 0
  · rw [if_pos c0, if_pos c0] at e
    exact h1 (h0 c0).1 (h0 c0).2 (by simpa using e)
  · rw [if_neg c0, if_neg c0] at e
    by_cases c1 : c = 1
    · rw [if_pos c1, if_pos c1] at e
      have := cnt_inj hL hl _ _ e
      exact h2 hi hj (by omega)
    · rw [if_neg c1, if_neg c1] at e
      have e1 : 97 + (f + b * i) % 676 / 26 = 97 + (f + b * j) % 676 / 26 ∧ 97 + (f + b * i) % 676 % 26 = 97 + (f + b * j) % 676 % 26 := by
        simp only [List.cons_append, List.cons.injEq] at e
        exact ⟨e.1, e.2.1⟩
      refine h3 (by omega) (by omega) ?_
      generalize (f + b * i) % 676 = x at *
      generalize (f + b * j) % 676 = y at *
      omega
theorem nmL_nm {c f b : Nat} {L tl : List Nat} (hL : 2 ≤ L.length) (hLm : ∀ c ∈ L, 97 ≤ c ∧ c ≤ 122) (ht : tl.length ≤ 6) (htm : ∀ c ∈ tl, 97 ≤ c ∧ c ≤ 122) (k : Nat) : Nm (txt (nmL c f b L tl k)) := by
  unfold nmL
  split
  · exact nm_txt (by simp) (by simp) (fun c hc => by simp at hc; omega)
  · split
    · refine nm_txt (cnt_ne _ (by omega)) (Nat.le_trans (cnt_len hL 6 _ (by have : (f + b * k) % 97 < 97 := Nat.mod_lt _ (by decide); omega)) (by decide)) fun c hc => hLm c (cnt_mem (by omega) _ c hc)
    · refine nm_txt (by simp) ?_ fun c hc => ?_
      · rw [List.length_append, List.length_take]
        simp only [List.length_cons, List.length_nil]
        omega
      · rcases List.mem_append.mp hc with q | q
        · simp at q
          omega
        · exact htm c (List.mem_of_mem_take q)
theorem nmL_nob {c f b : Nat} {L tl : List Nat} (hL : 2 ≤ L.length) (hLm : ∀ c ∈ L, c ≠ 111) (ht : ∀ c, tl.head? = some c → c = 110) (k : Nat) : nmL c f b L tl k ≠ [110, 111, 98, 111, 100, 121] := by
  intro e
  unfold nmL at e
  by_cases c0 : c = 0
  · rw [if_pos c0] at e
    simp at e
  · rw [if_neg c0] at e
    by_cases c1 : c = 1
    · rw [if_pos c1] at e
      exact hLm 111 (cnt_mem (by omega) (1 + (f + b * k) % 97) 111 (by rw [e]; simp)) rfl
    · rw [if_neg c1] at e
      simp only [List.cons_append, List.nil_append, List.cons.injEq] at e
      have e2 := e.2.2
      cases tl with
      | nil => simp at e2
      | cons t tl =>
        have := ht t rfl
        subst this
        generalize (f + k) % ((110 :: tl).length + 1) = q at e2
        cases q with
        | zero => simp at e2
        | succ q => simp at e2
theorem nobody_txt : ("nobody" : Str) = txt [110, 111, 98, 111, 100, 121] := by decide +kernel
theorem nodup_names {n : Nat} {g : Nat → Str} (h : ∀ i j, i < n → j < n → g i = g j → i = j) : ((List.range n).map g).Nodup := by
  have key : ∀ m, m ≤ n → ((List.range m).map g).Nodup := by
    intro m
    induction m with
    | zero => intro _; simp
    | succ m ih =>
      intro hm
      rw [List.range_succ, List.map_append]
      refine List.nodup_append.mpr ⟨ih (by omega), by simp, fun a ha b hb e => ?_⟩
      obtain ⟨i, hi, rfl⟩ := List.mem_map.mp ha
      have eb : b = g m := by simpa using hb
      rw [eb] at e
      have hi' : i < m := List.mem_range.mp hi
      have := h i m (by omega) (by omega) e
      omega
  exact key n (Nat.le_refl _)
end Five
end
section
namespace Five
open PySem PySem.Spec PyProof.Rows L2
/-! rounds of whole numbers -/
def vsI (n : Nat) : List Int := (List.range n).map fun i : Nat => (i : Int)
def rdI (rds : List (List Int)) (v : Int) : List Int := rds.getD v.toNat []
theorem mem_vsI {n : Nat} {v : Int} : v ∈ vsI n ↔ 0 ≤ v ∧ v < n := by
  unfold vsI
  simp only [List.mem_map, List.mem_range]
  exact ⟨fun ⟨i, h1, h2⟩ => by omega, fun h => ⟨v.toNat, by omega, by omega⟩⟩
theorem vsI_nodup (n : Nat) : (vsI n).Nodup := by
  refine List.Pairwise.map _ (fun a b h e => h (by exact Int.ofNat.inj e)) List.nodup_range
theorem vsI_len (n : Nat) : (vsI n).length = n := by simp [vsI]
theorem vsI_succ (n : Nat) : vsI (n + 1) = vsI n ++ [(n : Int)] := by unfold vsI; rw [List.range_succ]; simp
abbrev LiX (H : Hp) (a : Addr) (l : List Int) : Prop := H a = some (.lst (l.map V.int))
def RnI (H : Hp) (R : Addr) (as : List Addr) (rds : List (List Int)) : Prop := H R = some (.lst (as.map V.ref)) ∧ Paired (LiX H) as rds
theorem RnI.same {H H' : Hp} {R : Addr} {as : List Addr} {rds : List (List Int)} (h : RnI H R as rds) (s : Same H H') : RnI H' R as rds := ⟨s _ _ h.1, Paired.mapP h.2 fun _ _ q => s _ _ q⟩
theorem RnI.len {H : Hp} {R : Addr} {as : List Addr} {rds : List (List Int)} (h : RnI H R as rds) : as.length = rds.length := Paired.length h.2
theorem RnI.at {H : Hp} {R : Addr} {as : List Addr} {rds : List (List Int)} (h : RnI H R as rds) {v : Int} (hv : v ∈ vsI rds.length) : ∃ a, as[v.toNat]? = some a ∧ atI (as.map V.ref) v = some (.ref a) ∧ H a = some (.lst ((rdI rds v).map V.int)) := by
  obtain ⟨h0, h1⟩ := mem_vsI.mp hv
  have hl := h.len
  have hi : v.toNat < as.length := by omega
  have e1 : as[v.toNat]? = some as[v.toNat] := List.getElem?_eq_getElem hi
  obtain ⟨l, e2, e3⟩ := paired_get h.2 _ _ e1
  refine ⟨as[v.toNat], e1, at_map V.ref (j := v.toNat) (by omega) e1, ?_⟩
  unfold rdI
  rw [List.getD_eq_getElem?_getD, e2]
  exact e3
end Five
namespace Five
open PySem PySem.Spec PyProof.Rows L2
theorem paired_set {α β : Type} {R R' : α → β → Prop} : ∀ {as : List α} {xs : List β} {i : Nat} {a : α} {x : β}, Paired R as xs → as.Nodup → as[i]? = some a → (∀ b y, b ≠ a → R b y → R' b y) → R' a x → Paired R' as (xs.set i x)
  | _, _, i, a, x, .nil, _, h, _, _ => by simp at h
  | _, _, 0, a, x, .cons (a := b) r t, hn, h, f, h2 => by
    have e : b = a := by simpa using h
    subst e
    refine .cons h2 ?_
    have hb := (List.nodup_cons.mp hn).1
    have key : ∀ {as : List α} {xs : List β}, Paired R as xs → b ∉ as → Paired R' as xs := by
      intro as xs t
      induction t with
      | nil => intro _; exact .nil
      | cons r t ih => exact fun hb => .cons (f _ _ (fun e => hb (by rw [e]; simp)) r) (ih fun q => hb (List.mem_cons_of_mem _ q))
    exact key t hb
  | _, _, i + 1, a, x, .cons (a := b) r t, hn, h, f, h2 => by
    obtain ⟨h3, h4⟩ := List.nodup_cons.mp hn
    have h' : _ := (by simpa using h : _)
    refine .cons (f _ _ (fun e => h3 ?_) r) (paired_set t h4 h' f h2)
    rw [e]
    exact List.mem_of_getElem? h'
theorem RnI.set {H : Hp} {R : Addr} {as : List Addr} {rds : List (List Int)} (h : RnI H R as rds) (hn : (R :: as).Nodup) {i : Nat} {a : Addr} (ha : as[i]? = some a) (l : List Int) : RnI (upd H a (.lst (l.map V.int))) R as (rds.set i l) := by
  obtain ⟨h1, h2⟩ := List.nodup_cons.mp hn
  refine ⟨?_, paired_set h.2 h2 ha (fun b y e q => ?_) upd_same⟩
  · rw [upd_ne fun e => h1 (by rw [e]; exact List.mem_of_getElem? ha)]
    exact h.1
  · show upd H a _ b = _
    rw [upd_ne e]
    exact q
theorem rdI_set {rds : List (List Int)} {v u : Int} {l : List Int} (hv : v ∈ vsI rds.length) (hu : u ∈ vsI rds.length) : rdI (rds.set v.toNat l) u = if u = v then l else rdI rds u := by
  obtain ⟨a1, a2⟩ := mem_vsI.mp hv
  obtain ⟨b1, b2⟩ := mem_vsI.mp hu
  unfold rdI
  rw [List.getD_eq_getElem?_getD, List.getElem?_set, List.getD_eq_getElem?_getD]
  by_cases e : u = v
  · subst e
    rw [if_pos rfl, if_pos (by omega), if_pos rfl]
    rfl
  · rw [if_neg (by omega), if_neg e]
theorem ins_at {α : Type} (A B : List α) (x q : α) : (A ++ x :: B).take (A.length + 1) ++ [q] ++ (A ++ x :: B).drop (A.length + 1) = A ++ x :: q :: B := by
  have e : A ++ x :: B = (A ++ [x]) ++ B := by simp
  have l : A.length + 1 = (A ++ [x]).length := by simp
  rw [e, l, List.take_left', List.drop_left'] <;> simp
theorem fd_path {α : Type} [DecidableEq α] {vs : List α} {rd : α → List α} (h : Pl vs rd) {s : α × α} (hs : s ∈ darts vs rd) :
    ∃ r, Path (fs rd) s r s ∧ (∀ x ∈ s :: r, x ∈ darts vs rd) ∧ (s :: r).Nodup ∧ r.length ≤ vs.length * vs.length := by
  obtain ⟨cs, ps, F, _⟩ := h.flat
  obtain ⟨T, rest, F2, _⟩ := fd_turn F hs
  have hin : ∀ x ∈ s :: T, x ∈ darts vs rd := fun x hx => fd_in F2 (c := s :: T) (by simp) hx
  have hn : (s :: T).Nodup := by
    have := F2.perm.nodup_iff.mpr (darts_nodup h.wf.nd h.wf.rn)
    rw [List.flatten_cons] at this
    exact (List.nodup_append.mp this).1
  refine ⟨T, F2.cyc (s :: T) (by simp), hin, hn, ?_⟩
  have := nodup_le hn hin
  have h2 := darts_len h.wf
  simp only [List.length_cons] at this
  omega
end Five
namespace Five
open PySem PySem.Spec PyProof.Rows L2
theorem Pl.nil {α : Type} [DecidableEq α] {rd : α → List α} : Pl [] rd :=
  ⟨⟨by simp, fun _ h => (nomatch h), fun _ h => (nomatch h)⟩, [], [], ⟨by simp [darts], fun _ h => (nomatch h)⟩, ⟨by simp, fun _ h => (nomatch h), fun _ h => (nomatch h)⟩, fun _ h => (nomatch h)⟩
theorem rdI_app {rds : List (List Int)} {v : Int} {l : List Int} (hv : v ∈ vsI rds.length) : rdI (rds ++ [l]) v = rdI rds v := by
  obtain ⟨a1, a2⟩ := mem_vsI.mp hv
  unfold rdI
  rw [List.getD_eq_getElem?_getD, List.getElem?_append_left (by omega), List.getD_eq_getElem?_getD]
theorem rdI_last {rds : List (List Int)} {l : List Int} : rdI (rds ++ [l]) (rds.length : Int) = l := by
  unfold rdI
  rw [List.getD_eq_getElem?_getD]
  simp
theorem RnI.push {H : Hp} {R a : Addr} {as : List Addr} {rds : List (List Int)} {l : List Int} (h : RnI H R as rds) (hR : R ∉ as) (ha : H a = some (.lst (l.map V.int))) (hn : a ≠ R) : RnI (upd H R (.lst (as.map V.ref ++ [.ref a]))) R (as ++ [a]) (rds ++ [l]) := by
  refine ⟨by rw [upd_same]; simp, paired_snoc ?_ (by show upd H R _ a = _; rw [upd_ne hn]; exact ha)⟩
  have key : ∀ {bs : List Addr} {xs : List (List Int)}, R ∉ bs → Paired (LiX H) bs xs → Paired (LiX (upd H R (.lst (as.map V.ref ++ [.ref a])))) bs xs := by
    intro bs xs hb t
    induction t with
    | nil => exact .nil
    | cons r t ih => exact .cons (by show upd H R _ _ = _; rw [upd_ne fun e => hb (by rw [e]; simp)]; exact r) (ih fun q => hb (List.mem_cons_of_mem _ q))
  exact key hR h.2
theorem RnI.but {p : Addr} {H H' : Hp} {R : Addr} {as : List Addr} {rds : List (List Int)} (h : RnI H R as rds) (b : But p H H') (hn : (p :: R :: as).Nodup) : RnI H' R as rds := by
  obtain ⟨h1, h2⟩ := List.nodup_cons.mp hn
  refine ⟨by rw [b R fun e => h1 (by rw [e]; simp)]; exact h.1, ?_⟩
  have key : ∀ {bs : List Addr} {xs : List (List Int)}, p ∉ bs → Paired (LiX H) bs xs → Paired (LiX H') bs xs := by
    intro bs xs hb t
    induction t with
    | nil => exact .nil
    | cons r t ih => exact .cons (by show H' _ = _; rw [b _ fun e => hb (by rw [e]; simp)]; exact r) (ih fun q => hb (List.mem_cons_of_mem _ q))
  exact key (fun q => h1 (List.mem_cons_of_mem _ q)) h.2
end Five
end
section
namespace Five
open PySem PySem.Spec PyProof.Rows L2
/-! rows with names -/
def gN (names : List Str) (v : Int) : Str := names.getD v.toNat Str.empty
theorem gN_at {names : List Str} {v : Int} (h : v ∈ vsI names.length) : names[v.toNat]? = some (gN names v) := by
  obtain ⟨h1, h2⟩ := mem_vsI.mp h
  unfold gN
  rw [List.getD_eq_getElem?_getD, List.getElem?_eq_getElem (by omega)]
  rfl
theorem gN_inj {names : List Str} (hn : names.Nodup) {x y : Int} (hx : x ∈ vsI names.length) (hy : y ∈ vsI names.length) (e : gN names x = gN names y) : x = y := by
  have h1 := gN_at hx
  have h2 := gN_at hy
  obtain ⟨a1, a2⟩ := mem_vsI.mp hx
  obtain ⟨b1, b2⟩ := mem_vsI.mp hy
  rw [e, ← h2] at h1
  have := (List.getElem?_inj (by omega) hn).mp h1
  omega
theorem gN_map {names : List Str} : (vsI names.length).map (gN names) = names := by
  refine List.ext_getElem? fun i => ?_
  rw [List.getElem?_map]
  unfold vsI
  rw [List.getElem?_map]
  by_cases h : i < names.length
  · rw [List.getElem?_range h]
    show some (gN names (i : Int)) = _
    rw [← gN_at (mem_vsI.mpr ⟨by omega, by omega⟩)]
    simp
  · rw [List.getElem?_eq_none (by simpa using h), List.getElem?_eq_none (by simpa using h)]
    rfl
/-- rows as the law makes them: in order, each round turned -/
def RowsAre (names : List Str) (rds : List (List Int)) (i : Nat) (rws : List Row) : Prop := rws.length = i ∧ ∀ j, j < i → ∃ far : Nat, rws[j]? = some (gN names (j : Int), ((rdI rds (j : Int)).map (gN names)).drop far ++ ((rdI rds (j : Int)).map (gN names)).take far)
theorem RowsAre.mem {names : List Str} {rds : List (List Int)} {rws : List Row} (h : RowsAre names rds rds.length rws) (hl : names.length = rds.length) {r : Row} (hr : r ∈ rws) : r.1 ∈ names := by
  obtain ⟨j, hj⟩ := List.mem_iff_getElem?.mp hr
  have hjl : j < rds.length := by
    rw [← h.1]
    exact (List.getElem?_eq_some_iff.mp hj).1
  obtain ⟨far, e⟩ := h.2 j hjl
  rw [hj] at e
  rw [Option.some.inj e]
  exact List.mem_of_getElem? (gN_at (mem_vsI.mpr ⟨by omega, by omega⟩))
theorem RowsAre.ok {names : List Str} {rds : List (List Int)} {rws rows : List Row} (h : RowsAre names rds rds.length rws) (hp : rows.Perm rws) (hl : names.length = rds.length) (hn : names.Nodup) (hnm : ∀ x ∈ names, Nm x) (pl : Pl (vsI rds.length) (rdI rds)) (h60 : rds.length ≤ 60) : RowsOk rows := by
  have hv : (vsf rws) = names := by
    rw [← gN_map (names := names), hl]
    refine List.ext_getElem? fun i => ?_
    rw [List.getElem?_map, List.getElem?_map]
    unfold vsI
    rw [List.getElem?_map]
    by_cases hi : i < rds.length
    · obtain ⟨far, e⟩ := h.2 i hi
      rw [e, List.getElem?_range hi]
      rfl
    · rw [List.getElem?_eq_none (by rw [h.1]; omega), List.getElem?_eq_none (by simpa using hi)]
      rfl
  have hvp : (vsf rows).Perm names := by rw [← hv]; exact hp.map _
  have hnd : (vsf rows).Nodup := hvp.nodup_iff.mpr hn
  refine ⟨fun v hv' => hnm v (hvp.mem_iff.mp hv'), ?_, by rw [hp.length_eq, h.1]; exact h60⟩
  refine Pl.named (gN names) pl (fun x hx y hy e => gN_inj hn (by rw [hl]; exact hx) (by rw [hl]; exact hy) e) ?_ fun v hv' => ?_
  · have := gN_map (names := names)
    rw [hl] at this
    rw [this]
    exact hvp
  · obtain ⟨h1, h2⟩ := mem_vsI.mp hv'
    obtain ⟨far, e⟩ := h.2 v.toNat (by omega)
    have ev : ((v.toNat : Nat) : Int) = v := by omega
    rw [ev] at e
    have hm := hp.mem_iff.mpr (List.mem_of_getElem? e)
    have := rdf_of hnd hm
    exact ⟨_, _, (List.take_append_drop far _).symm, this⟩
end Five
namespace Five
open PySem PySem.Spec PyProof.Rows L2
theorem RnI.dr {p : Addr} {H H' : Hp} {R : Addr} {as : List Addr} {rds : List (List Int)} (h : RnI H R as rds) (hn : (p :: R :: as).Nodup) (d : Dr p H H') : RnI H' R as rds := by
  obtain ⟨h1, h2⟩ := List.nodup_cons.mp hn
  refine ⟨d.get (fun e => h1 (by rw [e]; simp)) h.1, ?_⟩
  have key : ∀ {bs : List Addr} {xs : List (List Int)}, p ∉ bs → Paired (LiX H) bs xs → Paired (LiX H') bs xs := by
    intro bs xs hb t
    induction t with
    | nil => exact .nil
    | cons r t ih => exact .cons (d.get (fun e => hb (by rw [e]; simp)) r) (ih fun q => hb (List.mem_cons_of_mem _ q))
  exact key (fun q => h1 (List.mem_cons_of_mem _ q)) h.2
theorem paired_rot {α : Type} {R : Addr → α → Prop} {as : List Addr} {xs : List α} (h : Paired R as xs) (n : Nat) : Paired R (as.drop n ++ as.take n) (xs.drop n ++ xs.take n) := by
  have d : ∀ {as : List Addr} {xs : List α} (n : Nat), Paired R as xs → Paired R (as.drop n) (xs.drop n) ∧ Paired R (as.take n) (xs.take n) := by
    intro as xs n h
    induction h generalizing n with
    | nil => simp; exact .nil
    | cons r t ih =>
      cases n with
      | zero => exact ⟨.cons r t, .nil⟩
      | succ n => exact ⟨(ih n).1, .cons r (ih n).2⟩
  exact paired_app (d n h).1 (d n h).2
theorem paired_rev {α : Type} {R : Addr → α → Prop} {as : List Addr} {xs : List α} (h : Paired R as xs) : Paired R as.reverse xs.reverse := by
  induction h with
  | nil => exact .nil
  | cons r t ih => rw [List.reverse_cons, List.reverse_cons]; exact paired_snoc ih r
theorem rot_perm {α : Type} (l : List α) (n : Nat) : (l.drop n ++ l.take n).Perm l := by
  refine List.perm_append_comm.trans ?_
  rw [List.take_append_drop]
end Five
namespace Five
open PySem PySem.Spec PyProof.Rows L2
/-- a new row of a new list -/
def RowTN (K : PySem.W.Frag) (H0 : Hp) (G : Hp) (t : Addr) (r : Row) : Prop := RowT K (nw H0 G) t r
instance {K : PySem.W.Frag} {H0 : Hp} : Ms (RowTN K H0) := ⟨fun s h => up (R := RowT K) (nw_up s) h⟩
/-- rounds from their least on -/
def dueF (rows : List Row) : List Row := rows.map fun r => (r.1, fl r.2)
theorem vsf_due (rows : List Row) : vsf (dueF rows) = vsf rows := by unfold vsf dueF; rw [List.map_map]; rfl
theorem rdf_due {rows : List Row} {v : Str} (hn : (vsf rows).Nodup) (h : v ∈ vsf rows) : rdf (dueF rows) v = fl (rdf rows v) := by
  obtain ⟨r, hr, rfl⟩ := List.mem_map.mp h
  have h1 : (r.1, fl r.2) ∈ dueF rows := List.mem_map.mpr ⟨r, hr, rfl⟩
  have h2 := rdf_of (rows := dueF rows) (by rw [vsf_due]; exact hn) h1
  rw [rdf_of hn hr]
  exact h2
/-- ties told of a dict of rounds -/
def tiesD (rows : List Row) : List (Str × Str) := (srt (vsf rows)).flatMap fun v => ((srt (rdf rows v)).filter fun o => decide (v.cps.toList < o.cps.toList)).map fun o => (v, o)
theorem ties_due {rows : List Row} (hn : (vsf rows).Nodup) : tiesD (dueF rows) = tiesF (webRows rows) := by
  unfold tiesD tiesF webRows
  rw [vsf_due, List.flatMap_map]
  have : ∀ l : List Str, (∀ v ∈ l, v ∈ vsf rows) → (l.flatMap fun v => ((srt (rdf (dueF rows) v)).filter fun o => decide (v.cps.toList < o.cps.toList)).map fun o => (v, o)) = l.flatMap fun v => ((srt (fl (rdf rows v))).filter fun o => decide (v.cps.toList < o.cps.toList)).map fun o => (v, o) := by
    intro l
    induction l with
    | nil => intro _; rfl
    | cons v r ih =>
      intro h
      rw [List.flatMap_cons, List.flatMap_cons, ih fun x hx => h x (List.mem_cons_of_mem _ hx), rdf_due hn (h v (by simp))]
  exact this _ fun v hv => srt_mem.mp hv
end Five
namespace Five
open PySem PySem.Spec PyProof.Rows L2
theorem dpAll_bls {K : PySem.W.Frag} {G : Hp} : ∀ ss : List Bool, DpAll K G (ss.map V.bl) (ss.map PyData.bool)
  | [] => .nil
  | s :: r => .cons (.bl s) (dpAll_bls r)
theorem bls_dp {K : PySem.W.Frag} {G : Hp} {a : Addr} {l : List Bool} (h : SqL K G a (l.map V.bl)) : Dp K G (.ref a) (tD l) := .lst h (dpAll_bls l)
theorem vsf_web_mem {rows : List Row} {v : Str} : v ∈ vsf (webRows rows) ↔ v ∈ vsf rows := by rw [vsf_web]; exact srt_mem
theorem web_len (rows : List Row) : (webRows rows).length = rows.length := by unfold webRows; rw [List.length_map, srt_length, List.length_map]
theorem RowsOk.webrow {rows : List Row} (h : RowsOk rows) {r : Row} (hr : r ∈ webRows rows) : r.2.length ≤ 60 := by
  unfold webRows at hr
  obtain ⟨v, hv, rfl⟩ := List.mem_map.mp hr
  have hv' : v ∈ vsf rows := srt_mem.mp hv
  rw [(fl_Perm _).length_eq]
  refine Nat.le_trans (nodup_le (h.pl.wf.rn v hv') fun u hu => (h.pl.wf.ties v hv' u hu).1) ?_
  rw [List.length_map]; exact h.len
theorem RowsOk.rlen {rows : List Row} (h : RowsOk rows) {v : Str} (hv : v ∈ vsf rows) : (rdf rows v).length ≤ 60 := by
  refine Nat.le_trans (nodup_le (h.pl.wf.rn v hv) fun u hu => (h.pl.wf.ties v hv u hu).1) ?_
  rw [List.length_map]; exact h.len
end Five
namespace Five
open PySem PySem.Spec PyProof.Rows L2
theorem rows_eta : ∀ {W : List Row}, (vsf W).Nodup → (vsf W).map (fun v => (v, rdf W v)) = W := by
  intro W h
  have key : ∀ l : List Row, (∀ r ∈ l, r ∈ W) → (vsf l).map (fun v => (v, rdf W v)) = l := by
    intro l
    induction l with
    | nil => intro _; rfl
    | cons r l ih =>
      intro hl
      show (r.1, rdf W r.1) :: (vsf l).map (fun v => (v, rdf W v)) = _
      rw [ih fun x hx => hl x (List.mem_cons_of_mem _ hx), rdf_of h (hl r (by simp))]
  exact key W fun _ q => q
theorem NewLL.back {H H1 H' : Hp} {l : Addr} {xs : List (List Str)} (s : Same H H1) (h : NewLL H1 H' l xs) : NewLL H H' l xs := by
  obtain ⟨as, h1, h2⟩ := h
  exact ⟨as, nw_back s _ _ h1, Paired.mapP h2 fun _ _ q => nw_back s _ _ q⟩
/-- faces of the web that is told of rows are those of the rows -/
theorem fd_web {rows : List Row} {cs : List (List (Str × Str))} (wf : Wf (vsf rows) (rdf rows)) (F : FD (vsf rows) (rdf rows) cs) : FD (vsf (webRows rows)) (rdf (webRows rows)) cs := by
  have pd : ∀ l : List Str, (∀ v ∈ l, v ∈ vsf rows) → (darts l (rdf (webRows rows))).Perm (darts l (rdf rows)) := by
    intro l
    induction l with
    | nil => intro _; exact .refl _
    | cons v r ih =>
      intro h
      have e1 : ∀ f : Str → List Str, darts (v :: r) f = (f v).map (fun u => (v, u)) ++ darts r f := fun _ => rfl
      rw [e1, e1, rdf_web (h v (by simp))]
      exact List.Perm.append ((fl_Perm _).map _) (ih fun x hx => h x (List.mem_cons_of_mem _ hx))
  refine ⟨?_, fun c hc => ?_⟩
  · rw [vsf_web]
    refine F.perm.trans ?_
    refine (pd (vsf rows) fun _ h => h).symm.trans ?_
    unfold darts
    exact ((srt_perm _).symm.flatMap_right _)
  · refine cyc_congr (fun s hs => ?_) (F.cyc c hc)
    obtain ⟨h1, h2⟩ := mem_darts.mp (fd_in F hc hs)
    obtain ⟨h3, _, h5⟩ := wf.ties s.1 h1 s.2 h2
    unfold fs
    rw [rdf_web h3]
    obtain ⟨L, M, e1, e2⟩ := fl_perm (rdf rows s.2)
    have hn := wf.rn s.2 h3
    rw [e2, nx_rot (by rw [← e1]; exact hn) (by rw [← e1]; exact h5), ← e1]
theorem wf_web {rows : List Row} (wf : Wf (vsf rows) (rdf rows)) : Wf (vsf (webRows rows)) (rdf (webRows rows)) := by
  refine ⟨by rw [vsf_web]; exact (srt_perm _).nodup_iff.mpr wf.nd, fun v hv => ?_, fun v hv u hu => ?_⟩
  · have hv := vsf_web_mem.mp hv
    rw [rdf_web hv]
    exact (fl_Perm _).nodup_iff.mpr (wf.rn v hv)
  · have hv := vsf_web_mem.mp hv
    rw [rdf_web hv] at hu
    obtain ⟨h1, h2, h3⟩ := wf.ties v hv u (fl_mem.mp hu)
    exact ⟨vsf_web_mem.mpr h1, h2, by rw [rdf_web h1]; exact fl_mem.mpr h3⟩
theorem cd_web {rows : List Row} {ps : List (List Str)} (h : CD (vsf rows) (rdf rows) ps) : CD (vsf (webRows rows)) (rdf (webRows rows)) ps := by
  have hs : ∀ c ∈ ps, ∀ v ∈ c, v ∈ vsf rows := fun c hc v hv => h.perm.mem_iff.mp (List.mem_flatten.mpr ⟨c, hc, hv⟩)
  refine ⟨by rw [vsf_web]; exact h.perm.trans (srt_perm _).symm, fun c hc v hv u hu => ?_, fun c hc => ⟨(h.conn c hc).1, fun S hS => (h.conn c hc).2 S fun v u hv hs' hu => ?_⟩⟩
  · rw [rdf_web (hs c hc v hv)] at hu
    exact h.shut c hc v hv u (fl_mem.mp hu)
  · exact hS v u hv hs' (by rw [rdf_web (hs c hc v hv)]; exact fl_mem.mpr hu)
theorem faces_web {rows : List Row} {cs : List (List (Str × Str))} : facesF (webRows rows) cs = facesF rows cs := by
  unfold facesF
  refine srt_congr (List.Perm.append_right _ ?_)
  unfold lonesF
  rw [vsf_web]
  have e : (srt (vsf rows)).filterMap (fun v => if rdf (webRows rows) v = [] then some [v] else none) = (srt (vsf rows)).filterMap (fun v => if rdf rows v = [] then some [v] else none) := by
    have key : ∀ l : List Str, (∀ v ∈ l, v ∈ vsf rows) → l.filterMap (fun v => if rdf (webRows rows) v = [] then some [v] else none) = l.filterMap (fun v => if rdf rows v = [] then some [v] else none) := by
      intro l
      induction l with
      | nil => intro _; rfl
      | cons v r ih =>
        intro h
        have e0 : (rdf (webRows rows) v = []) ↔ (rdf rows v = []) := by
          rw [rdf_web (h v (by simp))]
          have := (fl_Perm (rdf rows v)).length_eq
          rw [← List.length_eq_zero_iff, ← List.length_eq_zero_iff, this]
        rw [List.filterMap_cons, List.filterMap_cons, ih fun x hx => h x (List.mem_cons_of_mem _ hx)]
        by_cases q : rdf rows v = []
        · rw [if_pos q, if_pos (e0.mpr q)]
        · rw [if_neg q, if_neg fun z => q (e0.mp z)]
    exact key _ fun v hv => srt_mem.mp hv
  rw [e]
  exact (srt_perm _).filterMap _
end Five
namespace Five
open PySem PySem.Spec PyProof.Rows L2
/-- a new tuple of two names -/
def T2N (K : PySem.W.Frag) (H0 : Hp) (G : Hp) (t : Addr) (s : Str × Str) : Prop := T2 K (nw H0 G) t s
instance {K : PySem.W.Frag} {H0 : Hp} : Ms (T2N K H0) := ⟨fun s h => nw_up s _ _ h⟩
theorem T2N.of {K : PySem.W.Frag} {H0 H : Hp} {M : List Addr} {a : Addr} {x y : Str} (h0 : H0 a = none) (h : H a = some (.tup [.str x, .str y])) (hn : a ∉ M) : T2N K H0 (wo H M) a (x, y) := by
  show nw H0 (wo H M) a = _
  rw [nw_of h0, wo_out hn]
  exact h
end Five
namespace Five
open PySem PySem.Spec PyProof.Rows L2
theorem tyL {K : PySem.W.Frag} {H : Hp} {a : Addr} {xs : List V} (h : SqL K H a xs) : TyX K H (.ref a) (.type "list") := by
  rcases h with (h | ⟨o, h⟩) | ⟨o, its, n, h, hc, _⟩
  · exact .base (.lst h)
  · exact .base (.frz h)
  · exact .kList h hc
theorem faces_flen {rows : List Row} {cs : List (List (Str × Str))} (F : FD (vsf rows) (rdf rows) cs) (wf : Wf (vsf rows) (rdf rows)) (hl : rows.length ≤ 60) {f : List Str} (h : f ∈ facesF rows cs) : f.length ≤ 3600 := by
  unfold facesF at h
  rcases List.mem_append.mp (srt_mem.mp h) with q | q
  · unfold lonesF at q
    obtain ⟨v, _, e⟩ := List.mem_filterMap.mp q
    split at e
    · cases e; show 1 ≤ 3600; decide
    · cases e
  · obtain ⟨w, hw, rfl⟩ := List.mem_map.mp q
    rw [List.length_map, (flD_perm w).length_eq]
    have hn : w.Nodup := by
      obtain ⟨rest, hpr⟩ := perm_head hw
      have := (hpr.flatten.nodup_iff).mp (F.perm.nodup_iff.mpr (darts_nodup wf.nd wf.rn))
      rw [List.flatten_cons] at this
      exact (List.nodup_append.mp this).1
    have h1 := nodup_le hn fun s hs => fd_in F hw hs
    have h2 := darts_len wf
    have h5 : (vsf rows).length ≤ 60 := by rw [List.length_map]; exact hl
    have h6 : (vsf rows).length * (vsf rows).length ≤ 60 * 60 := Nat.mul_le_mul h5 h5
    omega
/-- a tuple of a web and of its rounds -/
def WR (K : PySem.W.Frag) (C : Addr) (G : Hp) (t : Addr) (rows : List Row) : Prop := ∃ x d, G t = some (.tup [.ref x, .ref d]) ∧ WebAt K C G x (webRows rows) ∧ RdsAt K G d rows
instance {K : PySem.W.Frag} {C : Addr} : Ms (WR K C) := ⟨fun s ⟨x, d, h1, h2, h3⟩ => ⟨x, d, s _ _ h1, up s h2, up s h3⟩⟩
end Five
end
section
namespace Five
open PySem PySem.Spec PyProof.Rows L2
/-- a text or None -/
def oV' : Option Str → V
  | none => .non
  | some u => .str u
theorem notN'_none : (!decide (oV' none = V.non)) = false := by simp [oV']
theorem notN'_some {u : Str} : (!decide (oV' (some u) = V.non)) = true := by simp [oV']
/-- rounds by names, in the making: the dict at d, draws from the pot at p -/
def GD (K : PySem.W.Frag) (p d : Addr) (H : Hp) (W : List Row) : Prop := ∃ kvs, H d = some (.dK kvs) ∧ Paired (RowKV K (wo H [d, p])) kvs W
def setR (W : List Row) (v : Str) (l : List Str) : List Row := W.map fun r => if r.1 = v then (r.1, l) else r
theorem vsf_setR (W : List Row) (v : Str) (l : List Str) : vsf (setR W v l) = vsf W := by
  unfold vsf setR
  rw [List.map_map]
  refine List.map_congr_left fun r _ => ?_
  show (if r.1 = v then (r.1, l) else r).1 = r.1
  split <;> rfl
theorem setR_len (W : List Row) (v : Str) (l : List Str) : (setR W v l).length = W.length := by unfold setR; rw [List.length_map]
theorem setR_cons (r : Row) (W : List Row) (v : Str) (l : List Str) : setR (r :: W) v l = (if r.1 = v then (r.1, l) else r) :: setR W v l := rfl
theorem rdf_setR_ne {W : List Row} {v u : Str} {l : List Str} (h : u ≠ v) : rdf (setR W v l) u = rdf W u := by
  induction W with
  | nil => rfl
  | cons r W ih =>
    rw [setR_cons, rdf_cons, rdf_cons, ih]
    by_cases e : r.1 = v
    · rw [if_pos e, if_neg (fun q => h (q.symm.trans e)), if_neg (fun q => h (q.symm.trans e))]
    · rw [if_neg e]
theorem rdf_setR_eq {W : List Row} {v : Str} {l : List Str} (hv : v ∈ vsf W) : rdf (setR W v l) v = l := by
  induction W with
  | nil => cases hv
  | cons r W ih =>
    rw [setR_cons, rdf_cons]
    by_cases e : r.1 = v
    · rw [if_pos e, if_pos e]
    · rw [if_neg e, if_neg e]
      exact ih ((List.mem_cons.mp hv).resolve_left fun q => e q.symm)
theorem rdf_app {W : List Row} {r : Row} (h : r.1 ∉ vsf W) (u : Str) : rdf (W ++ [r]) u = if u = r.1 then r.2 else rdf W u := by
  induction W with
  | nil =>
    rw [List.nil_append, rdf_cons]
    by_cases e : u = r.1
    · rw [if_pos e.symm, if_pos e]
    · rw [if_neg (fun q => e q.symm), if_neg e]
  | cons x W ih =>
    rw [List.cons_append, rdf_cons, rdf_cons, ih fun q => h (List.mem_cons_of_mem _ q)]
    by_cases e : x.1 = u
    · rw [if_pos e, if_pos e, if_neg]
      intro q
      exact h (by rw [← q, ← e]; exact List.mem_cons_self)
    · rw [if_neg e, if_neg e]
section
variable {K : PySem.W.Frag} {p d a : Addr} {H H' : Hp} {W : List Row} {v : Str} {l : List Str}
theorem GD.rds (h : GD K p d H W) : RdsAt K H d W := by
  obtain ⟨kvs, h1, h2⟩ := h
  exact ⟨kvs, .inl h1, Paired.mapP h2 fun _ _ q => rowKV_up wo_same.sm q⟩
theorem GD.of {kvs : List (Key × V)} (hd : H' d = some (.dK kvs)) (h : Paired (RowKV K (wo H [d, p])) kvs W) (s : Same (wo H [d, p]) H') : GD K p d H' W := by
  refine ⟨kvs, hd, Paired.mapP h fun _ _ q => rowKV_up (Same.sm fun b o e => ?_) q⟩
  obtain ⟨q1, q2⟩ := wo_get e
  rw [wo_out q2]
  exact s _ _ e
theorem GD.same (h : GD K p d H W) (s : Same H H') : GD K p d H' W := by
  obtain ⟨kvs, h1, h2⟩ := h
  exact GD.of (s _ _ h1) h2 (wo_same.trans s)
theorem GD.dr (h : GD K p d H W) (n : d ≠ p) (s : Dr p H H') : GD K p d H' W := by
  obtain ⟨kvs, h1, h2⟩ := h
  refine GD.of (s.get n h1) h2 fun b o e => ?_
  obtain ⟨q1, q2⟩ := wo_get e
  exact s.get (fun z => q2 (by rw [z]; simp)) q1
theorem GD.ne (h : GD K p d H W) : H d ≠ none := by
  obtain ⟨kvs, h1, _⟩ := h
  rw [h1]; simp
theorem putK_rows {G : Hp} (hr : RowKV K G (Sum.inr v, .ref a) (v, l)) : ∀ {kvs : List (Key × V)} {W : List Row}, Paired (RowKV K G) kvs W → Paired (RowKV K G) (kvs.map fun kv => if kv.1 = Sum.inr v then (kv.1, V.ref a) else kv) (setR W v l)
  | _, _, .nil => .nil
  | _, _, .cons (a := kv) (b := r) h t => by
    rw [List.map_cons, setR_cons]
    refine .cons ?_ (putK_rows hr t)
    by_cases e : r.1 = v
    · rw [if_pos (show kv.1 = Sum.inr v by rw [h.1, e]), if_pos e]
      obtain ⟨_, b, hb, hl⟩ := hr
      cases hb
      exact ⟨h.1, a, rfl, hl⟩
    · rw [if_neg (show ¬ kv.1 = Sum.inr v from fun q => e (Sum.inr.inj (h.1.symm.trans q))), if_neg e]
      exact h
theorem any_key {G : Hp} : ∀ {kvs : List (Key × V)} {W : List Row}, Paired (RowKV K G) kvs W → ((kvs.any fun kv => decide (kv.1 = Sum.inr v)) = true ↔ v ∈ vsf W)
  | _, _, .nil => by simp
  | _, _, .cons (a := kv) (b := r) h t => by
    rw [List.any_cons, Bool.or_eq_true, any_key t, decide_eq_true_eq, h.1]
    show Sum.inr r.1 = Sum.inr v ∨ _ ↔ v ∈ r.1 :: vsf _
    rw [List.mem_cons]
    exact ⟨fun q => q.imp (fun z => (Sum.inr.inj z).symm) id, fun q => q.imp (fun z => by rw [z]) id⟩
theorem GD.put {kvs : List (Key × V)} (hd : H d = some (.dK kvs)) (h : Paired (RowKV K (wo H [d, p])) kvs W) (ha : H a = some (.lst (l.map V.str))) (n1 : a ≠ d) (n2 : a ≠ p) :
    GD K p d (upd H d (.dK (putK kvs (Sum.inr v) (.ref a)))) (if v ∈ vsf W then setR W v l else W ++ [(v, l)]) := by
  have hr : RowKV K (wo H [d, p]) (Sum.inr v, .ref a) (v, l) := ⟨rfl, a, rfl, LS.of ha (by simp [n1, n2])⟩
  have hw : wo (upd H d (.dK (putK kvs (Sum.inr v) (.ref a)))) [d, p] = wo H [d, p] := wo_mut (by simp)
  refine ⟨_, upd_same, ?_⟩
  rw [hw]
  unfold putK
  by_cases e : v ∈ vsf W
  · rw [if_pos ((any_key h).mpr e), if_pos e]
    exact putK_rows hr h
  · rw [if_neg (fun q => e ((any_key h).mp q)), if_neg e]
    exact paired_snoc h hr
theorem GD.size {kvs : List (Key × V)} (hd : H d = some (.dK kvs)) (h : GD K p d H W) : kvs.length = W.length := by
  obtain ⟨kvs', h1, h2⟩ := h
  rw [hd] at h1
  cases h1
  exact Paired.length h2
end
theorem GD.getM {K : PySem.W.Frag} {p d : Addr} {H : Hp} {W : List Row} {v : Str} (h : GD K p d H W) (hv : v ∈ vsf W) : ∃ a, LS K (wo H [d, p]) a (rdf W v) ∧ ∀ H', Same H H' → DGet H' d (.str v) (some (.ref a)) := by
  obtain ⟨kvs, h1, h2⟩ := h
  obtain ⟨a, e1, e2⟩ := rowKV_get h2 hv
  exact ⟨a, e2, fun H' s => .inl ⟨kvs, Sum.inr v, .inl (s _ _ h1), rfl, e1.symm⟩⟩
theorem Dr.wo2 {p d : Addr} {H H' : Hp} (s : Dr p H H') : Same (wo H [d, p]) H' := fun b z e => by
  obtain ⟨q1, q2⟩ := wo_get e
  exact s.get (fun y => q2 (by rw [y]; simp)) q1
theorem GD.fin1 {d : Addr} {H G : Hp} {o : HO} (s : Same H G) : Same (wo H [d]) (upd G d o) := fun b o e => by
  obtain ⟨q1, q2⟩ := wo_get e
  rw [upd_ne (by simpa using q2)]
  exact s _ _ q1
theorem GD.fin2 {K : PySem.W.Frag} {p d a : Addr} {H G : Hp} {W : List Row} {v : Str} {l : List Str} {kvs : List (Key × V)} {vs : List V} (s : Same H G) (hg : GD K p d H W) (hd : H d = some (.dK kvs)) (pot : PotAt H p) (hv : v ∈ vsf W) (hfr : H a = none) (ha : G a = some (.lst vs)) (e : vs = l.map V.str) : GD K p d (upd G d (.dK (putK kvs (Sum.inr v) (.ref a)))) (setR W v l) := by
  subst e
  obtain ⟨kvs', h1, h2⟩ := hg
  rw [hd] at h1
  cases h1
  have := GD.put (v := v) (s _ _ hd) (Paired.mapP h2 fun _ _ q => rowKV_up s.wo.sm q) ha (fun e => by rw [e, hd] at hfr; cases hfr) (fun e => pot.ne (by rw [← e]; exact hfr))
  rwa [if_pos hv] at this
theorem GD.fin3 {K : PySem.W.Frag} {p d a : Addr} {H G : Hp} {W : List Row} {v : Str} {l : List Str} {kvs : List (Key × V)} {vs : List V} (s : Same H G) (hg : GD K p d H W) (hd : H d = some (.dK kvs)) (pot : PotAt H p) (hv : v ∉ vsf W) (hfr : H a = none) (ha : G a = some (.lst vs)) (e : vs = l.map V.str) : GD K p d (upd G d (.dK (putK kvs (Sum.inr v) (.ref a)))) (W ++ [(v, l)]) := by
  subst e
  obtain ⟨kvs', h1, h2⟩ := hg
  rw [hd] at h1
  cases h1
  have := GD.put (v := v) (s _ _ hd) (Paired.mapP h2 fun _ _ q => rowKV_up s.wo.sm q) ha (fun e => by rw [e, hd] at hfr; cases hfr) (fun e => pot.ne (by rw [← e]; exact hfr))
  rwa [if_neg hv] at this
/-- only the pot and the dict have changed -/
structure D2 (p d : Addr) (H H' : Hp) : Prop where
  s : Same (wo H [d, p]) H'
  pot : PotAt H' p
section
variable {p d q : Addr} {H H1 H2 : Hp} {o : HO}
theorem D2.refl (h : PotAt H p) : D2 p d H H := ⟨wo_same, h⟩
theorem D2.get (a : D2 p d H H1) (n1 : q ≠ d) (n2 : q ≠ p) (h : H q = some o) : H1 q = some o := a.s _ _ (by rw [wo_out (by simp [n1, n2])]; exact h)
theorem D2.dr (a : D2 p d H H1) (b : Dr p H1 H2) : D2 p d H H2 := ⟨fun x o e => by
  obtain ⟨h1, h2⟩ := wo_get e
  exact b.get (fun z => h2 (by rw [z]; simp)) (a.s _ _ e), b.pot⟩
theorem D2.same (a : D2 p d H H1) (b : Same H1 H2) : D2 p d H H2 := ⟨a.s.trans b, a.pot.same b⟩
theorem D2.mut (a : D2 p d H H1) (b : Same (wo H1 [d]) H2) (n : d ≠ p) : D2 p d H H2 := by
  refine ⟨fun x o e => ?_, ?_⟩
  · obtain ⟨h1, h2⟩ := wo_get e
    exact b _ _ (by rw [wo_out fun z => h2 (by rw [List.mem_singleton.mp z]; simp)]; exact a.s _ _ e)
  · obtain ⟨x, y, h1, h2⟩ := a.pot
    exact ⟨x, y, b _ _ (by rw [wo_out (by simpa using n.symm)]; exact h1), h2⟩
theorem D2.trans (a : D2 p d H H1) (b : D2 p d H1 H2) : D2 p d H H2 := ⟨fun x o e => by
  obtain ⟨h1, h2⟩ := wo_get e
  exact b.s _ _ (by rw [wo_out h2]; exact a.s _ _ e), b.pot⟩
end
theorem cor_ex {l : List Str} {c : Str} (h : c ∈ l) : ∃ A B, c ∉ A ∧ l = (A ++ [c]) ++ B := by
  induction l with
  | nil => cases h
  | cons x l ih =>
    by_cases e : c = x
    · exact ⟨[], l, by simp, by rw [e]; rfl⟩
    · obtain ⟨A, B, h1, h2⟩ := ih ((List.mem_cons.mp h).resolve_left e)
      exact ⟨x :: A, B, by simp [e, h1], by rw [h2]; rfl⟩
theorem idx_uniq' {l : List Str} (hn : l.Nodup) {i j : Nat} {x : Str} (h1 : l[i]? = some x) (h2 : l[j]? = some x) : i = j := by
  obtain ⟨a1, a2⟩ := List.getElem?_eq_some_iff.mp h1
  obtain ⟨b1, b2⟩ := List.getElem?_eq_some_iff.mp h2
  exact (List.getElem_inj hn).mp (a2.trans b2.symm)
/-- rows begun with another one, in another order -/
def RotR (a b : Row) : Prop := a.1 = b.1 ∧ ∃ L M, b.2 = L ++ M ∧ a.2 = M ++ L
def Rot (rows W : List Row) : Prop := ∃ ws, rows.Perm ws ∧ Paired RotR ws W
theorem rot_keys : ∀ {ws W : List Row}, Paired RotR ws W → vsf ws = vsf W
  | _, _, .nil => rfl
  | _, _, .cons (a := a) (b := b) h t => by
    show a.1 :: vsf _ = b.1 :: vsf _
    rw [h.1, rot_keys t]
theorem rot_get : ∀ {ws W : List Row}, Paired RotR ws W → ∀ {v : Str}, v ∈ vsf W → ∃ L M, rdf W v = L ++ M ∧ rdf ws v = M ++ L
  | _, _, .nil, v, hv => (nomatch hv)
  | _, _, .cons (a := a) (b := b) h t, v, hv => by
    rw [rdf_cons, rdf_cons, h.1]
    by_cases e : b.1 = v
    · rw [if_pos e, if_pos e]; exact h.2
    · rw [if_neg e, if_neg e]
      exact rot_get t ((List.mem_cons.mp hv).resolve_left fun q => e q.symm)
theorem rdf_perm {rows ws : List Row} (h : rows.Perm ws) (hn : (vsf rows).Nodup) (v : Str) : rdf rows v = rdf ws v := by
  have hn2 : (vsf ws).Nodup := (h.map _).nodup_iff.mp hn
  by_cases hv : v ∈ vsf rows
  · obtain ⟨r, hr, e⟩ := List.mem_map.mp hv
    rw [← e, rdf_of hn hr, rdf_of hn2 (h.mem_iff.mp hr)]
  · have hv2 : v ∉ vsf ws := fun q => hv ((h.map _).mem_iff.mpr q)
    have out : ∀ {rows : List Row}, v ∉ vsf rows → rdf rows v = [] := by
      intro rows
      induction rows with
      | nil => intro _; rfl
      | cons a t ih =>
        intro q
        rw [rdf_cons, if_neg (fun z => q (by rw [← z]; exact List.mem_cons_self))]
        exact ih fun z => q (List.mem_cons_of_mem _ z)
    rw [out hv, out hv2]
theorem Rot.vs {rows W : List Row} (h : Rot rows W) : (vsf rows).Perm (vsf W) := by
  obtain ⟨ws, h1, h2⟩ := h
  rw [← rot_keys h2]
  exact h1.map _
theorem Rot.rd {rows W : List Row} (h : Rot rows W) (hn : (vsf W).Nodup) {v : Str} (hv : v ∈ vsf W) : ∃ L M, rdf W v = L ++ M ∧ rdf rows v = M ++ L := by
  have hn2 := h.vs.nodup_iff.mpr hn
  obtain ⟨ws, h1, h2⟩ := h
  rw [rdf_perm h1 hn2]
  exact rot_get h2 hv
theorem Rot.ok {rows W : List Row} (h : Rot rows W) (pl : Pl (vsf W) (rdf W)) (hnm : ∀ v ∈ vsf W, Nm v) (hl : W.length ≤ 60) : RowsOk rows := by
  refine ⟨fun v hv => hnm v (h.vs.mem_iff.mp hv), ?_, ?_⟩
  · refine Pl.named id pl (fun x _ y _ e => e) (by rw [List.map_id]; exact h.vs) fun v hv => ?_
    rw [List.map_id]
    exact h.rd pl.wf.nd hv
  · have := h.vs.length_eq
    rw [List.length_map, List.length_map] at this
    omega
theorem Rot.ins {rows W : List Row} {a b : Row} (h : Rot rows W) (r : RotR a b) (j : Nat) : Rot (rows.take j ++ [a] ++ rows.drop j) (W ++ [b]) := by
  obtain ⟨ws, h1, h2⟩ := h
  refine ⟨ws ++ [a], ?_, paired_snoc h2 r⟩
  have e : (rows.take j ++ [a] ++ rows.drop j).Perm (a :: rows) := by
    rw [List.append_assoc, List.singleton_append]
    refine List.perm_middle.trans ?_
    rw [List.take_append_drop]
  exact e.trans ((List.Perm.cons a h1).trans (List.perm_append_singleton a ws).symm)
theorem RdsAt.getS {K : PySem.W.Frag} {G : Hp} {d : Addr} {rows : List Row} {v : Str} (h : RdsAt K G d rows) (hv : v ∈ vsf rows) : ∃ a, LS K G a (rdf rows v) ∧ ∀ H, Same G H → DGet H d (.str v) (some (.ref a)) := by
  obtain ⟨kvs, h1, h2⟩ := h
  obtain ⟨a, e1, e2⟩ := rowKV_get h2 hv
  exact ⟨a, e2, fun H s => .inl ⟨kvs, Sum.inr v, h1.imp (s _ _) (fun ⟨o, e⟩ => ⟨o, s _ _ e⟩), rfl, e1.symm⟩⟩
theorem valV_at : ∀ {kvs : List (Key × V)} {ks : List Str} {i : Nat} {k : Str} {v : V}, kvs.map (·.1) = ks.map Sum.inr → ks.Nodup → kvs[i]? = some (Sum.inr k, v) → valV kvs (Sum.inr k) = some v
  | [], _, i, k, v, _, _, h => by simp at h
  | kv :: kvs, ks, i, k, v, e, hn, h => by
    cases ks with
    | nil => simp at e
    | cons x ks =>
      rw [List.map_cons, List.map_cons] at e
      injection e with e1 e2
      obtain ⟨h1, h2⟩ := List.nodup_cons.mp hn
      cases i with
      | zero =>
        simp at h
        subst h
        exact valV_pos rfl
      | succ i =>
        have h' : kvs[i]? = some (Sum.inr k, v) := by simpa using h
        have hk : (Sum.inr k : Key) ∈ ks.map Sum.inr := by
          rw [← e2]
          exact List.mem_map.mpr ⟨_, List.mem_of_getElem? h', rfl⟩
        obtain ⟨k', hk', ek⟩ := List.mem_map.mp hk
        have ek : k' = k := Sum.inr.inj ek
        rw [valV_neg (by rw [e1]; exact fun q => h1 (by rw [Sum.inr.inj q, ← ek]; exact hk'))]
        exact valV_at e2 h2 h'
end Five
end
section
namespace Five
open PySem PySem.Spec PyProof.Rows L2
section
variable {α : Type} [DecidableEq α]
/-! a web seen in a mirror -/
theorem nx_rev {l : List α} {x : α} (hn : l.Nodup) (hx : x ∈ l) : nx l.reverse (nx l x) = x := by
  obtain ⟨A, B, rfl, hA⟩ := mem_split hx
  rw [nx_app hA]
  cases B with
  | cons y B =>
    show nx _ y = x
    have e : (A ++ x :: y :: B).reverse = B.reverse ++ y :: (x :: A.reverse) := by simp
    have hy : y ∉ B.reverse := fun q => by
      rw [List.nodup_append] at hn
      have := hn.2.1
      rw [List.nodup_cons, List.nodup_cons] at this
      exact this.2.1 (List.mem_reverse.mp q)
    rw [e, nx_app hy]
    rfl
  | nil =>
    cases A with
    | nil => simp [nx]
    | cons a A =>
      show nx _ a = x
      have e : (a :: A ++ [x]).reverse = (x :: A.reverse) ++ a :: [] := by simp
      have ha : a ∉ x :: A.reverse := fun q => by
        have h1 : (a :: (A ++ [x])).Nodup := hn
        rw [List.nodup_cons] at h1
        refine h1.1 ?_
        rcases List.mem_cons.mp q with z | z
        · rw [z]; simp
        · exact List.mem_append_left _ (List.mem_reverse.mp z)
      rw [e, nx_app ha]
      rfl
theorem path_back {β γ : Type} {f : β → β} {f' : γ → γ} {g : β → γ} : ∀ {s e : β} {r : List β}, (∀ x ∈ s :: r, f' (g (f x)) = g x) → Path f s r e → Path f' (g e) (r.map g).reverse (g s)
  | s, e, [], h, p => by
    have p : f s = e := p
    show f' (g e) = g s
    rw [← p]
    exact h s (by simp)
  | s, e, t :: r, h, p => by
    obtain ⟨p1, p2⟩ := p
    have ih := path_back (fun x hx => h x (List.mem_cons_of_mem _ hx)) p2
    rw [List.map_cons, List.reverse_cons]
    refine path_app.mpr ⟨ih, ?_⟩
    show f' (g t) = g s
    rw [← p1]
    exact h s (by simp)
theorem cyc_back {β γ : Type} {f : β → β} {f' : γ → γ} {g : β → γ} {c : List β} (h : ∀ x ∈ c, f' (g (f x)) = g x) (p : Cyc f c) : Cyc f' (c.map g).reverse := by
  cases c with
  | nil => exact p.elim
  | cons s r =>
    rw [List.map_cons, List.reverse_cons]
    refine cyc_rot (A := [g s]) (B := (r.map g).reverse) ?_
    show Path f' (g s) (r.map g).reverse (g s)
    exact path_back h p
theorem Pl.mirror {vs : List α} {rd rd' : α → List α} (h : Pl vs rd) (hr : ∀ v ∈ vs, rd' v = (rd v).reverse) : Pl vs rd' := by
  obtain ⟨cs, ps, F, Cd, eu⟩ := h.flat
  have w := h.wf
  have mr : ∀ v ∈ vs, ∀ u, (u ∈ rd' v ↔ u ∈ rd v) := fun v hv u => by rw [hr v hv, List.mem_reverse]
  have w' : Wf vs rd' := ⟨w.nd, fun v hv => by rw [hr v hv]; exact (List.reverse_perm _).nodup_iff.mpr (w.rn v hv), fun v hv u hu => by
    obtain ⟨a, b, c⟩ := w.ties v hv u ((mr v hv u).mp hu)
    exact ⟨a, b, (mr u a v).mpr c⟩⟩
  have hsub : ∀ c ∈ ps, ∀ v ∈ c, v ∈ vs := fun c hc v hv => Cd.perm.mem_iff.mp (List.mem_flatten.mpr ⟨c, hc, hv⟩)
  have md : ∀ s : α × α, s ∈ darts vs rd' ↔ s ∈ darts vs rd := fun s => by
    rw [mem_darts, mem_darts]
    constructor
    · exact fun ⟨a, b⟩ => ⟨a, (mr _ a _).mp b⟩
    · exact fun ⟨a, b⟩ => ⟨a, (mr _ a _).mpr b⟩
  have ms : ∀ s : α × α, s ∈ darts vs rd → (s.2, s.1) ∈ darts vs rd := fun s hs => by
    obtain ⟨a, b⟩ := mem_darts.mp hs
    obtain ⟨c, _, d⟩ := w.ties _ a _ b
    exact mem_darts.mpr ⟨c, d⟩
  have nd0 := darts_nodup w.nd w.rn
  refine ⟨w', cs.map (fun c => (c.map fun s => (s.2, s.1)).reverse), ps, ⟨?_, fun c hc => ?_⟩, ⟨Cd.perm, fun c hc v hv u hu => Cd.shut c hc v hv u ((mr v (hsub c hc v hv) u).mp hu), fun c hc => ⟨(Cd.conn c hc).1, fun S hS => (Cd.conn c hc).2 S fun v u hv sv hu => hS v u hv sv ((mr v (hsub c hc v hv) u).mpr hu)⟩⟩, fun c hc => ?_⟩
  · have e1 : ∀ cs : List (List (α × α)), (cs.map (fun c => (c.map fun s => (s.2, s.1)).reverse)).flatten.Perm (cs.flatten.map fun s => (s.2, s.1)) := by
      intro cs
      induction cs with
      | nil => simp
      | cons c r ih =>
        rw [List.map_cons, List.flatten_cons, List.flatten_cons, List.map_append]
        exact (List.reverse_perm _).append ih
    refine (e1 cs).trans ((F.perm.map _).trans ?_)
    refine perm_of_mem ?_ (darts_nodup w'.nd w'.rn) fun s => ?_
    · refine List.Pairwise.map _ ?_ nd0
      intro a b hab e
      injection e with e1 e2
      exact hab (Prod.ext e2 e1)
    · rw [md, List.mem_map]
      constructor
      · rintro ⟨t, ht, rfl⟩
        exact ms t ht
      · exact fun q => ⟨(s.2, s.1), ms s q, rfl⟩
  · obtain ⟨c0, hc0, rfl⟩ := List.mem_map.mp hc
    refine cyc_back (fun x hx => ?_) (F.cyc c0 hc0)
    obtain ⟨a, b⟩ := mem_darts.mp (fd_in F hc0 hx)
    obtain ⟨c1, _, c2⟩ := w.ties _ a _ b
    show (x.2, nx (rd' x.2) (nx (rd x.2) x.1)) = (x.2, x.1)
    rw [hr x.2 c1, nx_rev (w.rn x.2 c1) c2]
  · have e1 : nfc (cs.map fun c => (c.map fun s => (s.2, s.1)).reverse) c = nfc cs c := by
      unfold nfc
      rw [List.countP_map]
      refine List.countP_congr fun f hf => ?_
      show (((f.map fun s => (s.2, s.1)).reverse.any fun s => decide (s.1 ∈ c)) = true) ↔ (f.any fun s => decide (s.1 ∈ c)) = true
      rw [List.any_reverse, List.any_map, List.any_eq_true, List.any_eq_true]
      constructor
      · rintro ⟨s, h1, h2⟩
        have h2 : s.2 ∈ c := by simpa using h2
        obtain ⟨a, b⟩ := mem_darts.mp (fd_in F hf h1)
        exact ⟨s, h1, by simpa using Cd.shut c hc s.2 h2 s.1 (w.ties _ a _ b).2.2⟩
      · rintro ⟨s, h1, h2⟩
        have h2 : s.1 ∈ c := by simpa using h2
        obtain ⟨a, b⟩ := mem_darts.mp (fd_in F hf h1)
        exact ⟨s, h1, by simpa using Cd.shut c hc s.1 h2 s.2 b⟩
    have e2 : nlone rd' c = nlone rd c := by
      unfold nlone
      refine List.countP_congr fun v hv => ?_
      rw [hr v (hsub c hc v hv)]
      simp
    have e3 : deg rd' c = deg rd c := by
      unfold deg
      congr 1
      refine List.map_congr_left fun v hv => ?_
      rw [hr v (hsub c hc v hv), List.length_reverse]
    rw [e1, e2, e3]
    exact eu c hc
end
/-! names exchanged -/
def nameOf (vs row : List Str) (v : Str) : Str := ((vs.zip row).find? fun p => decide (p.1 = v)).elim v (·.2)
theorem nameOf_at {vs row : List Str} (hn : vs.Nodup) {i : Nat} {v u : Str} (h1 : vs[i]? = some v) (h2 : row[i]? = some u) : nameOf vs row v = u := by
  unfold nameOf
  induction vs generalizing row i with
  | nil => cases h1
  | cons a vs ih =>
    cases row with
    | nil => cases h2
    | cons b row =>
      obtain ⟨n1, n2⟩ := List.nodup_cons.mp hn
      rw [List.zip_cons_cons, List.find?_cons]
      cases i with
      | zero =>
        have e1 : a = v := by simpa using h1
        have e2 : b = u := by simpa using h2
        rw [show decide ((a, b).1 = v) = true by simp [e1]]
        exact e2
      | succ i =>
        have h1 : vs[i]? = some v := by simpa using h1
        have e1 : a ≠ v := fun e => n1 (by rw [e]; exact List.mem_of_getElem? h1)
        rw [show decide ((a, b).1 = v) = false by simp [e1]]
        exact ih n2 h1 (by simpa using h2)
theorem map_nameOf {vs row : List Str} (hn : vs.Nodup) (hl : row.length = vs.length) : vs.map (nameOf vs row) = row := by
  refine List.ext_getElem? fun i => ?_
  rw [List.getElem?_map]
  cases q : vs[i]? with
  | none =>
    rw [List.getElem?_eq_none_iff] at q
    rw [List.getElem?_eq_none (by omega)]
    rfl
  | some v =>
    have hi := (List.getElem?_eq_some_iff.mp q).1
    rw [Option.map_some, nameOf_at hn q (List.getElem?_eq_getElem (by omega)), List.getElem?_eq_getElem (by omega)]
theorem nameOf_inj {vs row : List Str} (hn : vs.Nodup) (hr : row.Nodup) (hl : row.length = vs.length) : ∀ x ∈ vs, ∀ y ∈ vs, nameOf vs row x = nameOf vs row y → x = y := by
  intro x hx y hy e
  obtain ⟨i, hi⟩ := List.getElem?_of_mem hx
  obtain ⟨j, hj⟩ := List.getElem?_of_mem hy
  have hi' := (List.getElem?_eq_some_iff.mp hi).1
  have hj' := (List.getElem?_eq_some_iff.mp hj).1
  rw [nameOf_at hn hi (List.getElem?_eq_getElem (by omega)), nameOf_at hn hj (List.getElem?_eq_getElem (by omega))] at e
  have := (List.getElem_inj hr).mp e
  subst this
  rw [hi] at hj
  exact Option.some.inj hj
def renR (W : List Row) (row : List Str) : List Row := W.map fun r => (nameOf (vsf W) row r.1, r.2.map (nameOf (vsf W) row))
theorem vsf_ren {W : List Row} {row : List Str} (hn : (vsf W).Nodup) (hl : row.length = W.length) : vsf (renR W row) = row := by
  have := map_nameOf (vs := vsf W) (row := row) hn (by rw [List.length_map]; exact hl)
  refine Eq.trans ?_ this
  show (W.map _).map _ = (W.map _).map _
  rw [List.map_map, List.map_map]
  rfl
theorem pl_ren {W : List Row} {row : List Str} (pl : Pl (vsf W) (rdf W)) (hp : row.Perm (vsf W)) : Pl (vsf (renR W row)) (rdf (renR W row)) := by
  have hn := pl.wf.nd
  have hl : row.length = (vsf W).length := hp.length_eq
  have hl2 : row.length = W.length := by rw [hl, List.length_map]
  have hrn := hp.nodup_iff.mpr hn
  have inj := nameOf_inj hn hrn hl
  have hvs := vsf_ren hn hl2
  refine Pl.named (nameOf (vsf W) row) pl inj (by rw [hvs, map_nameOf hn hl]) fun v hv => ⟨(rdf W v).map (nameOf (vsf W) row), [], by simp, ?_⟩
  obtain ⟨r, hr, e⟩ := List.mem_map.mp hv
  have e : r.1 = v := e
  subst e
  have hm : (nameOf (vsf W) row r.1, r.2.map (nameOf (vsf W) row)) ∈ renR W row := List.mem_map.mpr ⟨r, hr, rfl⟩
  have := rdf_of (by rw [hvs]; exact hrn) hm
  rw [rdf_of hn hr]
  simpa using this
end Five
end
section
namespace Five
open PySem PySem.Spec PyProof.Rows L2
/-! exceptions -/
abbrev veTail : List Value := [.type "ValueError", .type "Exception", .type "BaseException", .type "object"]
/-- what the written part says of an own exception class -/
structure ExT (K : PySem.W.Frag) (mg : Str → Option Value) (x : Str) (C : Addr) : Prop where
  g : mg x = some (.ref C)
  x : PySem.W.excIn K C veTail "ValueError.__new__" = true
  k : PySem.W.keepIn K (.ref C) = true
  b : PySem.W.subIn K (.ref C) (.type "BaseException") = some true
  t : PySem.W.typeIn K (.ref C) = some (.type "type")
  e : PySem.W.exmOne K (.ref C) (.ref C) = some true
  hg : PySem.W.findIn K (.ref C) "__getattribute__" = some (some (.builtin "BaseException.__getattribute__"))
  hk : PySem.W.findIn K (.ref C) "__getattr__" = some none
  hd : PySem.W.hasDictIn K C = true
  ha : PySem.W.findIn K (.ref C) "__class__" = some (some (.builtin "object.__class__"))
  hn : PySem.W.specialIn K (.builtin "object.__class__") "__get__" = some (some (.builtin "getset_descriptor.__get__"))
  ht : PySem.W.takesIn K (.builtin "object.__class__") = some true
  hm : PySem.W.mroIn K C (.type "object") = some true
theorem ExT.c {K : PySem.W.Frag} {mg : Str → Option Value} {x : Str} {C : Addr} (h : ExT K mg x C) : ExcC K C := ⟨h.hg, h.hk, h.b, h.hd, h.ha, h.hn, h.ht, h.hm⟩
/-- a method that may raise -/
structure MetX (P : Program) (w : World) (K : PySem.W.Frag) (mg : Str → Option Value) (base : Heap) (k : Nat) (C : Addr) (m : Str) (sp : Sp) : Prop where
  ex : ∃ (f : Addr) (fd : FuncData) (ps : List Str), Cls K C ∧ Meth K C m f ∧ FnOk P w K mg base (L2N.CX P w) k f fd ps sp ∧ Binds K fd ps []
structure CalX (P : Program) (w : World) (K : PySem.W.Frag) (mg : Str → Option Value) (base : Heap) (k : Nat) (x : Str) (sp : Sp) : Prop where
  ex : ∃ (f : Addr) (fd : FuncData) (ps : List Str), FnOk P w K mg base (L2N.CX P w) k f fd ps sp ∧ mg x = some (.ref f) ∧ PySem.W.keepIn K (.ref f) = true ∧ Binds K fd ps []
section
variable {P : Program} {w : World} {K : PySem.W.Frag} {mg : Str → Option Value} {base : Heap}
abbrev BodyX (P : Program) (w : World) (K : PySem.W.Frag) (mg : Str → Option Value) (base : Heap) (k : Nat) (qual : Str) (st : Stmt) (N : List Str) (sp : Sp) : Prop :=
  ∀ (f : Addr) (cdv : Value) (A : Around) (outer : List Env) (s : Shared) (H : Hp) (vs : List V) (Q : VK) (E : XK), Room k (A.deeper (envOfC qual (defScope st) s.heap.objs.size f cdv)) → sp vs H Q E →
      ∃ t, PSs (cxOf (L2N.CX P w) P w K mg base N qual (defScope st) f cdv A outer s H E) (defBody st) t ∧ t { nx := fun _ H' => Q .non H', rt := Q } (start N vs) H
theorem okN {x qual : Str} {st : Stmt} {f : Addr} {fd : FuncData} {N ps : List Str} {k : Nat} {sp : Sp} (F : Fun K x qual st f fd) (S : FnScope N ps (defScope st)) (len : ∀ vs H Q E, sp vs H Q E → vs.length = ps.length)
    (hb : ∀ (cdv : Value) (A : Around) (outer : List Env) (s : Shared) (H : Hp) (vs : List V) (Q : VK) (E : XK), Room k (A.deeper (envOfC qual (defScope st) s.heap.objs.size f cdv)) → sp vs H Q E →
      ∃ t, PSs (cxOf (L2N.CX P w) P w K mg base N qual (defScope st) f cdv A outer s H E) (defBody st) t ∧ t { nx := fun _ H' => Q .non H', rt := Q } (start N vs) H) : FnOk P w K mg base (L2N.CX P w) (k + 1) f fd ps sp := by
  obtain ⟨oc, od, kV, doc, pm, an, cdv, ct, osl, rfl, lk, hcd⟩ := F.ex
  exact fn_of lk hcd S len fun A outer s H vs Q E hr hsp => hb cdv A outer s H vs Q E hr hsp
theorem takesN {X : Cx} : L2N.Takes X (fun _ _ _ _ => False) := fun _ _ x => by
  obtain ⟨_, _, _, _, _, _, _, _, _, _, _, _, _, _, _, _, q⟩ := x
  exact q.elim
theorem metX_of {C : Addr} {m qual : Str} {st : Stmt} {N ps : List Str} {k : Nat} {sp : Sp} (c : Cls K C) (D : MetAt K C m qual st ps) (S : FnScope N ps (defScope st)) (len : ∀ vs H Q E, sp vs H Q E → vs.length = ps.length)
    (hb : BodyX P w K mg base k qual st N sp) : MetX P w K mg base (k + 1) C m sp := by
  obtain ⟨f, fd, F, hm, b⟩ := D.ex
  exact ⟨f, fd, ps, c, hm, okN F S len (fun cdv A outer s H vs Q E => hb f cdv A outer s H vs Q E), b⟩
theorem calX_of {x : Str} {st : Stmt} {N ps : List Str} {k : Nat} {sp : Sp} (D : DefAt K mg x st ps) (S : FnScope N ps (defScope st)) (len : ∀ vs H Q E, sp vs H Q E → vs.length = ps.length)
    (hb : BodyX P w K mg base k x st N sp) : CalX P w K mg base (k + 1) x sp := by
  obtain ⟨f, fd, F, hm, b⟩ := D.ex
  exact ⟨f, fd, ps, okN F S len (fun cdv A outer s H vs Q E => hb f cdv A outer s H vs Q E), hm, F.kp, b⟩
end
section
variable {X : Cx} {k j : Nat} {C : Addr} {x m : Str} {sp : Sp} {p pos apos : Pos} {e o : Expr} {es : List Expr} {ta : TE} {t : TA} {E : L2.St → XK}
def tMethX (C : Addr) (m : Str) (sp : Sp) (E : L2.St → XK) (ta : TE) (t : TA) : TE := fun σ H Q => ta σ H fun x H1 => ∃ a dx fs, x = .ref a ∧ H1 a = some (.ins C dx fs) ∧ fs.lookup m = none ∧ t σ H1 fun vs H2 => sp (x :: vs) H2 Q (E σ)
/-- o.m(e, ..) that may raise, within a try -/
theorem pe_mtX {pl : Sem Bool} (c : MetX X.prog X.w X.K X.mg X.base k C m sp) (hr : Room j X.A) (hk : k ≤ j) (hx : ∀ σ, PassesAt (L2N.CX X.prog X.w) X σ (E σ)) (he : PE X o ta) (ha : PA X (e :: es) t)
    (hst : starEach (e :: es) X.env = (false, eval e X.env) :: starEach es X.env := by rfl) (hpl : (backTo pos (starEach es X.env)).any (·.1) = false := by rfl)
    (ht : eval (.Call (.Attribute o m apos) (e :: es) [] pos) X.env = (do
      let ov ← eval o X.env
      standAt apos.atName
      let (f, first) ← holding [ov] (getMethod ov m pl)
      callWith pos f first (backTo pos (starEach (e :: es) X.env)) (backToKw pos (keywordEach [] X.env))) := by rfl) :
    PE X (.Call (.Attribute o m apos) (e :: es) [] pos) (tMethX C m sp E ta t) := by
  obtain ⟨f, fd, ps, c, hm, F, b⟩ := c.ex
  refine ⟨fun pins s σ H Q I h => ?_⟩
  refine PySem.W.methodCall_KW (pl := pl) (thn (he.run pins s σ H _ I h) fun u s1 ⟨x, H1, I1, rx, a, dx, fs, ex, ea, l, q⟩ => ?_) ht
  subst ex
  obtain rfl : u = Value.ref a := rx
  refine getmeth_ok I1 ea c hm l ?_
  refine PySem.W.callWith_K (first := [.ref a]) (h₀ := X.base) I.ok.mod.kin hm.kp (thn (ha.run pos pins s1 σ H1 _ I1 q) fun us s2 ⟨vs, H2, I2, r, q2⟩ => ⟨I2.kIn, ?_⟩) hst hpl
  exact run_fnS (us := .ref a :: us) (vs := .ref a :: vs) F (hr.mono hk) b (hx σ) I2 (.cons rfl r) q2
/-- f(e, ..) that may raise, within a try -/
theorem pe_cX (c : CalX X.prog X.w X.K X.mg X.base k x sp) (hr : Room j X.A) (hk : k ≤ j) (hg : Gl X x) (hx : ∀ σ, PassesAt (L2N.CX X.prog X.w) X σ (E σ)) (ha : PA X (e :: es) t)
    (hdb : (x == ("__debug__" : Str)) = false := by decide) (he : starEach (e :: es) X.env = (false, eval e X.env) :: starEach es X.env := by rfl) (hpl : (backTo pos (starEach es X.env)).any (·.1) = false := by rfl) :
    PE X (.Call (.Name x p) (e :: es) [] pos) (tCallS sp E t) := by
  obtain ⟨f, fd, ps, F, hm, kp, b⟩ := c.ex
  exact pe_callS F (hr.mono hk) hg hm kp b hx ha hdb he hpl
end
/-- isinstance(e, c), e the exception in hand, of the class cls -/
def rIsC (K : PySem.W.Frag) (a : Addr) (cls : Value) (d : Option Addr) : List V → Hp → VK → Prop := fun xs H Q => ∃ (D : Addr) (c : V) (cv : Value) (b : Bool), cls = .ref D ∧ d = none ∧ ExcC K D ∧ xs = [.ref a, c] ∧ (∀ u, RelV c u → u = cv) ∧ PySem.W.kitOne K (.ref D) cv = some b ∧ Q (.bl b) H
theorem call_isC {X : Cx} {K : PySem.W.Frag} {a : Addr} {cls : Value} {d : Option Addr} {oe : Obj} {pn : List (Addr × Obj)} (hz : Zc cls d oe) (hf : ∃ vs, oe.data = .fields vs) (hK : X.K = K := by rfl) : CallR (X.suite a ((a, oe) :: pn)) (.builtin "isinstance") (rIsC K a cls d) := by
  subst hK
  intro pins s σ H xs us Q I r h
  obtain ⟨D, c, cv, b, rfl, rfl, hC, rfl, hcv, e, q⟩ := h
  exact call_isE hC hz hf pins s σ H _ us Q I r ⟨c, cv, b, rfl, hcv, e, q⟩
theorem rel_ref {a : Addr} : ∀ u, RelV (.ref a) u → u = .ref a := fun u r => r
theorem rel_ty {n : String} : ∀ u, RelV (.ty n) u → u = .type n := fun u r => r
end Five
namespace Five
open PySem PySem.Spec PyProof.Rows L2
theorem kit_own {K : PySem.W.Frag} {D C : Addr} {v : Bool} (hs : PySem.W.subIn K (.ref D) (.ref C) = some v) (hself : PySem.W.subIn K (.ref D) (.ref D) = some true) (hd : PySem.W.hasDictIn K C = true) (ht : PySem.W.typeIn K (.ref C) = some (.type "type")) : PySem.W.kitOne K (.ref D) (.ref C) = some v := by
  unfold PySem.W.kitOne
  by_cases e : D = C
  · subst e
    rw [hs] at hself
    cases hself
    rw [if_pos (by simp)]
  · have ne : (Value.ref D == Value.ref C) = false := by
      rw [Bool.eq_false_iff]
      intro q
      exact e (Value.ref.inj (beq_iff_eq.mp q))
    rw [if_neg (by rw [ne]; exact Bool.false_ne_true)]
    obtain ⟨cd, hc, _⟩ := PySem.W.any_some hd
    unfold PySem.W.kitCls
    show (if ((PySem.W.clsIn K C).isSome && PySem.W.typeIn K (.ref C) == some (.type "type")) = true then PySem.W.subIn K (.ref D) (.ref C) else none) = _
    rw [if_pos (by rw [hc, ht]; rfl)]
    exact hs
theorem kit_bt {K : PySem.W.Frag} {D : Addr} {n : String} {v : Bool} (hs : PySem.W.subIn K (.ref D) (.type n) = some v) (hm : PySem.W.kitMeta n = true) : PySem.W.kitOne K (.ref D) (.type n) = some v := by
  unfold PySem.W.kitOne
  have ne : (Value.ref D == Value.type n) = false := by
    rw [Bool.eq_false_iff]
    intro q
    exact nomatch (beq_iff_eq.mp q)
  rw [if_neg (by rw [ne]; exact Bool.false_ne_true)]
  show (if PySem.W.kitMeta n = true then PySem.W.subIn K (.ref D) (.type n) else none) = _
  rw [if_pos hm]
  exact hs
end Five
end
section
namespace Five
open PySem PySem.Spec PyProof.Rows L2
section
variable {X : Cx}
/-! d.update(e), e a dict -/
def rUpdD : V → List V → Hp → VK → Prop := fun x xs H Q => ∃ (d o : Addr) (acc kvs : List (Key × V)), x = .ref d ∧ xs = [.ref o] ∧ d ≠ o ∧ H d = some (.dK acc) ∧ H o = some (.dK kvs) ∧ acc.length + kvs.length ≤ sizeLine ∧ Q .non (upd H d (.dK (mergeK acc kvs)))
theorem mt_updateD : MtR X "dict.update" rUpdD := by
  intro pins s σ H x xs v us Q I rx rxs h
  obtain ⟨d, o, acc, kvs, rfl, rfl, ne, hd, ho, hz, q⟩ := h
  cases rx
  obtain ⟨u, eu, rx⟩ := vals1 rxs
  subst eu
  cases rx
  obtain ⟨z, hsys, vs, rel, dd⟩ := dk_of I.hok hd
  obtain ⟨z2, hsys2, vs2, rel2, dd2⟩ := dk_of I.hok ho
  refine call_meetsIn PySem.F.slot_dict_update dd.typeIs PySem.F.entry_dict_update (PySem.F.args_dict_update_2 _ _) (meets_dict_update (mixKind X.prog X.w) d o ne hsys2) ⟨vs, vs2, dd, dd2, by rw [← rel.length, ← rel2.length]; exact hz, fun h' dd' _ hs => ?_⟩
  have he : ∃ q, h'.get? d = some q := let ⟨q, _, _, hq, _⟩ := dd'; ⟨q, hq⟩
  exact ⟨.non, _, d_write (t' := s.toks) I (by rw [hd]; exact True.intro) hs he (dk_new (Nat.le_trans (length_mergeK kvs acc) hz) hsys (KV.merge rel2 rel) dd'), rfl, q⟩
end
end Five
end
section
namespace Five
open PySem PySem.Spec PyProof.Rows L2
open PySem.W (Datum DatumOrd minD dataLt AlikeAll min_list_data)
/-- a pair of a number and a text -/
def TI2 (K : PySem.W.Frag) (G : Hp) (t : Addr) (x : Int × Str) : Prop := G t = some (.tup [.int x.1, .str x.2])
instance {K : PySem.W.Frag} : Ms (TI2 K) := ⟨fun s h => s _ _ h⟩
theorem TI2.dp {K : PySem.W.Frag} {G : Hp} {a : Addr} {x : Int × Str} (h : TI2 K G a x) : Dp K G (.ref a) (tD x) := .tup (SqT.of h) (.cons (.int _) (.cons (.str _) .nil))
theorem TI2.of {K : PySem.W.Frag} {H : Hp} {l : Addr} {M : List Addr} {x : Int} {y : Str} (h : H l = some (.tup [.int x, .str y])) (h2 : l ∉ M) : TI2 K (wo H M) l (x, y) := by show wo H M l = _; rw [wo_out h2]; exact h
theorem reads_int_inj {h : Heap} {v : Value} {n n' : Int} {as as' : List Addr} (r : Reads h v (.int n) as) (r' : Reads h v (.int n') as') : n = n' := by
  cases r; cases r'; rfl
theorem reads_str_inj {h : Heap} {v : Value} {n n' : Str} {as as' : List Addr} (r : Reads h v (.str n) as) (r' : Reads h v (.str n') as') : n = n' := by
  cases r; cases r'; rfl
theorem reads_is {h : Heap} {b : Addr} {x y : Int × Str} {as as' : List Addr} (r : Reads h (.ref b) (tD x) as) (r' : Reads h (.ref b) (tD y) as') : x = y := by
  have r : Reads h (.ref b) (.tuple [.int x.1, .str x.2]) as := r
  have r' : Reads h (.ref b) (.tuple [.int y.1, .str y.2]) as' := r'
  cases r with
  | tuple h1 h2 h3 h4 =>
    cases r' with
    | tuple k1 k2 k3 k4 =>
      rw [h1] at k1; cases k1
      rw [h3] at k3; cases k3
      generalize (Array.toList _) = l at h4 k4
      cases h4 with
      | cons a1 a2 =>
        cases k4 with
        | cons b1 b2 =>
          cases a2 with
          | cons a3 a4 =>
            cases b2 with
            | cons b3 b4 =>
              have e1 : x.1 = y.1 := reads_int_inj a1 b1
              have e2 : x.2 = y.2 := reads_str_inj a3 b3
              exact Prod.ext e1 e2
theorem reads_keep {h h' : Heap} (k : ∀ b o, h.get? b = some o → h'.get? b = some o) {b : Addr} {x : Int × Str} {as : List Addr} (r : Reads h (.ref b) (tD x) as) : ∃ as', Reads h' (.ref b) (tD x) as' := by
  have r : Reads h (.ref b) (.tuple [.int x.1, .str x.2]) as := r
  cases r with
  | tuple h1 h2 h3 h4 =>
    refine ⟨_, Reads.tuple (k _ _ h1) h2 h3 (as := [] ++ ([] ++ [])) ?_⟩
    generalize (Array.toList _) = l at h4
    cases h4 with
    | cons a1 a2 =>
      cases a2 with
      | cons a3 a4 =>
        cases a4
        cases a1
        cases a3
        exact .cons (.int _ _) (.cons (.str _ _) .nil)
theorem minD_is {α : Type} [DecidableEq α] [DatumOrd α] : ∀ (xs : List α) (x : α), ∃ m, minD (tD x) (xs.map Datum.toD) = tD m ∧ m ∈ x :: xs ∧ ∀ y ∈ x :: xs, leD m y = true
  | [], x => ⟨x, rfl, List.mem_cons_self, fun y hy => by
    have e : y = x := by simpa using hy
    rw [e]
    unfold leD
    rw [lt_irr]; rfl⟩
  | a :: r, x => by
    show ∃ m, (r.map Datum.toD).foldl (fun a y => if dataLt y a then y else a) (if dataLt (tD a) (tD x) then tD a else tD x) = tD m ∧ _
    cases c : DatumOrd.lt a x with
    | true =>
      have e : dataLt (tD a) (tD x) = true := by rw [show dataLt (tD a) (tD x) = DatumOrd.lt a x from DatumOrd.lt_eq a x]; exact c
      rw [if_pos e]
      obtain ⟨m, h1, h2, h3⟩ := minD_is r a
      refine ⟨m, h1, List.mem_cons_of_mem _ h2, fun y hy => ?_⟩
      rcases List.mem_cons.mp hy with e | hy
      · rw [e]
        refine leD_trans m a x (h3 a List.mem_cons_self) ?_
        unfold leD
        rw [lt_asym c]; rfl
      · exact h3 y hy
    | false =>
      have e : ¬ dataLt (tD a) (tD x) = true := by rw [show dataLt (tD a) (tD x) = DatumOrd.lt a x from DatumOrd.lt_eq a x, c]; simp
      rw [if_neg e]
      obtain ⟨m, h1, h2, h3⟩ := minD_is r x
      refine ⟨m, h1, ?_, fun y hy => ?_⟩
      · rcases List.mem_cons.mp h2 with e | hm
        · rw [e]; exact List.mem_cons_self
        · exact List.mem_cons_of_mem _ (List.mem_cons_of_mem _ hm)
      · rcases List.mem_cons.mp hy with e | hy
        · rw [e]; exact h3 x List.mem_cons_self
        · rcases List.mem_cons.mp hy with e | hy
          · rw [e]
            refine leD_trans m x a (h3 x List.mem_cons_self) ?_
            unfold leD
            rw [c]; rfl
          · exact h3 y (List.mem_cons_of_mem _ hy)
/-- min(xs) of a list of such pairs -/
def rMinIS (K : PySem.W.Frag) : List V → Hp → VK → Prop := fun vs H Q => ∃ (a : Addr) (as : List Addr) (xs : List (Int × Str)), vs = [V.ref a] ∧ SqL K H a (as.map V.ref) ∧ Paired (TI2 K H) as xs ∧ xs ≠ [] ∧ ∀ b m, m ∈ xs → (∀ x ∈ xs, leD m x = true) → TI2 K H b m → Q (.ref b) H
theorem cr_minIS {X : Cx} {K : PySem.W.Frag} (hc : X.calm = true) (hu : X.A.units + 64 < cLine) (hK : X.K = K := by rfl) : CallR X (.builtin "min") (rMinIS K) := by
  subst hK
  intro pins s σ H vs us Q I r h
  obtain ⟨a, as, xs, rfl, hs, hp, hne, q⟩ := h
  obtain ⟨its, rv, hl, _⟩ := I.list hs
  rw [Vals.ref1 r]
  obtain ⟨x, xr, rfl⟩ : ∃ x xr, xs = x :: xr := by
    cases xs with
    | nil => exact absurd rfl hne
    | cons x xr => exact ⟨x, xr, rfl⟩
  obtain ⟨bs, hr⟩ := Dp.readsAll I ((x :: xr).map Datum.toD) _ its (dpAll_refs (R := TI2 X.K) (fun _ _ h => h.dp) hp) rv
  refine min_list_data (x := tD x) (xs := xr.map Datum.toD) (I.ok.hd hc) hl.isList (by simpa using hr) ⟨fun y hy z hz => ?_, fun y hy => ?_⟩ ?_ fun i v h' tk cs hv rd hk => ?_
  · have e : (tD x :: xr.map Datum.toD) = (x :: xr).map Datum.toD := rfl
    rw [e] at hy hz
    obtain ⟨p, _, rfl⟩ := List.mem_map.mp hy
    obtain ⟨p2, _, rfl⟩ := List.mem_map.mp hz
    exact DatumOrd.alike p p2
  · have e : (tD x :: xr.map Datum.toD) = (x :: xr).map Datum.toD := rfl
    rw [e] at hy
    obtain ⟨p, _, rfl⟩ := List.mem_map.mp hy
    exact DatumOrd.notNone p
  · have hd : ∀ l : List (Int × Str), PyData.depthAll (l.map Datum.toD) ≤ 60 := fun l => by
      induction l with
      | nil => simp [PyData.depthAll]
      | cons y l ih =>
        rw [List.map_cons, PyData.depthAll]
        have : (Datum.toD y).depth ≤ 60 := Nat.le_trans (Datum.depth_le y) (by decide)
        exact Nat.max_le.mpr ⟨this, ih⟩
    have := hd (x :: xr)
    rw [List.map_cons] at this
    have e : PyData.depthAll (tD x :: xr.map Datum.toD) ≤ 60 := this
    omega
  obtain ⟨m, e1, e2, e3⟩ := minD_is xr x
  rw [e1] at rd
  have hv' : its[i]? = some v := by simpa using hv
  obtain ⟨y, hy⟩ : ∃ y, (as.map V.ref)[i]? = some y := by
    have hi : i < its.length := (List.getElem?_eq_some_iff.mp hv').1
    rw [← rv.length] at hi
    exact ⟨_, List.getElem?_eq_getElem hi⟩
  obtain ⟨u, hu1, hu2⟩ := Vals.get rv hy
  rw [hv'] at hu1
  cases hu1
  obtain ⟨b, hb, rfl⟩ := item_ref hy
  obtain rfl : v = Value.ref b := hu2
  obtain ⟨m', hm', hT⟩ := paired_get hp i b hb
  obtain ⟨cs', rd0⟩ := Dp.reads I _ _ _ (TI2.dp hT) (show RelV (.ref b) (.ref b) from rfl)
  obtain ⟨cs2, rd2⟩ := reads_keep hk rd0
  have em := reads_is rd rd2
  subst em
  exact ⟨.ref b, H, I.kept hk, rfl, q b m (List.mem_of_getElem? hm') e3 hT⟩
/-- a dict against an empty one -/
def rEqE : R2 := fun x y H Q => ∃ a b ks, x = .ref a ∧ y = .ref b ∧ H a = some (.dK ks) ∧ H b = some (.dK []) ∧ Q (.bl (decide (ks = []))) H
theorem op_eq_dictE {X : Cx} (hu : X.A.units < cLine) : OpR X (compareOp .Eq) rEqE := by
  intro pins s σ H x y v u Q I rx ry h
  obtain ⟨a, b, ks, rfl, rfl, ea, eb, q⟩ := h
  obtain rfl : v = Value.ref a := rx
  obtain rfl : u = Value.ref b := ry
  obtain ⟨_, ya, va, ra, da⟩ := (show ObjOk X.prog X.w H s.heap a (.dK ks) from I.hok a _ ea)
  obtain ⟨_, yb, vb, rb, db⟩ := (show ObjOk X.prog X.w H s.heap b (.dK []) from I.hok b _ eb)
  have hk : ks.length = va.length := ra.length
  have hb0 : vb.length = 0 := by rw [← rb.length]; rfl
  refine PySem.W.keq_eq (knd := mixKind X.prog X.w) (r := true) ya yb da db hu (fun hl => hits_all rb ra fun p hp => ?_) (fin_bl I q ?_)
  · have : ks = [] := List.length_eq_zero_iff.mp (by omega)
    rw [this] at hp
    cases hp
  · cases ks with
    | nil =>
      have : va.length = vb.length := by rw [hb0, ← hk]; rfl
      simp [this]
    | cons p r =>
      have : ¬ va.length = vb.length := by rw [hb0, ← hk]; simp
      simp [this]
theorem pe_fldK {X : Cx} {K : PySem.W.Frag} {o : Expr} {f : Str} {ta : TE} {pos : Pos} (ha : PE X o ta) (hb : attributeBase o f X.env (eval o X.env) = eval o X.env) (hK : X.K = K := by rfl) : PE X (.Attribute o f pos) (tFld K ta f) := by subst hK; exact pe_fld ha hb
end Five
end
section
namespace Five
open PySem PySem.Spec PyProof.Rows L2
theorem erase_mapS : ∀ (l : List Str) (j : Nat), (l.map V.str).eraseIdx j = (l.eraseIdx j).map V.str
  | [], j => by simp
  | a :: r, 0 => by simp
  | a :: r, j + 1 => by
    have ih := erase_mapS r j
    simp [ih]
theorem strs_get : ∀ {us : List Value} {xs : List Str}, StrsAre us xs → ∀ (i : Nat) (x : Str), xs[i]? = some x → ∃ t, us[i]? = some (.str x t)
  | _, _, .nil, i, x, h => by simp at h
  | _, _, .cons n t hh, 0, x, h => ⟨t, by simpa using h⟩
  | _, _, .cons n t hh, i + 1, x, h => by simpa using strs_get hh i x (by simpa using h)
section
variable {X : Cx}
/-- remove of a text from a list of texts, each once -/
def rRemS : V → List V → Hp → VK → Prop := fun x xs H Q => ∃ (l : Addr) (ss : List Str) (k : Str), x = .ref l ∧ xs = [.str k] ∧ H l = some (.lst (ss.map V.str)) ∧ ss.Nodup ∧ k ∈ ss ∧ Q .non (upd H l (.lst ((ss.filter fun v => decide (v ≠ k)).map V.str)))
theorem mt_removeS : MtM X "list.remove" rRemS := by
  intro pins s σ H x xs v us Q I rx rxs h
  obtain ⟨l, ss, k, rfl, rfl, hH, hnd, hk, q⟩ := h
  obtain ⟨A, B, e1, hA, hB, e2⟩ := filter_split hnd hk
  cases rx
  obtain ⟨u, rfl, ru⟩ := rxs.one
  obtain ⟨t, rfl⟩ := ru
  obtain ⟨z, its, n, r, hl, e⟩ := I.lstM hH
  have hi := strs_of_vals r
  rw [List.length_map] at hl z
  have hjn : A.length < ss.length := by rw [e1]; simp
  have hj : ss[A.length]? = some k := by rw [e1]; simp
  have hjl : A.length < its.toArray.size := by rw [List.size_toArray]; omega
  refine call_meets PySem.F.slot_list_remove ⟨_, e, rfl⟩ PySem.F.entry_list_remove (PySem.F.args_list_remove_2 _ _)
    (MeetsSeq.list_remove l its.toArray n (.str k t) (isStrOf k) (fun y hy => eq_isStrOf k t hi y (by simpa using hy)) A.length hjl ?_ ?_ (by rw [List.size_toArray]; omega)) ⟨e, ?_⟩
  · obtain ⟨tj, hjt⟩ := strs_get hi A.length k hj
    obtain ⟨h1, h2⟩ := List.getElem?_eq_some_iff.mp hjt
    have e1 : its.toArray[A.length] = .str k tj := by simpa using h2
    rw [e1]
    show (k == k) = true
    simp
  · intro m hm hmj
    have hmn : m < ss.length := by omega
    obtain ⟨tm, hmt⟩ := strs_get hi m _ (List.getElem?_eq_getElem hmn)
    obtain ⟨h1, h2⟩ := List.getElem?_eq_some_iff.mp hmt
    have e3 : its.toArray[m] = .str ss[m] tm := by simpa using h2
    rw [e3]
    refine beq_eq_false_iff_ne.mpr fun e4 => hA ?_
    have : ss[m]? = A[m]? := by rw [e1, List.getElem?_append_left hmj]
    rw [← e4]
    exact List.mem_of_getElem? (i := m) (by rw [← this, List.getElem?_eq_getElem hmn])
  · have rr := r.eraseIdx A.length
    have e5 : (ss.map V.str).eraseIdx A.length = (ss.filter fun v => decide (v ≠ k)).map V.str := by
      rw [erase_mapS, e2, e1, List.eraseIdx_append_of_length_le (Nat.le_refl _), Nat.sub_self]
      rfl
    rw [e5] at rr
    refine ⟨.non, _, I.lset (its' := its.eraseIdx A.length) (t' := s.toks) hH e ?_ rr ?_, rfl, q⟩
    · show its.toArray.eraseIdxIfInBounds A.length = (its.eraseIdx A.length).toArray
      rw [List.eraseIdxIfInBounds_toArray]
    · rw [List.length_map]
      have := List.length_filter_le (fun v => decide (v ≠ k)) ss
      omega
end
end Five
end
section
namespace Five
open PySem PySem.Spec PyProof.Rows L2
/-- a comprehension within another one -/
theorem blkIn {N : List Str} {sc0 scope0 scope : Scope} {own : List (Str × Nat)} {cl : List (Str × Addr)} {C : Addr} {env : Env} (e : env.scope = sc0)
    (h : blkC N (relabel scope0 { scope := sc0, locals := 0, globals := 0, cells := [] }) scope own = true) : BlkOk N (compEnvC scope0 cl C env).scope scope own := by
  subst e
  exact blkOk_by h
theorem pi_listK {X : Cx} {K : PySem.W.Frag} {tg l : Expr} {tl : TE} (hl : PE X l tl) (hK : X.K = K := by rfl) : PI X tg l (iList K tl) := by subst hK; exact pi_list hl
end Five
end
section
namespace Five
open PySem PySem.Spec PyProof.Rows L2 RT
section
variable {prog : Program} {w : World} {A : Around} {E : Value → Shared → Prop} {s : Shared}
theorem extend_rev {R : Result → Shared → Prop} {it l : Addr} {items : Array Value} (hh : A.handled = none) (hit : s.heap.IsRevIter it l ((items.size : Int) - 1)) (hl : s.heap.IsList l items) (hne : l ≠ it) (S : Addr) (res : Value) (c₀ : Nat) (hS : s.heap.get? S = some { cls := .type "list", data := .seq #[] c₀ }) (hSi : S ≠ it) (hSl : S ≠ l)
    (hR : ∀ h' tk acc' c', (∀ b o, b ≠ S → b ≠ it → s.heap.get? b = some o → h'.get? b = some o) → h'.get? S = some { cls := .type "list", dict := none, data := .seq acc' c', slots := #[] } →
      ItemsOf (fun i v => items[items.size - 1 - i]? = some v) acc' items.size → R (.ok (.ret res)) { s with heap := h', toks := tk }) (hn : items.size ≤ sizeLine) :
    wpAny (model prog w) A.in1 (Builtin.List.listExtendWith (.ref S) (.ref it) res)
      (fun fin s' => match fin with | .done f => R (.ok f) s' | .again c' => c'.quiet = true ∧ codeAny (model prog w) A c' R s') (fun e s' => R (.error e) s') s := by
  have W := (Walks.listRev (prog := prog) (w := w) (A := A.in1) hh it l hne items).toS
  have hSf : S ∉ [it, l] := by simp only [List.mem_cons, List.not_mem_nil, or_false, not_or]; exact ⟨hSi, hSl⟩
  have hT : s.TypeIs (.ref it) "list_reverseiterator" := Heap.IsRevIter.typeIs hit
  have h1 : Builtin.List.listSameRef (.ref S) (.ref it) = false := by simp [Builtin.List.listSameRef, hSi]
  unfold Builtin.List.listExtendWith
  refine wpAny_bind (wpAny_typeOf hT ?_)
  rw [if_neg (by rw [h1]; decide)]
  refine wpAny_bind (wpAny_pyIter_revIter hit ?_)
  refine wpAny_bind (wpAny_holding ?_)
  unfold Builtin.List.listLengthHint
  refine wpAny_bind (wpAny_specialOf hT nolen_lri ?_)
  show wpAny _ A.in1 (specialOf (Value.ref it) (Str.ofString "__length_hint__") >>= _) _ _ _
  refine wpAny_bind (wpAny_specialOf hT hint_lri ?_)
  generalize hid : ("list_reverseiterator.__length_hint__" : String) = id0
  wp_delta
  rw [show splitId id0 = some ("list_reverseiterator", "__length_hint__") from by subst hid; decide +kernel]
  subst hid
  refine wpAny_bind (wpAny_isInstance (b := true) hT (by rw [isSubtype_type]; kernel_rfl) ?_)
  refine wpAny_pure ?_
  rw [if_neg (by decide)]
  have e0 : ((items.size : Nat) : Int) - 1 - ((0 : Nat) : Int) = (items.size : Int) - 1 := by omega
  refine wpAny_pure ⟨plainId_quiet F.plain_extend_loop _, codeAny_extend_loopS W hn _ hSf _ items.size 0 _ _ _ rfl (Nat.zero_le _) ⟨Nat.zero_le _, by rw [e0]; exact hit, hl⟩ hS (ItemsOf.nil _) fun s' acc' c' hm hS' hacc => ?_⟩
  rw [Moved.eq_with hm]
  refine hR s'.heap s'.toks acc' c' (fun b o hb hb2 e => hm.heap b o (fun hmem => ?_) e) hS' hacc
  rcases List.mem_cons.mp hmem with e' | hmem
  · exact hb e'
  · exact hb2 (List.mem_singleton.mp hmem)
theorem list_init_rev {R : Result → Shared → Prop} {it l : Addr} {items : Array Value} (hh : A.handled = none) (hit : s.heap.IsRevIter it l ((items.size : Int) - 1)) (hl : s.heap.IsList l items) (hne : l ≠ it) (S : Addr) (hS : s.heap.get? S = some { cls := .type "list", data := .seq #[] }) (hSi : S ≠ it) (hSl : S ≠ l)
    (hR : ∀ h' tk acc' c', (∀ b o, b ≠ S → b ≠ it → s.heap.get? b = some o → h'.get? b = some o) → h'.get? S = some { cls := .type "list", dict := none, data := .seq acc' c', slots := #[] } →
      ItemsOf (fun i v => items[items.size - 1 - i]? = some v) acc' items.size → R (.ok (.ret .none)) { s with heap := h', toks := tk }) (hn : items.size ≤ sizeLine) :
    wpAny (model prog w) A.in1 (Builtin.«list.__init__» ⟨[.ref S, .ref it], []⟩)
      (fun fin s' => match fin with | .done f => R (.ok f) s' | .again c' => c'.quiet = true ∧ codeAny (model prog w) A c' R s') (fun e s' => R (.error e) s') s := by
  show wpAny _ _ (do let old ← Builtin.List.listItems (.ref S); Builtin.List.listUpdate (.ref S) (fun _ => #[]); letGo old.toList.reverse; Builtin.List.listExtendWith (.ref S) (.ref it) .none) _ _ s
  refine wpAny_bind ?_
  unfold Builtin.List.listItems
  refine wpAny_bind (wpAny_seqItems hS rfl (wpAny_pure ?_))
  show wpAny _ _ (updateSeq S (fun _ => #[]) >>= fun _ => letGo (#[] : Array Value).toList.reverse >>= fun _ => Builtin.List.listExtendWith (.ref S) (.ref it) .none) _ _ s
  refine wpAny_bind (wpAny_updateSeq hS rfl ?_)
  have hS₂ := Heap.get?_update_self (Obj.mapSeq (fun _ => (#[] : Array Value))) hS rfl
  have oth : ∀ b o, b ≠ S → s.heap.get? b = some o → (s.heap.update S (Obj.mapSeq (fun _ => (#[] : Array Value)))).get? b = some o :=
    fun b o hb e => (Heap.get?_update_other _ _ (Ne.symm hb)).trans e
  have hl2 : (s.heap.update S (Obj.mapSeq (fun _ => (#[] : Array Value)))).IsList l items := let ⟨o, ho, r⟩ := hl; ⟨o, oth _ _ hSl.symm ho, r⟩
  refine wpAny_bind (wpAny_letGo ?_)
  refine extend_rev (hn := hn) hh (hit.at fun o e => oth _ _ hSi.symm e) hl2 hne S .none _ hS₂ hSi hSl fun h' tk acc' c' hk hS' hacc => ?_
  exact hR h' tk acc' c' (fun b o hb hb2 e => hk b o hb hb2 (oth b o hb e)) hS' hacc
theorem call_list_rev {Q : Value → Shared → Prop} {it l : Addr} {items : Array Value} (hh : A.handled = none) (hit : s.heap.IsRevIter it l ((items.size : Int) - 1)) (hl : s.heap.IsList l items) (hne : l ≠ it)
    (hQ : ∀ h' tk acc' c', (∀ b o, b ≠ it → s.heap.get? b = some o → h'.get? b = some o) → h'.get? s.heap.objs.size = some { cls := .type "list", dict := none, data := .seq acc' c', slots := #[] } →
      ItemsOf (fun i v => items[items.size - 1 - i]? = some v) acc' items.size → Q (.ref s.heap.objs.size) { s with heap := h', toks := tk }) (hn : items.size ≤ sizeLine) :
    wpAny (model prog w) A (call (.type "list") [.ref it]) Q E s := by
  obtain ⟨oi, hoi, _⟩ := id hit
  obtain ⟨ol, hol, _⟩ := id hl
  have hSi : s.heap.objs.size ≠ it := Nat.ne_of_gt (Heap.lt_size hoi)
  have hSl : s.heap.objs.size ≠ l := Nat.ne_of_gt (Heap.lt_size hol)
  refine callType_codes (Q₁ := fun obj s₁ => obj = .ref s.heap.objs.size ∧ s₁ = { s with heap := s.heap.push { cls := .type "list", data := .seq #[] } }) F.called_list (F.typeCall_list_1 _) F.entry_list_init
    (code_list_new _ ⟨rfl, rfl⟩) fun obj s₁ h₁ => ?_
  obtain ⟨rfl, rfl⟩ := h₁
  have hS : (s.heap.push { cls := .type "list", data := .seq #[] }).get? s.heap.objs.size = some { cls := .type "list", data := .seq #[] } := Heap.get?_push_size _ rfl
  refine ⟨⟨_, hS, rfl⟩, F.args_list_init_2 _ _, list_init_rev (A := A.in1) (hn := hn) hh (hit.at fun o e => Heap.get?_push_of_some _ e) (hl.push _) hne _ hS hSi hSl fun h' tk acc' c' hk hS' hacc => ?_⟩
  exact ⟨rfl, hQ h' tk acc' c' (fun b o hb e => hk b o (Nat.ne_of_lt (Heap.lt_size e)) hb (Heap.get?_push_of_some _ e)) hS' hacc⟩
end
section
variable {X : Cx}
/-- list(reversed(a list)): a new list -/
def tLstRev (K : PySem.W.Frag) (te : TE) : TE := fun σ H Q => te σ H fun v H1 => ∃ (a : Addr) (xs : List V), v = .ref a ∧ SqL K H1 a xs ∧ ∀ q, H1 q = none → Q (.ref q) (upd H1 q (.lst xs.reverse))
theorem pe_lstRev {K : PySem.W.Frag} {e : Expr} {te : TE} {p p2 pos pos2 : Pos} (hc : X.calm = true) (hg : Gl X "list") (hm : X.mg "list" = none) (hg2 : Gl X "reversed") (hm2 : X.mg "reversed" = none) (he : PE X e te) (hK : X.K = K := by rfl)
    (hs : starEach [e] X.env = (false, eval e X.env) :: starEach [] X.env := by rfl)
    (hs2 : starEach [.Call (.Name "reversed" p2) [e] [] pos2] X.env = (false, eval (.Call (.Name "reversed" p2) [e] [] pos2) X.env) :: starEach [] X.env := by rfl) :
    PE X (.Call (.Name "list" p) [.Call (.Name "reversed" p2) [e] [] pos2] [] pos) (tLstRev K te) := by
  subst hK
  refine ⟨fun pins s σ H Q I h => ?_⟩
  refine Call_ (ld_blt I hg hm boot_list (PyProof.Rows.callWith_type1 (args_cons (Call_ (ld_blt I hg2 hm2 PyProof.Rows.boot_reversed (PyProof.Rows.callWith_type1 (args_cons (thn (he.run pins s σ H _ I h) fun u s1 ⟨v, H1, I1, r1, q1⟩ => args_nil ?_) hs) hs rfl))) hs2) hs2 rfl))
  obtain ⟨a, xs, ev, hq, q⟩ := q1
  subst ev
  obtain rfl : u = Value.ref a := r1
  obtain ⟨its, rv, p', hz⟩ := I1.list hq
  refine call_reversed_list p'.isList (args_nil ?_)
  have hl := p'.isList
  obtain ⟨ol, hol, _⟩ := id hl
  have hne : a ≠ s1.heap.objs.size := Nat.ne_of_lt (Heap.lt_size hol)
  have hn : its.toArray.size ≤ sizeLine := by rw [List.size_toArray, ← rv.length]; exact hz
  refine call_list_rev (s := { s1 with heap := s1.heap.push (revObj a ((its.toArray.size : Int) - 1)) }) (I1.ok.hd hc) ⟨_, Heap.get?_push_size _ rfl, rfl, rfl⟩ (hl.push _) hne (fun h' tk acc c' hk hS hi => ?_) hn
  have hsz : s1.heap.objs.size ≤ (s1.heap.push (revObj a ((its.toArray.size : Int) - 1))).objs.size := by
    show s1.heap.objs.size ≤ (s1.heap.objs.push _).size
    rw [Array.size_push]
    omega
  have hS2 : h'.get? (s1.heap.push (revObj a ((its.toArray.size : Int) - 1))).objs.size = some { cls := .type "list", dict := none, data := .seq acc.toList.toArray c', slots := #[] } := by
    rw [Array.toArray_toList]
    exact hS
  refine ⟨.ref (s1.heap.push (revObj a ((its.toArray.size : Int) - 1))).objs.size, _, I1.laid (t' := tk) (fun b o e => hk b o (Nat.ne_of_lt (Heap.lt_size e)) (Heap.get?_push_of_some _ e)) hsz (show ObjOk X.prog X.w _ h' _ (.lst xs.reverse) from ⟨by rw [List.length_reverse]; exact hz, acc.toList, c', vals_rev rv hi, hS2⟩), rfl, q _ (I1.hok.fresh hsz)⟩
end
end Five
end
section
namespace Five
open PySem PySem.Spec PyProof.Rows L2
theorem mul_one (c : Nat) (n : Int) (h : 0 ≤ n) : PySem.Txt.mul ⟨#[c]⟩ n = txt (List.replicate n.toNat c) := by
  unfold PySem.Txt.mul
  by_cases h1 : n < 1
  · rw [if_pos h1, show n = 0 by omega]
    rfl
  rw [if_neg h1]
  by_cases h2 : n = 1
  · subst h2
    rfl
  have e : (n == 1 || (⟨#[c]⟩ : Str).length == 0) = false := by
    have : (n == 1) = false := by simpa using h2
    rw [this]
    rfl
  rw [if_neg (by rw [e]; simp)]
  unfold txt
  congr 1
  generalize n.toNat = k
  have f : ∀ (m : Nat) (acc : Array Nat), List.foldl (· ++ ·) acc (List.replicate m #[c]) = acc ++ (List.replicate m c).toArray := by
    intro m
    induction m with
    | zero => intro acc; simp
    | succ m ih =>
      intro acc
      rw [List.replicate_succ, List.foldl_cons, ih, List.replicate_succ]
      apply Array.ext'
      simp
  rw [f]
  simp
/-- a sign, some times -/
theorem op_rep_str {X : Cx} : OpR X (binaryOp .Mult) (fun x y H Q => ∃ (c : Nat) (n : Int), x = .str ⟨#[c]⟩ ∧ y = .int n ∧ 0 ≤ n ∧ n ≤ 1000 ∧ Q (.str (txt (List.replicate n.toNat c))) H) := by
  intro pins s σ H x y v u Q I rx ry h
  obtain ⟨c, n, rfl, rfl, h0, h1, q⟩ := h
  obtain ⟨t, rfl⟩ := rx
  obtain ⟨t', rfl⟩ := ry
  have el : (⟨#[c]⟩ : Str).length = 1 := rfl
  refine SB.mul ⟨?_, fun h2 _ => ?_, fun h2 _ => ?_⟩ fun t'' k => ?_
  · rw [Bool.or_eq_false_iff]
    exact ⟨decide_eq_false (by omega), decide_eq_false (by omega)⟩
  · rw [el]
    have : (1 : Int) ≤ (2 ^ 63 - 1) / n := by
      rw [Int.le_ediv_iff_mul_le (by omega)]
      omega
    omega
  · rw [el, Nat.one_mul]
    exact decide_eq_false (Nat.not_lt.mpr (Nat.le_trans (show n.toNat ≤ 1000 by omega) (by decide)))
  · rw [mul_one c n h0]
    exact ⟨.str _, H, I.tok _, ⟨_, rfl⟩, q⟩
end Five
end
section
namespace Five
open PySem PySem.Spec PyProof.Rows L2
/-- a dict against an empty one -/
def rNeE : R2 := fun x y H Q => ∃ a b ks, x = .ref a ∧ y = .ref b ∧ H a = some (.dK ks) ∧ H b = some (.dK []) ∧ Q (.bl (!decide (ks = []))) H
theorem op_ne_dictE {X : Cx} (hu : X.A.units < cLine) : OpR X (compareOp .NotEq) rNeE := by
  intro pins s σ H x y v u Q I rx ry h
  obtain ⟨a, b, ks, rfl, rfl, ea, eb, q⟩ := h
  obtain rfl : v = Value.ref a := rx
  obtain rfl : u = Value.ref b := ry
  obtain ⟨_, ya, va, ra, da⟩ := (show ObjOk X.prog X.w H s.heap a (.dK ks) from I.hok a _ ea)
  obtain ⟨_, yb, vb, rb, db⟩ := (show ObjOk X.prog X.w H s.heap b (.dK []) from I.hok b _ eb)
  have hk : ks.length = va.length := ra.length
  have hb0 : vb.length = 0 := by rw [← rb.length]; rfl
  refine PySem.W.keq_ne (knd := mixKind X.prog X.w) (r := true) ya yb da db hu (fun hl => hits_all rb ra fun p hp => ?_) (fin_bl I q ?_)
  · have : ks = [] := List.length_eq_zero_iff.mp (by omega)
    rw [this] at hp
    cases hp
  · cases ks with
    | nil =>
      have : va.length = vb.length := by rw [hb0, ← hk]; rfl
      simp [this]
    | cons p r =>
      have : ¬ va.length = vb.length := by rw [hb0, ← hk]; simp
      simp [this]
end Five
end
section
namespace Five
open PySem PySem.Spec PyProof.Rows L2
open PySem.SeqAt (EqIn EqAt)
/-! a thing of one of two kinds: either reading will do -/
def tEith (t u : TE) : TE := fun σ H Q => t σ H Q ∨ u σ H Q
theorem pe_or2 {X : Cx} {e : Expr} {t u : TE} (h : PE X e t) (q : PE X e u) : PE X e (tEith t u) := ⟨fun pins s σ H Q I z => z.elim (h.run pins s σ H Q I) (q.run pins s σ H Q I)⟩
def rOr (r q : R2) : R2 := fun x y H Q => r x y H Q ∨ q x y H Q
theorem op_or2 {X : Cx} {f : Value → Value → Sem Value} {r q : R2} (h : OpR X f r) (k : OpR X f q) : OpR X f (rOr r q) := fun pins s σ H x y v u Q I a b z => z.elim (h pins s σ H x y v u Q I a b) (k pins s σ H x y v u Q I a b)
/-! d.copy(), xs.copy() -/
def rDCopy : V → List V → Hp → VK → Prop := fun x vs H Q => ∃ (a : Addr) (kvs : List (Key × V)), x = .ref a ∧ vs = [] ∧ Rd H a (.dK kvs) ∧ ∀ p, H p = none → Q (.ref p) (upd H p (.dK kvs))
theorem mtd_copy {X : Cx} : MtR X "dict.copy" rDCopy := by
  intro pins s σ H x vs v us Q I rx rv h
  obtain ⟨a, kvs, rfl, rfl, e, q⟩ := h
  obtain rfl : v = Value.ref a := rx
  have hus := rv.zero
  subst hus
  obtain ⟨z, lo, ws, rel, dd⟩ := dk_rd I.hok e
  obtain ⟨o, es, ep, ho, hc, hd, hk, hp, hn⟩ := id dd
  have hes : es.size = ws.length := by rw [← hp.length]; simp
  refine PySem.call_copy_raw lo ⟨o, ho, hc, hd⟩ (by rw [hes, ← rel.length]; exact z) (fun en he => .inl ?_) fun h' hr kp => ?_
  · obtain ⟨k, hk', _⟩ := hk en (by simpa using he)
    exact (mixKind X.prog X.w).byValue k _ hk'
  · obtain ⟨o', ho', hc', hd'⟩ := hr
    have hm : (s.heap.objs.size == sysModules) = false := beq_eq_false_iff_ne.mpr (Nat.ne_of_gt I.big)
    exact ⟨.ref s.heap.objs.size, upd H s.heap.objs.size (.dK kvs), I.laid (t' := s.toks) kp (Nat.le_refl _) (show ObjOk X.prog X.w _ _ _ (.dK kvs) from ⟨z, hm, ws, rel, o', es, 0, ho', hc', hd', hk, hp, hn⟩), rfl, q _ (I.hok.fresh (Nat.le_refl _))⟩
def rLCopy : V → List V → Hp → VK → Prop := fun x vs H Q => ∃ (a : Addr) (xs : List V), x = .ref a ∧ vs = [] ∧ H a = some (.lst xs) ∧ ∀ p, H p = none → Q (.ref p) (upd H p (.lst xs))
theorem mt_copy {X : Cx} : MtM X "list.copy" rLCopy := by
  intro pins s σ H x vs v us Q I rx rv h
  obtain ⟨l, xs, rfl, rfl, hH, q⟩ := h
  cases rx
  have hus := rv.zero
  subst hus
  obtain ⟨z, its, n, r, hl, e⟩ := I.lstM hH
  refine call_meets F.slot_list_copy ⟨_, e, rfl⟩ F.entry_list_copy (F.args_list_copy_1 _) (AutoSeq1.list_copy_list_0 l its.toArray n (by rw [List.size_toArray]; omega)) ⟨e, ?_⟩
  exact ⟨.ref s.heap.objs.size, _, I.laid (t' := s.toks) (fun b o' e' => Heap.get?_push_of_some _ e') (Nat.le_refl _) (show ObjOk X.prog X.w _ _ _ (.lst xs) from ⟨by omega, its, 0, r, Heap.get?_push_size _ rfl⟩), rfl, q _ (I.hok.fresh (Nat.le_refl _))⟩
section
variable {X : Cx} {o : Expr} {to : TE} {apos cpos : Pos}
theorem pe_dcopy (ho : PE X o to) (hbase : attributeBase o "copy" X.env (eval o X.env) = eval o X.env := by rfl) (hline : (apos.endLine == cpos.line) = true := by rfl) : PE X (.Call (.Attribute o "copy" apos) [] [] cpos) (tBM0 X.K "dict" rDCopy to) :=
  pe_bm0 PySem.F.plainAttrs_dict PySem.F.slot_dict_copy PySem.F.type_dict_copy mtd_copy ho hbase hline
end
/-! pairs of a text and a dict, which are alike -/
section
variable {prog : Program} {w : World}
theorem tup_neIn (l b : Addr) (xs ys : Array Value) (n n2 : Nat) (dd dd2 : Option Addr) (sl sl2 : Array (Option Value)) (hsz : xs.size = ys.size) :
    MeetsIn prog w (Builtin.«tuple.__ne__» ⟨[.ref l, .ref b], []⟩)
      (fun A R s => s.heap.get? l = some { cls := .type "tuple", dict := dd, data := .seq xs n, slots := sl } ∧ s.heap.get? b = some { cls := .type "tuple", dict := dd2, data := .seq ys n2, slots := sl2 } ∧
        (∀ p ∈ xs.toList.zip ys.toList, EqIn prog w A.in1 s p.1 p.2 true) ∧ R (.ok (.ret (.bool false))) s) :=
  .of_wp fun A R s h => by
    obtain ⟨hp, g, d, tk, os⟩ := s; obtain ⟨hl, hb, he, h⟩ := h
    have f2 := AutoSeq1.sub_tuple_tuple
    wp_walk using AutoSeq1.wpAny_loadPart' hl, AutoSeq1.wpAny_loadPart' hb, wpAny_forIn_list _ (fun rest b s' => b.1 = none ∧ s' = ⟨hp, g, d, tk, os⟩ ∧ ∀ p ∈ rest, EqIn prog w A.in1 ⟨hp, g, d, tk, os⟩ p.1 p.2 true) _
    case turn =>
      rintro ⟨y, x⟩ rest b s' ⟨hb', rfl, hr⟩
      refine wpAny_bind (hr (y, x) List.mem_cons_self _ _ ?_)
      wp_walk
      exact ⟨rfl, rfl, fun p hp => hr p (List.mem_cons_of_mem _ hp)⟩
    case fin =>
      rintro ⟨b1, b2⟩ s' ⟨hb', rfl, _⟩
      simp only at hb'
      subst hb'
      wp_walk
      exact ⟨_, rfl, by simpa [Builtin.Tuple.tupleCompareSizes, hsz] using h⟩
    case h => exact ⟨rfl, rfl, he⟩
end
def rNeTW (K : PySem.W.Frag) : R2 := fun x y H Q => ∃ (a b d e : Addr) (k : Str) (ks ls : List (Key × V)), x = .ref a ∧ y = .ref b ∧ SqT K H a [.str k, .ref d] ∧ SqT K H b [.str k, .ref e] ∧ H d = some (.dK ks) ∧ H e = some (.dK ls) ∧ ks.length = ls.length ∧ (∀ p ∈ ks, valV ls p.1 = some p.2 ∧ flatB p.2 = true) ∧ Q (.bl false) H
theorem keq_in {prog : Program} {w : World} {K : Type} [DecidableEq K] {A : Around} {s : Shared} {kb : List (K × Value)} : ∀ {r : List (K × Value)} {b : Bool}, PySem.W.KeqHits A s kb r b → PySem.W.KeqHitsIn prog w A s kb r b
  | _, _, .nil => .nil
  | _, _, .miss h => .miss h
  | _, _, .hit h e q => .hit h (e.inModel prog w) (keq_in q)
theorem op_neTW {X : Cx} {K : PySem.W.Frag} (hu : X.A.units + 64 < cLine) (hK : X.K = K := by rfl) : OpR X (compareOp .NotEq) (rNeTW K) := by
  subst hK
  intro pins s σ H x y v u Q I rx ry h
  obtain ⟨a, b, d, e, k, ks, ls, rfl, rfl, ha, hb, hd, he, hlen, hp, q⟩ := h
  obtain rfl : v = Value.ref a := rx
  obtain rfl : u = Value.ref b := ry
  obtain ⟨ia, va, ta, _⟩ := I.tuple ha
  obtain ⟨ib, vb, tb, _⟩ := I.tuple hb
  obtain ⟨u1, r1, e1, q1, z1⟩ : ∃ u1 r1, ia = u1 :: r1 ∧ RelV (.str k) u1 ∧ Vals [.ref d] r1 := by cases va with | cons q1 z1 => exact ⟨_, _, rfl, q1, z1⟩
  obtain ⟨u2, r2, e2, q2, z2⟩ : ∃ u1 r1, ib = u1 :: r1 ∧ RelV (.str k) u1 ∧ Vals [.ref e] r1 := by cases vb with | cons q1 z1 => exact ⟨_, _, rfl, q1, z1⟩
  obtain ⟨t1, rfl⟩ : ∃ t, u1 = .str k t := q1
  obtain ⟨t2, rfl⟩ : ∃ t, u2 = .str k t := q2
  have e3 := Vals.ref1 z1
  have e4 := Vals.ref1 z2
  subst e3
  subst e4
  subst e1
  subst e2
  obtain ⟨⟨c1, dd, data, sl⟩, ho, hc, n, hdt⟩ := ta
  obtain ⟨⟨c2, dd2, data2, sl2⟩, ho2, hc2, n2, hdt2⟩ := tb
  simp only at hc hdt hc2 hdt2
  subst hc hdt hc2 hdt2
  refine wpAny_richCompare_same_room (T := "tuple") (op := .NotEq) ⟨_, ho, rfl⟩ ⟨_, ho2, rfl⟩ F.slot_tuple_ne (call_meetsIn F.slot_tuple_ne ⟨_, ho, rfl⟩ F.entry_tuple_ne (F.args_tuple_ne_2 _ _) (tup_neIn a b #[Value.str k t1, Value.ref d] #[Value.str k t2, Value.ref e] n n2 dd dd2 sl sl2 rfl) ⟨ho, ho2, fun p hp' => ?_, (fun x => nomatch x), ⟨.bl false, H, I, rfl, q⟩⟩) (by omega)
  rcases List.mem_cons.mp hp' with rfl | hp'
  · exact (SeqAt.EqAt.str_str k t1 k t2).inModel _ _ |> fun z => by simpa using z
  rcases List.mem_cons.mp hp' with rfl | hp'
  · by_cases ed : d = e
    · subst ed
      exact (SeqAt.EqAt.same _).inModel _ _
    obtain ⟨_, ya, wa, ra, da⟩ := (show ObjOk X.prog X.w H s.heap d (.dK ks) from I.hok d _ hd)
    obtain ⟨_, yb, wb, rb, db⟩ := (show ObjOk X.prog X.w H s.heap e (.dK ls) from I.hok e _ he)
    have hl : wa.length = wb.length := by rw [← ra.length, ← rb.length]; exact hlen
    refine SeqAt.EqIn.of_refs ed fun E Q hq => PySem.W.keq_eqIn (knd := mixKind X.prog X.w) (r := true) ya yb da db ?_ (fun _ => keq_in (hits_all rb ra hp)) (by rw [hl]; simpa using hq)
    show X.A.units + 1 < cLine
    omega
  · cases hp'
end Five
end
section
namespace Five
open PySem PySem.Spec PyProof.Rows L2
open PySem.W (Datum DatumOrd)
/-! dicts from names to plain things -/
def dk {α : Type} (c : α → V) (kv : List (Str × α)) : List (Key × V) := kv.map fun x => (Sum.inr x.1, c x.2)
section
variable {α : Type} {c : α → V} {kv : List (Str × α)} {v : Str} {p : α}
abbrev ks (kv : List (Str × α)) : List Str := kv.map (·.1)
theorem dk_keys : (dk c kv).map (·.1) = (ks kv).map Sum.inr := by unfold dk ks; rw [List.map_map, List.map_map]; rfl
theorem dk_length : (dk c kv).length = kv.length := by unfold dk; rw [List.length_map]
theorem ks_length : (ks kv).length = kv.length := by unfold ks; rw [List.length_map]
theorem valV_dk_none (h : v ∉ ks kv) : valV (dk c kv) (Sum.inr v) = none := valV_out (by
  rw [dk_keys]
  intro q
  obtain ⟨x, h1, h2⟩ := List.mem_map.mp q
  cases h2
  exact h h1)
theorem valV_dk_some : ∀ {kv : List (Str × α)}, (ks kv).Nodup → (v, p) ∈ kv → valV (dk c kv) (Sum.inr v) = some (c p)
  | [], _, h => nomatch h
  | (a, q) :: r, hn, h => by
    show valV ((Sum.inr a, c q) :: dk c r) (Sum.inr v) = _
    obtain ⟨h1, h2⟩ := List.nodup_cons.mp hn
    rcases List.mem_cons.mp h with e | e
    · cases e
      rw [valV_pos rfl]
    · have ne : a ≠ v := fun q => h1 (by rw [q]; exact List.mem_map.mpr ⟨_, e, rfl⟩)
      rw [valV_neg (fun q => ne (Sum.inr.inj q)), valV_dk_some h2 e]
theorem putK_dk (h : v ∉ ks kv) : putK (dk c kv) (Sum.inr v) (c p) = dk c (kv ++ [(v, p)]) := by
  rw [putK_new _ (valV_dk_none h)]
  unfold dk
  rw [List.map_append]
  rfl
theorem mergeK_dk {kv tl : List (Str × α)} (h : (ks (kv ++ tl)).Nodup) : mergeK (dk c kv) (dk c tl) = dk c (kv ++ tl) := by
  rw [mergeK_app]
  · unfold dk; rw [List.map_append]
  · have : dk c kv ++ dk c tl = dk c (kv ++ tl) := by unfold dk; rw [List.map_append]
    rw [this, dk_keys]
    exact nodup_inr h
theorem dget_dk_some {H : Hp} {d : Addr} (h : H d = some (.dK (dk c kv))) (hn : (ks kv).Nodup) (hm : (v, p) ∈ kv) : DGet H d (.str v) (some (c p)) := by
  rw [← valV_dk_some hn hm]
  exact DGet.k (k := Sum.inr v) h
theorem dget_dk_none {H : Hp} {d : Addr} (h : H d = some (.dK (dk c kv))) (hm : v ∉ ks kv) : DGet H d (.str v) none := by
  rw [← valV_dk_none (c := c) hm]
  exact DGet.k (k := Sum.inr v) h
theorem dget_dk {H : Hp} {d : Addr} (v : Str) (h : H d = some (.dK (dk c kv))) (hn : (ks kv).Nodup) : ∃ o, DGet H d (.str v) o ∧ (o.isSome = true ↔ v ∈ ks kv) := by
  by_cases hm : v ∈ ks kv
  · obtain ⟨⟨a, p⟩, h1, h2⟩ := List.mem_map.mp hm
    cases h2
    exact ⟨_, dget_dk_some h hn h1, by simp [hm]⟩
  · exact ⟨_, dget_dk_none h hm, by simp [hm]⟩
end
def oV : Option Str → V
  | none => .non
  | some s => .str s
/-! layers -/
def Bl (rd : Str → List Str) (r : Str) : Nat → Str → Prop
  | 0, v => v = r
  | n + 1, v => Bl rd r n v ∨ ∃ u, Bl rd r n u ∧ v ∈ rd u
def Ly (rd : Str → List Str) (r : Str) (n : Nat) (v : Str) : Prop := Bl rd r n v ∧ ∀ m, m < n → ¬ Bl rd r m v
def Par (rd : Str → List Str) (r v : Str) : Option Str → Prop
  | none => v = r
  | some u => ∃ n, Ly rd r n u ∧ v ∈ rd u ∧ Ly rd r (n + 1) v ∧ ∀ u', Ly rd r n u' → v ∈ rd u' → leD u u' = true
section
variable {rd : Str → List Str} {r v u : Str} {n m : Nat}
theorem Bl.le (h : Bl rd r n v) (hm : n ≤ m) : Bl rd r m v := by
  induction hm with
  | refl => exact h
  | step _ ih => exact .inl ih
theorem bl_least (h : Bl rd r n v) : ∃ m, m ≤ n ∧ Ly rd r m v := by
  induction n with
  | zero => exact ⟨0, Nat.le_refl _, h, fun m hm => absurd hm (Nat.not_lt_zero _)⟩
  | succ n ih =>
    by_cases hb : Bl rd r n v
    · obtain ⟨m, h1, h2⟩ := ih hb
      exact ⟨m, Nat.le_succ_of_le h1, h2⟩
    · exact ⟨n + 1, Nat.le_refl _, h, fun m hm q => hb (q.le (Nat.le_of_lt_succ hm))⟩
theorem Ly.uniq (h : Ly rd r n v) (h2 : Ly rd r m v) : n = m := by
  rcases Nat.lt_trichotomy n m with q | q | q
  · exact absurd h.1 (h2.2 n q)
  · exact q
  · exact absurd h2.1 (h.2 m q)
theorem ly_zero : Ly rd r 0 v ↔ v = r := ⟨fun h => h.1, fun h => ⟨h, fun m hm => absurd hm (Nat.not_lt_zero _)⟩⟩
theorem ly_succ : Ly rd r (n + 1) v ↔ ¬ Bl rd r n v ∧ ∃ u, Ly rd r n u ∧ v ∈ rd u := by
  constructor
  · intro h
    have hn := h.2 n (Nat.lt_succ_self n)
    refine ⟨hn, ?_⟩
    rcases h.1 with q | ⟨u, h1, h2⟩
    · exact absurd q hn
    · exact ⟨u, ⟨h1, fun m hm q => hn (Bl.le (n := m + 1) (.inr ⟨u, q, h2⟩) hm)⟩, h2⟩
  · rintro ⟨hn, u, h1, h2⟩
    exact ⟨.inr ⟨u, h1.1, h2⟩, fun m hm q => hn (q.le (Nat.le_of_lt_succ hm))⟩
theorem ly_down : ∀ {m : Nat} {v : Str}, Ly rd r m v → n ≤ m → ∃ u, Ly rd r n u
  | 0, v, h, hn => by
    have : n = 0 := by omega
    subst this
    exact ⟨v, h⟩
  | m + 1, v, h, hn => by
    by_cases e : n = m + 1
    · subst e; exact ⟨v, h⟩
    · obtain ⟨_, u, h1, _⟩ := ly_succ.mp h
      exact ly_down h1 (by omega)
theorem bl_end (h : ∀ u, ¬ Ly rd r n u) (hb : Bl rd r m v) : Bl rd r n v := by
  obtain ⟨k, h1, h2⟩ := bl_least hb
  by_cases e : n ≤ k
  · obtain ⟨u, hu⟩ := ly_down h2 e
    exact absurd hu (h u)
  · exact h2.1.le (by omega)
theorem bl_sub {vs : List Str} (hr : r ∈ vs) (hc : ∀ v ∈ vs, ∀ u ∈ rd v, u ∈ vs) : ∀ {n : Nat} {v : Str}, Bl rd r n v → v ∈ vs
  | 0, v, h => by rw [show v = r from h]; exact hr
  | n + 1, v, h => by
    rcases h with q | ⟨u, h1, h2⟩
    · exact bl_sub hr hc q
    · exact hc u (bl_sub hr hc h1) v h2
theorem Par.uniq {p q : Option Str} (h1 : Par rd r v p) (h2 : Par rd r v q) : p = q := by
  cases p with
  | none =>
    cases q with
    | none => rfl
    | some b =>
      obtain ⟨n, _, _, a, _⟩ := h2
      have := Ly.uniq a (ly_zero.mpr h1)
      omega
  | some a =>
    obtain ⟨n, a1, a2, a3, a4⟩ := h1
    cases q with
    | none =>
      have := Ly.uniq a3 (ly_zero.mpr h2)
      omega
    | some b =>
      obtain ⟨m, b1, b2, b3, b4⟩ := h2
      have e := Ly.uniq a3 b3
      have e : n = m := by omega
      subst e
      rw [leD_anti (a4 b b1 b2) (b4 a a1 a2)]
theorem bl_congr {rd' : Str → List Str} (h : ∀ v u, u ∈ rd v ↔ u ∈ rd' v) : ∀ {n : Nat} {v : Str}, Bl rd r n v ↔ Bl rd' r n v
  | 0, v => Iff.rfl
  | n + 1, v => by
    show (_ ∨ _) ↔ (_ ∨ _)
    rw [bl_congr h (n := n) (v := v)]
    constructor
    · rintro (q | ⟨u, h1, h2⟩)
      · exact .inl q
      · exact .inr ⟨u, (bl_congr h).mp h1, (h u v).mp h2⟩
    · rintro (q | ⟨u, h1, h2⟩)
      · exact .inl q
      · exact .inr ⟨u, (bl_congr h).mpr h1, (h u v).mpr h2⟩
end
/-- what a layer tells -/
structure LbP (rd : Str → List Str) (fk ly : List Str) (i j : Nat) (tl : List (Str × Str)) : Prop where
  nd : (ks tl).Nodup
  dom : ∀ o, o ∈ ks tl ↔ o ∉ fk ∧ ((∃ p ∈ ly.take i, o ∈ rd p) ∨ ∃ p, ly[i]? = some p ∧ o ∈ (rd p).take j)
  first : ∀ x ∈ tl, ∃ i, ly[i]? = some x.2 ∧ x.1 ∈ rd x.2 ∧ ∀ q ∈ ly.take i, x.1 ∉ rd q
/-- the tree within n steps -/
structure TreI (rd : Str → List Str) (r : Str) (n : Nat) (kv : List (Str × Option Str)) : Prop where
  nd : (ks kv).Nodup
  dom : ∀ v, v ∈ ks kv ↔ Bl rd r n v
  par : ∀ x ∈ kv, Par rd r x.1 x.2
structure Tre (rd : Str → List Str) (r : Str) (kv : List (Str × Option Str)) : Prop where
  nd : (ks kv).Nodup
  dom : ∀ v, v ∈ ks kv ↔ ∃ n, Bl rd r n v
  par : ∀ x ∈ kv, Par rd r x.1 x.2
section
variable {rd : Str → List Str} {r : Str} {n : Nat} {kv : List (Str × Option Str)} {ly fk : List Str} {tl : List (Str × Str)} {i j : Nat}
theorem LbP.nil : LbP rd fk ly 0 0 [] := ⟨by simp, fun o => ⟨fun h => (nomatch h), fun ⟨_, h⟩ => by
  rcases h with ⟨p, h1, _⟩ | ⟨p, _, h2⟩
  · simp at h1
  · simp at h2⟩, fun x h => (nomatch h)⟩
theorem LbP.skip {p o : Str} (h : LbP rd fk ly i j tl) (hp : ly[i]? = some p) (ho : (rd p)[j]? = some o) (hk : o ∈ fk ∨ o ∈ ks tl) : LbP rd fk ly i (j + 1) tl := by
  refine ⟨h.nd, fun z => ⟨fun hz => ?_, fun ⟨hz, q⟩ => ?_⟩, h.first⟩
  · obtain ⟨h1, h2⟩ := (h.dom z).mp hz
    refine ⟨h1, h2.imp id fun ⟨q, q1, q2⟩ => ⟨q, q1, ?_⟩⟩
    rw [List.take_add_one]
    exact List.mem_append_left _ q2
  · rcases q with q | ⟨q, h1, h2⟩
    · exact (h.dom z).mpr ⟨hz, .inl q⟩
    · rw [hp] at h1
      cases h1
      rw [List.take_add_one, ho] at h2
      rcases List.mem_append.mp h2 with h2 | h2
      · exact (h.dom z).mpr ⟨hz, .inr ⟨_, hp, h2⟩⟩
      · have e : z = o := by simpa using h2
        subst e
        exact hk.resolve_left hz
theorem LbP.add {p o : Str} (h : LbP rd fk ly i j tl) (hp : ly[i]? = some p) (ho : (rd p)[j]? = some o) (h1 : o ∉ fk) (h2 : o ∉ ks tl) : LbP rd fk ly i (j + 1) (tl ++ [(o, p)]) := by
  have ek : ks (tl ++ [(o, p)]) = ks tl ++ [o] := by unfold ks; rw [List.map_append]; rfl
  refine ⟨?_, fun z => ?_, fun x hx => ?_⟩
  · rw [ek]
    refine List.nodup_append.mpr ⟨h.nd, by simp, fun a ha b hb e => h2 ?_⟩
    rw [← List.mem_singleton.mp hb, ← e]; exact ha
  · rw [ek]
    constructor
    · intro hz
      rcases List.mem_append.mp hz with q | q
      · obtain ⟨h1, h2⟩ := (h.dom z).mp q
        refine ⟨h1, h2.imp id fun ⟨q, q1, q2⟩ => ⟨q, q1, ?_⟩⟩
        rw [List.take_add_one]
        exact List.mem_append_left _ q2
      · rw [List.mem_singleton.mp q]
        exact ⟨h1, .inr ⟨p, hp, by rw [List.take_add_one, ho]; exact List.mem_append_right _ (by simp)⟩⟩
    · rintro ⟨hz, q⟩
      rcases q with q | ⟨q, a1, a2⟩
      · exact List.mem_append_left _ ((h.dom z).mpr ⟨hz, .inl q⟩)
      · rw [hp] at a1
        cases a1
        rw [List.take_add_one, ho] at a2
        rcases List.mem_append.mp a2 with a2 | a2
        · exact List.mem_append_left _ ((h.dom z).mpr ⟨hz, .inr ⟨_, hp, a2⟩⟩)
        · exact List.mem_append_right _ (by simpa using a2)
  · rcases List.mem_append.mp hx with q | q
    · exact h.first x q
    · rw [List.mem_singleton.mp q]
      exact ⟨i, hp, List.mem_of_getElem? ho, fun q hq hr => h2 ((h.dom o).mpr ⟨h1, .inl ⟨q, hq, hr⟩⟩)⟩
theorem LbP.next {p : Str} (h : LbP rd fk ly i (rd p).length tl) (hp : ly[i]? = some p) : LbP rd fk ly (i + 1) 0 tl := by
  refine ⟨h.nd, fun z => ?_, h.first⟩
  rw [h.dom]
  refine and_congr_right fun hz => ?_
  constructor
  · rintro (⟨q, q1, q2⟩ | ⟨q, q1, q2⟩)
    · exact .inl ⟨q, by rw [List.take_add_one]; exact List.mem_append_left _ q1, q2⟩
    · exact .inl ⟨q, by rw [List.take_add_one, q1]; exact List.mem_append_right _ (by simp), List.mem_of_mem_take q2⟩
  · rintro (⟨q, q1, q2⟩ | ⟨q, _, q2⟩)
    · rw [List.take_add_one, hp] at q1
      rcases List.mem_append.mp q1 with q1 | q1
      · exact .inl ⟨q, q1, q2⟩
      · have e : q = p := by simpa using q1
        subst e
        exact .inr ⟨q, hp, by rw [List.take_length]; exact q2⟩
    · simp at q2
theorem LbP.fin (h : LbP rd fk ly ly.length 0 tl) (o : Str) : o ∈ ks tl ↔ o ∉ fk ∧ ∃ p ∈ ly, o ∈ rd p := by
  rw [h.dom]
  refine and_congr_right fun hz => ?_
  rw [List.take_length]
  constructor
  · rintro (q | ⟨q, _, q2⟩)
    · exact q
    · simp at q2
  · exact .inl
theorem TreI.start : TreI rd r 0 [(r, none)] := ⟨by simp, fun v => by simp [Bl], fun x hx => by rw [List.mem_singleton.mp hx]; exact rfl⟩
theorem TreI.step (h : TreI rd r n kv) (hs : ly.Pairwise (fun a b => leD a b = true)) (hl : ∀ v, v ∈ ly ↔ Ly rd r n v) (b : LbP rd (ks kv) ly ly.length 0 tl) :
    TreI rd r (n + 1) (kv ++ tl.map fun x => (x.1, some x.2)) ∧ ∀ v, v ∈ ks tl ↔ Ly rd r (n + 1) v := by
  have ek : ks (kv ++ tl.map fun x => (x.1, some x.2)) = ks kv ++ ks tl := by unfold ks; rw [List.map_append, List.map_map]; rfl
  have hk : ∀ v, v ∈ ks tl ↔ Ly rd r (n + 1) v := fun v => by
    rw [b.fin, ly_succ, h.dom]
    refine and_congr_right fun _ => ⟨fun ⟨p, h1, h2⟩ => ⟨p, (hl p).mp h1, h2⟩, fun ⟨p, h1, h2⟩ => ⟨p, (hl p).mpr h1, h2⟩⟩
  refine ⟨⟨?_, fun v => ?_, fun x hx => ?_⟩, hk⟩
  · rw [ek]
    exact List.nodup_append.mpr ⟨h.nd, b.nd, fun a ha c hc e => ((b.fin c).mp hc).1 (by rw [← e]; exact ha)⟩
  · rw [ek, List.mem_append, h.dom, hk]
    constructor
    · rintro (q | q)
      · exact .inl q
      · exact q.1
    · intro q
      by_cases e : Bl rd r n v
      · exact .inl e
      · exact .inr ⟨q, fun m hm z => e (z.le (Nat.le_of_lt_succ hm))⟩
  · rcases List.mem_append.mp hx with q | q
    · exact h.par x q
    · obtain ⟨⟨o, p⟩, h1, rfl⟩ := List.mem_map.mp q
      obtain ⟨i, a1, a2, a3⟩ := b.first _ h1
      have hp : p ∈ ly := List.mem_of_getElem? a1
      refine ⟨n, (hl p).mp hp, a2, (hk o).mp (List.mem_map.mpr ⟨_, h1, rfl⟩), fun u hu ho => ?_⟩
      obtain ⟨k, hk1, hk2⟩ := List.getElem_of_mem ((hl u).mpr hu)
      have hk' : ly[k]? = some u := by rw [List.getElem?_eq_getElem hk1, hk2]
      rcases Nat.lt_trichotomy k i with q | q | q
      · refine absurd ho (a3 u ?_)
        rw [List.mem_take_iff_getElem]
        exact ⟨k, by omega, hk2⟩
      · subst q
        rw [a1] at hk'
        cases hk'
        unfold leD; rw [lt_irr]; rfl
      · obtain ⟨hi1, hi2⟩ := List.getElem?_eq_some_iff.mp a1
        have := List.pairwise_iff_getElem.mp hs i k hi1 hk1 q
        rw [hi2, hk2] at this
        exact this
theorem TreI.tre (h : TreI rd r n kv) (he : ∀ u, ¬ Ly rd r n u) : Tre rd r kv := ⟨h.nd, fun v => (h.dom v).trans ⟨fun q => ⟨n, q⟩, fun ⟨m, q⟩ => bl_end he q⟩, h.par⟩
theorem Tre.val {kv kv' : List (Str × Option Str)} (h : Tre rd r kv) (h' : Tre rd r kv') : kv.length = kv'.length ∧ ∀ p ∈ dk oV kv, valV (dk oV kv') p.1 = some p.2 ∧ flatB p.2 = true := by
  have hm : ∀ v, v ∈ ks kv ↔ v ∈ ks kv' := fun v => (h.dom v).trans (h'.dom v).symm
  refine ⟨?_, fun p hp => ?_⟩
  · have := (perm_of_mem h.nd h'.nd hm).length_eq
    rwa [ks_length, ks_length] at this
  · obtain ⟨⟨v, q⟩, h1, rfl⟩ := List.mem_map.mp hp
    obtain ⟨⟨v', q'⟩, h2, e⟩ := List.mem_map.mp ((hm v).mp (List.mem_map.mpr ⟨_, h1, rfl⟩))
    have e : v' = v := e
    subst e
    have e2 : q = q' := Par.uniq (h.par _ h1) (h'.par _ h2)
    subst e2
    refine ⟨valV_dk_some h'.nd h2, ?_⟩
    cases q <;> rfl
end
theorem rdf_out {rows : List Row} {v : Str} (h : v ∉ vsf rows) : rdf rows v = [] := by
  induction rows with
  | nil => rfl
  | cons a t ih =>
    rw [rdf_cons, if_neg (fun q => h (by rw [← q]; exact List.mem_cons_self))]
    exact ih fun q => h (List.mem_cons_of_mem _ q)
theorem ly_congr {rd rd' : Str → List Str} {r : Str} (h : ∀ v u, u ∈ rd v ↔ u ∈ rd' v) {n : Nat} {v : Str} : Ly rd r n v ↔ Ly rd' r n v := by
  unfold Ly
  rw [bl_congr h]
  exact and_congr_right fun _ => ⟨fun q m hm z => q m hm ((bl_congr h).mpr z), fun q m hm z => q m hm ((bl_congr h).mp z)⟩
theorem Par.congr {rd rd' : Str → List Str} {r v : Str} {p : Option Str} (h : ∀ v u, u ∈ rd v ↔ u ∈ rd' v) (q : Par rd r v p) : Par rd' r v p := by
  cases p with
  | none => exact q
  | some u =>
    obtain ⟨n, h1, h2, h3, h4⟩ := q
    exact ⟨n, (ly_congr h).mp h1, (h _ _).mp h2, (ly_congr h).mp h3, fun u' a b => h4 u' ((ly_congr h).mpr a) ((h _ _).mpr b)⟩
theorem Tre.congr {rd rd' : Str → List Str} {r : Str} {kv : List (Str × Option Str)} (h : ∀ v u, u ∈ rd v ↔ u ∈ rd' v) (t : Tre rd r kv) : Tre rd' r kv :=
  ⟨t.nd, fun v => (t.dom v).trans ⟨fun ⟨n, q⟩ => ⟨n, (bl_congr h).mp q⟩, fun ⟨n, q⟩ => ⟨n, (bl_congr h).mpr q⟩⟩, fun x hx => (t.par x hx).congr h⟩
theorem rdf_web_mem {rows : List Row} {v u : Str} : u ∈ rdf (webRows rows) v ↔ u ∈ rdf rows v := by
  by_cases h : v ∈ vsf rows
  · rw [rdf_web h]; exact fl_mem
  · rw [rdf_out h, rdf_out (fun q => h (vsf_web_mem.mp q))]
theorem RowT.rowP {K : PySem.W.Frag} {G : Hp} {t : Addr} {r : Row} (h : RowT K G t r) : RowP K G t r := let ⟨b, h1, h2⟩ := h; ⟨b, SqT.of h1, SqL.of h2⟩
end Five
end
section
namespace Five
open PySem PySem.Spec PyProof.Rows L2
theorem find_at {α : Type} {p : α → Bool} : ∀ {l : List α} {i : Nat} {v : α}, (∀ x ∈ l.take i, p x = false) → l[i]? = some v → p v = true → l.find? p = some v
  | [], i, v, _, h, _ => by simp at h
  | a :: l, 0, v, _, h, hp => by
    simp at h
    subst h
    rw [List.find?_cons, hp]
  | a :: l, i + 1, v, h1, h, hp => by
    rw [List.find?_cons, h1 a (by simp)]
    exact find_at (i := i) (fun x hx => h1 x (by rw [List.take_succ_cons]; exact List.mem_cons_of_mem _ hx)) (by simpa using h) hp
theorem find_no {α : Type} {p : α → Bool} {l : List α} (h : ∀ x ∈ l, p x = false) : l.find? p = none := by
  rw [List.find?_eq_none]
  intro x hx
  rw [h x hx]; simp
/-- the hue of a name -/
def hval (hv : List (Str × Int)) (v : Str) : Int := ((hv.find? fun x => decide (x.1 = v)).map (·.2)).getD 0
theorem hval_of : ∀ {hv : List (Str × Int)} {v : Str} {p : Int}, (ks hv).Nodup → (v, p) ∈ hv → hval hv v = p
  | [], _, _, _, h => nomatch h
  | (a, q) :: r, v, p, hn, h => by
    obtain ⟨h1, h2⟩ := List.nodup_cons.mp hn
    rcases List.mem_cons.mp h with e | e
    · cases e
      unfold hval
      simp
    · have ne : a ≠ v := fun q => h1 (by rw [q]; exact List.mem_map.mpr ⟨_, e, rfl⟩)
      have := hval_of h2 e
      unfold hval at this ⊢
      rw [List.find?_cons]
      simp [ne]
      simpa using this
theorem dget_hv {H : Hp} {d : Addr} {hv : List (Str × Int)} {v : Str} (h : H d = some (.dK (dk V.int hv))) (hn : (ks hv).Nodup) (hm : v ∈ ks hv) : DGet H d (.str v) (some (.int (hval hv v))) := by
  obtain ⟨⟨a, p⟩, h1, h2⟩ := List.mem_map.mp hm
  cases h2
  rw [hval_of hn h1]
  exact dget_dk_some h hn h1
/-! hues put, hues gone -/
def putH (hv : List (Str × Int)) (v : Str) (n : Int) : List (Str × Int) := if v ∈ ks hv then hv.map fun x => if x.1 = v then (x.1, n) else x else hv ++ [(v, n)]
def dropH (hv : List (Str × Int)) (v : Str) : List (Str × Int) := hv.filter fun x => decide (x.1 ≠ v)
theorem putH_dk (hv : List (Str × Int)) (v : Str) (n : Int) : putK (dk V.int hv) (Sum.inr v) (.int n) = dk V.int (putH hv v n) := by
  unfold putK putH
  have hany : ((dk V.int hv).any fun kv => decide (kv.1 = Sum.inr v)) = true ↔ v ∈ ks hv := by
    unfold dk
    rw [List.any_map, List.any_eq_true, List.mem_map]
    constructor
    · rintro ⟨x, h1, h2⟩
      exact ⟨x, h1, Sum.inr.inj (of_decide_eq_true h2)⟩
    · rintro ⟨x, h1, h2⟩
      exact ⟨x, h1, decide_eq_true (show (Sum.inr x.1 : Key) = Sum.inr v by rw [h2])⟩
  by_cases h : v ∈ ks hv
  · rw [if_pos (hany.mpr h), if_pos h]
    unfold dk
    rw [List.map_map, List.map_map]
    refine List.map_congr_left fun x _ => ?_
    show (if (Sum.inr x.1 : Key) = Sum.inr v then ((Sum.inr x.1 : Key), V.int n) else (Sum.inr x.1, V.int x.2)) = _
    by_cases e : x.1 = v
    · rw [if_pos (by rw [e])]
      show _ = ((Sum.inr (if x.1 = v then (x.1, n) else x).1 : Key), V.int (if x.1 = v then (x.1, n) else x).2)
      rw [if_pos e]
    · rw [if_neg (fun q => e (Sum.inr.inj q))]
      show _ = ((Sum.inr (if x.1 = v then (x.1, n) else x).1 : Key), V.int (if x.1 = v then (x.1, n) else x).2)
      rw [if_neg e]
  · rw [if_neg (fun q => h (hany.mp q)), if_neg h]
    unfold dk
    rw [List.map_append]
    rfl
theorem ks_putH (hv : List (Str × Int)) (v : Str) (n : Int) : ks (putH hv v n) = if v ∈ ks hv then ks hv else ks hv ++ [v] := by
  unfold putH
  by_cases h : v ∈ ks hv
  · rw [if_pos h, if_pos h]
    unfold ks
    rw [List.map_map]
    refine List.map_congr_left fun x _ => ?_
    show (if x.1 = v then (x.1, n) else x).1 = x.1
    split <;> rfl
  · rw [if_neg h, if_neg h]
    unfold ks
    rw [List.map_append]
    rfl
theorem putH_nd {hv : List (Str × Int)} {v : Str} {n : Int} (hn : (ks hv).Nodup) : (ks (putH hv v n)).Nodup := by
  rw [ks_putH]
  split
  · exact hn
  · rename_i h
    refine List.nodup_append.mpr ⟨hn, by simp, fun a ha b hb e => h ?_⟩
    rw [← List.mem_singleton.mp hb, ← e]
    exact ha
theorem putH_sub {hv : List (Str × Int)} {v u : Str} {n : Int} (h : u ∈ ks (putH hv v n)) : u ∈ ks hv ∨ u = v := by
  rw [ks_putH] at h
  split at h
  · exact .inl h
  · exact (List.mem_append.mp h).imp id fun q => List.mem_singleton.mp q
theorem dropH_sub {hv : List (Str × Int)} {v u : Str} (h : u ∈ ks (dropH hv v)) : u ∈ ks hv := by
  obtain ⟨x, h1, h2⟩ := List.mem_map.mp h
  exact List.mem_map.mpr ⟨x, (List.mem_filter.mp h1).1, h2⟩
theorem putH_len (hv : List (Str × Int)) (v : Str) (n : Int) : (putH hv v n).length ≤ hv.length + 1 := by
  unfold putH
  split
  · rw [List.length_map]; omega
  · rw [List.length_append]; simp
theorem dropH_dk (hv : List (Str × Int)) (v : Str) : dropK (dk V.int hv) (Sum.inr v) = dk V.int (dropH hv v) := by
  unfold dropK dropH dk
  rw [List.filter_map]
  congr 1
  refine List.filter_congr fun x _ => ?_
  show decide ((Sum.inr x.1 : Key) ≠ Sum.inr v) = decide (x.1 ≠ v)
  by_cases e : x.1 = v <;> simp [e]
theorem dropH_nd {hv : List (Str × Int)} {v : Str} (hn : (ks hv).Nodup) : (ks (dropH hv v)).Nodup := by
  unfold ks dropH
  exact hn.sublist ((List.filter_sublist).map _)
theorem dropH_len (hv : List (Str × Int)) (v : Str) : (dropH hv v).length ≤ hv.length := List.length_filter_le _ _
end Five
end
section
namespace Five
open PySem PySem.Spec PyProof.Rows L2
open PySem.W (Datum DatumOrd)
/-- to how many of some a place is tied -/
def cntL (rd : Str → List Str) (L : List Str) (v : Str) : Nat := ((rd v).filter fun u => decide (u ∈ L)).length
def mvL (rd : Str → List Str) (L : List Str) : List (Str × Int) := L.map fun v => (v, ((cntL rd L v : Nat) : Int))
theorem ks_mvL (rd : Str → List Str) (L : List Str) : ks (mvL rd L) = L := by
  unfold ks mvL
  rw [List.map_map]
  exact List.map_id L
def decL (mv : List (Str × Int)) (l : List Str) : List (Str × Int) := mv.map fun x => if x.1 ∈ l then (x.1, x.2 - 1) else x
theorem ks_decL (mv : List (Str × Int)) (l : List Str) : ks (decL mv l) = ks mv := by
  unfold ks decL
  rw [List.map_map]
  refine List.map_congr_left fun x _ => ?_
  show (if x.1 ∈ l then (x.1, x.2 - 1) else x).1 = x.1
  split <;> rfl
theorem decL_nil (mv : List (Str × Int)) : decL mv [] = mv := by
  unfold decL
  simp
theorem decL_out {mv : List (Str × Int)} {l : List Str} {o : Str} (h : o ∉ ks mv) : decL mv (l ++ [o]) = decL mv l := by
  unfold decL
  refine List.map_congr_left fun x hx => ?_
  have : x.1 ≠ o := fun e => h (by rw [← e]; exact List.mem_map.mpr ⟨x, hx, rfl⟩)
  simp [this]
theorem decL_in {mv : List (Str × Int)} {l : List Str} {o : Str} (hn : (ks mv).Nodup) (hl : o ∉ l) (h : o ∈ ks mv) : putH (decL mv l) o (hval (decL mv l) o - 1) = decL mv (l ++ [o]) := by
  unfold putH
  rw [if_pos (by rw [ks_decL]; exact h)]
  obtain ⟨⟨o', p⟩, hp, e⟩ := List.mem_map.mp h
  have e : o' = o := e
  subst e
  have hv : hval (decL mv l) o' = p := hval_of (by rw [ks_decL]; exact hn) (List.mem_map.mpr ⟨_, hp, by simp [hl]⟩)
  rw [hv]
  unfold decL
  rw [List.map_map]
  refine List.map_congr_left fun x hx => ?_
  show (if (if x.1 ∈ l then (x.1, x.2 - 1) else x).1 = o' then ((if x.1 ∈ l then (x.1, x.2 - 1) else x).1, p - 1) else (if x.1 ∈ l then (x.1, x.2 - 1) else x)) = _
  have e1 : (if x.1 ∈ l then (x.1, x.2 - 1) else x).1 = x.1 := by split <;> rfl
  rw [e1]
  by_cases c : x.1 = o'
  · have hx2 : x.2 = p := by
      have h1 := hval_of hn (show (x.1, x.2) ∈ mv from hx)
      have h2 := hval_of hn hp
      rw [c] at h1
      rw [← h1, h2]
    rw [if_pos c, if_pos (by simp [c]), hx2]
  · rw [if_neg c]
    by_cases c2 : x.1 ∈ l
    · rw [if_pos c2, if_pos (by simp [c2])]
    · rw [if_neg c2, if_neg (by simp [c2, c])]
theorem take_mvL {rd : Str → List Str} {L : List Str} {u : Str} (hu : u ∈ L) (hsym : ∀ v ∈ L, u ∈ rd v ↔ v ∈ rd u) (hrn : ∀ v ∈ L, (rd v).Nodup) : decL (dropH (mvL rd L) u) (rd u) = mvL rd (L.filter fun v => decide (v ≠ u)) := by
  have e1 : dropH (mvL rd L) u = (L.filter fun v => decide (v ≠ u)).map fun v => (v, ((cntL rd L v : Nat) : Int)) := by
    unfold dropH mvL
    rw [List.filter_map]
    rfl
  rw [e1]
  unfold decL mvL
  rw [List.map_map]
  refine List.map_congr_left fun v hv => ?_
  obtain ⟨hvL, hvu⟩ := List.mem_filter.mp hv
  have hvu : v ≠ u := of_decide_eq_true hvu
  show (if v ∈ rd u then (v, ((cntL rd L v : Nat) : Int) - 1) else (v, ((cntL rd L v : Nat) : Int))) = _
  have ef : ((rd v).filter fun x => decide (x ∈ L.filter fun v => decide (v ≠ u))) = ((rd v).filter fun x => decide (x ∈ L)).filter fun x => decide (x ≠ u) := by
    rw [List.filter_filter]
    refine List.filter_congr fun x _ => ?_
    by_cases a : x ∈ L <;> by_cases b : x = u <;> simp [a, b]
  by_cases c : v ∈ rd u
  · rw [if_pos c]
    have huv : u ∈ rd v := (hsym v hvL).mpr c
    have hm : u ∈ (rd v).filter fun x => decide (x ∈ L) := List.mem_filter.mpr ⟨huv, decide_eq_true hu⟩
    obtain ⟨A, B, s1, _, _, s2⟩ := filter_split ((hrn v hvL).sublist List.filter_sublist) hm
    have l1 : cntL rd L v = A.length + B.length + 1 := by unfold cntL; rw [s1]; simp; omega
    have l2 : cntL rd (L.filter fun v => decide (v ≠ u)) v = A.length + B.length := by unfold cntL; rw [ef, s2]; simp
    rw [l1, l2]
    congr 1
    omega
  · rw [if_neg c]
    have huv : u ∉ rd v := fun q => c ((hsym v hvL).mp q)
    have : cntL rd (L.filter fun v => decide (v ≠ u)) v = cntL rd L v := by
      unfold cntL
      rw [ef]
      congr 1
      refine List.filter_eq_self.mpr fun x hx => ?_
      have : x ≠ u := fun e => huv (by rw [← e]; exact (List.mem_filter.mp hx).1)
      simpa using this
    rw [this]
/-- the one tied to the fewest, of several the least -/
def Least (rd : Str → List Str) (L : List Str) (u : Str) : Prop := u ∈ L ∧ ∀ v ∈ L, leD (((cntL rd L u : Nat) : Int), u) (((cntL rd L v : Nat) : Int), v) = true
theorem Least.uniq {rd : Str → List Str} {L : List Str} {u v : Str} (h1 : Least rd L u) (h2 : Least rd L v) : u = v := (Prod.mk.inj (leD_anti (h1.2 v h2.1) (h2.2 u h1.1))).2
theorem cntL_congr {rd rd' : Str → List Str} {L L' : List Str} {v : Str} (h : ∀ x, x ∈ L ↔ x ∈ L') (hp : (rd v).Perm (rd' v)) : cntL rd L v = cntL rd' L' v := by
  unfold cntL
  rw [(hp.filter _).length_eq]
  congr 1
  refine List.filter_congr fun x _ => ?_
  by_cases a : x ∈ L
  · simp [a, (h x).mp a]
  · have b : x ∉ L' := fun q => a ((h x).mpr q)
    simp [a, b]
theorem Least.congr {rd rd' : Str → List Str} {L L' : List Str} {u : Str} (h : ∀ x, x ∈ L ↔ x ∈ L') (hp : ∀ v ∈ L, (rd v).Perm (rd' v)) (hl : Least rd L u) : Least rd' L' u := by
  refine ⟨(h u).mp hl.1, fun v hv => ?_⟩
  have hv' := (h v).mpr hv
  rw [← cntL_congr h (hp u hl.1), ← cntL_congr h (hp v hv')]
  exact hl.2 v hv'
inductive Ord (rd : Str → List Str) : List Str → List Str → Prop
  | nil : Ord rd [] []
  | cons {L : List Str} {u : Str} {l : List Str} : Least rd L u → Ord rd (L.filter fun v => decide (v ≠ u)) l → Ord rd L (u :: l)
theorem Ord.mem {rd : Str → List Str} {L l : List Str} (h : Ord rd L l) : ∀ x, x ∈ l ↔ x ∈ L := by
  induction h with
  | nil => intro x; rfl
  | @cons L u l a b ih =>
    intro x
    rw [List.mem_cons, ih, List.mem_filter, decide_eq_true_eq]
    constructor
    · rintro (e | ⟨e, _⟩)
      · rw [e]; exact a.1
      · exact e
    · intro e
      by_cases c : x = u
      · exact .inl c
      · exact .inr ⟨e, c⟩
theorem Ord.nodup {rd : Str → List Str} {L l : List Str} (h : Ord rd L l) : l.Nodup := by
  induction h with
  | nil => simp
  | cons a b ih =>
    refine List.nodup_cons.mpr ⟨fun q => ?_, ih⟩
    have := (b.mem _).mp q
    simp at this
theorem Ord.uniq {rd rd' : Str → List Str} {L l : List Str} (h : Ord rd L l) : ∀ {L' l' : List Str}, Ord rd' L' l' → (∀ x, x ∈ L ↔ x ∈ L') → (∀ v ∈ L, (rd v).Perm (rd' v)) → l = l' := by
  induction h with
  | nil =>
    intro L' l' h' hm _
    cases h' with
    | nil => rfl
    | cons a _ => exact absurd ((hm _).mpr a.1) (by simp)
  | @cons L u l a b ih =>
    intro L' l' h' hm hp
    cases h' with
    | nil => exact absurd ((hm _).mp a.1) (by simp)
    | @cons _ u' l2 a' b' =>
      have e : u = u' := (a.congr hm hp).uniq a'
      subst e
      rw [ih b' (fun x => by simp [hm x]) fun v hv => hp v (List.mem_filter.mp hv).1]
theorem Ord.snoc_len {rd : Str → List Str} {L l : List Str} (h : Ord rd L l) (hn : L.Nodup) : l.length = L.length := (perm_of_mem h.nodup hn h.mem).length_eq
end Five
end
section
namespace Five
open PySem PySem.Spec PyProof.Rows L2
open PySem.W (Datum DatumOrd)
/-! the least hue that is free -/
def IsMex (l : List Int) (n : Nat) : Prop := (n : Int) ∉ l ∧ ∀ m : Nat, m < n → (m : Int) ∈ l
theorem IsMex.uniq {l : List Int} {n m : Nat} (h1 : IsMex l n) (h2 : IsMex l m) : n = m := by
  rcases Nat.lt_trichotomy n m with c | c | c
  · exact absurd (h2.2 n c) h1.1
  · exact c
  · exact absurd (h1.2 m c) h2.1
theorem below_le {l : List Int} {n : Nat} (h : ∀ m : Nat, m < n → (m : Int) ∈ l) : n ≤ l.length := by
  have h1 : ((List.range n).map fun m : Nat => (m : Int)).length ≤ l.length := nodup_le (List.Pairwise.map (fun m : Nat => (m : Int)) (fun a b (q : a ≠ b) => fun e => q (Int.ofNat_inj.mp e)) (show (List.range n).Pairwise (· ≠ ·) from List.nodup_range)) fun x hx => by
    obtain ⟨m, hm, rfl⟩ := List.mem_map.mp hx
    exact h m (List.mem_range.mp hm)
  simpa using h1
theorem IsMex.le {l : List Int} {n : Nat} (h : IsMex l n) : n ≤ l.length := below_le h.2
theorem mex_from (l : List Int) : ∀ (k n : Nat), (∀ m : Nat, m < n → (m : Int) ∈ l) → l.length + 1 - n ≤ k → ∃ j, IsMex l j
  | 0, n, h, hk => by
    have := below_le h
    omega
  | k + 1, n, h, hk => by
    by_cases c : (n : Int) ∈ l
    · refine mex_from l k (n + 1) (fun m hm => ?_) (by omega)
      by_cases e : m = n
      · rw [e]; exact c
      · exact h m (by omega)
    · exact ⟨n, c, h⟩
theorem mex_ex (l : List Int) : ∃ j, IsMex l j := mex_from l _ 0 (fun _ h => absurd h (Nat.not_lt_zero _)) (Nat.le_refl _)
noncomputable def mexN (l : List Int) : Nat := Classical.choose (mex_ex l)
theorem mexN_is (l : List Int) : IsMex l (mexN l) := Classical.choose_spec (mex_ex l)
theorem mexN_eq {l : List Int} {n : Nat} (h : IsMex l n) : mexN l = n := (mexN_is l).uniq h
theorem mexN_congr {l l' : List Int} (h : ∀ x, x ∈ l ↔ x ∈ l') : mexN l = mexN l' := mexN_eq ⟨fun q => (mexN_is l').1 ((h _).mp q), fun m hm => (h _).mpr ((mexN_is l').2 m hm)⟩
/-! hues by an order, from behind -/
def takenL (rd : Str → List Str) (hv : List (Str × Int)) (v : Str) : List Int := (rd v).filterMap fun u => if u ∈ ks hv then some (hval hv u) else none
noncomputable def sixL (rd : Str → List Str) (l : List Str) : List (Str × Int) := l.foldl (fun hv v => hv ++ [(v, ((mexN (takenL rd hv v) : Nat) : Int))]) []
theorem sixL_snoc (rd : Str → List Str) (l : List Str) (v : Str) : sixL rd (l ++ [v]) = sixL rd l ++ [(v, ((mexN (takenL rd (sixL rd l) v) : Nat) : Int))] := by
  unfold sixL
  rw [List.foldl_append]
  rfl
theorem ks_snoc (hv : List (Str × Int)) (v : Str) (n : Int) : ks (hv ++ [(v, n)]) = ks hv ++ [v] := by unfold ks; rw [List.map_append]; rfl
theorem ks_sixL (rd : Str → List Str) : ∀ n (l : List Str), l.length = n → ks (sixL rd l) = l := by
  intro n
  induction n with
  | zero =>
    intro l h
    rw [List.length_eq_zero_iff.mp h]
    rfl
  | succ n ih =>
    intro l h
    have hne : l ≠ [] := by intro e; rw [e] at h; simp at h
    rw [← List.dropLast_concat_getLast hne, sixL_snoc, ks_snoc, ih _ (by rw [List.length_dropLast]; omega)]
theorem ks_six (rd : Str → List Str) (l : List Str) : ks (sixL rd l) = l := ks_sixL rd _ l rfl
theorem sixL_congr {rd rd' : Str → List Str} {n : Nat} : ∀ (l : List Str), l.length = n → (∀ v ∈ l, (rd v).Perm (rd' v)) → sixL rd l = sixL rd' l := by
  induction n with
  | zero =>
    intro l h _
    rw [List.length_eq_zero_iff.mp h]
    rfl
  | succ n ih =>
    intro l h hp
    have hne : l ≠ [] := by intro e; rw [e] at h; simp at h
    have hl := List.dropLast_concat_getLast hne
    have e1 := ih l.dropLast (by rw [List.length_dropLast]; omega) fun v hv => hp v (by rw [← hl]; exact List.mem_append_left _ hv)
    have hpl := hp (l.getLast hne) (List.getLast_mem hne)
    rw [← hl, sixL_snoc, sixL_snoc, e1]
    congr 4
    exact mexN_congr fun x => (hpl.filterMap _).mem_iff
theorem taken_len (rd : Str → List Str) (hv : List (Str × Int)) (v : Str) : (takenL rd hv v).length = cntL rd (ks hv) v := by
  unfold takenL cntL
  induction rd v with
  | nil => rfl
  | cons a r ih =>
    by_cases c : a ∈ ks hv
    · rw [List.filterMap_cons_some (f := fun u => if u ∈ ks hv then some (hval hv u) else none) (b := hval hv a) (if_pos c), List.filter_cons_of_pos (p := fun u => decide (u ∈ ks hv)) (decide_eq_true c), List.length_cons, List.length_cons, ih]
    · rw [List.filterMap_cons_none (f := fun u => if u ∈ ks hv then some (hval hv u) else none) (if_neg c), List.filter_cons_of_neg (p := fun u => decide (u ∈ ks hv)) (by simpa using c), ih]
theorem mem_taken {rd : Str → List Str} {hv : List (Str × Int)} {v u : Str} (h1 : u ∈ rd v) (h2 : u ∈ ks hv) : hval hv u ∈ takenL rd hv v := List.mem_filterMap.mpr ⟨u, h1, if_pos h2⟩
theorem hval_snoc_old {hv : List (Str × Int)} {v u : Str} {n : Int} (hn : (ks hv).Nodup) (hv0 : v ∉ ks hv) (hu : u ∈ ks hv) : hval (hv ++ [(v, n)]) u = hval hv u := by
  obtain ⟨⟨u', p⟩, h1, h2⟩ := List.mem_map.mp hu
  have h2 : u' = u := h2
  subst h2
  rw [hval_of hn h1]
  refine hval_of ?_ (List.mem_append_left _ h1)
  rw [ks_snoc]
  exact List.nodup_append.mpr ⟨hn, by simp, fun a ha b hb => by rw [List.mem_singleton.mp hb]; intro e; rw [e] at ha; exact hv0 ha⟩
theorem hval_snoc_new {hv : List (Str × Int)} {v : Str} {n : Int} (hn : (ks hv).Nodup) (hv0 : v ∉ ks hv) : hval (hv ++ [(v, n)]) v = n := by
  refine hval_of ?_ (List.mem_append_right _ (by simp))
  rw [ks_snoc]
  exact List.nodup_append.mpr ⟨hn, by simp, fun a ha b hb => by rw [List.mem_singleton.mp hb]; intro e; rw [e] at ha; exact hv0 ha⟩
/-- right hues below six -/
theorem six_right {vs : List Str} {rd : Str → List Str} (pl : Pl vs rd) {Lh l : List Str} (h : Ord rd Lh l) : (∀ v ∈ Lh, v ∈ vs) → Lh.Nodup →
    (∀ v ∈ l, 0 ≤ hval (sixL rd l.reverse) v ∧ hval (sixL rd l.reverse) v < 6) ∧ ∀ v ∈ l, ∀ u ∈ l, u ∈ rd v → hval (sixL rd l.reverse) u ≠ hval (sixL rd l.reverse) v := by
  induction h with
  | nil => exact fun _ _ => ⟨fun v h => absurd h (by simp), fun v h => absurd h (by simp)⟩
  | @cons L u l a b ih =>
    intro hs hn
    obtain ⟨i1, i2⟩ := ih (fun v hv => hs v (List.mem_filter.mp hv).1) (hn.sublist List.filter_sublist)
    have hul : u ∉ l := fun q => by simpa using (b.mem u).mp q
    rw [List.reverse_cons, sixL_snoc]
    have hk : ks (sixL rd l.reverse) = l.reverse := ks_six rd _
    have hkn : (ks (sixL rd l.reverse)).Nodup := by rw [hk]; exact (List.reverse_perm l).nodup_iff.mpr b.nodup
    have hu0 : u ∉ ks (sixL rd l.reverse) := by rw [hk, List.mem_reverse]; exact hul
    have eo : ∀ v ∈ l, hval (sixL rd l.reverse ++ [(u, ((mexN (takenL rd (sixL rd l.reverse) u) : Nat) : Int))]) v = hval (sixL rd l.reverse) v := fun v hv => hval_snoc_old hkn hu0 (by rw [hk, List.mem_reverse]; exact hv)
    have en : hval (sixL rd l.reverse ++ [(u, ((mexN (takenL rd (sixL rd l.reverse) u) : Nat) : Int))]) u = ((mexN (takenL rd (sixL rd l.reverse) u) : Nat) : Int) := hval_snoc_new hkn hu0
    have hm := mexN_is (takenL rd (sixL rd l.reverse) u)
    have h5 : mexN (takenL rd (sixL rd l.reverse) u) ≤ 5 := by
      refine Nat.le_trans hm.le ?_
      rw [taken_len, hk]
      obtain ⟨v, hv, q5⟩ := low_in pl hs a.1
      have q6 : cntL rd L v ≤ 5 := q5
      have q7 : ((cntL rd L u : Nat) : Int) ≤ ((cntL rd L v : Nat) : Int) := by
        have := a.2 v hv
        unfold leD at this
        have h1 : (if (cntL rd L v : Int) = (cntL rd L u : Int) then DatumOrd.lt v u else DatumOrd.lt (cntL rd L v : Int) (cntL rd L u : Int)) = false := by
          have : DatumOrd.lt ((cntL rd L v : Int), v) ((cntL rd L u : Int), u) = false := by simpa using this
          exact this
        by_cases e : (cntL rd L v : Int) = (cntL rd L u : Int)
        · omega
        · rw [if_neg e] at h1
          have h3 : decide ((cntL rd L v : Int) < (cntL rd L u : Int)) = false := h1
          have := of_decide_eq_false h3
          omega
      have q8 : cntL rd l.reverse u ≤ cntL rd L u := by
        unfold cntL
        rw [← List.countP_eq_length_filter, ← List.countP_eq_length_filter]
        refine List.countP_mono_left fun x _ hx => ?_
        have : x ∈ l.reverse := of_decide_eq_true hx
        exact decide_eq_true (List.mem_filter.mp ((b.mem x).mp (List.mem_reverse.mp this))).1
      omega
    refine ⟨fun v hv => ?_, fun v hv w hw hwv => ?_⟩
    · rcases List.mem_cons.mp hv with e | e
      · rw [e, en]; omega
      · rw [eo v e]; exact i1 v e
    · rcases List.mem_cons.mp hv with e | e
      · rcases List.mem_cons.mp hw with e2 | e2
        · rw [e, e2] at hwv
          exact absurd rfl (pl.wf.ties u (hs u a.1) u hwv).2.1
        · rw [e, en, eo w e2]
          rw [e] at hwv
          intro z
          exact hm.1 (by rw [← z]; exact mem_taken hwv (by rw [hk, List.mem_reverse]; exact e2))
      · rcases List.mem_cons.mp hw with e2 | e2
        · rw [e2, en, eo v e]
          rw [e2] at hwv
          have hvL : v ∈ L := (List.mem_filter.mp ((b.mem v).mp e)).1
          intro z
          exact hm.1 (by rw [z]; exact mem_taken (pl.wf.ties v (hs v hvL) u hwv).2.2 (by rw [hk, List.mem_reverse]; exact e))
        · rw [eo v e, eo w e2]
          exact i2 v e w e2 hwv
/-! the icosahedron -/
def icoN (i : Nat) : List Nat :=
  if i < 5 then [10, (i + 1) % 5, 5 + (i + 1) % 5, 5 + i, (i + 4) % 5] else if i < 10 then [11, 5 + (i - 5 + 4) % 5, (i - 5 + 4) % 5, i - 5, 5 + (i - 5 + 1) % 5] else if i = 10 then [4, 3, 2, 1, 0] else [5, 6, 7, 8, 9]
def icoV : List Nat := [0, 5, 1, 6, 2, 7, 3, 8, 4, 9, 10, 11]
def icoF : List (List (Nat × Nat)) := (darts icoV icoN).filterMap fun s => if s.1 < (fs icoN s).1 ∧ s.1 < (fs icoN (fs icoN s)).1 then some [s, fs icoN s, fs icoN (fs icoN s)] else none
def icoR : Nat → Nat → List Nat
  | 0, v => [v]
  | n + 1, v => (icoN v).flatMap (icoR n) ++ icoR n v
theorem ico_reach {S : Nat → Prop} (h : ∀ v u, v ∈ icoV → S v → u ∈ icoN v → S u) (hs : ∀ v ∈ icoV, ∀ u ∈ icoN v, u ∈ icoV) : ∀ n v, v ∈ icoV → S v → ∀ u ∈ icoR n v, S u
  | 0, v, hv, sv, u, hu => by rw [List.mem_singleton.mp hu]; exact sv
  | n + 1, v, hv, sv, u, hu => by
    rcases List.mem_append.mp hu with q | q
    · obtain ⟨x, hx, q⟩ := List.mem_flatMap.mp q
      exact ico_reach h hs n x (hs v hv x hx) (h v x hv sv hx) u q
    · exact ico_reach h hs n v hv sv u q
theorem ico_in : ∀ v ∈ icoV, ∀ u ∈ icoN v, u ∈ icoV := by decide +kernel
theorem ico_far : ∀ v ∈ icoV, ∀ u ∈ icoV, u ∈ icoR 3 v := by decide +kernel
theorem ico_three : ∀ s ∈ darts icoV icoN, fs icoN (fs icoN (fs icoN s)) = s := by decide +kernel
theorem ico_pl : Pl icoV icoN := by
  refine ⟨⟨by decide +kernel, by decide +kernel, by decide +kernel⟩, icoF, [icoV], ⟨by decide +kernel, fun c hc => ?_⟩, ⟨by simp, fun c hc => ?_, fun c hc => ?_⟩, by decide +kernel⟩
  · obtain ⟨s, hs, e⟩ := List.mem_filterMap.mp hc
    split at e
    · cases e
      exact ⟨rfl, rfl, ico_three s hs⟩
    · cases e
  · rw [List.mem_singleton.mp hc]
    exact ico_in
  · rw [List.mem_singleton.mp hc]
    exact ⟨by decide, fun S h v hv sv u hu => ico_reach h ico_in 3 v hv sv u (ico_far v hv u hu)⟩
/-- with names -/
def icoW (g : Nat → Str) : List Row := icoV.map fun i => (g i, (icoN i).map g)
theorem vsf_ico (g : Nat → Str) : vsf (icoW g) = icoV.map g := by
  unfold vsf icoW
  rw [List.map_map]
  rfl
theorem ico_w {g : Nat → Str} (hg : ∀ i ∈ icoV, ∀ j ∈ icoV, g i = g j → i = j) : Pl (vsf (icoW g)) (rdf (icoW g)) := by
  have hn : (vsf (icoW g)).Nodup := by
    rw [vsf_ico]
    exact List.pairwise_map.mpr (List.Pairwise.imp_of_mem (fun {a b} ha hb (q : a ≠ b) => fun e => q (hg a ha b hb e)) (show icoV.Pairwise (· ≠ ·) from ico_pl.wf.nd))
  refine Pl.named g ico_pl hg (by rw [vsf_ico]) fun v hv => ⟨[], (icoN v).map g, rfl, ?_⟩
  rw [List.append_nil]
  exact rdf_of hn (List.mem_map.mpr ⟨v, hv, rfl⟩)
end Five
end
section
namespace Five
open PySem PySem.Spec PyProof.Rows L2
/-- behind an if, one way of which passes -/
theorem joinN {b : Bool} {A : Prop} {D : Ends} {σ : L2.St} {H : Hp} (Pd : L2.St → Hp → Prop) (hB : b = false → Pd σ H) (hA : b = true → (∀ σ' H', Pd σ' H' → D.nx σ' H') → A) (rest : ∀ σ' H', Pd σ' H' → D.nx σ' H') : if b = true then A else tNext D σ H := by
  cases b
  · exact rest _ _ (hB rfl)
  · exact hA rfl rest
theorem pg_lstK {X : Cx} {K : PySem.W.Frag} {pos : Pos} {es : List Expr} {k : Nat} {t : TGs} (n : Nat) (hc : X.calm = true) (h : PGs X es t) (hK : X.K = K := by rfl) (hn : (assignEach es X.env).length = n := by rfl) (hst : (assignEach es X.env).findIdx? (·.1) = none := by rfl) : PG X (.Tuple es k pos) (gLst K n t) := by subst hK; exact pg_lst hc h hn hst
theorem op_neDK {X : Cx} {K : PySem.W.Frag} (hu : X.A.units + 64 < cLine) (hK : X.K = K := by rfl) : OpR X (compareOp .NotEq) (rNeD K) := by subst hK; exact op_neD hu
theorem op_eqDK {X : Cx} {K : PySem.W.Frag} (hu : X.A.units + 64 < cLine) (hK : X.K = K := by rfl) : OpR X (compareOp .Eq) (rEqD K) := by subst hK; exact op_eqD hu
/-! names of generator 5 -/
def qw : Str := "qwertyuiopasdfghjklzxcvbnm"
def qc (i : Nat) : Nat := qw.cps.toList.getD i 0
theorem qw_at : ∀ i < 26, qw.cps.toList[i]? = some (qc i) := by decide +kernel
theorem qc_ok : ∀ i < 26, 97 ≤ qc i ∧ qc i ≤ 122 := by decide +kernel
theorem qc_inj : ∀ i < 26, ∀ j < 26, qc i = qc j → i = j := by decide +kernel
theorem qw_len : qw.length ≤ sizeLine := by decide +kernel
/-- a number's word of two signs -/
def bword (a b : Nat) (n : Nat) : List Nat := if h : n = 0 then [] else bword a b ((n - 1) / 2) ++ [if (n - 1) % 2 = 0 then a else b]
termination_by n
theorem bword_zero (a b : Nat) : bword a b 0 = [] := by rw [bword]; simp
theorem bword_pos (a b : Nat) {n : Nat} (h : n ≠ 0) : bword a b n = bword a b ((n - 1) / 2) ++ [if (n - 1) % 2 = 0 then a else b] := by rw [bword]; simp [h]
theorem bword_ne {a b n : Nat} (h : n ≠ 0) : bword a b n ≠ [] := by rw [bword_pos a b h]; simp
theorem bword_inj {a b : Nat} (hab : a ≠ b) : ∀ {n m : Nat}, bword a b n = bword a b m → n = m
  | n, m, e => by
    by_cases hn : n = 0
    · by_cases hm : m = 0
      · rw [hn, hm]
      · rw [hn, bword_zero] at e
        exact absurd e.symm (bword_ne hm)
    · by_cases hm : m = 0
      · rw [hm, bword_zero] at e
        exact absurd e (bword_ne hn)
      · rw [bword_pos a b hn, bword_pos a b hm] at e
        obtain ⟨e1, e2⟩ := List.append_inj' e rfl
        have ih := bword_inj hab e1
        have e3 : (if (n - 1) % 2 = 0 then a else b) = (if (m - 1) % 2 = 0 then a else b) := by simpa using e2
        have e4 : (n - 1) % 2 = (m - 1) % 2 := by
          by_cases c1 : (n - 1) % 2 = 0
          · by_cases c2 : (m - 1) % 2 = 0
            · rw [c1, c2]
            · rw [if_pos c1, if_neg c2] at e3; exact absurd e3 hab
          · by_cases c2 : (m - 1) % 2 = 0
            · rw [if_neg c1, if_pos c2] at e3; exact absurd e3.symm hab
            · omega
        omega
termination_by n => n
theorem bword_len {a b : Nat} : ∀ (k : Nat) {n : Nat}, n + 1 < 2 ^ (k + 1) → (bword a b n).length ≤ k
  | 0, n, h => by
    have : n = 0 := by simp at h; omega
    rw [this, bword_zero]; simp
  | k + 1, n, h => by
    by_cases hn : n = 0
    · rw [hn, bword_zero]; simp
    · rw [bword_pos a b hn, List.length_append]
      have : (n - 1) / 2 + 1 < 2 ^ (k + 1) := by
        rw [Nat.pow_succ] at h
        omega
      have := bword_len (a := a) (b := b) k this
      simp; omega
theorem bword_mem {a b : Nat} : ∀ {n c : Nat}, c ∈ bword a b n → c = a ∨ c = b
  | n, c, h => by
    by_cases hn : n = 0
    · rw [hn, bword_zero] at h; cases h
    · rw [bword_pos a b hn] at h
      rcases List.mem_append.mp h with z | z
      · exact bword_mem z
      · have z := List.mem_singleton.mp z
        by_cases c1 : (n - 1) % 2 = 0
        · rw [if_pos c1] at z; exact .inl z
        · rw [if_neg c1] at z; exact .inr z
termination_by n => n
/-- the steps drawn have no divisor with 26 -/
theorem step_inj {s : Nat} (hs : s ∈ [1, 3, 5, 7, 9, 11]) {g i j : Nat} (hi : i < 26) (hj : j < 26) (e : (g + s * i) % 26 = (g + s * j) % 26) : i = j := by
  simp at hs
  rcases hs with rfl | rfl | rfl | rfl | rfl | rfl <;> omega
end Five
end
section
namespace Five
open PySem PySem.Spec PyProof.Rows L2
open PySem.W (Datum DatumOrd)
theorem pl_web {rows : List Row} (pl : Pl (vsf rows) (rdf rows)) : Pl (vsf (webRows rows)) (rdf (webRows rows)) := by
  refine Pl.named id pl (fun x _ y _ e => e) (by rw [List.map_id, vsf_web]; exact srt_perm _) fun v hv => ?_
  obtain ⟨L, M, e1, e2⟩ := fl_perm (rdf rows v)
  exact ⟨L, M, by rw [List.map_id]; exact e1, by show rdf (webRows rows) v = _; rw [rdf_web hv]; exact e2⟩
def revR (rows : List Row) : List Row := rows.map fun r => (r.1, r.2.reverse)
theorem vsf_revR (rows : List Row) : vsf (revR rows) = vsf rows := by
  unfold revR vsf
  rw [List.map_map]
  rfl
theorem rdf_revR (rows : List Row) (v : Str) : rdf (revR rows) v = (rdf rows v).reverse := by
  induction rows with
  | nil => rfl
  | cons r rows ih =>
    show rdf ((r.1, r.2.reverse) :: revR rows) v = _
    rw [rdf_cons, rdf_cons, ih]
    split <;> rfl
theorem RowsOk.rev {rows : List Row} (h : RowsOk rows) : RowsOk (revR rows) := by
  refine ⟨by rw [vsf_revR]; exact h.nm, ?_, by unfold revR; rw [List.length_map]; exact h.len⟩
  rw [vsf_revR]
  exact h.pl.mirror fun v _ => rdf_revR rows v
theorem RowsOk.web {rows : List Row} (h : RowsOk rows) : RowsOk (webRows rows) :=
  ⟨fun v hv => h.nm v (vsf_web_mem.mp hv), pl_web h.pl, by rw [web_len]; exact h.len⟩
theorem revR_eta {W : List Row} (hn : (vsf W).Nodup) : (vsf W).map (fun v => (v, (rdf W v).reverse)) = revR W := by
  have e : revR W = ((vsf W).map fun v => (v, rdf W v)).map fun r => (r.1, r.2.reverse) := by
    rw [rows_eta hn]
    rfl
  rw [e]
  exact (List.map_map (f := fun v => (v, rdf W v)) (g := fun r : Row => (r.1, r.2.reverse)) (l := vsf W)).symm
/-- a web's rounds are those of its rows, begun elsewhere -/
theorem web_isrot {rows : List Row} (v : Str) : ∃ X Y, rdf rows v = X ++ Y ∧ rdf (webRows rows) v = Y ++ X := by
  by_cases h : v ∈ vsf rows
  · obtain ⟨L, M, e1, e2⟩ := fl_perm (rdf rows v)
    exact ⟨L, M, e1, by rw [rdf_web h]; exact e2⟩
  · refine ⟨[], [], ?_, ?_⟩
    · have key : ∀ rows : List Row, v ∉ vsf rows → rdf rows v = [] := by
        intro rows
        induction rows with
        | nil => intro _; rfl
        | cons a t ih =>
          intro q
          rw [rdf_cons, if_neg (fun z => q (by rw [← z]; exact List.mem_cons_self))]
          exact ih fun z => q (List.mem_cons_of_mem _ z)
      rw [key rows h]; rfl
    · have key : ∀ rows : List Row, v ∉ vsf rows → rdf rows v = [] := by
        intro rows
        induction rows with
        | nil => intro _; rfl
        | cons a t ih =>
          intro q
          rw [rdf_cons, if_neg (fun z => q (by rw [← z]; exact List.mem_cons_self))]
          exact ih fun z => q (List.mem_cons_of_mem _ z)
      rw [key _ (fun z => h (vsf_web_mem.mp z))]; rfl
end Five
end
section
namespace Five
open PySem PySem.Spec PyProof.Rows L2
open PySem.W (Datum DatumOrd)
theorem fl_rot {l L M : List Str} (hn : l.Nodup) (e : l = L ++ M) : fl (M ++ L) = fl l := by
  cases hl : l with
  | nil =>
    rw [hl] at e
    have : L = [] ∧ M = [] := by simpa using e.symm
    rw [this.1, this.2]; rfl
  | cons x r =>
    have hne : l ≠ [] := by rw [hl]; simp
    rw [← hl]
    have hp : l.Perm (M ++ L) := by rw [e]; exact List.perm_append_comm
    have hne2 : M ++ L ≠ [] := fun q => hne (by rw [q] at hp; exact hp.eq_nil)
    obtain ⟨m, m1, m2⟩ : ∃ m, m ∈ l ∧ ∀ y ∈ l, ¬ y.cps.toList < m.cps.toList := ⟨_, by rw [hl]; exact minS_is r x⟩
    -- both begin with the least
    obtain ⟨A, B, e1, hA⟩ := mem_split m1
    have f1 : fl l = m :: B ++ A := by
      have h1 : l[A.length]? = some (m) := by rw [e1]; simp
      have h2 : ∀ i z, i < A.length → l[i]? = some z → z ≠ m := fun i z hi hz q => by
        rw [e1, List.getElem?_append_left hi, q] at hz
        exact hA (List.mem_of_getElem? hz)
      rw [fl_of hne m1 m2 h1 h2]
      conv => lhs; rw [e1]
      simp
    have m1' := hp.mem_iff.mp m1
    obtain ⟨A', B', e2, hA'⟩ := mem_split m1'
    have f2 : fl (M ++ L) = m :: B' ++ A' := by
      have h1 : (M ++ L)[A'.length]? = some (m) := by rw [e2]; simp
      have h2 : ∀ i z, i < A'.length → (M ++ L)[i]? = some z → z ≠ m := fun i z hi hz q => by
        rw [e2, List.getElem?_append_left hi, q] at hz
        exact hA' (List.mem_of_getElem? hz)
      rw [fl_of hne2 m1' (fun y hy => m2 y (hp.mem_iff.mpr hy)) h1 h2]
      conv => lhs; rw [e2]
      simp
    rw [f1, f2]
    -- l = L ++ M = A ++ m :: B, M ++ L = A' ++ m :: B'
    have hml : m ∈ L ++ M := by rw [← e]; exact m1
    have hB : m ∉ B := by
      rw [e1] at hn
      have := (List.nodup_append.mp hn).2.1
      exact (List.nodup_cons.mp this).1
    have hn2 : (L ++ M).Nodup := by rw [← e]; exact hn
    rcases List.mem_append.mp hml with q | q
    · obtain ⟨L1, L2, eL, hL1⟩ := mem_split q
      have hmM : m ∉ M := fun z => (List.nodup_append.mp hn2).2.2 m q m z rfl
      have z1 : A ++ m :: B = L1 ++ m :: (L2 ++ M) := by rw [← e1, e, eL]; simp
      obtain ⟨rfl, rfl⟩ := app_uniq z1 hA hB
      have z2 : A' ++ m :: B' = (M ++ A) ++ m :: L2 := by rw [← e2, eL]; simp
      have hB' : m ∉ B' := by
        have hn3 : (M ++ L).Nodup := hp.nodup_iff.mp hn
        rw [e2] at hn3
        exact (List.nodup_cons.mp (List.nodup_append.mp hn3).2.1).1
      obtain ⟨rfl, rfl⟩ := app_uniq z2 hA' hB'
      simp
    · obtain ⟨M1, M2, eM, hM1⟩ := mem_split q
      have z1 : A ++ m :: B = (L ++ M1) ++ m :: M2 := by rw [← e1, e, eM]; simp
      obtain ⟨rfl, rfl⟩ := app_uniq z1 hA hB
      have z2 : A' ++ m :: B' = M1 ++ m :: (B ++ L) := by rw [← e2, eM]; simp
      have hB' : m ∉ B' := by
        have hn3 : (M ++ L).Nodup := hp.nodup_iff.mp hn
        rw [e2] at hn3
        exact (List.nodup_cons.mp (List.nodup_append.mp hn3).2.1).1
      obtain ⟨rfl, rfl⟩ := app_uniq z2 hA' hB'
      simp
theorem web_rot {rows W : List Row} (h : Rot rows W) (hn : (vsf W).Nodup) (hr : ∀ v ∈ vsf W, (rdf W v).Nodup) : webRows rows = (srt (vsf W)).map fun v => (v, fl (rdf W v)) := by
  unfold webRows
  rw [srt_congr h.vs]
  refine List.map_congr_left fun v hv => ?_
  have hv' : v ∈ vsf W := srt_mem.mp hv
  obtain ⟨L, M, e1, e2⟩ := h.rd hn hv'
  rw [e2, fl_rot (hr v hv') e1]
end Five
end
section
namespace Five
open PySem PySem.Spec PyProof.Rows L2
/-! a face filled by a place tied to those round it -/
section
variable {α : Type} [DecidableEq α]
theorem nx_head {q o : α} {B : List α} : nx (q :: o :: B) q = o := by
  have := nx_app (A := ([] : List α)) (B := o :: B) (x := q) (by simp)
  simpa using this
theorem nx_one {q : α} : nx [q] q = q := by
  have := nx_app (A := ([] : List α)) (B := ([] : List α)) (x := q) (by simp)
  simpa using this
/-- the face that the new place n lies on, from q's step to it on: what is still to come is R, then back to s -/
structure Fan (vs : List α) (rd : α → List α) (n q : α) (s : α × α) (R : List (α × α)) : Prop where
  pl : Pl vs rd
  path : ∃ X, Path (fs rd) (q, n) (X ++ R) s
  nr : ∃ B, rd n = q :: B
  nn : n ∈ vs
  nd : R.Nodup
  at' : ∀ x ∈ R, x.2 ≠ n ∧ x.2 ∈ vs ∧ x.1 ∈ rd x.2 ∧ x.1 ≠ n
theorem Fan.skip {vs : List α} {rd : α → List α} {n q : α} {s x : α × α} {R : List (α × α)} (h : Fan vs rd n q s (x :: R)) : Fan vs rd n q s R := by
  obtain ⟨X, hX⟩ := h.path
  exact ⟨h.pl, ⟨X ++ [x], by rw [List.append_assoc]; exact hX⟩, h.nr, h.nn, (List.nodup_cons.mp h.nd).2, fun y hy => h.at' y (List.mem_cons_of_mem _ hy)⟩
theorem path_head {β : Type} {f : β → β} {s e : β} {r : List β} (h : Path f s r e) : f s = (r ++ [e]).headD e := by
  cases r with
  | nil => exact h
  | cons a r => exact h.1
theorem path_tail {β : Type} {f g : β → β} {s e t : β} {r : List β} (h : Path f s r e) (ht : g t = f s) (hc : ∀ x ∈ r, g x = f x) : Path g t r e := by
  cases r with
  | nil =>
    have h : f s = e := h
    show g t = e
    rw [ht, h]
  | cons a r =>
    obtain ⟨h1, h2⟩ := h
    exact ⟨by rw [ht]; exact h1, path_congr (fun x hx => (hc x hx).symm) h2⟩
theorem Fan.tie {vs : List α} {rd rd' : α → List α} {n q p o : α} {s : α × α} {R : List (α × α)} {B C D : List α} (h : Fan vs rd n q s ((p, o) :: R)) (hno : o ∉ rd n) (h1 : rd n = q :: B) (h2 : rd' n = q :: o :: B) (h3 : rd o = C ++ p :: D) (h4 : rd' o = C ++ p :: n :: D)
    (h5 : ∀ v ∈ vs, v ≠ n → v ≠ o → rd' v = rd v) : Fan vs rd' n q s R := by
  obtain ⟨X, hX⟩ := h.path
  obtain ⟨a1, a2, a3, a4⟩ := h.at' (p, o) List.mem_cons_self
  have a1 : o ≠ n := a1
  have a2 : o ∈ vs := a2
  have wf := h.pl.wf
  have hon : n ∉ rd o := fun w => hno (wf.ties o a2 n w).2.2
  have hp := path_app.mp hX
  have pl' : Pl vs rd' := Pl.chord (A := []) (B := B) (C := C) (D := D) h.pl h.nn a2 a1 hno (by simpa using h1) (by simpa using h2) h3 h4 h5 ⟨X, hp.1⟩
  obtain ⟨q1, q2, q3⟩ := nx_ins (A := C) (B := D) (z := p) (k := n) (by rw [← h3]; exact wf.rn o a2) (by rw [← h3]; exact hon)
  rw [← h4] at q1 q2 q3
  rw [← h3] at q2 q3
  have hR := (List.nodup_cons.mp h.nd)
  refine ⟨pl', ⟨[(n, o)], ?_⟩, ⟨_, h2⟩, h.nn, hR.2, fun y hy => ?_⟩
  · refine ⟨?_, path_tail (s := (p, o)) hp.2 ?_ fun x hx => ?_⟩
    · show (n, nx (rd' n) q) = (n, o)
      rw [h2, nx_head]
    · show (o, nx (rd' o) n) = (o, nx (rd o) p)
      rw [q2]
    · obtain ⟨b1, b2, b3, b4⟩ := h.at' x (List.mem_cons_of_mem _ hx)
      show (x.2, nx (rd' x.2) x.1) = (x.2, nx (rd x.2) x.1)
      by_cases e : x.2 = o
      · rw [e]
        rw [q3 x.1 (by rw [← e]; exact b3) (fun e2 => hR.1 (by rw [← e, ← e2]; exact hx))]
      · rw [h5 x.2 b2 b1 e]
  · obtain ⟨b1, b2, b3, b4⟩ := h.at' y (List.mem_cons_of_mem _ hy)
    refine ⟨b1, b2, ?_, b4⟩
    by_cases e : y.2 = o
    · rw [e, h4]
      have : y.1 ∈ C ++ p :: D := by rw [← h3, ← e]; exact b3
      simp at this ⊢
      rcases this with z | z | z
      · exact .inl z
      · exact .inr (.inl z)
      · exact .inr (.inr (.inr z))
    · rw [h5 y.2 b2 b1 e]; exact b3
/-- the first tie of the new place -/
theorem Fan.start {vs : List α} {rd rd' : α → List α} {n q p : α} {R : List (α × α)} {A B : List α} (h : Pl vs rd) (hn : n ∉ vs) (hq : q ∈ vs) (h1 : rd q = A ++ p :: B) (h2 : rd' q = A ++ p :: n :: B) (h3 : rd' n = [q]) (h4 : ∀ v ∈ vs, v ≠ q → rd' v = rd v)
    (hp : Path (fs rd) (p, q) R (p, q)) (hR : R.Nodup) (hpR : (p, q) ∉ R) (hd : ∀ x ∈ R, x ∈ darts vs rd) : Fan (vs ++ [n]) rd' n q (p, q) R := by
  have hnr : ∀ v ∈ vs, n ∉ rd v := fun v hv w => hn (h.wf.ties v hv n w).1
  have hqn : n ≠ q := fun e => hn (by rw [e]; exact hq)
  obtain ⟨q1, q2, q3⟩ := nx_ins (A := A) (B := B) (z := p) (k := n) (by rw [← h1]; exact h.wf.rn q hq) (by rw [← h1]; exact hnr q hq)
  rw [← h2] at q1 q2 q3
  rw [← h1] at q2 q3
  have hat : ∀ x ∈ R, x.2 ≠ n ∧ x.2 ∈ vs ∧ x.1 ∈ rd x.2 ∧ x.1 ≠ n := fun x hx => by
    obtain ⟨c1, c2⟩ := mem_darts.mp (hd x hx)
    obtain ⟨c3, c4, c5⟩ := h.wf.ties x.1 c1 x.2 c2
    exact ⟨fun e => hn (by rw [← e]; exact c3), c3, c5, fun e => hn (by rw [← e]; exact c1)⟩
  refine ⟨h.leaf (P := A ++ [p]) (S := B) hn hq h3 (by rw [h1]; simp) (by rw [h2]; simp) h4, ⟨[(n, q)], ?_⟩, ⟨[], h3⟩, by simp, hR, fun y hy => ?_⟩
  · refine ⟨?_, path_tail (s := (p, q)) hp ?_ fun x hx => ?_⟩
    · show (n, nx (rd' n) q) = (n, q)
      rw [h3, nx_one]
    · show (q, nx (rd' q) n) = (q, nx (rd q) p)
      rw [q2]
    · obtain ⟨b1, b2, b3, b4⟩ := hat x hx
      show (x.2, nx (rd' x.2) x.1) = (x.2, nx (rd x.2) x.1)
      by_cases e : x.2 = q
      · rw [e, q3 x.1 (by rw [← e]; exact b3) (fun e2 => hpR (by rw [← e, ← e2]; exact hx))]
      · rw [h4 x.2 b2 e]
  · obtain ⟨b1, b2, b3, b4⟩ := hat y hy
    refine ⟨b1, List.mem_append_left _ b2, ?_, b4⟩
    by_cases e : y.2 = q
    · rw [e, h2]
      have : y.1 ∈ A ++ p :: B := by rw [← h1, ← e]; exact b3
      simp at this ⊢
      rcases this with z | z | z
      · exact .inl z
      · exact .inr (.inl z)
      · exact .inr (.inr (.inr z))
    · rw [h4 y.2 b2 e]; exact b3
end
/-! rounds by names, each round its own list, changed in place -/
def kvM (as : List Addr) (W : List Row) : List (Key × V) := (as.zip W).map fun x => (Sum.inr x.2.1, .ref x.1)
structure GM (d : Addr) (as : List Addr) (H : Hp) (W : List Row) : Prop where
  dict : H d = some (.dK (kvM as W))
  lst : Paired (fun a r => H a = some (.lst (r.2.map V.str))) as W
  nd : as.Nodup
theorem kvM_cons (a : Addr) (as : List Addr) (r : Row) (W : List Row) : kvM (a :: as) (r :: W) = (Sum.inr r.1, .ref a) :: kvM as W := rfl
theorem kvM_pair {K : PySem.W.Frag} {G : Hp} : ∀ {as : List Addr} {W : List Row}, Paired (fun a r => G a = some (.lst (r.2.map V.str))) as W → Paired (RowKV K G) (kvM as W) W
  | _, _, .nil => .nil
  | _, _, .cons (a := a) (b := r) h t => .cons ⟨rfl, a, rfl, SqL.of h⟩ (kvM_pair t)
theorem kvM_snoc : ∀ {as : List Addr} {W : List Row} {a : Addr} {r : Row}, as.length = W.length → kvM (as ++ [a]) (W ++ [r]) = kvM as W ++ [(Sum.inr r.1, .ref a)]
  | [], [], _, _, _ => rfl
  | x :: as, y :: W, a, r, h => by
    rw [List.cons_append, List.cons_append, kvM_cons, kvM_cons, kvM_snoc (by simpa using h)]
    rfl
theorem kvM_len {as : List Addr} {W : List Row} (h : as.length = W.length) : (kvM as W).length = W.length := by
  unfold kvM
  rw [List.length_map, List.length_zip, h, Nat.min_self]
theorem kvM_setR (as : List Addr) (W : List Row) (v : Str) (l : List Str) : kvM as (setR W v l) = kvM as W := by
  induction as generalizing W with
  | nil => rfl
  | cons a as ih =>
    cases W with
    | nil => rfl
    | cons r W =>
      rw [setR_cons, kvM_cons, kvM_cons, ih]
      split <;> rfl
section
variable {K : PySem.W.Frag} {p d : Addr} {as : List Addr} {H H' : Hp} {W : List Row} {v : Str} {l : List Str}
theorem GM.len (h : GM d as H W) : as.length = W.length := Paired.length h.lst
theorem GM.rds (h : GM d as H W) : RdsAt K H d W := ⟨_, .inl h.dict, kvM_pair h.lst⟩
theorem GM.same (h : GM d as H W) (s : Same H H') : GM d as H' W := ⟨s _ _ h.dict, Paired.mapP h.lst fun _ _ q => s _ _ q, h.nd⟩
theorem paired_out {α β : Type} {R R' : α → β → Prop} : ∀ {as : List α} {W : List β}, Paired R as W → (∀ a r, a ∈ as → R a r → R' a r) → Paired R' as W
  | _, _, .nil, _ => .nil
  | _, _, .cons h t, f => .cons (f _ _ List.mem_cons_self h) (paired_out t fun a r ha => f a r (List.mem_cons_of_mem _ ha))
theorem GM.ne_d (h : GM d as H W) {a : Addr} (ha : a ∈ as) : a ≠ d := fun e => by
  obtain ⟨r, hr⟩ : ∃ r : Row, H a = some (.lst (r.2.map V.str)) := by
    have := h.lst
    clear h
    induction this with
    | nil => cases ha
    | cons q t ih =>
      rcases List.mem_cons.mp ha with e2 | e2
      · rw [e2]; exact ⟨_, q⟩
      · exact ih e2
  rw [e, h.dict] at hr
  cases hr
theorem GM.al (h : GM d as H W) {a : Addr} (ha : a ∈ as) : ∃ r : Row, H a = some (.lst (r.2.map V.str)) := by
  have := h.lst
  clear h
  induction this with
  | nil => cases ha
  | cons q t ih =>
    rcases List.mem_cons.mp ha with e2 | e2
    · rw [e2]; exact ⟨_, q⟩
    · exact ih e2
theorem GM.ne_p (h : GM d as H W) (pot : PotAt H p) {a : Addr} (ha : a ∈ as) : a ≠ p := fun e => by
  obtain ⟨r, hr⟩ := h.al ha
  obtain ⟨x, y, hx, _⟩ := pot
  rw [e, hx] at hr
  have h2 : [V.int x, V.int y] = r.2.map V.str := by injection hr with hr; injection hr
  cases q : r.2 with
  | nil => rw [q] at h2; cases h2
  | cons z zs => rw [q] at h2; cases h2
theorem GM.d_ne_p (h : GM d as H W) (pot : PotAt H p) : d ≠ p := fun e => by
  obtain ⟨x, y, hx, _⟩ := pot
  have := h.dict
  rw [e, hx] at this
  cases this
theorem GM.dr (h : GM d as H W) (pot : PotAt H p) (s : Dr p H H') : GM d as H' W := ⟨s.get (h.d_ne_p pot) h.dict, paired_out h.lst fun a r ha q => s.get (h.ne_p pot ha) q, h.nd⟩
theorem paired_gm {G : Hp} {a0 : Addr} : ∀ {as : List Addr} {W : List Row}, Paired (fun a r => G a = some (.lst (r.2.map V.str))) as W → as.Nodup → (vsf W).Nodup → ∀ i : Nat, as[i]? = some a0 → (W[i]?).map (·.1) = some v → Paired (fun a r => upd G a0 (.lst (l.map V.str)) a = some (.lst (r.2.map V.str))) as (setR W v l)
  | _, _, .nil, _, _, i, h, _ => by simp at h
  | _, _, .cons (a := a) (b := r) h t, hn, hv, 0, h1, h2 => by
    have e1 : a = a0 := by simpa using h1
    have e2 : r.1 = v := by simpa using h2
    subst e1
    subst e2
    rw [setR_cons, if_pos rfl]
    obtain ⟨n1, n2⟩ := List.nodup_cons.mp hn
    have hv : (r.1 :: vsf _).Nodup := hv
    obtain ⟨v1, v2⟩ := List.nodup_cons.mp hv
    refine .cons upd_same ?_
    rename_i as' W' _
    have e3 : setR W' r.1 l = W' := by
      unfold setR
      conv => rhs; rw [← List.map_id W']
      refine List.map_congr_left fun x hx => ?_
      rw [if_neg fun e => v1 (by rw [← e]; exact List.mem_map.mpr ⟨x, hx, rfl⟩)]
      rfl
    rw [e3]
    exact paired_out t fun b x hb q => by rw [upd_ne fun e => n1 (by rw [← e]; exact hb)]; exact q
  | _, _, .cons (a := a) (b := r) h t, hn, hv, i + 1, h1, h2 => by
    rename_i as' W'
    obtain ⟨n1, n2⟩ := List.nodup_cons.mp hn
    have hv : (r.1 :: vsf _).Nodup := hv
    obtain ⟨v1, v2⟩ := List.nodup_cons.mp hv
    have h1' : as'[i]? = some a0 := by simpa using h1
    have h2' : (W'[i]?).map (·.1) = some v := by simpa using h2
    have ha0 : a0 ∈ as' := List.mem_of_getElem? h1'
    have hvm : v ∈ vsf W' := by
      cases q : W'[i]? with
      | none => rw [q] at h2'; cases h2'
      | some z =>
        rw [q] at h2'
        have : z.1 = v := by simpa using h2'
        rw [← this]
        exact List.mem_map.mpr ⟨z, List.mem_of_getElem? q, rfl⟩
    rw [setR_cons, if_neg fun e => v1 (by rw [e]; exact hvm)]
    exact .cons (by rw [upd_ne fun e => n1 (by rw [e]; exact ha0)]; exact h) (paired_gm t n2 v2 i h1' h2')
theorem GM.get (h : GM d as H W) (hn : (vsf W).Nodup) (hv : v ∈ vsf W) : ∃ a, a ∈ as ∧ H a = some (.lst ((rdf W v).map V.str)) ∧ (∀ {K : PySem.W.Frag} (H' : Hp), Same H H' → DGet H' d (.str v) (some (.ref a))) ∧ ∀ l : List Str, GM d as (upd H a (.lst (l.map V.str))) (setR W v l) := by
  obtain ⟨r, hr, e⟩ := List.mem_map.mp hv
  obtain ⟨i, hi⟩ := List.getElem?_of_mem hr
  have hlen := h.len
  have hil : i < as.length := by rw [hlen]; exact (List.getElem?_eq_some_iff.mp hi).1
  obtain ⟨r', hr', q⟩ := paired_get h.lst i _ (List.getElem?_eq_getElem hil)
  rw [hi] at hr'
  cases hr'
  have e : r.1 = v := e
  subst e
  have ha := List.getElem_mem hil
  refine ⟨as[i], ha, by rw [rdf_of hn hr]; exact q, fun {K} H' s => ?_, fun l => ⟨?_, paired_gm h.lst h.nd hn i (List.getElem?_eq_getElem hil) (by rw [hi]; rfl), h.nd⟩⟩
  · refine .inl ⟨kvM as W, Sum.inr r.1, .inl (s _ _ h.dict), rfl, ?_⟩
    have hk : (kvM as W)[i]? = some (Sum.inr r.1, .ref as[i]) := by
      unfold kvM
      rw [List.getElem?_map, List.getElem?_zip_eq_some (z := (as[i], r)).mpr ⟨List.getElem?_eq_getElem hil, hi⟩]
      rfl
    exact (valV_at (rds_keys (kvM_pair (K := K) h.lst)) hn hk).symm
  · rw [kvM_setR, upd_ne (h.ne_d ha).symm]
    exact h.dict
theorem GM.snoc {c : Addr} (h : GM d as H W) (hc : H c = none) (hv : v ∉ vsf W) : GM d (as ++ [c]) (upd (upd H c (.lst [])) d (.dK (putK (kvM as W) (Sum.inr v) (.ref c)))) (W ++ [(v, [])]) := by
  have ncd : c ≠ d := fun e => by rw [e, h.dict] at hc; cases hc
  have hca : c ∉ as := fun q => by
    obtain ⟨r, hr⟩ := h.al q
    rw [hr] at hc; cases hc
  refine ⟨?_, paired_snoc (paired_out h.lst fun a r ha q => ?_) ?_, List.nodup_append.mpr ⟨h.nd, by simp, fun a ha b hb e => hca (by rw [← List.mem_singleton.mp hb, ← e]; exact ha)⟩⟩
  · rw [upd_same, kvM_snoc h.len]
    have hk : ¬ ((kvM as W).any fun kv => decide (kv.1 = Sum.inr v)) = true := fun q => hv ((any_key (kvM_pair (K := []) (G := H) h.lst)).mp q)
    unfold putK
    rw [if_neg hk]
  · rw [upd_ne (h.ne_d ha), upd_ne fun e => hca (by rw [← e]; exact ha)]
    exact q
  · show upd _ d _ c = _
    rw [upd_ne ncd, upd_same]
    rfl
end
/-- only the dict, its lists and the pot have changed -/
structure D3 (p d : Addr) (as as' : List Addr) (H H' : Hp) : Prop where
  s : Same (wo H (d :: p :: as)) H'
  al : ∀ b, H b ≠ none → H' b ≠ none
  nw : ∀ a ∈ as', a ∈ as ∨ H a = none
  sub : ∀ a ∈ as, a ∈ as'
  pot : PotAt H' p
section
variable {p d : Addr} {as as' as2 : List Addr} {H H1 H2 : Hp} {q : Addr} {o : HO}
theorem D3.refl (h : PotAt H p) : D3 p d as as H H := ⟨wo_same, fun _ z => z, fun _ z => .inl z, fun _ z => z, h⟩
theorem D3.get (a : D3 p d as as' H H1) (n1 : q ≠ d) (n2 : q ≠ p) (n3 : q ∉ as) (h : H q = some o) : H1 q = some o := a.s _ _ (by rw [wo_out (by simp [n1, n2, n3])]; exact h)
theorem D3.trans (a : D3 p d as as' H H1) (b : D3 p d as' as2 H1 H2) : D3 p d as as2 H H2 := by
  refine ⟨fun x o e => ?_, fun x z => b.al x (a.al x z), fun x hx => ?_, fun x hx => b.sub x (a.sub x hx), b.pot⟩
  · obtain ⟨h1, h2⟩ := wo_get e
    simp at h2
    refine b.get h2.1 h2.2.1 (fun hx => ?_) (a.s _ _ e)
    rcases a.nw x hx with z | z
    · exact h2.2.2 z
    · rw [z] at h1; cases h1
  · rcases b.nw x hx with z | z
    · exact a.nw x z
    · by_cases e : H x = none
      · exact .inr e
      · exact absurd z (a.al x e)
theorem D3.same (a : D3 p d as as' H H1) (b : Same H1 H2) : D3 p d as as' H H2 := by
  refine ⟨a.s.trans b, fun x z e => ?_, a.nw, a.sub, a.pot.same b⟩
  have := a.al x z
  cases q : H1 x with
  | none => exact this q
  | some o =>
    rw [b _ _ q] at e
    cases e
theorem D3.dr (a : D3 p d as as' H H1) (b : Dr p H1 H2) : D3 p d as as' H H2 := by
  refine ⟨fun x o e => ?_, fun x z e => ?_, a.nw, a.sub, b.pot⟩
  · obtain ⟨h1, h2⟩ := wo_get e
    simp at h2
    exact b.get h2.2.1 (a.s _ _ e)
  · by_cases n : x = p
    · rw [n] at e; exact b.pot.ne e
    · cases q : H1 x with
      | none => exact a.al x z q
      | some o => rw [b.get n q] at e; cases e
/-- seen from a heap ahead of the dict -/
theorem D3.of {H0 : Hp} (a : D3 p d as as' H H1) (h0 : Dr p H0 H) (hd : H0 d = none) (has : ∀ x ∈ as, H0 x = none) : Dr p H0 H1 ∧ ∀ x ∈ as', H0 x = none := by
  refine ⟨⟨fun b o e => ?_, a.pot⟩, fun x hx => ?_⟩
  · obtain ⟨h1, h2⟩ := wo_get e
    have n2 : b ≠ p := by simpa using h2
    exact a.get (ne_of_none h1 hd) n2 (fun q => by rw [has b q] at h1; cases h1) (h0.s _ _ e)
  · rcases a.nw x hx with z | z
    · exact has x z
    · exact h0.free z
end
end Five
end
section
namespace Five
open PySem PySem.Spec PyProof.Rows L2
section
variable {α : Type} [DecidableEq α]
/-- a face that is filled from its first step on: what is still to come is R -/
structure Fil (vs : List α) (rd : α → List α) (a o : α) (R : List (α × α)) : Prop where
  pl : Pl vs rd
  path : ∃ X, Path (fs rd) (a, o) (X ++ R) (a, o)
  oo : o ∈ vs
  ao : a ∈ rd o
  nd : R.Nodup
  noa : (a, o) ∉ R
  at' : ∀ x ∈ R, x.2 ∈ vs ∧ x.1 ∈ rd x.2
theorem Fil.skip {vs : List α} {rd : α → List α} {a o : α} {x : α × α} {R : List (α × α)} (h : Fil vs rd a o (x :: R)) : Fil vs rd a o R := by
  obtain ⟨X, hX⟩ := h.path
  exact ⟨h.pl, ⟨X ++ [x], by rw [List.append_assoc]; exact hX⟩, h.oo, h.ao, (List.nodup_cons.mp h.nd).2, fun q => h.noa (List.mem_cons_of_mem _ q), fun y hy => h.at' y (List.mem_cons_of_mem _ hy)⟩
theorem ins_mem {A B : List α} {z k x : α} (h : x ∈ A ++ z :: B) : x ∈ A ++ z :: k :: B := by
  simp at h ⊢
  rcases h with q | q | q
  · exact .inl q
  · exact .inr (.inl q)
  · exact .inr (.inr (.inr q))
theorem Fil.tie {vs : List α} {rd rd' : α → List α} {a o p q : α} {R : List (α × α)} {A B C D : List α} (h : Fil vs rd a o ((p, q) :: R)) (hqo : q ≠ o) (hno : q ∉ rd o) (h1 : rd o = A ++ a :: B) (h2 : rd' o = A ++ a :: q :: B) (h3 : rd q = C ++ p :: D) (h4 : rd' q = C ++ p :: o :: D)
    (h5 : ∀ v ∈ vs, v ≠ o → v ≠ q → rd' v = rd v) : Fil vs rd' a o R := by
  obtain ⟨X, hX⟩ := h.path
  obtain ⟨a2, a3⟩ := h.at' (p, q) List.mem_cons_self
  have a2 : q ∈ vs := a2
  have wf := h.pl.wf
  have hon : o ∉ rd q := fun w => hno (wf.ties q a2 o w).2.2
  have hp := path_app.mp hX
  have pl' : Pl vs rd' := Pl.chord (A := A) (B := B) (C := C) (D := D) h.pl h.oo a2 hqo hno h1 h2 h3 h4 h5 ⟨X, hp.1⟩
  obtain ⟨q1, q2, q3⟩ := nx_ins (A := C) (B := D) (z := p) (k := o) (by rw [← h3]; exact wf.rn q a2) (by rw [← h3]; exact hon)
  rw [← h4] at q1 q2 q3
  rw [← h3] at q2 q3
  obtain ⟨r1, r2, r3⟩ := nx_ins (A := A) (B := B) (z := a) (k := q) (by rw [← h1]; exact wf.rn o h.oo) (by rw [← h1]; exact hno)
  rw [← h2] at r1 r2 r3
  rw [← h1] at r2 r3
  have hR := (List.nodup_cons.mp h.nd)
  have hna : (a, o) ∉ R := fun z => h.noa (List.mem_cons_of_mem _ z)
  refine ⟨pl', ⟨[(o, q)], ?_⟩, h.oo, ?_, hR.2, hna, fun y hy => ?_⟩
  · refine ⟨?_, path_tail (s := (p, q)) hp.2 ?_ fun x hx => ?_⟩
    · show (o, nx (rd' o) a) = (o, q)
      rw [r1]
    · show (q, nx (rd' q) o) = (q, nx (rd q) p)
      rw [q2]
    · obtain ⟨b2, b3⟩ := h.at' x (List.mem_cons_of_mem _ hx)
      show (x.2, nx (rd' x.2) x.1) = (x.2, nx (rd x.2) x.1)
      by_cases e : x.2 = q
      · rw [e, q3 x.1 (by rw [← e]; exact b3) (fun e2 => hR.1 (by rw [← e, ← e2]; exact hx))]
      · by_cases e3 : x.2 = o
        · rw [e3, r3 x.1 (by rw [← e3]; exact b3) (fun e2 => hna (by rw [← e3, ← e2]; exact hx))]
        · rw [h5 x.2 b2 e3 e]
  · rw [h2]
    simp
  · obtain ⟨b2, b3⟩ := h.at' y (List.mem_cons_of_mem _ hy)
    refine ⟨b2, ?_⟩
    by_cases e : y.2 = q
    · rw [e, h4]
      exact ins_mem (by rw [← h3, ← e]; exact b3)
    · by_cases e3 : y.2 = o
      · rw [e3, h2]
        exact ins_mem (by rw [← h1, ← e3]; exact b3)
      · rw [h5 y.2 b2 e3 e]; exact b3
theorem Fil.start {vs : List α} {rd : α → List α} {a o : α} {X R : List (α × α)} (h : Pl vs rd) (hd : ∀ x ∈ (a, o) :: (X ++ R), x ∈ darts vs rd) (hp : Path (fs rd) (a, o) (X ++ R) (a, o)) (hn : ((a, o) :: (X ++ R)).Nodup) : Fil vs rd a o R := by
  obtain ⟨n1, n2⟩ := List.nodup_cons.mp hn
  have dt : ∀ x ∈ darts vs rd, x.2 ∈ vs ∧ x.1 ∈ rd x.2 := fun x hx => by
    obtain ⟨c1, c2⟩ := mem_darts.mp hx
    obtain ⟨c3, c4, c5⟩ := h.wf.ties x.1 c1 x.2 c2
    exact ⟨c3, c5⟩
  obtain ⟨d1, d2⟩ := dt (a, o) (hd _ List.mem_cons_self)
  exact ⟨h, ⟨X, hp⟩, d1, d2, (List.nodup_append.mp n2).2.1, fun z => n1 (List.mem_append_right _ z), fun x hx => dt x (hd x (List.mem_cons_of_mem _ (List.mem_append_right _ hx)))⟩
end
theorem GD.repot {K : PySem.W.Frag} {p p2 d : Addr} {H : Hp} {W : List Row} (h : GD K p d H W) (pot : PotAt H p2) (n : d ≠ p2) : GD K p2 d H W := by
  obtain ⟨kvs, h1, h2⟩ := h
  obtain ⟨x, y, hp, _⟩ := pot
  refine ⟨kvs, h1, Paired.mapP h2 fun kv r ⟨e, a, e2, q⟩ => ⟨e, a, e2, ?_⟩⟩
  rcases q with q | q
  · left
    rcases q with q | ⟨o, q⟩
    · obtain ⟨q1, q2⟩ := wo_get q
      have na : a ≠ p2 := fun e => by
        rw [e, hp] at q1
        have q1 := HO.lst.inj (Option.some.inj q1)
        cases hr : r.2 with
        | nil => rw [hr] at q1; cases q1
        | cons z t => rw [hr] at q1; cases q1
      have nd : a ≠ d := fun e => q2 (by rw [e]; simp)
      exact .inl (by rw [wo_out (by simp [na, nd])]; exact q1)
    · obtain ⟨q1, q2⟩ := wo_get q
      have na : a ≠ p2 := fun e => by rw [e, hp] at q1; cases q1
      have nd : a ≠ d := fun e => q2 (by rw [e]; simp)
      exact .inr ⟨o, by rw [wo_out (by simp [na, nd])]; exact q1⟩
  · exact .inr q
end Five
end
section
namespace Five
open PySem PySem.Spec PyProof.Rows L2
/-! a web all of whose faces have three steps -/
def triF (vs : List Nat) (rd : Nat → List Nat) : List (List (Nat × Nat)) := (darts vs rd).filterMap fun s => if s.1 < (fs rd s).1 ∧ s.1 < (fs rd (fs rd s)).1 then some [s, fs rd s, fs rd (fs rd s)] else none
def iterN (f : Nat → Nat) : Nat → Nat → Nat
  | 0, v => v
  | n + 1, v => iterN f n (f v)
section
variable {vs : List Nat} {rd : Nat → List Nat}
theorem tri_mem (wf : Wf vs rd) (three : ∀ s ∈ darts vs rd, fs rd (fs rd (fs rd s)) = s) {x : Nat × Nat} : x ∈ (triF vs rd).flatten ↔ x ∈ darts vs rd := by
  constructor
  · intro h
    obtain ⟨c, hc, hx⟩ := List.mem_flatten.mp h
    obtain ⟨s, hs, e⟩ := List.mem_filterMap.mp hc
    have h1 := wf.fs_mem hs
    have h2 := wf.fs_mem h1
    split at e
    · cases e
      simp only [List.mem_cons, List.not_mem_nil, or_false] at hx
      rcases hx with q | q | q <;> rw [q] <;> assumption
    · cases e
  · intro hx
    have h1 := wf.fs_mem hx
    have h2 := wf.fs_mem h1
    have t0 := three x hx
    have ne : ∀ y ∈ darts vs rd, y.1 ≠ (fs rd y).1 := fun y hy => by
      obtain ⟨c1, c2⟩ := mem_darts.mp hy
      exact fun e => (wf.ties _ c1 _ c2).2.1 e.symm
    have n0 := ne x hx
    have n1 := ne _ h1
    have n2 := ne _ h2
    rw [t0] at n2
    have put : ∀ s ∈ darts vs rd, s.1 < (fs rd s).1 → s.1 < (fs rd (fs rd s)).1 → x ∈ [s, fs rd s, fs rd (fs rd s)] → x ∈ (triF vs rd).flatten := fun s hs a b c =>
      List.mem_flatten.mpr ⟨_, List.mem_filterMap.mpr ⟨s, hs, if_pos ⟨a, b⟩⟩, c⟩
    by_cases c1 : x.1 < (fs rd x).1 ∧ x.1 < (fs rd (fs rd x)).1
    · exact put x hx c1.1 c1.2 (by simp)
    · by_cases c2 : (fs rd x).1 < (fs rd (fs rd x)).1
      · exact put _ h1 c2 (by rw [t0]; omega) (by rw [t0]; simp)
      · exact put _ h2 (by rw [t0]; omega) (by rw [t0]; omega) (by rw [t0]; simp)
theorem tri_nodup (wf : Wf vs rd) (three : ∀ s ∈ darts vs rd, fs rd (fs rd (fs rd s)) = s) : (triF vs rd).flatten.Nodup := by
  have hd : (darts vs rd).Pairwise (· ≠ ·) := darts_nodup wf.nd wf.rn
  refine List.pairwise_flatten.mpr ⟨fun c hc => ?_, ?_⟩
  · obtain ⟨s, hs, e⟩ := List.mem_filterMap.mp hc
    split at e
    · next h =>
      cases e
      have n1 : s ≠ fs rd s := fun e => by have := congrArg Prod.fst e; omega
      have n2 : s ≠ fs rd (fs rd s) := fun e => by have := congrArg Prod.fst e; omega
      have n3 : fs rd s ≠ fs rd (fs rd s) := fun e => by
        have h1 := three s hs
        rw [← e] at h1
        exact n2 (by rw [← e]; exact h1.symm.trans e.symm |>.trans rfl)
      simp [n1, n2, n3]
    · cases e
  · unfold triF
    refine List.pairwise_filterMap.mpr (List.Pairwise.imp_of_mem (fun {s t} hs ht (q : s ≠ t) => ?_) hd)
    intro a ha b hb x hx y hy exy
    split at ha
    · next h =>
      split at hb
      · next h' =>
        cases ha
        cases hb
        subst exy
        have ts := three s hs
        have tt := three t ht
        have key : t = s ∨ t = fs rd s ∨ t = fs rd (fs rd s) := by
          simp only [List.mem_cons, List.not_mem_nil, or_false] at hx hy
          rcases hy with e | e | e
          · rw [e] at hx; exact hx
          · rcases hx with e2 | e2 | e2
            · exact .inr (.inr (by rw [← tt, ← e, e2]))
            · exact .inl (by rw [← tt, ← e, e2, ts])
            · exact .inr (.inl (by rw [← tt, ← e, e2, ts]))
          · rcases hx with e2 | e2 | e2
            · exact .inr (.inl (by rw [← tt, ← e, e2]))
            · exact .inr (.inr (by rw [← tt, ← e, e2]))
            · exact .inl (by rw [← tt, ← e, e2, ts])
        rcases key with e | e | e
        · exact q e.symm
        · have := h'.2
          rw [e, ts] at this
          have := h.1
          omega
        · have := h'.1
          rw [e, ts] at this
          have := h.2
          omega
      · cases hb
    · cases ha
theorem tri_fd (wf : Wf vs rd) (three : ∀ s ∈ darts vs rd, fs rd (fs rd (fs rd s)) = s) : FD vs rd (triF vs rd) := by
  refine ⟨perm_of_mem (tri_nodup wf three) (darts_nodup wf.nd wf.rn) fun x => tri_mem wf three, fun c hc => ?_⟩
  obtain ⟨s, hs, e⟩ := List.mem_filterMap.mp hc
  split at e
  · cases e
    exact ⟨rfl, rfl, three s hs⟩
  · cases e
theorem flat3 {β : Type} : ∀ {cs : List (List β)}, (∀ c ∈ cs, c.length = 3) → cs.flatten.length = 3 * cs.length
  | [], _ => rfl
  | c :: r, h => by
    rw [List.flatten_cons, List.length_append, h c List.mem_cons_self, flat3 fun x hx => h x (List.mem_cons_of_mem _ hx), List.length_cons]
    omega
theorem tri_pl (f : Nat → Nat) (n : Nat) (h0 : 0 ∈ vs) (wf : Wf vs rd) (three : ∀ s ∈ darts vs rd, fs rd (fs rd (fs rd s)) = s)
    (hup : ∀ v ∈ vs, v = 0 ∨ f v ∈ rd v) (h00 : f 0 = 0) (top : ∀ v ∈ vs, iterN f n v = 0) (eu : deg rd vs + 12 = 6 * vs.length) (lo : nlone rd vs = 0) : Pl vs rd := by
  have hin : ∀ v ∈ vs, f v ∈ vs := fun v hv => by
    rcases hup v hv with e | e
    · rw [e, h00]; exact h0
    · exact (wf.ties v hv _ e).1
  have hto : ∀ (S : Nat → Prop), (∀ v u, v ∈ vs → S v → u ∈ rd v → S u) → ∀ n v, v ∈ vs → (S v ↔ S (iterN f n v)) := by
    intro S hS n
    induction n with
    | zero => exact fun v _ => Iff.rfl
    | succ n ih =>
      intro v hv
      refine Iff.trans ?_ (ih (f v) (hin v hv))
      rcases hup v hv with e | e
      · rw [e, h00]
      · exact ⟨fun q => hS v _ hv q e, fun q => hS _ v (hin v hv) q (wf.ties v hv _ e).2.2⟩
  have fd := tri_fd wf three
  have len3 : ∀ c ∈ triF vs rd, c.length = 3 ∧ ∃ s ∈ c, s.1 ∈ vs := fun c hc => by
    obtain ⟨s, hs, e⟩ := List.mem_filterMap.mp hc
    split at e
    · cases e
      exact ⟨rfl, s, by simp, (mem_darts.mp hs).1⟩
    · cases e
  refine ⟨wf, triF vs rd, [vs], fd, ⟨by simp, fun c hc => ?_, fun c hc => ?_⟩, fun c hc => ?_⟩
  · rw [List.mem_singleton.mp hc]
    exact fun v hv u hu => (wf.ties v hv u hu).1
  · rw [List.mem_singleton.mp hc]
    refine ⟨fun e => (by rw [e] at h0; cases h0), fun S h v hv sv u hu => ?_⟩
    have h1 := (hto S h n v hv).mp sv
    rw [top v hv, ← top u hu] at h1
    exact (hto S h n u hu).mpr h1
  · rw [List.mem_singleton.mp hc]
    have e1 : nfc (triF vs rd) vs = (triF vs rd).length := List.countP_eq_length.mpr fun c hc => by
      obtain ⟨_, s, hs, hv⟩ := len3 c hc
      exact any_yes hs hv
    have e2 := fd.perm.length_eq
    rw [flat3 fun c hc => (len3 c hc).1, darts_deg] at e2
    rw [e1, lo]
    omega
end
/-! two caps and rows between them -/
def capA (m j k : Nat) : Nat := 2 + m * j + k
def capN (m L i : Nat) : List Nat :=
  if i = 0 then (List.range m).map (capA m 0)
  else if i = 1 then ((List.range m).map (capA m (L - 1))).reverse
  else [capA m ((i - 2) / m) (((i - 2) % m + 1) % m)] ++ (if (i - 2) / m = 0 then [0] else [capA m ((i - 2) / m - 1) (((i - 2) % m + 1) % m), capA m ((i - 2) / m - 1) ((i - 2) % m)])
    ++ [capA m ((i - 2) / m) (((i - 2) % m + m - 1) % m)] ++ (if (i - 2) / m + 1 < L then [capA m ((i - 2) / m + 1) (((i - 2) % m + m - 1) % m), capA m ((i - 2) / m + 1) ((i - 2) % m)] else [1])
def capU (m L i : Nat) : Nat := if i = 0 then 0 else if i = 1 then capA m (L - 1) 0 else if i < 2 + m then 0 else i - m
abbrev capS : List (Nat × Nat) := [(5, 2), (5, 3), (6, 2), (6, 3), (7, 2), (7, 3), (5, 6), (6, 5), (7, 5), (6, 6)]
theorem cap_ties : ∀ x ∈ capS, ∀ v ∈ List.range (2 + x.1 * x.2), ∀ u ∈ capN x.1 x.2 v, u < 2 + x.1 * x.2 ∧ u ≠ v ∧ v ∈ capN x.1 x.2 u := by decide +kernel
theorem cap_rn : ∀ x ∈ capS, ∀ v ∈ List.range (2 + x.1 * x.2), (capN x.1 x.2 v).Nodup := by decide +kernel
theorem cap_three : ∀ x ∈ capS, ∀ s ∈ darts (List.range (2 + x.1 * x.2)) (capN x.1 x.2), fs (capN x.1 x.2) (fs (capN x.1 x.2) (fs (capN x.1 x.2) s)) = s := by decide +kernel
theorem cap_up : ∀ x ∈ capS, ∀ v ∈ List.range (2 + x.1 * x.2), v = 0 ∨ capU x.1 x.2 v ∈ capN x.1 x.2 v := by decide +kernel
theorem cap_top : ∀ x ∈ capS, ∀ v ∈ List.range (2 + x.1 * x.2), iterN (capU x.1 x.2) 8 v = 0 := by decide +kernel
theorem cap_eu : ∀ x ∈ capS, deg (capN x.1 x.2) (List.range (2 + x.1 * x.2)) + 12 = 6 * (List.range (2 + x.1 * x.2)).length := by decide +kernel
theorem cap_lo : ∀ x ∈ capS, nlone (capN x.1 x.2) (List.range (2 + x.1 * x.2)) = 0 := by decide +kernel
theorem cap_pl {m L : Nat} (h : (m, L) ∈ capS) : Pl (List.range (2 + m * L)) (capN m L) :=
  tri_pl (capU m L) 8 (List.mem_range.mpr (by omega)) ⟨List.nodup_range, cap_rn _ h, fun v hv u hu => by
    obtain ⟨a, b, c⟩ := cap_ties _ h v hv u hu
    exact ⟨List.mem_range.mpr a, b, c⟩⟩ (cap_three _ h) (cap_up _ h) rfl (cap_top _ h) (cap_eu _ h) (cap_lo _ h)
/-- with names -/
def capW (g : Nat → Str) (m L n : Nat) : List Row := (List.range n).map fun i => (g i, (capN m L i).map g)
theorem vsf_cap (g : Nat → Str) (m L n : Nat) : vsf (capW g m L n) = (List.range n).map g := by
  unfold vsf capW
  rw [List.map_map]
  rfl
theorem capW_succ (g : Nat → Str) (m L n : Nat) : capW g m L (n + 1) = capW g m L n ++ [(g n, (capN m L n).map g)] := by
  unfold capW
  rw [List.range_succ, List.map_append]
  rfl
theorem capW_len (g : Nat → Str) (m L n : Nat) : (capW g m L n).length = n := by
  unfold capW
  rw [List.length_map, List.length_range]
theorem cap_w {g : Nat → Str} {m L : Nat} (h : (m, L) ∈ capS) (hg : ∀ i < 2 + m * L, ∀ j < 2 + m * L, g i = g j → i = j) : Pl (vsf (capW g m L (2 + m * L))) (rdf (capW g m L (2 + m * L))) := by
  have pl := cap_pl h
  have hn : (vsf (capW g m L (2 + m * L))).Nodup := by
    rw [vsf_cap]
    exact List.pairwise_map.mpr (List.Pairwise.imp_of_mem (fun {a b} ha hb (q : a ≠ b) => fun e => q (hg a (List.mem_range.mp ha) b (List.mem_range.mp hb) e)) (show (List.range (2 + m * L)).Pairwise (· ≠ ·) from List.nodup_range))
  refine Pl.named g pl (fun i hi j hj e => hg i (List.mem_range.mp hi) j (List.mem_range.mp hj) e) (by rw [vsf_cap]) fun v hv => ⟨[], (capN m L v).map g, rfl, ?_⟩
  rw [List.append_nil]
  exact rdf_of hn (List.mem_map.mpr ⟨v, hv, rfl⟩)
end Five
end
section
namespace Five
open PySem PySem.Spec PyProof.Rows L2
/-! two rings, a place within and one without -/
def ringN (m i : Nat) : List Nat :=
  if i < m then [2 * m, (i + m - 1) % m, m + i, m + (i + 1) % m, (i + 1) % m]
  else if i < 2 * m then [2 * m + 1, m + (i - m + 1) % m, i - m, (i - m + m - 1) % m, m + (i - m + m - 1) % m]
  else if i = 2 * m then List.range m
  else ((List.range m).map fun k => m + k).reverse
def ringU (m i : Nat) : Nat := if i < m then i - 1 else if i < 2 * m then i - m else if i = 2 * m then 0 else m
abbrev ringS : List Nat := [3, 4, 5, 6, 7]
theorem ring_ties : ∀ m ∈ ringS, ∀ v ∈ List.range (2 * m + 2), ∀ u ∈ ringN m v, u < 2 * m + 2 ∧ u ≠ v ∧ v ∈ ringN m u := by decide +kernel
theorem ring_rn : ∀ m ∈ ringS, ∀ v ∈ List.range (2 * m + 2), (ringN m v).Nodup := by decide +kernel
theorem ring_three : ∀ m ∈ ringS, ∀ s ∈ darts (List.range (2 * m + 2)) (ringN m), fs (ringN m) (fs (ringN m) (fs (ringN m) s)) = s := by decide +kernel
theorem ring_up : ∀ m ∈ ringS, ∀ v ∈ List.range (2 * m + 2), v = 0 ∨ ringU m v ∈ ringN m v := by decide +kernel
theorem ring_top : ∀ m ∈ ringS, ∀ v ∈ List.range (2 * m + 2), iterN (ringU m) 8 v = 0 := by decide +kernel
theorem ring_zero : ∀ m ∈ ringS, ringU m 0 = 0 := by decide +kernel
theorem ring_eu : ∀ m ∈ ringS, deg (ringN m) (List.range (2 * m + 2)) + 12 = 6 * (List.range (2 * m + 2)).length := by decide +kernel
theorem ring_lo : ∀ m ∈ ringS, nlone (ringN m) (List.range (2 * m + 2)) = 0 := by decide +kernel
theorem ring_pl {m : Nat} (h : m ∈ ringS) : Pl (List.range (2 * m + 2)) (ringN m) :=
  tri_pl (ringU m) 8 (List.mem_range.mpr (by omega)) ⟨List.nodup_range, ring_rn _ h, fun v hv u hu => by
    obtain ⟨a, b, c⟩ := ring_ties _ h v hv u hu
    exact ⟨List.mem_range.mpr a, b, c⟩⟩ (ring_three _ h) (ring_up _ h) (ring_zero _ h) (ring_top _ h) (ring_eu _ h) (ring_lo _ h)
def rgI (m i : Nat) : List Nat := (List.range i).flatMap fun k => [k, m + k]
def rgO (m : Nat) : List Nat := rgI m m ++ [2 * m, 2 * m + 1]
theorem rg_perm : ∀ m ∈ ringS, (rgO m).Perm (List.range (2 * m + 2)) := by decide +kernel
theorem rgI_succ (m i : Nat) : rgI m (i + 1) = rgI m i ++ [i, m + i] := by
  unfold rgI
  rw [List.range_succ, List.flatMap_append]
  simp
theorem mem_rgI {m i x : Nat} : x ∈ rgI m i ↔ ∃ k < i, x = k ∨ x = m + k := by
  unfold rgI
  simp [List.mem_flatMap]
theorem rgI_len (m i : Nat) : (rgI m i).length = 2 * i := by
  induction i with
  | zero => rfl
  | succ i ih => rw [rgI_succ, List.length_append, ih]; simp; omega
/-- with names -/
def rgW (g : Nat → Str) (m : Nat) (l : List Nat) : List Row := l.map fun i => (g i, (ringN m i).map g)
theorem vsf_rg (g : Nat → Str) (m : Nat) (l : List Nat) : vsf (rgW g m l) = l.map g := by
  unfold vsf rgW
  rw [List.map_map]
  rfl
theorem rg_w {g : Nat → Str} {m : Nat} (h : m ∈ ringS) (hg : ∀ i < 2 * m + 2, ∀ j < 2 * m + 2, g i = g j → i = j) : Pl (vsf (rgW g m (rgO m))) (rdf (rgW g m (rgO m))) := by
  have pl := ring_pl h
  have hp := rg_perm m h
  have hn : (vsf (rgW g m (rgO m))).Nodup := by
    rw [vsf_rg]
    refine (hp.map g).nodup_iff.mpr ?_
    exact List.pairwise_map.mpr (List.Pairwise.imp_of_mem (fun {a b} ha hb (q : a ≠ b) => fun e => q (hg a (List.mem_range.mp ha) b (List.mem_range.mp hb) e)) (show (List.range (2 * m + 2)).Pairwise (· ≠ ·) from List.nodup_range))
  refine Pl.named g pl (fun i hi j hj e => hg i (List.mem_range.mp hi) j (List.mem_range.mp hj) e) (by rw [vsf_rg]; exact hp.map g) fun v hv => ⟨[], (ringN m v).map g, rfl, ?_⟩
  rw [List.append_nil]
  exact rdf_of hn (List.mem_map.mpr ⟨v, hp.mem_iff.mpr hv, rfl⟩)
theorem ring_prev {g : Nat → Str} {m : Nat} {l : List Str} (hl : l.length = m) (hat : ∀ k < m, l[k]? = some (g k)) {k : Nat} (hk : k < m) : atI (l.map V.str) ((k : Int) - 1) = some (.str (g ((k + m - 1) % m))) := by
  cases k with
  | zero =>
    have e3 : ixN m (-1) = some (m - 1) := by
      unfold ixN
      rw [if_neg (by decide), if_pos (by omega)]
      congr 1
      omega
    show atI (l.map V.str) (-1) = _
    unfold atI
    rw [List.length_map, hl, e3]
    show (l.map V.str)[m - 1]? = _
    rw [List.getElem?_map, hat (m - 1) (by omega), show (0 + m - 1) % m = m - 1 by rw [Nat.zero_add]; exact Nat.mod_eq_of_lt (by omega)]
    rfl
  | succ k =>
    refine at_map V.str (j := k) (by omega) ?_
    rw [hat k (by omega), show (k + 1 + m - 1) % m = k by rw [show k + 1 + m - 1 = k + m by omega, Nat.add_mod_right]; exact Nat.mod_eq_of_lt (by omega)]
theorem cut_ft (xs : List V) (i j : Nat) : cutV xs (some (i : Int)) (some (j : Int)) = (xs.drop (min i xs.length)).take (min j xs.length - min i xs.length) := by
  unfold cutV
  rw [HT.sIx_nat, HT.sIx_nat]
end Five
end
section
namespace Five
open PySem PySem.Spec PyProof.Rows L2
open PySem.W (Datum DatumOrd)
/-! hues to be read, locked or not -/
def HuAt (G : Hp) (d : Addr) (hv : List (Str × Int)) : Prop := Rd G d (.dK (dk V.int hv)) ∧ (ks hv).Nodup
instance : Mn HuAt := ⟨fun s ⟨h1, h2⟩ => ⟨s.r _ _ trivial h1, h2⟩⟩
section
variable {G H : Hp} {d : Addr} {hv : List (Str × Int)} {v : Str}
theorem HuAt.of (h : H d = some (.dK (dk V.int hv))) (hn : (ks hv).Nodup) : HuAt H d hv := ⟨.inl h, hn⟩
theorem HuAt.get (h : HuAt H d hv) (hm : v ∈ ks hv) : DGet H d (.str v) (some (.int (hval hv v))) := by
  obtain ⟨⟨a, p⟩, h1, h2⟩ := List.mem_map.mp hm
  cases h2
  rw [hval_of h.2 h1]
  exact .inl ⟨_, Sum.inr a, h.1, rfl, (valV_dk_some h.2 h1).symm⟩
theorem HuAt.no (h : HuAt H d hv) (hm : v ∉ ks hv) : DGet H d (.str v) none := .inl ⟨_, Sum.inr v, h.1, rfl, (valV_dk_none hm).symm⟩
/-- what d.get tells -/
theorem HuAt.get? (h : HuAt H d hv) (v : Str) : DGet H d (.str v) (if v ∈ ks hv then some (.int (hval hv v)) else none) := by
  by_cases c : v ∈ ks hv
  · rw [if_pos c]; exact h.get c
  · rw [if_neg c]; exact h.no c
end
/-! what is come to over places of which ok is true -/
structure ChP (rd : Str → List Str) (ok : Str → Prop) (s : Str) (c : List Str) : Prop where
  nd : c.Nodup
  has : s ∈ c
  shut : ∀ v ∈ c, ∀ u ∈ rd v, ok u → u ∈ c
  least : ∀ S : Str → Prop, S s → (∀ v u, S v → u ∈ rd v → ok u → S u) → ∀ x ∈ c, S x
section
variable {rd rd' : Str → List Str} {ok ok' : Str → Prop} {s : Str} {c c' : List Str}
theorem ChP.perm (h : ChP rd ok s c) (h' : ChP rd ok s c') : c.Perm c' := perm_of_mem h.nd h'.nd fun x =>
  ⟨fun hx => h.least (· ∈ c') h'.has (fun v u hv hu ho => h'.shut v hv u hu ho) x hx, fun hx => h'.least (· ∈ c) h.has (fun v u hv hu ho => h.shut v hv u hu ho) x hx⟩
theorem ChP.congr (h : ChP rd ok s c) (hr : ∀ v ∈ c, ∀ u, u ∈ rd' v ↔ u ∈ rd v) (ho : ∀ u, ok' u ↔ ok u) : ChP rd' ok' s c := by
  refine ⟨h.nd, h.has, fun v hv u hu hk => h.shut v hv u ((hr v hv u).mp hu) ((ho u).mp hk), fun S h0 hS x hx => ?_⟩
  have := h.least (fun y => y ∈ c ∧ S y) ⟨h.has, h0⟩ (fun v u ⟨q1, q2⟩ hu hk => ⟨h.shut v q1 u hu hk, hS v u q2 ((hr v q1 u).mpr hu) ((ho u).mpr hk)⟩) x hx
  exact this.2
theorem ChP.ok_of (h : ChP rd ok s c) {x : Str} (hx : x ∈ c) : x = s ∨ ok x :=
  h.least (fun y => y = s ∨ ok y) (.inl rfl) (fun _ _ _ _ ho => .inr ho) x hx
theorem ChP.sub {vs : List Str} (h : ChP rd ok s c) (hs : s ∈ vs) (hv : ∀ v ∈ vs, ∀ u ∈ rd v, u ∈ vs) {x : Str} (hx : x ∈ c) : x ∈ vs :=
  h.least (· ∈ vs) hs (fun v u q hu _ => hv v q u hu) x hx
end
def okH (hv : List (Str × Int)) (a b : Int) (u : Str) : Prop := u ∈ ks hv ∧ (hval hv u = a ∨ hval hv u = b)
instance (hv : List (Str × Int)) (a b : Int) (u : Str) : Decidable (okH hv a b u) := by unfold okH; infer_instance
theorem inV_two (x a b : Int) : inV (.int x) [.int a, .int b] = decide (x = a ∨ x = b) := by
  rw [show [V.int a, V.int b] = [a, b].map V.int from rfl, inV_int]
  congr 1
  simp
end Five
end
section
namespace Five
open PySem PySem.Spec PyProof.Rows L2
open PySem.W (Datum DatumOrd)
/-! a chain's way -/
theorem ChP.way {rd : Str → List Str} {ok : Str → Prop} {s : Str} {c : List Str} (h : ChP rd ok s c) {x : Str} (hx : x ∈ c) :
    ∃ l : List Str, l.Nodup ∧ (∃ r, l = s :: r) ∧ (∃ r, l = r ++ [x]) ∧ (∀ y ∈ l, y ∈ c) ∧ ∀ a b, (a, b) ∈ prs l → b ∈ rd a := by
  refine (h.least (fun x => x ∈ c ∧ ∃ l : List Str, l.Nodup ∧ (∃ r, l = s :: r) ∧ (∃ r, l = r ++ [x]) ∧ (∀ y ∈ l, y ∈ c) ∧ ∀ a b, (a, b) ∈ prs l → b ∈ rd a) ⟨h.has, [s], by simp, ⟨[], rfl⟩, ⟨[], rfl⟩, fun y hy => by rw [List.mem_singleton.mp hy]; exact h.has, fun a b q => by simp [prs] at q⟩ ?_ x hx).2
  rintro v u ⟨hv, l, h1, ⟨r1, h2⟩, ⟨r2, h3⟩, h4, h5⟩ hu ho
  have huc := h.shut v hv u hu ho
  refine ⟨huc, ?_⟩
  by_cases hm : u ∈ l
  · obtain ⟨A, B, e⟩ := List.append_of_mem hm
    refine ⟨A ++ [u], ?_, ?_, ⟨A, rfl⟩, fun y hy => h4 y (by rw [e]; simp at hy ⊢; rcases hy with q | q <;> simp [q]), fun a b q => h5 a b ?_⟩
    · rw [e, show A ++ u :: B = (A ++ [u]) ++ B by simp] at h1
      exact (List.nodup_append.mp h1).1
    · rw [e] at h2
      cases A with
      | nil =>
        simp at h2
        exact ⟨[], by rw [h2.1]; rfl⟩
      | cons z A =>
        simp at h2
        exact ⟨A ++ [u], by rw [h2.1]; rfl⟩
    · rw [e, prs_app]
      exact List.mem_append_left _ q
  · refine ⟨l ++ [u], List.nodup_append.mpr ⟨h1, by simp, fun a ha b hb e => hm (by rw [← List.mem_singleton.mp hb, ← e]; exact ha)⟩, ⟨r1 ++ [u], by rw [h2]; rfl⟩, ⟨l, rfl⟩, fun y hy => ?_, fun a b q => ?_⟩
    · rcases List.mem_append.mp hy with q | q
      · exact h4 y q
      · rw [List.mem_singleton.mp q]; exact huc
    · rw [h3, show r2 ++ [v] ++ [u] = r2 ++ v :: [u] by simp, prs_app] at q
      rcases List.mem_append.mp q with q | q
      · exact h5 a b (by rw [h3]; exact q)
      · simp [prs] at q
        rw [q.1, q.2]
        exact hu
/-! two chains do not cross -/
theorem kempe {vs : List Str} {rd : Str → List Str} (pl : Pl vs rd) {hv : List (Str × Int)} {v n0 n1 n2 n3 : Str} {rest c0 c1 : List Str} (hvv : v ∈ vs) (hvk : v ∉ ks hv)
    (hf : (rd v).filter (fun u => decide (u ∈ ks hv)) = n0 :: n1 :: n2 :: n3 :: rest) (hd : [hval hv n0, hval hv n1, hval hv n2, hval hv n3].Nodup)
    (h0 : ChP rd (okH hv (hval hv n0) (hval hv n2)) n0 c0) (h1 : ChP rd (okH hv (hval hv n1) (hval hv n3)) n1 c1) (m0 : n2 ∈ c0) (m1 : n3 ∈ c1) : False := by
  have wf := pl.wf
  have hin : ∀ u ∈ [n0, n1, n2, n3], u ∈ rd v ∧ u ∈ ks hv := fun u hu => by
    have : u ∈ (rd v).filter fun u => decide (u ∈ ks hv) := by
      rw [hf]
      simp at hu ⊢
      rcases hu with q | q | q | q <;> simp [q]
    obtain ⟨q1, q2⟩ := List.mem_filter.mp this
    exact ⟨q1, of_decide_eq_true q2⟩
  have hfn : (n0 :: n1 :: n2 :: n3 :: rest).Nodup := by
    rw [← hf]
    exact (wf.rn v hvv).sublist List.filter_sublist
  have hnd : [n0, n1, n2, n3].Nodup := by
    rw [show n0 :: n1 :: n2 :: n3 :: rest = [n0, n1, n2, n3] ++ rest from rfl] at hfn
    exact (List.nodup_append.mp hfn).1
  have hr : (rd v).filter (fun u => decide (u ∈ [n0, n1, n2, n3])) = [n0, n1, n2, n3] := by
    have e1 : (rd v).filter (fun u => decide (u ∈ [n0, n1, n2, n3])) = ((rd v).filter (fun u => decide (u ∈ ks hv))).filter (fun u => decide (u ∈ [n0, n1, n2, n3])) := by
      rw [List.filter_filter]
      refine List.filter_congr fun u _ => ?_
      by_cases c : u ∈ [n0, n1, n2, n3]
      · rw [decide_eq_true c, decide_eq_true (hin u c).2]; rfl
      · rw [decide_eq_false c]; rfl
    rw [e1, hf, show n0 :: n1 :: n2 :: n3 :: rest = [n0, n1, n2, n3] ++ rest from rfl, List.filter_append]
    rw [show n0 :: n1 :: n2 :: n3 :: rest = [n0, n1, n2, n3] ++ rest from rfl] at hfn
    have e2 : rest.filter (fun u => decide (u ∈ [n0, n1, n2, n3])) = [] := by
      rw [List.filter_eq_nil_iff]
      intro u hu q
      exact (List.nodup_append.mp hfn).2.2 u (of_decide_eq_true q) u hu rfl
    rw [e2, List.append_nil]
    exact List.filter_eq_self.mpr fun u hu => decide_eq_true hu
  obtain ⟨P, p1, ⟨P1, p2⟩, ⟨P2, p3⟩, p4, p5⟩ := h0.way m0
  obtain ⟨Q, q1, ⟨Q1, q2⟩, ⟨Q2, q3⟩, q4, q5⟩ := h1.way m1
  have okP : ∀ x ∈ P, x ∈ ks hv ∧ (hval hv x = hval hv n0 ∨ hval hv x = hval hv n2) := fun x hx => by
    rcases h0.ok_of (p4 x hx) with e | e
    · rw [e]; exact ⟨(hin n0 (by simp)).2, .inl rfl⟩
    · exact e
  have okQ : ∀ x ∈ Q, x ∈ ks hv ∧ (hval hv x = hval hv n1 ∨ hval hv x = hval hv n3) := fun x hx => by
    rcases h1.ok_of (q4 x hx) with e | e
    · rw [e]; exact ⟨(hin n1 (by simp)).2, .inl rfl⟩
    · exact e
  simp at hd
  obtain ⟨⟨d01, d02, d03⟩, ⟨d12, d13⟩, d23⟩ := hd
  have two : ∀ {l : List Str} {a b : Str} {r r' : List Str}, l = a :: r → l = r' ++ [b] → a ≠ b → 2 ≤ l.length := fun {l a b r r'} e1 e2 ne => by
    rw [e1]
    cases r with
    | nil =>
      rw [e1] at e2
      cases r' with
      | nil => simp at e2; exact absurd e2 ne
      | cons z r' => simp at e2
    | cons x r => simp
  have ties : ∀ {P : List Str} {a b : Str} {r r' c : List Str}, P = a :: r → P = r' ++ [b] → a ∈ rd v → b ∈ rd v → (∀ y ∈ P, y ∈ vs) → (∀ x y, (x, y) ∈ prs P → y ∈ rd x) → ∀ x y, (x, y) ∈ prs (v :: P ++ [v]) → x ∈ vs ∧ y ∈ rd x := fun {P a b r r' c} e1 e2 ha hb hs ht x y q => by
    have e3 : prs (v :: P ++ [v]) = (v, a) :: prs (P ++ [v]) := by rw [e1]; rfl
    have e4 : prs (P ++ [v]) = prs P ++ [(b, v)] := by
      rw [e2, show r' ++ [b] ++ [v] = r' ++ b :: [v] by simp, prs_app]
      rfl
    rw [e3, e4] at q
    rcases List.mem_cons.mp q with q | q
    · obtain ⟨rfl, rfl⟩ := Prod.mk.inj q
      exact ⟨hvv, ha⟩
    · rcases List.mem_append.mp q with q | q
      · exact ⟨hs x (prs_sub q).1, ht x y q⟩
      · obtain ⟨rfl, rfl⟩ := Prod.mk.inj (List.mem_singleton.mp q)
        exact ⟨(wf.ties _ hvv _ hb).1, (wf.ties _ hvv _ hb).2.2⟩
  have sub0 : ∀ y ∈ P, y ∈ vs := fun y hy => h0.sub (wf.ties v hvv n0 (hin n0 (by simp)).1).1 (fun a ha b hb => (wf.ties a ha b hb).1) (p4 y hy)
  have sub1 : ∀ y ∈ Q, y ∈ vs := fun y hy => h1.sub (wf.ties v hvv n1 (hin n1 (by simp)).1).1 (fun a ha b hb => (wf.ties a ha b hb).1) (q4 y hy)
  refine no_cross pl hr hnd p1 q1 (fun z => hvk (okP v z).1) (fun z => hvk (okQ v z).1) (two p2 p3 fun e => d02 (by rw [e])) (two q2 q3 fun e => d13 (by rw [e])) (fun x hx hq => ?_) p2 p3 q2 q3
    (ties (c := []) p2 p3 (hin n0 (by simp)).1 (hin n2 (by simp)).1 sub0 p5) (ties (c := []) q2 q3 (hin n1 (by simp)).1 (hin n3 (by simp)).1 sub1 q5)
  obtain ⟨_, a⟩ := okP x hx
  obtain ⟨_, b⟩ := okQ x hq
  rcases a with a | a <;> rcases b with b | b
  · exact d01 (a.symm.trans b)
  · exact d03 (a.symm.trans b)
  · exact d12 (b.symm.trans a)
  · exact d23 (a.symm.trans b)
/-! two hues exchanged at some places -/
def swH (hv : List (Str × Int)) (c : List Str) (a o : Int) : List (Str × Int) := hv.map fun x => if x.1 ∈ c then (x.1, if x.2 = a then o else a) else x
theorem ks_swH (hv : List (Str × Int)) (c : List Str) (a o : Int) : ks (swH hv c a o) = ks hv := by
  unfold ks swH
  rw [List.map_map]
  refine List.map_congr_left fun x _ => ?_
  show (if x.1 ∈ c then (x.1, if x.2 = a then o else a) else x).1 = x.1
  split <;> rfl
theorem hval_mem {hv : List (Str × Int)} (hn : (ks hv).Nodup) {x : Str} (hx : x ∈ ks hv) : (x, hval hv x) ∈ hv := by
  obtain ⟨⟨y, n⟩, h1, h2⟩ := List.mem_map.mp hx
  have h2 : y = x := h2
  subst h2
  rw [hval_of hn h1]
  exact h1
theorem hval_swH {hv : List (Str × Int)} (hn : (ks hv).Nodup) {x : Str} (hx : x ∈ ks hv) (c : List Str) (a o : Int) : hval (swH hv c a o) x = if x ∈ c then (if hval hv x = a then o else a) else hval hv x := by
  refine hval_of (by rw [ks_swH]; exact hn) ?_
  refine List.mem_map.mpr ⟨(x, hval hv x), hval_mem hn hx, ?_⟩
  show (if x ∈ c then (x, if hval hv x = a then o else a) else (x, hval hv x)) = _
  split <;> rfl
/-- right hues below a number, of some places -/
structure Fh (vs : List Str) (rd : Str → List Str) (hv : List (Str × Int)) (m : Int) : Prop where
  nd : (ks hv).Nodup
  sub : ∀ v ∈ ks hv, v ∈ vs
  rng : ∀ v ∈ ks hv, 0 ≤ hval hv v ∧ hval hv v < m
  prop : ∀ v ∈ ks hv, ∀ u ∈ rd v, u ∈ ks hv → hval hv u ≠ hval hv v
theorem Fh.swap {vs : List Str} {rd : Str → List Str} {hv : List (Str × Int)} {m a o : Int} {s : Str} {c : List Str} (h : Fh vs rd hv m) (wf : Wf vs rd) (hs : s ∈ ks hv) (ha : hval hv s = a) (hc : ChP rd (okH hv a o) s c) (hao : o ≠ a) (ho : 0 ≤ o ∧ o < m) : Fh vs rd (swH hv c a o) m := by
  have ok : ∀ x ∈ c, okH hv a o x := fun x hx => by
    rcases hc.ok_of hx with e | e
    · rw [e]; exact ⟨hs, .inl ha⟩
    · exact e
  have hra := h.rng s hs
  rw [ha] at hra
  refine ⟨by rw [ks_swH]; exact h.nd, fun v hv => h.sub v (by rw [ks_swH] at hv; exact hv), fun v hv => ?_, fun v hv u hu huk => ?_⟩
  · rw [ks_swH] at hv
    rw [hval_swH h.nd hv]
    split
    · split
      · exact ho
      · exact hra
    · exact h.rng v hv
  · rw [ks_swH] at hv huk
    have hpv := h.prop v hv u hu huk
    have hvu := (wf.ties v (h.sub v hv) u hu).2.2
    rw [hval_swH h.nd hv, hval_swH h.nd huk]
    by_cases c1 : u ∈ c
    · rw [if_pos c1]
      by_cases c2 : v ∈ c
      · rw [if_pos c2]
        obtain ⟨_, x1⟩ := ok u c1
        obtain ⟨_, x2⟩ := ok v c2
        split
        · split
          · omega
          · exact hao
        · split
          · exact fun z => hao z.symm
          · omega
      · rw [if_neg c2]
        have : ¬ (hval _ v = a ∨ hval _ v = o) := fun z => c2 (hc.shut u c1 v hvu ⟨hv, z⟩)
        split <;> omega
    · rw [if_neg c1]
      by_cases c2 : v ∈ c
      · rw [if_pos c2]
        have : ¬ (hval _ u = a ∨ hval _ u = o) := fun z => c1 (hc.shut v c2 u hu ⟨huk, z⟩)
        split <;> omega
      · rw [if_neg c2]; exact hpv
theorem Fh.put {vs : List Str} {rd : Str → List Str} {hv : List (Str × Int)} {m n : Int} {v : Str} (h : Fh vs rd hv m) (wf : Wf vs rd) (hvk : v ∉ ks hv) (hvv : v ∈ vs) (hn : 0 ≤ n ∧ n < m) (hf : n ∉ takenL rd hv v) : Fh vs rd (hv ++ [(v, n)]) m := by
  have hkn : (ks (hv ++ [(v, n)])).Nodup := by
    rw [ks_snoc]
    exact List.nodup_append.mpr ⟨h.nd, by simp, fun a ha b hb e => hvk (by rw [← List.mem_singleton.mp hb, ← e]; exact ha)⟩
  refine ⟨hkn, fun u hu => ?_, fun u hu => ?_, fun a ha b hb hbk => ?_⟩
  · rw [ks_snoc] at hu
    rcases List.mem_append.mp hu with q | q
    · exact h.sub u q
    · rw [List.mem_singleton.mp q]; exact hvv
  · rw [ks_snoc] at hu
    rcases List.mem_append.mp hu with q | q
    · rw [hval_snoc_old h.nd hvk q]; exact h.rng u q
    · rw [List.mem_singleton.mp q, hval_snoc_new h.nd hvk]; exact hn
  · rw [ks_snoc] at ha hbk
    rcases List.mem_append.mp ha with q | q
    · rcases List.mem_append.mp hbk with q2 | q2
      · rw [hval_snoc_old h.nd hvk q, hval_snoc_old h.nd hvk q2]; exact h.prop a q b hb q2
      · have e := List.mem_singleton.mp q2
        subst e
        rw [hval_snoc_old h.nd hvk q, hval_snoc_new h.nd hvk]
        exact fun e => hf (by rw [e]; exact mem_taken (wf.ties a (h.sub a q) b hb).2.2 q)
    · have e := List.mem_singleton.mp q
      subst e
      rcases List.mem_append.mp hbk with q2 | q2
      · rw [hval_snoc_old h.nd hvk q2, hval_snoc_new h.nd hvk]
        exact fun e => hf (by rw [← e]; exact mem_taken hb q2)
      · have e2 := List.mem_singleton.mp q2
        subst e2
        exact absurd rfl (wf.ties b hvv b hb).2.1
/-! a place comes back -/
def hrd (rd : Str → List Str) (hv : List (Str × Int)) (v : Str) : List Str := (rd v).filter fun u => decide (u ∈ ks hv)
theorem taken_hrd (rd : Str → List Str) (hv : List (Str × Int)) (v : Str) : takenL rd hv v = (hrd rd hv v).map (hval hv) := by
  unfold takenL hrd
  induction rd v with
  | nil => rfl
  | cons a r ih =>
    by_cases c : a ∈ ks hv
    · rw [List.filterMap_cons_some (f := fun u => if u ∈ ks hv then some (hval hv u) else none) (b := hval hv a) (if_pos c), List.filter_cons_of_pos (p := fun u => decide (u ∈ ks hv)) (decide_eq_true c), ih]
      rfl
    · rw [List.filterMap_cons_none (f := fun u => if u ∈ ks hv then some (hval hv u) else none) (if_neg c), List.filter_cons_of_neg (p := fun u => decide (u ∈ ks hv)) (by simpa using c), ih]
/-- the exchange that swap_for tells: which of the two, its start, hue and chain -/
structure Swp (rd : Str → List Str) (hv : List (Str × Int)) (v : Str) (k : Nat) (s t : Str) (c : List Str) : Prop where
  k2 : k < 2
  hs : (hrd rd hv v)[k]? = some s
  ht : (hrd rd hv v)[k + 2]? = some t
  hc : ChP rd (okH hv (hval hv s) (hval hv t)) s c
  no : t ∉ c
  fst : k = 1 → ∃ s0 t0 c0, (hrd rd hv v)[0]? = some s0 ∧ (hrd rd hv v)[2]? = some t0 ∧ ChP rd (okH hv (hval hv s0) (hval hv t0)) s0 c0 ∧ t0 ∈ c0
abbrev Swap := Str × Int × List Str
inductive CB (rd : Str → List Str) (hv : List (Str × Int)) (v : Str) : List (Str × Int) → Int → List Swap → Prop where
  | free (h : mexN (takenL rd hv v) < 5) : CB rd hv v (hv ++ [(v, ((mexN (takenL rd hv v) : Nat) : Int))]) ((mexN (takenL rd hv v) : Nat) : Int) []
  | swap {k : Nat} {s t : Str} {c : List Str} (h : ¬ mexN (takenL rd hv v) < 5) (sw : Swp rd hv v k s t c) (h2 : mexN (takenL rd (swH hv c (hval hv s) (hval hv t)) v) < 5) :
      CB rd hv v (swH hv c (hval hv s) (hval hv t) ++ [(v, ((mexN (takenL rd (swH hv c (hval hv s) (hval hv t)) v) : Nat) : Int))]) ((mexN (takenL rd (swH hv c (hval hv s) (hval hv t)) v) : Nat) : Int) [(s, hval hv t, srt c)]
theorem Swp.uniq {rd : Str → List Str} {hv : List (Str × Int)} {v : Str} {k k' : Nat} {s t s' t' : Str} {c c' : List Str} (a : Swp rd hv v k s t c) (b : Swp rd hv v k' s' t' c') : s = s' ∧ t = t' ∧ c.Perm c' := by
  have key : ∀ {k k' : Nat} {s t s' t' : Str} {c c' : List Str}, Swp rd hv v k s t c → Swp rd hv v k' s' t' c' → k = 0 → k' = 1 → False := fun {k k' s t s' t' c c'} a b e e' => by
    subst e
    obtain ⟨s0, t0, c0, q1, q2, q3, q4⟩ := b.fst e'
    have h1 : s = s0 := Option.some.inj (a.hs.symm.trans q1)
    have h2 : t = t0 := Option.some.inj (a.ht.symm.trans q2)
    subst h1
    subst h2
    exact a.no ((a.hc.perm q3).mem_iff.mpr q4)
  have ek : k = k' := by
    have h1 := a.k2
    have h2 := b.k2
    rcases Nat.lt_trichotomy k k' with z | z | z
    · exact (key a b (by omega) (by omega)).elim
    · exact z
    · exact (key b a (by omega) (by omega)).elim
  subst ek
  have h1 : s = s' := Option.some.inj (a.hs.symm.trans b.hs)
  have h2 : t = t' := Option.some.inj (a.ht.symm.trans b.ht)
  subst h1
  subst h2
  exact ⟨rfl, rfl, a.hc.perm b.hc⟩
theorem swH_congr {hv : List (Str × Int)} {c c' : List Str} (h : c.Perm c') (a o : Int) : swH hv c a o = swH hv c' a o := by
  unfold swH
  refine List.map_congr_left fun x _ => ?_
  by_cases e : x.1 ∈ c
  · rw [if_pos e, if_pos (h.mem_iff.mp e)]
  · rw [if_neg e, if_neg fun z => e (h.mem_iff.mpr z)]
theorem CB.uniq {rd : Str → List Str} {hv : List (Str × Int)} {v : Str} {h1 h2 : List (Str × Int)} {n1 n2 : Int} {s1 s2 : List Swap} (a : CB rd hv v h1 n1 s1) (b : CB rd hv v h2 n2 s2) : h1 = h2 ∧ n1 = n2 ∧ s1 = s2 := by
  cases a with
  | free h =>
    cases b with
    | free h' => exact ⟨rfl, rfl, rfl⟩
    | swap h' _ _ => exact absurd h h'
  | swap h sw _ =>
    cases b with
    | free h' => exact absurd h' h
    | swap h' sw' _ =>
      obtain ⟨rfl, rfl, p⟩ := sw.uniq sw'
      rw [swH_congr p, srt_congr p]
      exact ⟨rfl, rfl, rfl⟩
/-- where no hue is free five are tied, of five hues -/
theorem held {vs : List Str} {rd : Str → List Str} {hv : List (Str × Int)} {v : Str} (h : Fh vs rd hv 5) (h5 : (hrd rd hv v).length ≤ 5) (hm : ¬ mexN (takenL rd hv v) < 5) :
    ∃ n0 n1 n2 n3 n4, hrd rd hv v = [n0, n1, n2, n3, n4] ∧ (takenL rd hv v).Nodup := by
  have hmx := mexN_is (takenL rd hv v)
  have hle := hmx.le
  have hl : (takenL rd hv v).length = (hrd rd hv v).length := by rw [taken_hrd, List.length_map]
  have e5 : (hrd rd hv v).length = 5 := by omega
  match q : hrd rd hv v, e5 with
  | [n0, n1, n2, n3, n4], _ =>
    refine ⟨n0, n1, n2, n3, n4, rfl, ?_⟩
    have hsub : ∀ x ∈ (List.range 5).map fun m : Nat => (m : Int), x ∈ takenL rd hv v := fun x hx => by
      obtain ⟨m, hm', rfl⟩ := List.mem_map.mp hx
      have := List.mem_range.mp hm'
      exact hmx.2 m (by omega)
    have hrn : ((List.range 5).map fun m : Nat => (m : Int)).Nodup := by decide
    have hlen : (takenL rd hv v).length = 5 := by rw [hl, q]; rfl
    -- a list of five with five members
    have key : ∀ (l m : List Int), m.Nodup → (∀ x ∈ m, x ∈ l) → l.length ≤ m.length → l.Nodup := by
      intro l
      induction l with
      | nil => intro m _ _ _; exact List.nodup_nil
      | cons a l ih =>
        intro m hmn hms hml
        have ham : a ∈ m := by
          refine Classical.byContradiction fun z => ?_
          have : m.length ≤ l.length := nodup_le hmn fun x hx => (List.mem_cons.mp (hms x hx)).resolve_left fun e => z (by rw [← e]; exact hx)
          simp at hml
          omega
        obtain ⟨A, B, e, hA⟩ := mem_split ham
        have hmn' := hmn
        rw [e] at hmn'
        have hp := List.perm_middle (a := a) (l₁ := A) (l₂ := B)
        have hmn2 := (hp.nodup_iff).mp hmn'
        obtain ⟨z1, z2⟩ := List.nodup_cons.mp hmn2
        have hms2 : ∀ x ∈ A ++ B, x ∈ l := fun x hx => (List.mem_cons.mp (hms x (by rw [e]; simp at hx ⊢; rcases hx with w | w <;> simp [w]))).resolve_left fun w => z1 (by rw [← w]; exact hx)
        have hl2 : l.length ≤ (A ++ B).length := by
          rw [e] at hml
          simp at hml ⊢
          omega
        refine List.nodup_cons.mpr ⟨fun hal => ?_, ih (A ++ B) z2 hms2 hl2⟩
        obtain ⟨A2, B2, e2, _⟩ := mem_split hal
        have : (A ++ B).length ≤ (A2 ++ B2).length := nodup_le z2 fun x hx => by
          have := hms2 x hx
          rw [e2] at this
          simp at this ⊢
          rcases this with w | w | w
          · exact .inl w
          · exact absurd (by rw [← w]; exact hx) z1
          · exact .inr w
        rw [e2] at hl2
        simp at hl2 this
        omega
    exact key _ _ hrn hsub (by rw [hlen]; decide)
/-- what the exchange brings -/
theorem swp_free {vs : List Str} {rd : Str → List Str} {hv : List (Str × Int)} {v : Str} {k : Nat} {s t : Str} {c : List Str} (h : Fh vs rd hv 5) (hn : (rd v).Nodup) (hvv : v ∈ vs) (hnd : (takenL rd hv v).Nodup) (sw : Swp rd hv v k s t c) :
    mexN (takenL rd (swH hv c (hval hv s) (hval hv t)) v) < 5 ∧ hval hv s ≠ hval hv t ∧ s ∈ ks hv ∧ t ∈ ks hv ∧ s ∈ rd v ∧ t ∈ rd v := by
  have inh : ∀ {u : Str} {j : Nat}, (hrd rd hv v)[j]? = some u → u ∈ rd v ∧ u ∈ ks hv := fun hu => by
    obtain ⟨q1, q2⟩ := List.mem_filter.mp (List.mem_of_getElem? hu)
    exact ⟨q1, of_decide_eq_true q2⟩
  obtain ⟨hsr, hsk⟩ := inh sw.hs
  obtain ⟨htr, htk⟩ := inh sw.ht
  rw [taken_hrd] at hnd
  have inj : ∀ {u w : Str}, u ∈ hrd rd hv v → w ∈ hrd rd hv v → hval hv u = hval hv w → u = w := fun {u w} hu hw e => by
    obtain ⟨i, hi⟩ := List.getElem?_of_mem hu
    obtain ⟨j, hj⟩ := List.getElem?_of_mem hw
    have h1 : ((hrd rd hv v).map (hval hv))[i]? = some (hval hv u) := by rw [List.getElem?_map, hi]; rfl
    have h2 : ((hrd rd hv v).map (hval hv))[j]? = some (hval hv u) := by rw [List.getElem?_map, hj, e]; rfl
    obtain ⟨a1, a2⟩ := List.getElem?_eq_some_iff.mp h1
    obtain ⟨b1, b2⟩ := List.getElem?_eq_some_iff.mp h2
    have := (List.getElem_inj hnd).mp (a2.trans b2.symm)
    subst this
    rw [hi] at hj
    exact Option.some.inj hj
  have hst : s ≠ t := fun e => sw.no (by rw [← e]; exact sw.hc.has)
  have hne : hval hv s ≠ hval hv t := fun e => hst (inj (List.mem_of_getElem? sw.hs) (List.mem_of_getElem? sw.ht) e)
  refine ⟨?_, hne, hsk, htk, hsr, htr⟩
  have hr := h.rng s hsk
  have hno : hval hv s ∉ takenL rd (swH hv c (hval hv s) (hval hv t)) v := by
    unfold takenL
    rw [List.mem_filterMap]
    rintro ⟨u, hu, e⟩
    rw [ks_swH] at e
    split at e
    · next huk =>
      have e := Option.some.inj e
      rw [hval_swH h.nd huk] at e
      have huh : u ∈ hrd rd hv v := List.mem_filter.mpr ⟨hu, decide_eq_true huk⟩
      by_cases hc : u ∈ c
      · rw [if_pos hc] at e
        by_cases h1 : hval hv u = hval hv s
        · rw [if_pos h1] at e
          exact hne e.symm
        · have : hval hv u = hval hv t := by
            rcases sw.hc.ok_of hc with z | z
            · exact absurd (by rw [z]) h1
            · exact z.2.resolve_left h1
          exact sw.no (by rw [← inj huh (List.mem_of_getElem? sw.ht) this]; exact hc)
      · rw [if_neg hc] at e
        exact hc (by rw [inj huh (List.mem_of_getElem? sw.hs) e]; exact sw.hc.has)
    · cases e
  have hmx := mexN_is (takenL rd (swH hv c (hval hv s) (hval hv t)) v)
  refine Classical.byContradiction fun z => hno ?_
  have := hmx.2 (hval hv s).toNat (by omega)
  rwa [show (((hval hv s).toNat : Nat) : Int) = hval hv s by omega] at this
theorem CB.right {vs : List Str} {rd : Str → List Str} {hv hv' : List (Str × Int)} {v : Str} {n : Int} {sw : List Swap} (pl : Pl vs rd) (h : Fh vs rd hv 5) (hvv : v ∈ vs) (hvk : v ∉ ks hv) (h5 : (hrd rd hv v).length ≤ 5) (b : CB rd hv v hv' n sw) :
    Fh vs rd hv' 5 ∧ ks hv' = ks hv ++ [v] := by
  cases b with
  | free hm =>
    have hmx := mexN_is (takenL rd hv v)
    exact ⟨h.put pl.wf hvk hvv (by omega) hmx.1, ks_snoc _ _ _⟩
  | @swap k s t c hm sw h2 =>
    obtain ⟨n0, n1, n2, n3, n4, _, hnd⟩ := held h h5 hm
    obtain ⟨q1, q2, q3, q4, q5, q6⟩ := swp_free h (pl.wf.rn v hvv) hvv hnd sw
    have hmx := mexN_is (takenL rd (swH hv c (hval hv s) (hval hv t)) v)
    exact ⟨(h.swap pl.wf q3 rfl sw.hc (fun z => q2 z.symm) (h.rng _ q4)).put pl.wf (by rw [ks_swH]; exact hvk) hvv (by omega) hmx.1, by rw [ks_snoc, ks_swH]⟩
end Five
end
section
namespace Five
open PySem PySem.Spec PyProof.Rows L2
open PySem.W (Datum DatumOrd)
/-! four hues by told exchanges, as plain functions -/
def ChR (rd : Str → List Str) (ok : Str → Prop) (s x : Str) : Prop := ∀ S : Str → Prop, S s → (∀ v u, S v → u ∈ rd v → ok u → S u) → S x
/-- the chain of s and the hue o -/
noncomputable def chF (rd : Str → List Str) (hv : List (Str × Int)) (s : Str) (o : Int) : List Str := srt ((ks hv).filter fun x => @decide (ChR rd (okH hv (hval hv s) o) s x) (Classical.propDecidable _))
theorem mem_chF {rd : Str → List Str} {hv : List (Str × Int)} {s x : Str} {o : Int} : x ∈ chF rd hv s o ↔ x ∈ ks hv ∧ ChR rd (okH hv (hval hv s) o) s x := by
  unfold chF
  rw [srt_mem, List.mem_filter]
  simp
theorem chF_nd {rd : Str → List Str} {hv : List (Str × Int)} {s : Str} {o : Int} (hn : (ks hv).Nodup) : (chF rd hv s o).Nodup := (srt_perm _).nodup_iff.mpr (hn.sublist List.filter_sublist)
theorem ChP.chF_perm {rd : Str → List Str} {hv : List (Str × Int)} {s : Str} {o : Int} {c : List Str} (h : ChP rd (okH hv (hval hv s) o) s c) (hs : s ∈ ks hv) (hn : (ks hv).Nodup) : c.Perm (chF rd hv s o) := by
  refine perm_of_mem h.nd (chF_nd hn) fun x => ?_
  rw [mem_chF]
  constructor
  · intro hx
    refine ⟨?_, fun S h0 hS => h.least S h0 hS x hx⟩
    rcases h.ok_of hx with e | e
    · rw [e]; exact hs
    · exact e.1
  · rintro ⟨_, hx⟩
    exact hx (· ∈ c) h.has fun v u q hu ho => h.shut v q u hu ho
theorem ChP.chF {rd : Str → List Str} {hv : List (Str × Int)} {s : Str} {o : Int} {c : List Str} (h : ChP rd (okH hv (hval hv s) o) s c) (hs : s ∈ ks hv) (hn : (ks hv).Nodup) : srt c = chF rd hv s o := by
  rw [srt_congr (h.chF_perm hs hn)]
  unfold Five.chF
  rw [srt_srt]
theorem chF_chp {rd : Str → List Str} {hv : List (Str × Int)} {s : Str} {o : Int} (hs : s ∈ ks hv) (hn : (ks hv).Nodup) : ChP rd (okH hv (hval hv s) o) s (chF rd hv s o) := by
  refine ⟨chF_nd hn, mem_chF.mpr ⟨hs, fun S h0 _ => h0⟩, fun v hv' u hu ho => ?_, fun S h0 hS x hx => (mem_chF.mp hx).2 S h0 hS⟩
  exact mem_chF.mpr ⟨ho.1, fun S h0 hS => hS v u ((mem_chF.mp hv').2 S h0 hS) hu ho⟩
theorem chF_congr {rd rd' : Str → List Str} {hv : List (Str × Int)} {s : Str} {o : Int} (h : ∀ v u, u ∈ rd v ↔ u ∈ rd' v) : chF rd hv s o = chF rd' hv s o := by
  unfold chF
  congr 1
  refine List.filter_congr fun x _ => ?_
  have : ChR rd (okH hv (hval hv s) o) s x ↔ ChR rd' (okH hv (hval hv s) o) s x := ⟨fun z S h0 hS => z S h0 fun v u q hu => hS v u q ((h v u).mp hu), fun z S h0 hS => z S h0 fun v u q hu => hS v u q ((h v u).mpr hu)⟩
  simp [this]
/-- a try: a place and the other hue -/
abbrev Try := Str × Int
noncomputable def exF (rd : Str → List Str) (hv : List (Str × Int)) (t : Try) : List (Str × Int) := swH hv (chF rd hv t.1 t.2) (hval hv t.1) t.2
theorem ks_exF (rd : Str → List Str) (hv : List (Str × Int)) (t : Try) : ks (exF rd hv t) = ks hv := ks_swH ..
noncomputable def swF (rd : Str → List Str) (hv : List (Str × Int)) (t : Try) : Swap := (t.1, t.2, chF rd hv t.1 t.2)
abbrev fours : List Int := [0, 1, 2, 3]
def freeF (rd : Str → List Str) (hv : List (Str × Int)) (v : Str) : Option Int := fours.find? fun h => decide (∀ u ∈ rd v, u ∈ ks hv → hval hv u ≠ h)
def triesF (rd : Str → List Str) (hv : List (Str × Int)) (v : Str) : List Try := (srt (rd v)).flatMap fun s => if s ∈ ks hv then (fours.filter fun h => decide (h ≠ hval hv s)).map fun h => (s, h) else []
theorem mem_tries {rd : Str → List Str} {hv : List (Str × Int)} {v : Str} {t : Try} (h : t ∈ triesF rd hv v) : t.1 ∈ rd v ∧ t.1 ∈ ks hv ∧ 0 ≤ t.2 ∧ t.2 < 4 ∧ t.2 ≠ hval hv t.1 := by
  unfold triesF at h
  obtain ⟨s, h1, h2⟩ := List.mem_flatMap.mp h
  by_cases c : s ∈ ks hv
  · rw [if_pos c] at h2
    obtain ⟨x, h3, rfl⟩ := List.mem_map.mp h2
    obtain ⟨h4, h5⟩ := List.mem_filter.mp h3
    have h5 := of_decide_eq_true h5
    refine ⟨srt_mem.mp h1, c, ?_, ?_, h5⟩ <;> (simp at h4; show _; omega)
  · rw [if_neg c] at h2; cases h2
theorem tries_len (rd : Str → List Str) (hv : List (Str × Int)) (v : Str) : (triesF rd hv v).length ≤ 4 * (rd v).length := by
  unfold triesF
  rw [← srt_length (rd v)]
  generalize srt (rd v) = l
  induction l with
  | nil => simp
  | cons a l ih =>
    rw [List.flatMap_cons, List.length_append, List.length_cons]
    have : (if a ∈ ks hv then (fours.filter fun h => decide (h ≠ hval hv a)).map fun h => (a, h) else []).length ≤ 4 := by
      split
      · rw [List.length_map]
        exact Nat.le_trans (List.length_filter_le _ _) (by decide)
      · simp
    omega
/-- the first try that frees a hue -/
noncomputable def scanF (rd : Str → List Str) (most : Nat) (v : Str) (hv : List (Str × Int)) : List Try → Nat → Option (Try × List (Str × Int)) × Nat
  | [], n => (none, n)
  | t :: ts, n => if n = most then (none, n) else if (freeF rd (exF rd hv t) v).isSome then (some (t, exF rd hv t), n + 1) else scanF rd most v hv ts (n + 1)
theorem scanF_cons {rd : Str → List Str} {most : Nat} {v : Str} {hv : List (Str × Int)} {t : Try} {ts : List Try} {n : Nat} : scanF rd most v hv (t :: ts) n = if n = most then (none, n) else if (freeF rd (exF rd hv t) v).isSome then (some (t, exF rd hv t), n + 1) else scanF rd most v hv ts (n + 1) := rfl
noncomputable def scanU (rd : Str → List Str) (v : Str) (hv : List (Str × Int)) : List Try → Nat → Option (Try × List (Str × Int)) × Nat
  | [], n => (none, n)
  | t :: ts, n => if (freeF rd (exF rd hv t) v).isSome then (some (t, exF rd hv t), n + 1) else scanU rd v hv ts (n + 1)
theorem scanU_le {rd : Str → List Str} {v : Str} {hv : List (Str × Int)} : ∀ {ts : List Try} {n : Nat}, n ≤ (scanU rd v hv ts n).2 ∧ (scanU rd v hv ts n).2 ≤ n + ts.length
  | [], n => ⟨Nat.le_refl _, Nat.le_refl _⟩
  | t :: ts, n => by
    unfold scanU
    split
    · exact ⟨Nat.le_succ _, by simp⟩
    · obtain ⟨h1, h2⟩ := scanU_le (rd := rd) (v := v) (hv := hv) (ts := ts) (n := n + 1)
      exact ⟨by omega, by rw [List.length_cons]; omega⟩
theorem scan_lim {rd : Str → List Str} {most : Nat} {v : Str} {hv : List (Str × Int)} : ∀ {ts : List Try} {n : Nat}, n ≤ most → scanF rd most v hv ts n = if (scanU rd v hv ts n).2 ≤ most then scanU rd v hv ts n else (none, most)
  | [], n, h => by
    show (none, n) = if n ≤ most then (none, n) else (none, most)
    rw [if_pos h]
  | t :: ts, n, h => by
    unfold scanF
    by_cases e : n = most
    · rw [if_pos e, if_neg, e]
      unfold scanU
      split
      · show ¬ n + 1 ≤ most
        omega
      · have := (scanU_le (rd := rd) (v := v) (hv := hv) (ts := ts) (n := n + 1)).1
        omega
    · rw [if_neg e]
      unfold scanU
      by_cases c : (freeF rd (exF rd hv t) v).isSome = true
      · rw [if_pos c, if_pos c, if_pos (show n + 1 ≤ most by omega)]
      · rw [if_neg c, if_neg c, scan_lim (show n + 1 ≤ most by omega)]
/-- the first two tries that free a hue together -/
noncomputable def doubF (rd : Str → List Str) (most : Nat) (v : Str) (hv : List (Str × Int)) : List Try → Nat → Option (Try × Try × List (Str × Int)) × Nat
  | [], n => (none, n)
  | t :: ts, n => if n = most then (none, n) else match scanF rd most v (exF rd hv t) (triesF rd (exF rd hv t) v) (n + 1) with
    | (some x, m) => (some (t, x.1, x.2), m)
    | (none, m) => doubF rd most v hv ts m
theorem doubF_cons {rd : Str → List Str} {most : Nat} {v : Str} {hv : List (Str × Int)} {t : Try} {ts : List Try} {n : Nat} : doubF rd most v hv (t :: ts) n = if n = most then (none, n) else match scanF rd most v (exF rd hv t) (triesF rd (exF rd hv t) v) (n + 1) with
    | (some x, m) => (some (t, x.1, x.2), m)
    | (none, m) => doubF rd most v hv ts m := rfl
noncomputable def doubU (rd : Str → List Str) (v : Str) (hv : List (Str × Int)) : List Try → Nat → Option (Try × Try × List (Str × Int)) × Nat
  | [], n => (none, n)
  | t :: ts, n => match scanU rd v (exF rd hv t) (triesF rd (exF rd hv t) v) (n + 1) with
    | (some x, m) => (some (t, x.1, x.2), m)
    | (none, m) => doubU rd v hv ts m
theorem doubU_le {rd : Str → List Str} {v : Str} {hv : List (Str × Int)} : ∀ {ts : List Try} {n : Nat}, n ≤ (doubU rd v hv ts n).2 ∧ (doubU rd v hv ts n).2 ≤ n + ts.length * (4 * (rd v).length + 1)
  | [], n => ⟨Nat.le_refl _, by show n ≤ _; omega⟩
  | t :: ts, n => by
    unfold doubU
    obtain ⟨h1, h2⟩ := scanU_le (rd := rd) (v := v) (hv := exF rd hv t) (ts := triesF rd (exF rd hv t) v) (n := n + 1)
    have h3 := tries_len rd (exF rd hv t) v
    rw [List.length_cons, Nat.succ_mul]
    split
    · next x m e =>
      rw [e] at h1 h2
      have h1 : n + 1 ≤ m := h1
      have h2 : m ≤ n + 1 + _ := h2
      exact ⟨by show n ≤ m; omega, by show m ≤ _; omega⟩
    · next m e =>
      rw [e] at h1 h2
      have h1 : n + 1 ≤ m := h1
      have h2 : m ≤ n + 1 + _ := h2
      obtain ⟨q1, q2⟩ := doubU_le (rd := rd) (v := v) (hv := hv) (ts := ts) (n := m)
      exact ⟨by omega, by omega⟩
theorem doub_at {rd : Str → List Str} {most : Nat} {v : Str} {hv : List (Str × Int)} : ∀ {ts : List Try}, doubF rd most v hv ts most = (none, most)
  | [] => rfl
  | t :: ts => by unfold doubF; rw [if_pos rfl]
theorem doub_lim {rd : Str → List Str} {most : Nat} {v : Str} {hv : List (Str × Int)} : ∀ {ts : List Try} {n : Nat}, n ≤ most → doubF rd most v hv ts n = if (doubU rd v hv ts n).2 ≤ most then doubU rd v hv ts n else (none, most)
  | [], n, h => by
    show (none, n) = if n ≤ most then (none, n) else (none, most)
    rw [if_pos h]
  | t :: ts, n, h => by
    by_cases e : n = most
    · subst e
      rw [doub_at, if_neg]
      unfold doubU
      have h1 := (scanU_le (rd := rd) (v := v) (hv := exF rd hv t) (ts := triesF rd (exF rd hv t) v) (n := n + 1)).1
      split
      · next x m q =>
        rw [q] at h1
        have h1 : n + 1 ≤ m := h1
        show ¬ m ≤ n
        omega
      · next m q =>
        rw [q] at h1
        have h1 : n + 1 ≤ m := h1
        have := (doubU_le (rd := rd) (v := v) (hv := hv) (ts := ts) (n := m)).1
        omega
    · have hs := scan_lim (rd := rd) (most := most) (v := v) (hv := exF rd hv t) (ts := triesF rd (exF rd hv t) v) (n := n + 1) (by omega)
      unfold doubF doubU
      rw [if_neg e, hs]
      generalize hq : scanU rd v (exF rd hv t) (triesF rd (exF rd hv t) v) (n + 1) = q
      obtain ⟨x, m⟩ := q
      by_cases c : m ≤ most
      · rw [if_pos c]
        cases x with
        | some x => show (some _, m) = if m ≤ most then (some _, m) else _; rw [if_pos c]
        | none => exact doub_lim c
      · rw [if_neg c]
        show doubF rd most v hv ts most = _
        rw [doub_at, if_neg]
        cases x with
        | some x => exact c
        | none =>
          have := (doubU_le (rd := rd) (v := v) (hv := hv) (ts := ts) (n := m)).1
          show ¬ (doubU rd v hv ts m).2 ≤ most
          omega
/-- a place gets room for a hue: its exchanges, the hues behind them, the steps -/
noncomputable def roomF (rd : Str → List Str) (most : Nat) (v : Str) (hv : List (Str × Int)) (n : Nat) : List Swap × List (Str × Int) × Nat :=
  if (freeF rd hv v).isSome then ([], hv, n) else match scanF rd most v hv (triesF rd hv v) n with
    | (some x, m) => ([swF rd hv x.1], x.2, m)
    | (none, m) => match doubF rd most v hv (triesF rd hv v) m with
      | (some x, k) => ([swF rd hv x.1, swF rd (exF rd hv x.1) x.2.1], x.2.2, k)
      | (none, k) => ([], hv, k)
noncomputable def roomU (rd : Str → List Str) (v : Str) (hv : List (Str × Int)) (n : Nat) : List Swap × List (Str × Int) × Nat :=
  if (freeF rd hv v).isSome then ([], hv, n) else match scanU rd v hv (triesF rd hv v) n with
    | (some x, m) => ([swF rd hv x.1], x.2, m)
    | (none, m) => match doubU rd v hv (triesF rd hv v) m with
      | (some x, k) => ([swF rd hv x.1, swF rd (exF rd hv x.1) x.2.1], x.2.2, k)
      | (none, k) => ([], hv, k)
theorem roomU_le {rd : Str → List Str} {v : Str} {hv : List (Str × Int)} {n : Nat} : n ≤ (roomU rd v hv n).2.2 ∧ (roomU rd v hv n).2.2 ≤ n + 4 * (rd v).length * (4 * (rd v).length + 2) := by
  unfold roomU
  split
  · exact ⟨Nat.le_refl _, by show n ≤ _; omega⟩
  · obtain ⟨h1, h2⟩ := scanU_le (rd := rd) (v := v) (hv := hv) (ts := triesF rd hv v) (n := n)
    have h3 := tries_len rd hv v
    have h4 : 4 * (rd v).length ≤ 4 * (rd v).length * (4 * (rd v).length + 2) := Nat.le_mul_of_pos_right _ (by omega)
    split
    · next x m e =>
      rw [e] at h1 h2
      have h1 : n ≤ m := h1
      have h2 : m ≤ n + _ := h2
      exact ⟨h1, by show m ≤ _; omega⟩
    · next m e =>
      rw [e] at h1 h2
      have h1 : n ≤ m := h1
      have h2 : m ≤ n + _ := h2
      obtain ⟨q1, q2⟩ := doubU_le (rd := rd) (v := v) (hv := hv) (ts := triesF rd hv v) (n := m)
      have q3 : (triesF rd hv v).length * (4 * (rd v).length + 1) ≤ 4 * (rd v).length * (4 * (rd v).length + 1) := Nat.mul_le_mul_right _ h3
      have q4 : 4 * (rd v).length * (4 * (rd v).length + 2) = 4 * (rd v).length * (4 * (rd v).length + 1) + 4 * (rd v).length := by rw [show 4 * (rd v).length + 2 = (4 * (rd v).length + 1) + 1 by omega, Nat.mul_succ]
      split
      · next x k e2 =>
        rw [e2] at q1 q2
        have q1 : m ≤ k := q1
        have q2 : k ≤ m + _ := q2
        exact ⟨by show n ≤ k; omega, by show k ≤ _; omega⟩
      · next k e2 =>
        rw [e2] at q1 q2
        have q1 : m ≤ k := q1
        have q2 : k ≤ m + _ := q2
        exact ⟨by show n ≤ k; omega, by show k ≤ _; omega⟩
theorem room_lim {rd : Str → List Str} {most : Nat} {v : Str} {hv : List (Str × Int)} {n : Nat} (h : n ≤ most) : (if (roomU rd v hv n).2.2 ≤ most then roomF rd most v hv n = roomU rd v hv n else roomF rd most v hv n = ([], hv, most) ∧ freeF rd hv v = none) := by
  unfold roomF roomU
  by_cases c : (freeF rd hv v).isSome = true
  · rw [if_pos c, if_pos c, if_pos (show n ≤ most from h)]
  · rw [if_neg c, if_neg c, scan_lim h]
    have hf : freeF rd hv v = none := by simpa using c
    generalize hq : scanU rd v hv (triesF rd hv v) n = q
    obtain ⟨x, m⟩ := q
    by_cases cm : m ≤ most
    · rw [if_pos cm]
      cases x with
      | some x => show if m ≤ most then _ else _; rw [if_pos cm]
      | none =>
        simp only
        rw [doub_lim cm]
        generalize hq2 : doubU rd v hv (triesF rd hv v) m = q2
        obtain ⟨y, k⟩ := q2
        by_cases ck : k ≤ most
        · rw [if_pos ck]
          cases y with
          | some y => show if k ≤ most then _ else _; rw [if_pos ck]
          | none => show if k ≤ most then _ else _; rw [if_pos ck]
        · rw [if_neg ck]
          cases y with
          | some y => show if k ≤ most then _ else _; rw [if_neg ck]; exact ⟨rfl, hf⟩
          | none => show if k ≤ most then _ else _; rw [if_neg ck]; exact ⟨rfl, hf⟩
    · rw [if_neg cm]
      simp only
      rw [doub_at]
      cases x with
      | some x => show if m ≤ most then _ else _; rw [if_neg cm]; exact ⟨rfl, hf⟩
      | none =>
        have := (doubU_le (rd := rd) (v := v) (hv := hv) (ts := triesF rd hv v) (n := m)).1
        simp only
        generalize hq2 : doubU rd v hv (triesF rd hv v) m = q2 at *
        obtain ⟨y, k⟩ := q2
        have this : m ≤ k := this
        cases y with
        | some y => show if k ≤ most then _ else _; rw [if_neg (show ¬ k ≤ most by omega)]; exact ⟨by trivial, hf⟩
        | none => show if k ≤ most then _ else _; rw [if_neg (show ¬ k ≤ most by omega)]; exact ⟨by trivial, hf⟩
abbrev Step4 := Str × Int × List Swap
/-- the places come back one by one -/
noncomputable def fourF (rd : Str → List Str) (most : Nat) : List Str → List (Str × Int) → List Step4 → Nat → Option (List Step4) × Nat
  | [], _, pp, n => (some pp, n)
  | v :: l, hv, pp, n => match freeF rd (roomF rd most v hv n).2.1 v with
    | some h => fourF rd most l ((roomF rd most v hv n).2.1 ++ [(v, h)]) (pp ++ [(v, h, (roomF rd most v hv n).1)]) (roomF rd most v hv n).2.2
    | none => (none, (roomF rd most v hv n).2.2)
noncomputable def fourU (rd : Str → List Str) : List Str → List (Str × Int) → List Step4 → Nat → Option (List Step4) × Nat
  | [], _, pp, n => (some pp, n)
  | v :: l, hv, pp, n => match freeF rd (roomU rd v hv n).2.1 v with
    | some h => fourU rd l ((roomU rd v hv n).2.1 ++ [(v, h)]) (pp ++ [(v, h, (roomU rd v hv n).1)]) (roomU rd v hv n).2.2
    | none => (none, (roomU rd v hv n).2.2)
theorem fourU_le {rd : Str → List Str} {D : Nat} : ∀ {l : List Str} {hv : List (Str × Int)} {pp : List Step4} {n : Nat}, (∀ v ∈ l, (rd v).length ≤ D) → n ≤ (fourU rd l hv pp n).2 ∧ (fourU rd l hv pp n).2 ≤ n + l.length * (4 * D * (4 * D + 2))
  | [], hv, pp, n, _ => ⟨Nat.le_refl _, by show n ≤ _; omega⟩
  | v :: l, hv, pp, n, hD => by
    obtain ⟨h1, h2⟩ := roomU_le (rd := rd) (v := v) (hv := hv) (n := n)
    have h3 : 4 * (rd v).length * (4 * (rd v).length + 2) ≤ 4 * D * (4 * D + 2) := Nat.mul_le_mul (by have := hD v List.mem_cons_self; omega) (by have := hD v List.mem_cons_self; omega)
    unfold fourU
    rw [List.length_cons, Nat.succ_mul]
    split
    · next h _ =>
      obtain ⟨q1, q2⟩ := fourU_le (rd := rd) (l := l) (hv := (roomU rd v hv n).2.1 ++ [(v, h)]) (pp := pp ++ [(v, h, (roomU rd v hv n).1)]) (n := (roomU rd v hv n).2.2) fun u hu => hD u (List.mem_cons_of_mem _ hu)
      exact ⟨by omega, by omega⟩
    · exact ⟨h1, by show (roomU rd v hv n).2.2 ≤ _; omega⟩
theorem four_lim {rd : Str → List Str} {most : Nat} : ∀ {l : List Str} {hv : List (Str × Int)} {pp : List Step4} {n : Nat}, n ≤ most → fourF rd most l hv pp n = if (fourU rd l hv pp n).2 ≤ most then fourU rd l hv pp n else (none, most)
  | [], hv, pp, n, h => by
    show (some pp, n) = if n ≤ most then (some pp, n) else _
    rw [if_pos h]
  | v :: l, hv, pp, n, h => by
    have hr := room_lim (rd := rd) (v := v) (hv := hv) h
    unfold fourF fourU
    by_cases c : (roomU rd v hv n).2.2 ≤ most
    · rw [if_pos c] at hr
      rw [hr]
      cases freeF rd (roomU rd v hv n).2.1 v with
      | some x => exact four_lim c
      | none => show _ = if (roomU rd v hv n).2.2 ≤ most then _ else _; rw [if_pos c]
    · rw [if_neg c] at hr
      obtain ⟨e1, e2⟩ := hr
      rw [e1]
      show (match freeF rd hv v with | some h => _ | none => (none, most)) = _
      rw [e2, if_neg]
      cases freeF rd (roomU rd v hv n).2.1 v with
      | some x =>
        have := (fourU_le (rd := rd) (D := (l.map fun u => (rd u).length).sum) (l := l) (hv := (roomU rd v hv n).2.1 ++ [(v, x)]) (pp := pp ++ [(v, x, (roomU rd v hv n).1)]) (n := (roomU rd v hv n).2.2) fun u hu => ?_).1
        · show ¬ (fourU rd l _ _ _).2 ≤ most
          omega
        · clear e1 e2 c h
          induction l with
          | nil => cases hu
          | cons a l ih =>
            rw [List.map_cons, List.sum_cons]
            rcases List.mem_cons.mp hu with e | e
            · rw [e]; omega
            · have := ih e; omega
      | none => exact c
end Five
end
section
namespace Five
open PySem PySem.Spec PyProof.Rows L2
open PySem.W (Datum DatumOrd)
/-! papers read -/
/-- an exchange that is right -/
structure SwOk (rd : Str → List Str) (m : Int) (hv : List (Str × Int)) (x : Swap) : Prop where
  inH : x.1 ∈ ks hv
  ge : 0 ≤ x.2.1
  lt : x.2.1 < m
  ne : x.2.1 ≠ hval hv x.1
  row : x.2.2 = chF rd hv x.1 x.2.1
def swTo (hv : List (Str × Int)) (x : Swap) : List (Str × Int) := swH hv x.2.2 (hval hv x.1) x.2.1
theorem ks_swTo (hv : List (Str × Int)) (x : Swap) : ks (swTo hv x) = ks hv := ks_swH ..
inductive SwsTo (rd : Str → List Str) (m : Int) : List (Str × Int) → List Swap → List (Str × Int) → Prop
  | nil {hv} : SwsTo rd m hv [] hv
  | cons {hv x xs hv'} (h : SwOk rd m hv x) (t : SwsTo rd m (swTo hv x) xs hv') : SwsTo rd m hv (x :: xs) hv'
structure StepTo (rd : Str → List Str) (vs : List Str) (m : Int) (hv : List (Str × Int)) (st : Step4) (hm : List (Str × Int)) : Prop where
  sws : SwsTo rd m hv st.2.2 hm
  inV : st.1 ∈ vs
  new : st.1 ∉ ks hm
  ge : 0 ≤ st.2.1
  lt : st.2.1 < m
  free : ∀ u ∈ rd st.1, u ∈ ks hm → hval hm u ≠ st.2.1
inductive PapTo (rd : Str → List Str) (vs : List Str) (m : Int) : List (Str × Int) → List Step4 → List (Str × Int) → Prop
  | nil {hv} : PapTo rd vs m hv [] hv
  | cons {hv st hm xs hv'} (h : StepTo rd vs m hv st hm) (t : PapTo rd vs m (hm ++ [(st.1, st.2.1)]) xs hv') : PapTo rd vs m hv (st :: xs) hv'
section
variable {rd rd' : Str → List Str} {vs vs' : List Str} {m m' : Int} {hv hv' hm : List (Str × Int)}
theorem SwOk.congr {x : Swap} (h : SwOk rd m hv x) (hr : ∀ v u, u ∈ rd v ↔ u ∈ rd' v) (hm : m ≤ m') : SwOk rd' m' hv x := ⟨h.inH, h.ge, Int.lt_of_lt_of_le h.lt hm, h.ne, by rw [h.row]; exact chF_congr hr⟩
theorem SwsTo.congr {xs : List Swap} (h : SwsTo rd m hv xs hv') (hr : ∀ v u, u ∈ rd v ↔ u ∈ rd' v) (hm : m ≤ m') : SwsTo rd' m' hv xs hv' := by
  induction h with
  | nil => exact .nil
  | cons h t ih => exact .cons (h.congr hr hm) ih
theorem StepTo.congr {st : Step4} (h : StepTo rd vs m hv st hm) (hr : ∀ v u, u ∈ rd v ↔ u ∈ rd' v) (hs : ∀ v, v ∈ vs → v ∈ vs') (hm' : m ≤ m') : StepTo rd' vs' m' hv st hm := ⟨h.sws.congr hr hm', hs _ h.inV, h.new, h.ge, Int.lt_of_lt_of_le h.lt hm', fun u hu => h.free u ((hr _ _).mpr hu)⟩
theorem PapTo.congr {xs : List Step4} (h : PapTo rd vs m hv xs hv') (hr : ∀ v u, u ∈ rd v ↔ u ∈ rd' v) (hs : ∀ v, v ∈ vs → v ∈ vs') (hm : m ≤ m') : PapTo rd' vs' m' hv xs hv' := by
  induction h with
  | nil => exact .nil
  | cons h t ih => exact .cons (h.congr hr hs hm) ih
theorem SwsTo.ks {xs : List Swap} (h : SwsTo rd m hv xs hv') : ks hv' = ks hv := by
  induction h with
  | nil => rfl
  | cons h t ih => rw [ih, ks_swTo]
theorem PapTo.ks {xs : List Step4} (h : PapTo rd vs m hv xs hv') : ks hv' = ks hv ++ xs.map (·.1) := by
  induction h with
  | nil => simp
  | cons h t ih => rw [ih, ks_snoc, h.sws.ks, List.map_cons, List.append_assoc]; rfl
theorem SwOk.chp {x : Swap} (h : SwOk rd m hv x) (hn : (ks hv).Nodup) : ChP rd (okH hv (hval hv x.1) x.2.1) x.1 x.2.2 := by
  rw [h.row]; exact chF_chp h.inH hn
theorem SwsTo.fh {xs : List Swap} (h : SwsTo rd m hv xs hv') : Fh vs rd hv m → Wf vs rd → Fh vs rd hv' m := by
  induction h with
  | nil => exact fun z _ => z
  | cons h t ih => exact fun z wf => ih (z.swap wf h.inH rfl (h.chp z.nd) h.ne ⟨h.ge, h.lt⟩) wf
theorem PapTo.fh {xs : List Step4} (h : PapTo rd vs m hv xs hv') : Fh vs rd hv m → Wf vs rd → Fh vs rd hv' m := by
  induction h with
  | nil => exact fun z _ => z
  | cons h t ih =>
    refine fun z wf => ih ((h.sws.fh z wf).put wf h.new h.inV ⟨h.ge, h.lt⟩ fun q => ?_) wf
    obtain ⟨u, hu, e⟩ := List.mem_filterMap.mp q
    split at e
    · next c => exact h.free u hu c (Option.some.inj e)
    · cases e
end
section
variable {rd : Str → List Str} {most : Nat} {v : Str} {hv : List (Str × Int)}
theorem scan_mem : ∀ {ts : List Try} {n m : Nat} {x : Try × List (Str × Int)}, scanF rd most v hv ts n = (some x, m) → x.1 ∈ ts ∧ x.2 = exF rd hv x.1
  | [], _, _, _, e => by cases e
  | t :: ts, n, m, x, e => by
    rw [scanF_cons] at e
    split at e
    · cases e
    · split at e
      · cases e; exact ⟨List.mem_cons_self, rfl⟩
      · obtain ⟨h1, h2⟩ := scan_mem e
        exact ⟨List.mem_cons_of_mem _ h1, h2⟩
theorem doub_mem : ∀ {ts : List Try} {n m : Nat} {x : Try × Try × List (Str × Int)}, doubF rd most v hv ts n = (some x, m) → x.1 ∈ ts ∧ x.2.1 ∈ triesF rd (exF rd hv x.1) v ∧ x.2.2 = exF rd (exF rd hv x.1) x.2.1
  | [], _, _, _, e => by cases e
  | t :: ts, n, m, x, e => by
    rw [doubF_cons] at e
    split at e
    · cases e
    · split at e
      · next y k hy =>
        cases e
        obtain ⟨h1, h2⟩ := scan_mem hy
        exact ⟨List.mem_cons_self, h1, h2⟩
      · obtain ⟨h1, h2⟩ := doub_mem e
        exact ⟨List.mem_cons_of_mem _ h1, h2⟩
theorem swF_ok {t : Try} (h : t ∈ triesF rd hv v) : SwOk rd 4 hv (swF rd hv t) := by
  obtain ⟨_, h2, h3, h4, h5⟩ := mem_tries h
  exact ⟨h2, h3, h4, h5, rfl⟩
theorem room_sws {n : Nat} : SwsTo rd 4 hv (roomF rd most v hv n).1 (roomF rd most v hv n).2.1 := by
  unfold roomF
  split
  · exact .nil
  · split
    · next x m e =>
      obtain ⟨h1, h2⟩ := scan_mem e
      show SwsTo rd 4 hv [swF rd hv x.1] x.2
      rw [h2]
      exact .cons (swF_ok h1) .nil
    · split
      · next x k e =>
        obtain ⟨h1, h2, h3⟩ := doub_mem e
        show SwsTo rd 4 hv [swF rd hv x.1, swF rd (exF rd hv x.1) x.2.1] x.2.2
        rw [h3]
        exact .cons (swF_ok h1) (.cons (swF_ok h2) .nil)
      · exact .nil
theorem free_ok {h : Int} (e : freeF rd hv v = some h) : 0 ≤ h ∧ h < 4 ∧ ∀ u ∈ rd v, u ∈ ks hv → hval hv u ≠ h := by
  unfold freeF at e
  have h1 := List.mem_of_find?_eq_some e
  have h2 := List.find?_some e
  have h2 := of_decide_eq_true h2
  refine ⟨?_, ?_, h2⟩
  · simp [fours] at h1; omega
  · simp [fours] at h1; omega
end
/-- what the search tells is a paper that is right -/
theorem four_pap {rd : Str → List Str} {most : Nat} {vs : List Str} : ∀ {l : List Str} {hv : List (Str × Int)} {pp pq : List Step4} {n k : Nat}, fourF rd most l hv pp n = (some pq, k) → (∀ v ∈ l, v ∈ vs) → (ks hv ++ l).Nodup →
    ∃ ps hvF, pq = pp ++ ps ∧ PapTo rd vs 4 hv ps hvF ∧ ks hvF = ks hv ++ l
  | [], hv, pp, pq, n, k, e, _, _ => by
    cases e
    exact ⟨[], hv, by simp, .nil, by simp⟩
  | v :: l, hv, pp, pq, n, k, e, hl, hn => by
    have hks : ks (roomF rd most v hv n).2.1 = ks hv := (room_sws (rd := rd) (most := most) (v := v) (hv := hv) (n := n)).ks
    unfold fourF at e
    split at e
    · next h ef =>
      obtain ⟨g0, g4, gf⟩ := free_ok ef
      have nd' : (ks ((roomF rd most v hv n).2.1 ++ [(v, h)]) ++ l).Nodup := by
        rw [ks_snoc, hks, List.append_assoc]; exact hn
      obtain ⟨ps, hvF, e1, e2, e3⟩ := four_pap e (fun u hu => hl u (List.mem_cons_of_mem _ hu)) nd'
      refine ⟨(v, h, (roomF rd most v hv n).1) :: ps, hvF, by rw [e1, List.append_assoc]; rfl, .cons (st := (v, h, (roomF rd most v hv n).1)) ⟨room_sws, hl v List.mem_cons_self, ?_, g0, g4, gf⟩ e2, by rw [e3, ks_snoc, hks, List.append_assoc]; rfl⟩
      rw [hks]
      intro q
      exact (List.nodup_append.mp hn).2.2 v q v List.mem_cons_self rfl
    · cases e
section
variable {rd : Str → List Str} {most : Nat} {v : Str} {hv : List (Str × Int)}
theorem scan_ge : ∀ {ts : List Try} {n : Nat}, n ≤ (scanF rd most v hv ts n).2 ∧ (ts ≠ [] → n < most → n < (scanF rd most v hv ts n).2)
  | [], n => ⟨Nat.le_refl _, fun h => absurd rfl h⟩
  | t :: ts, n => by
    rw [scanF_cons]
    split
    · next e => exact ⟨Nat.le_refl _, fun _ h => absurd h (by omega)⟩
    · split
      · exact ⟨Nat.le_succ _, fun _ _ => Nat.lt_succ_self _⟩
      · have := (scan_ge (ts := ts) (n := n + 1)).1
        exact ⟨by omega, fun _ _ => by omega⟩
theorem doub_ge : ∀ {ts : List Try} {n : Nat}, n ≤ (doubF rd most v hv ts n).2
  | [], n => Nat.le_refl _
  | t :: ts, n => by
    rw [doubF_cons]
    split
    · exact Nat.le_refl _
    · have h1 := (scan_ge (rd := rd) (most := most) (v := v) (hv := exF rd hv t) (ts := triesF rd (exF rd hv t) v) (n := n + 1)).1
      split
      · next x k e => rw [e] at h1; have h1 : n + 1 ≤ k := h1; show n ≤ k; omega
      · next k e =>
        rw [e] at h1
        have h1 : n + 1 ≤ k := h1
        have := doub_ge (ts := ts) (n := k)
        omega
theorem tries_some (hf : freeF rd hv v = none) : triesF rd hv v ≠ [] := by
  have h1 : ¬ ∀ u ∈ rd v, u ∈ ks hv → hval hv u ≠ 0 := by
    have := List.find?_eq_none.mp hf 0 (by simp [fours])
    simpa using this
  have : ∃ u, u ∈ rd v ∧ u ∈ ks hv ∧ hval hv u = 0 := by
    refine Classical.byContradiction fun q => h1 fun u hu hk e => q ⟨u, hu, hk, e⟩
  obtain ⟨u, hu, hk, e⟩ := this
  intro q
  have : (u, (1 : Int)) ∈ triesF rd hv v := by
    unfold triesF
    refine List.mem_flatMap.mpr ⟨u, srt_mem.mpr hu, ?_⟩
    rw [if_pos hk]
    exact List.mem_map.mpr ⟨1, List.mem_filter.mpr ⟨by simp [fours], by rw [e]; decide⟩, rfl⟩
  rw [q] at this
  cases this
theorem room_ge {n : Nat} : n ≤ (roomF rd most v hv n).2.2 ∧ (freeF rd (roomF rd most v hv n).2.1 v = none → n < most → n < (roomF rd most v hv n).2.2) := by
  unfold roomF
  split
  · next c => exact ⟨Nat.le_refl _, fun h => by rw [show freeF rd hv v = none from h] at c; cases c⟩
  · next c =>
    have hf : freeF rd hv v = none := by simpa using c
    have h1 := scan_ge (rd := rd) (most := most) (v := v) (hv := hv) (ts := triesF rd hv v) (n := n)
    have h2 := h1.2 (tries_some hf)
    split
    · next x m e =>
      rw [e] at h1 h2
      exact ⟨h1.1, fun _ => h2⟩
    · next m e =>
      rw [e] at h1 h2
      have h3 := doub_ge (rd := rd) (most := most) (v := v) (hv := hv) (ts := triesF rd hv v) (n := m)
      have h1 : n ≤ m := h1.1
      have h2 : n < most → n < m := h2
      split
      · next x k e2 => rw [e2] at h3; have h3 : m ≤ k := h3; exact ⟨by show n ≤ k; omega, fun _ q => by have := h2 q; show n < k; omega⟩
      · next k e2 => rw [e2] at h3; have h3 : m ≤ k := h3; exact ⟨by show n ≤ k; omega, fun _ q => by have := h2 q; show n < k; omega⟩
end
theorem four_none {rd : Str → List Str} {most : Nat} (hm : 0 < most) : ∀ {l : List Str} {hv : List (Str × Int)} {pp : List Step4} {n k : Nat}, fourF rd most l hv pp n = (none, k) → 0 < k
  | [], hv, pp, n, k, e => by cases e
  | v :: l, hv, pp, n, k, e => by
    unfold fourF at e
    split at e
    · exact four_none hm e
    · next ef =>
      cases e
      obtain ⟨h1, h2⟩ := room_ge (rd := rd) (most := most) (v := v) (hv := hv) (n := n)
      by_cases c : n < most
      · have := h2 ef c; omega
      · omega
theorem ch_rising {rd : Str → List Str} {hv : List (Str × Int)} {s : Str} {o : Int} (hn : (ks hv).Nodup) : (chF rd hv s o).Pairwise fun a b => a.cps.toList < b.cps.toList := by
  have nd := chF_nd (rd := rd) (s := s) (o := o) hn
  have pw : (chF rd hv s o).Pairwise (fun a b => leD a b = true) := by unfold chF; exact srt_pw _
  refine (List.Pairwise.and pw nd).imp fun {a b} ⟨h1, h2⟩ => ?_
  refine Classical.byContradiction fun q => h2 (leD_anti h1 ((leS_iff b a).mpr q))
end Five
end
section
namespace Five
open PySem PySem.Spec PyProof.Rows L2
open PySem.W (Datum DatumOrd T3)
/-! papers in the store, what is told of hues and webs (law-free) -/
theorem swH_len' (hv : List (Str × Int)) (c : List Str) (a o : Int) : (swH hv c a o).length = hv.length := by unfold swH; rw [List.length_map]
def oI : Option Int → V
  | none => .non
  | some h => .int h
/-- a hue or None -/
def gv (hv : List (Str × Int)) (u : Str) : V := if u ∈ ks hv then .int (hval hv u) else .non
theorem gv_flat (hv : List (Str × Int)) (l : List Str) : (l.map (gv hv)).all flatV = true := by
  rw [List.all_map]
  refine List.all_eq_true.mpr fun u _ => ?_
  show flatV (gv hv u) = true
  unfold gv
  split <;> rfl
theorem inV_gv (hv : List (Str × Int)) (h : Int) (l : List Str) : inV (.int h) (l.map (gv hv)) = !decide (∀ u ∈ l, u ∈ ks hv → hval hv u ≠ h) := by
  unfold inV
  rw [List.any_map]
  induction l with
  | nil => simp
  | cons a r ih =>
    rw [List.any_cons, ih]
    have e : ((fun y => eqV y (V.int h)) ∘ gv hv) a = decide (a ∈ ks hv ∧ hval hv a = h) := by
      show eqV (gv hv a) (V.int h) = _
      unfold gv
      by_cases c : a ∈ ks hv
      · rw [if_pos c, eqV_int]
        exact decide_eq_decide.mpr ⟨fun z => ⟨c, z⟩, fun z => z.2⟩
      · rw [if_neg c, decide_eq_false fun z => c z.1]
        rfl
    rw [e]
    by_cases q : a ∈ ks hv ∧ hval hv a = h
    · have h2 : decide (∀ u ∈ a :: r, u ∈ ks hv → hval hv u ≠ h) = false := decide_eq_false fun z => z a List.mem_cons_self q.1 q.2
      rw [decide_eq_true q, h2]
      rfl
    · rw [decide_eq_false q, Bool.false_or]
      congr 1
      refine decide_eq_decide.mpr ⟨fun z u hu hk => ?_, fun z u hu => z u (List.mem_cons_of_mem _ hu)⟩
      rcases List.mem_cons.mp hu with e | e
      · rw [e]
        exact fun y => q ⟨by rw [← e]; exact hk, y⟩
      · exact z u e hk
theorem HuAt.gv {H : Hp} {d : Addr} {hv : List (Str × Int)} (h : HuAt H d hv) (u : Str) : ∃ o, DGet H d (.str u) o ∧ o.getD .non = gv hv u := by
  refine ⟨_, h.get? u, ?_⟩
  unfold Five.gv
  split <;> rfl
/-- a swap as it stands -/
def SwT4 (K : PySem.W.Frag) (G : Hp) (t : Addr) (x : Swap) : Prop := ∃ b, G t = some (.tup [.str x.1, .int x.2.1, .ref b]) ∧ G b = some (.lst (x.2.2.map V.str))
instance {K : PySem.W.Frag} : Mn (SwT4 K) := ⟨fun s ⟨b, h1, h2⟩ => ⟨b, s.t _ _ trivial h1, s.t _ _ trivial h2⟩⟩
structure Hues4 (R : List Row) (hv : List (Str × Int)) : Prop where
  nd : (ks hv).Nodup
  sub : ∀ u ∈ ks hv, u ∈ vsf R
structure Web4 (R : List Row) : Prop where
  wf : Wf (vsf R) (rdf R)
  len : R.length ≤ 60
theorem Web4.rl {R : List Row} (h : Web4 R) {v : Str} (hv : v ∈ vsf R) : (rdf R v).length ≤ 60 := Nat.le_trans (nodup_le (h.wf.rn v hv) fun u hu => (h.wf.ties v hv u hu).1) (by rw [List.length_map]; exact h.len)
theorem Hues4.len {R : List Row} {hv : List (Str × Int)} (h : Hues4 R hv) (w : Web4 R) : hv.length ≤ 60 := by
  rw [← ks_length]
  exact Nat.le_trans (nodup_le h.nd h.sub) (by rw [List.length_map]; exact w.len)
theorem Hues4.ex {R : List Row} {hv : List (Str × Int)} (h : Hues4 R hv) (rd : Str → List Str) (t : Try) : Hues4 R (exF rd hv t) := ⟨by rw [ks_exF]; exact h.nd, by rw [ks_exF]; exact h.sub⟩
/-- what a try must be -/
structure Try4 (R : List Row) (hv : List (Str × Int)) (t : Try) : Prop where
  inR : t.1 ∈ vsf R
  inH : t.1 ∈ ks hv
  ge : 0 ≤ t.2
  ne : t.2 ≠ hval hv t.1
theorem tries4 {R : List Row} {hv : List (Str × Int)} {v : Str} (w : Web4 R) (hv' : v ∈ vsf R) {t : Try} (h : t ∈ triesF (rdf R) hv v) : Try4 R hv t := by
  obtain ⟨h1, h2, h3, h4, h5⟩ := mem_tries h
  exact ⟨(w.wf.ties v hv' _ h1).1, h2, h3, h5⟩
def StT4 (K : PySem.W.Frag) (G : Hp) (t : Addr) (st : Step4) : Prop := ∃ (l : Addr) (ss : List Addr), G t = some (.tup [.str st.1, .int st.2.1, .ref l]) ∧ G l = some (.lst (ss.map V.ref)) ∧ Paired (SwT4 K G) ss st.2.2
instance {K : PySem.W.Frag} : Mn (StT4 K) := ⟨fun s ⟨l, ss, h1, h2, h3⟩ => ⟨l, ss, s.t _ _ trivial h1, s.t _ _ trivial h2, Paired.mapP h3 fun _ _ q => Mn.up (R := SwT4 K) s q⟩⟩
def sw3 (x : Swap) : T3 Str Int (List Str) := ⟨x.1, x.2.1, x.2.2⟩
theorem SwT4.dp {K : PySem.W.Frag} {G : Hp} {t : Addr} {x : Swap} (h : SwT4 K G t x) : Dp K G (.ref t) (tD (sw3 x)) := by
  obtain ⟨b, h1, h2⟩ := h
  exact .tup (SqT.of h1) (.cons (.str _) (.cons (.int _) (.cons (LS.dp (K := K) (SqL.of h2)) .nil)))
theorem dpAll_sw {K : PySem.W.Frag} {G : Hp} : ∀ {ss : List Addr} {xs : List Swap}, Paired (SwT4 K G) ss xs → DpAll K G (ss.map V.ref) ((xs.map sw3).map Datum.toD)
  | _, _, .nil => .nil
  | _, _, .cons h t => .cons h.dp (dpAll_sw t)
theorem sws_dp {K : PySem.W.Frag} {G : Hp} {l : Addr} {ss : List Addr} {xs : List Swap} (h1 : G l = some (.lst (ss.map V.ref))) (h2 : Paired (SwT4 K G) ss xs) : Dp K G (.ref l) (tD (xs.map sw3)) := .lst (SqL.of h1) (dpAll_sw h2)
instance deSW : DecidableEq (T3 Str Int (List Str)) := inferInstance
instance deST : DecidableEq (T3 Str Int (List (T3 Str Int (List Str)))) := @PySem.W.instDecidableEqT3 Str Int (List (T3 Str Int (List Str))) _ _ _
def st3 (s : Step4) : T3 Str Int (List (T3 Str Int (List Str))) := ⟨s.1, s.2.1, s.2.2.map sw3⟩
theorem StT4.dp {K : PySem.W.Frag} {G : Hp} {t : Addr} {s : Step4} (h : StT4 K G t s) : Dp K G (.ref t) (tD (st3 s)) := by
  obtain ⟨l, ss, h1, h2, h3⟩ := h
  exact .tup (SqT.of h1) (.cons (.str _) (.cons (.int _) (.cons (sws_dp h2 h3) .nil)))
theorem dpAll_st {K : PySem.W.Frag} {G : Hp} : ∀ {ss : List Addr} {xs : List Step4}, Paired (StT4 K G) ss xs → DpAll K G (ss.map V.ref) ((xs.map st3).map Datum.toD)
  | _, _, .nil => .nil
  | _, _, .cons h t => .cons h.dp (dpAll_st t)
/-- the row of an exchange, shut -/
structure RowOk (R : List Row) (hv : List (Str × Int)) (a o : Int) (c : List Str) : Prop where
  sub : ∀ v ∈ c, v ∈ ks hv
  two : ∀ v ∈ c, hval hv v = a ∨ hval hv v = o
  shut : ∀ v ∈ c, ∀ u ∈ rdf R v, okH hv a o u → u ∈ c
  len : c.length ≤ 60
theorem SwOk.rowOk {R : List Row} {m : Int} {hv : List (Str × Int)} {y : Swap} (h : SwOk (rdf R) m hv y) (w4 : Web4 R) (h4 : Hues4 R hv) : RowOk R hv (hval hv y.1) y.2.1 y.2.2 := by
  have hc := h.chp h4.nd
  have sub : ∀ v ∈ y.2.2, v ∈ ks hv := fun v q => by rw [h.row] at q; exact (mem_chF.mp q).1
  refine ⟨sub, fun v q => ?_, hc.shut, ?_⟩
  · rcases hc.ok_of q with e | e
    · rw [e]; exact .inl rfl
    · exact e.2
  · refine Nat.le_trans (nodup_le hc.nd sub) ?_
    rw [ks_length]; exact h4.len w4
theorem sw_sum {hv : List (Str × Int)} {c : List Str} {a o : Int} (h : ∀ v ∈ c, hval hv v = a ∨ hval hv v = o) {v : Str} (hv' : v ∈ c) : a + o - hval hv v = (if hval hv v = a then o else a) := by
  rcases h v hv' with e | e
  · rw [if_pos e, e]; omega
  · by_cases q : hval hv v = a
    · rw [if_pos q]; omega
    · rw [if_neg q, e]; omega
theorem SwsTo.last {rd : Str → List Str} {m : Int} {hv hv' : List (Str × Int)} (h : SwsTo rd m hv [] hv') : hv = hv' := by cases h; rfl
theorem Hues4.to {R : List Row} {hv : List (Str × Int)} (h : Hues4 R hv) (y : Swap) : Hues4 R (swTo hv y) := ⟨by rw [ks_swTo]; exact h.nd, by rw [ks_swTo]; exact h.sub⟩
/-- a paper in the store -/
def PapT (K : PySem.W.Frag) (G : Hp) (l : Addr) (pp : List Step4) : Prop := ∃ ts : List Addr, G l = some (.lst (ts.map V.ref)) ∧ Paired (StT4 K G) ts pp
instance {K : PySem.W.Frag} : Mn (PapT K) := ⟨fun s ⟨ts, h1, h2⟩ => ⟨ts, s.t _ _ trivial h1, Paired.mapP h2 fun _ _ q => Mn.up (R := StT4 K) s q⟩⟩
theorem dk_self {hv : List (Str × Int)} (hn : (ks hv).Nodup) : ∀ p ∈ dk V.int hv, valV (dk V.int hv) p.1 = some p.2 ∧ flatB p.2 = true := fun p hp => by
  obtain ⟨⟨a, n⟩, h1, rfl⟩ := List.mem_map.mp hp
  exact ⟨valV_dk_some hn h1, rfl⟩
theorem PapT.dp {K : PySem.W.Frag} {G : Hp} {l : Addr} {pp : List Step4} (h : PapT K G l pp) : Dp K G (.ref l) (tD (pp.map st3)) := by
  obtain ⟨ts, h1, h2⟩ := h
  exact .lst (SqL.of h1) (dpAll_st h2)
end Five
end
section
namespace Five
open PySem PySem.Spec PyProof.Rows L2
/-! a told paper that is being spoilt: what still holds of it -/
structure SpI (H H1 HC : Hp) (lp : Addr) (ts : List Addr) (BL CL : Addr → Prop) (n m : Nat) (G : Hp) : Prop where
  lst : G lp = some (.lst (ts.map V.ref))
  stp : ∀ t ∈ ts, ∃ (v : Str) (h : Int) (l : Addr), G t = some (.tup [.str v, .int h, .ref l]) ∧ BL l
  bl : ∀ l, BL l → ∃ ss : List Addr, ss.length ≤ n ∧ G l = some (.lst (ss.map V.ref)) ∧ ∀ s ∈ ss, ∃ (v : Str) (h : Int) (b : Addr), G s = some (.tup [.str v, .int h, .ref b]) ∧ CL b
  cl : ∀ b, CL b → ∃ xs : List V, G b = some (.lst xs) ∧ xs.length ≤ m
  apart : ∀ l, BL l → ¬ CL l ∧ l ≠ lp
  capart : ∀ b, CL b → b ≠ lp
  s1 : Same H H1
  s2 : Same H1 HC
  newL : H lp = none ∧ H1 lp ≠ none
  newB : ∀ l, BL l → H l = none ∧ H1 l ≠ none
  newC : ∀ b, CL b → H b = none ∧ (H1 b ≠ none ∨ HC b = none)
  keep : ∀ a o, HC a = some o → a ≠ lp → ¬ BL a → ¬ CL a → G a = some o
section
variable {H H1 HC G G' : Hp} {lp l b c s : Addr} {ts ss : List Addr} {BL CL : Addr → Prop} {n m : Nat} {xs : List V} {o : HO}
theorem refs_inj : ∀ {a b : List Addr}, a.map V.ref = b.map V.ref → a = b
  | [], [], _ => rfl
  | _ :: _, _ :: _, e => by
    injection e with e1 e2
    injection e1 with e1
    rw [e1, refs_inj e2]
theorem refs_strs {a : List Addr} {l : List Str} (hl : l ≠ []) : a.map V.ref ≠ l.map V.str := by
  cases l with
  | nil => exact absurd rfl hl
  | cons x r =>
    cases a with
    | nil => exact fun e => nomatch e
    | cons y z => exact fun e => by injection e with e1 _; cases e1
theorem SpI.out (h : SpI H H1 HC lp ts BL CL n m G) {a : Addr} (e : HC a ≠ none) (q : H a ≠ none ∨ H1 a = none) : a ≠ lp ∧ ¬ BL a ∧ ¬ CL a := by
  rcases q with q | q
  · exact ⟨fun z => q (by rw [z]; exact h.newL.1), fun z => q (h.newB a z).1, fun z => q (h.newC a z).1⟩
  · refine ⟨fun z => h.newL.2 (by rw [← z]; exact q), fun z => (h.newB a z).2 q, fun z => ?_⟩
    rcases (h.newC a z).2 with y | y
    · exact y q
    · exact e y
theorem SpI.fin (h : SpI H H1 HC lp ts BL CL n m G) {a : Addr} (e : HC a = some o) (q : H a ≠ none ∨ H1 a = none) (o' : HO) : upd G lp o' a = some o := by
  obtain ⟨h1, h2, h3⟩ := h.out (a := a) (by rw [e]; simp) q
  rw [upd_ne h1]
  exact h.keep _ _ e h1 h2 h3
theorem SpI.free (h : SpI H H1 HC lp ts BL CL n m G) (e : G c = none) : HC c = none ∧ H1 c = none ∧ H c = none := by
  have : HC c = none := by
    cases q : HC c with
    | none => rfl
    | some o =>
      have h1 : c ≠ lp := fun z => by rw [z, h.lst] at e; cases e
      have h2 : ¬ BL c := fun z => by obtain ⟨_, _, y, _⟩ := h.bl c z; rw [y] at e; cases e
      have h3 : ¬ CL c := fun z => by obtain ⟨_, y, _⟩ := h.cl c z; rw [y] at e; cases e
      rw [h.keep _ _ q h1 h2 h3] at e
      cases e
  exact ⟨this, h.s2.free this, (h.s1.trans h.s2).free this⟩
theorem SpI.same (h : SpI H H1 HC lp ts BL CL n m G) (s : Same G G') : SpI H H1 HC lp ts BL CL n m G' := by
  refine ⟨s _ _ h.lst, fun t ht => ?_, fun l hl => ?_, fun b hb => ?_, h.apart, h.capart, h.s1, h.s2, h.newL, h.newB, h.newC, fun a o e q1 q2 q3 => s _ _ (h.keep a o e q1 q2 q3)⟩
  · obtain ⟨v, n, l, h1, h2⟩ := h.stp t ht
    exact ⟨v, n, l, s _ _ h1, h2⟩
  · obtain ⟨ss, h1, h2, h3⟩ := h.bl l hl
    refine ⟨ss, h1, s _ _ h2, fun x hx => ?_⟩
    obtain ⟨v, n, b, q1, q2⟩ := h3 x hx
    exact ⟨v, n, b, s _ _ q1, q2⟩
  · obtain ⟨xs, h1, h2⟩ := h.cl b hb
    exact ⟨xs, s _ _ h1, h2⟩
theorem SpI.le (h : SpI H H1 HC lp ts BL CL n m G) {n' m' : Nat} (hn : n ≤ n') (hm : m ≤ m') : SpI H H1 HC lp ts BL CL n' m' G :=
  ⟨h.lst, h.stp, fun l hl => let ⟨ss, h1, h2, h3⟩ := h.bl l hl; ⟨ss, Nat.le_trans h1 hn, h2, h3⟩, fun b hb => let ⟨xs, h1, h2⟩ := h.cl b hb; ⟨xs, h1, Nat.le_trans h2 hm⟩, h.apart, h.capart, h.s1, h.s2, h.newL, h.newB, h.newC, h.keep⟩
/-- a list of the store is another list than a tuple -/
theorem tup_ne {a b : Addr} {xs ys : List V} (h1 : G a = some (.tup xs)) (h2 : G b = some (.lst ys)) : a ≠ b := fun e => by rw [e, h2] at h1; cases h1
/-- a row grows -/
theorem SpI.row (h : SpI H H1 HC lp ts BL CL n m G) (hb : CL b) (hx : G b = some (.lst xs)) (v : V) : SpI H H1 HC lp ts BL CL n (m + 1) (upd G b (.lst (xs ++ [v]))) := by
  have nb : ∀ {a : Addr} {o : HO}, a ≠ b → G a = some o → upd G b (.lst (xs ++ [v])) a = some o := fun q e => by rw [upd_ne q]; exact e
  refine ⟨nb (fun z => h.capart b hb z.symm) h.lst, fun t ht => ?_, fun l hl => ?_, fun c hc => ?_, h.apart, h.capart, h.s1, h.s2, h.newL, h.newB, h.newC, fun a o e q1 q2 q3 => nb (fun z => q3 (by rw [z]; exact hb)) (h.keep a o e q1 q2 q3)⟩
  · obtain ⟨v, n, l, h1, h2⟩ := h.stp t ht
    exact ⟨v, n, l, nb (tup_ne h1 hx) h1, h2⟩
  · obtain ⟨ss, h1, h2, h3⟩ := h.bl l hl
    refine ⟨ss, h1, nb (fun z => (h.apart l hl).1 (by rw [z]; exact hb)) h2, fun x hx' => ?_⟩
    obtain ⟨v, n, b, q1, q2⟩ := h3 x hx'
    exact ⟨v, n, b, nb (tup_ne q1 hx) q1, q2⟩
  · obtain ⟨ys, h1, h2⟩ := h.cl c hc
    by_cases e : c = b
    · subst e
      rw [hx] at h1
      cases h1
      exact ⟨_, upd_same, by rw [List.length_append]; exact Nat.succ_le_succ h2⟩
    · exact ⟨ys, nb e h1, Nat.le_succ_of_le h2⟩
/-- a new list is a row too -/
theorem SpI.addC (h : SpI H H1 HC lp ts BL CL n m G) (e : G c = none) (s : Same G G') (hc : G' c = some (.lst [])) : SpI H H1 HC lp ts BL (fun a => CL a ∨ a = c) n m G' := by
  obtain ⟨f1, f2, f3⟩ := h.free e
  have h' := h.same s
  refine ⟨h'.lst, h'.stp, fun l hl => ?_, fun b hb => ?_, fun l hl => ⟨fun z => ?_, (h.apart l hl).2⟩, fun b hb z => ?_, h.s1, h.s2, h.newL, h.newB, fun b hb => ?_, fun a o q q1 q2 q3 => h'.keep a o q q1 q2 fun z => q3 (.inl z)⟩
  · obtain ⟨ss, h1, h2, h3⟩ := h'.bl l hl
    refine ⟨ss, h1, h2, fun x hx => ?_⟩
    obtain ⟨v, n, b, q1, q2⟩ := h3 x hx
    exact ⟨v, n, b, q1, .inl q2⟩
  · rcases hb with hb | rfl
    · exact h'.cl b hb
    · exact ⟨[], hc, Nat.zero_le _⟩
  · rcases z with z | rfl
    · exact (h.apart l hl).1 z
    · obtain ⟨_, _, y, _⟩ := h.bl l hl
      rw [y] at e; cases e
  · rcases hb with hb | rfl
    · exact h.capart b hb z
    · rw [z, h.lst] at e; cases e
  · rcases hb with hb | rfl
    · exact h.newC b hb
    · exact ⟨f3, .inr f1⟩
/-- a list of swaps grows -/
theorem SpI.putB (h : SpI H H1 HC lp ts BL CL n m G) (hl : BL l) (hx : G l = some (.lst (ss.map V.ref))) {v : Str} {i : Int} (hs : G s = some (.tup [.str v, .int i, .ref c])) (hc : CL c) : SpI H H1 HC lp ts BL CL (n + 1) m (upd G l (.lst (ss.map V.ref ++ [.ref s]))) := by
  have nb : ∀ {a : Addr} {o : HO}, a ≠ l → G a = some o → upd G l (.lst (ss.map V.ref ++ [.ref s])) a = some o := fun q e => by rw [upd_ne q]; exact e
  refine ⟨nb (fun z => (h.apart l hl).2 z.symm) h.lst, fun t ht => ?_, fun k hk => ?_, fun b hb => ?_, h.apart, h.capart, h.s1, h.s2, h.newL, h.newB, h.newC, fun a o e q1 q2 q3 => nb (fun z => q2 (by rw [z]; exact hl)) (h.keep a o e q1 q2 q3)⟩
  · obtain ⟨v, n, l, h1, h2⟩ := h.stp t ht
    exact ⟨v, n, l, nb (tup_ne h1 hx) h1, h2⟩
  · obtain ⟨sk, h1, h2, h3⟩ := h.bl k hk
    by_cases e : k = l
    · subst e
      rw [hx] at h2
      have e2 : ss = sk := refs_inj (by injection h2 with h2; injection h2)
      subst e2
      refine ⟨ss ++ [s], by rw [List.length_append]; exact Nat.succ_le_succ h1, by rw [upd_same, List.map_append]; rfl, fun x hx' => ?_⟩
      rcases List.mem_append.mp hx' with q | q
      · obtain ⟨v, n, b, q1, q2⟩ := h3 x q
        exact ⟨v, n, b, nb (tup_ne q1 hx) q1, q2⟩
      · rw [List.mem_singleton.mp q]
        exact ⟨v, i, c, nb (tup_ne hs hx) hs, hc⟩
    · refine ⟨sk, Nat.le_succ_of_le h1, nb e h2, fun x hx' => ?_⟩
      obtain ⟨v, n, b, q1, q2⟩ := h3 x hx'
      exact ⟨v, n, b, nb (tup_ne q1 hx) q1, q2⟩
  · obtain ⟨ys, h1, h2⟩ := h.cl b hb
    exact ⟨ys, nb (fun z => (h.apart l hl).1 (by rw [← z]; exact hb)) h1, h2⟩
end
theorem SpI.start {K : PySem.W.Frag} {H H1 HC : Hp} {lp : Addr} {pp : List Step4} (s1 : Same H H1) (s2 : Same H1 HC) (hp : PapT K (nw H H1) lp pp) (hne : ∀ st ∈ pp, st.2.2.length ≤ 1 ∧ ∀ y ∈ st.2.2, y.2.2 ≠ [] ∧ y.2.2.length ≤ 60) :
    ∃ ts BL CL, ts.length = pp.length ∧ SpI H H1 HC lp ts BL CL 1 60 HC := by
  obtain ⟨ts, hl, h2⟩ := hp
  obtain ⟨hl0, hl1⟩ := nw_get hl
  have get : ∀ t ∈ ts, ∃ st ∈ pp, StT4 K (nw H H1) t st := fun t ht => by
    obtain ⟨i, hi⟩ := List.mem_iff_getElem?.mp ht
    obtain ⟨st, q1, q2⟩ := paired_get h2 i t hi
    exact ⟨st, List.mem_of_getElem? q1, q2⟩
  have BLf : ∀ l, (∃ t ∈ ts, ∃ (v : Str) (h : Int), nw H H1 t = some (.tup [.str v, .int h, .ref l])) → ∃ st ∈ pp, ∃ ss : List Addr, nw H H1 l = some (.lst (ss.map V.ref)) ∧ Paired (SwT4 K (nw H H1)) ss st.2.2 := fun l ⟨t, ht, v, h, e⟩ => by
    obtain ⟨st, hst, l', ss, q1, q2, q3⟩ := get t ht
    rw [q1] at e
    cases e
    exact ⟨st, hst, ss, q2, q3⟩
  have swf : ∀ {ss : List Addr} {st : Step4} {x : Addr}, st ∈ pp → Paired (SwT4 K (nw H H1)) ss st.2.2 → x ∈ ss → ∃ (y : Swap) (b : Addr), nw H H1 x = some (.tup [.str y.1, .int y.2.1, .ref b]) ∧ nw H H1 b = some (.lst (y.2.2.map V.str)) ∧ y.2.2 ≠ [] ∧ y.2.2.length ≤ 60 := fun {ss st x} hst hp hx => by
    obtain ⟨i, hi⟩ := List.mem_iff_getElem?.mp hx
    obtain ⟨y, q1, b, q2, q3⟩ := paired_get hp i x hi
    have := (hne st hst).2 y (List.mem_of_getElem? q1)
    exact ⟨y, b, q2, q3, this.1, this.2⟩
  have CLf : ∀ b, (∃ (st : Step4) (ss : List Addr) (x : Addr) (v : Str) (h : Int), st ∈ pp ∧ Paired (SwT4 K (nw H H1)) ss st.2.2 ∧ x ∈ ss ∧ nw H H1 x = some (.tup [.str v, .int h, .ref b])) → ∃ r : List Str, nw H H1 b = some (.lst (r.map V.str)) ∧ r ≠ [] ∧ r.length ≤ 60 := fun b ⟨st, ss, x, v, h, q1, q2, q3, q4⟩ => by
    obtain ⟨y, b', r1, r2, r3, r4⟩ := swf q1 q2 q3
    rw [r1] at q4
    cases q4
    exact ⟨y.2.2, r2, r3, r4⟩
  have C1 : ∀ {a : Addr} {o : HO}, nw H H1 a = some o → HC a = some o := fun e => s2 _ _ (nw_get e).2
  refine ⟨ts, fun l => ∃ t ∈ ts, ∃ (v : Str) (h : Int), nw H H1 t = some (.tup [.str v, .int h, .ref l]), fun b => ∃ (st : Step4) (ss : List Addr) (x : Addr) (v : Str) (h : Int), st ∈ pp ∧ Paired (SwT4 K (nw H H1)) ss st.2.2 ∧ x ∈ ss ∧ nw H H1 x = some (.tup [.str v, .int h, .ref b]), Paired.length h2, C1 hl, fun t ht => ?_, fun l hb => ?_, fun b hb => ?_, fun l hb => ⟨fun hc => ?_, fun z => ?_⟩, fun b hc z => ?_, s1, s2, ⟨hl0, by rw [hl1]; simp⟩, fun l hb => ?_, fun b hc => ?_, fun a o e _ _ _ => e⟩
  · obtain ⟨st, hst, l, ss, q1, q2, q3⟩ := get t ht
    exact ⟨_, _, l, C1 q1, t, ht, _, _, q1⟩
  · obtain ⟨st, hst, ss, q1, q2⟩ := BLf l hb
    refine ⟨ss, by rw [Paired.length q2]; exact (hne st hst).1, C1 q1, fun x hx => ?_⟩
    obtain ⟨y, b, r1, r2, r3, r4⟩ := swf hst q2 hx
    exact ⟨_, _, b, C1 r1, st, ss, x, _, _, hst, q2, hx, r1⟩
  · obtain ⟨r, q1, q2, q3⟩ := CLf b hb
    exact ⟨_, C1 q1, by rw [List.length_map]; exact q3⟩
  · obtain ⟨st, hst, ss, q1, q2⟩ := BLf l hb
    obtain ⟨r, q3, q4, q5⟩ := CLf l hc
    rw [q1] at q3
    injection q3 with q3
    injection q3 with q3
    exact refs_strs q4 q3
  · obtain ⟨t, ht, v, h, e⟩ := id hb
    obtain ⟨st, hst, ss, q1, q2⟩ := BLf l hb
    rw [z, hl] at q1
    have e2 : ts = ss := refs_inj (by injection q1 with q1; injection q1)
    subst e2
    obtain ⟨y, b, r1, r2, r3, r4⟩ := swf hst q2 ht
    rw [e] at r1
    cases r1
    rw [z, hl] at r2
    injection r2 with r2
    injection r2 with r2
    exact refs_strs r3 r2
  · obtain ⟨r, q3, q4, q5⟩ := CLf b hc
    rw [z, hl] at q3
    injection q3 with q3
    injection q3 with q3
    exact refs_strs q4 q3
  · obtain ⟨st, hst, ss, q1, q2⟩ := BLf l hb
    obtain ⟨q3, q4⟩ := nw_get q1
    exact ⟨q3, by rw [q4]; simp⟩
  · obtain ⟨r, q1, q2, q3⟩ := CLf b hc
    obtain ⟨q3, q4⟩ := nw_get q1
    exact ⟨q3, .inl (by rw [q4]; simp)⟩
theorem SwsTo.rows {R : List Row} {m : Int} {hv hv' : List (Str × Int)} {xs : List Swap} (w4 : Web4 R) (h : SwsTo (rdf R) m hv xs hv') : Hues4 R hv → ∀ y ∈ xs, y.2.2 ≠ [] ∧ y.2.2.length ≤ 60 := by
  induction h with
  | nil => exact fun _ _ h => nomatch h
  | cons h t ih =>
    intro h4 y hy
    rcases List.mem_cons.mp hy with rfl | q
    · exact ⟨List.ne_nil_of_mem (h.chp h4.nd).has, (h.rowOk w4 h4).len⟩
    · exact ih (h4.to _) y q
theorem PapTo.rows {R : List Row} {m : Int} {hv hv' : List (Str × Int)} {xs : List Step4} (w4 : Web4 R) (h : PapTo (rdf R) (vsf R) m hv xs hv') : Hues4 R hv → ∀ st ∈ xs, ∀ y ∈ st.2.2, y.2.2 ≠ [] ∧ y.2.2.length ≤ 60 := by
  induction h with
  | nil => exact fun _ _ h => nomatch h
  | cons h t ih =>
    intro h4 st hst
    rcases List.mem_cons.mp hst with rfl | q
    · exact h.sws.rows w4 h4
    · refine ih ⟨?_, ?_⟩ st q
      · rw [ks_snoc, h.sws.ks]
        refine List.nodup_append.mpr ⟨h4.nd, by simp, fun a ha b hb e => h.new ?_⟩
        rw [h.sws.ks, ← List.mem_singleton.mp hb, ← e]; exact ha
      · intro u hu
        rw [ks_snoc, h.sws.ks] at hu
        rcases List.mem_append.mp hu with q | q
        · exact h4.sub u q
        · rw [List.mem_singleton.mp q]; exact h.inV
end Five
end
section
namespace Five
open PySem PySem.Spec PyProof.Rows L2
/-! the law's own def, called where no repr is under way; repr of data -/
/-- FnOk, where no repr is under way -/
structure FnG (P : Program) (w : World) (K : PySem.W.Frag) (mg : Str → Option Value) (base : Heap) (k : Nat) (f : Addr) (fd : FuncData) (ps : List Str) (sp : Sp) : Prop where
  len : ∀ vs H Q E, sp vs H Q E → vs.length = ps.length
  run : ∀ (A : Around) (outer : List Env) (s : Shared) (H : Hp) (args : Args) (us : List Value) (vs : List V) (Q : VK) (E : XK), A.guards = some [] → Room k A → Env0 P w K mg base A outer s H → BindsTo s fd args (ps.zip us) → Vals vs us → sp vs H Q E →
    codeAny (model P w) A (.call (.ref f) args) (CR CX0 outer P w H s Q E) s
theorem fnG_of {P : Program} {w : World} {K : PySem.W.Frag} {mg : Str → Option Value} {base : Heap} {k : Nat} {x qual : Str} {st : Stmt} {f : Addr} {fd : FuncData} {N ps : List Str} {sp : Sp} (F : Fun K x qual st f fd) (S : FnScope N ps (defScope st)) (len : ∀ vs H Q E, sp vs H Q E → vs.length = ps.length)
    (body : ∀ (cdv : Value) (A : Around) (outer : List Env) (s : Shared) (H : Hp) (vs : List V) (Q : VK) (E : XK), A.guards = some [] → Room k (A.deeper (envOfC qual (defScope st) s.heap.objs.size f cdv)) → sp vs H Q E →
      ∃ t, PSs (cxOf CX0 P w K mg base N qual (defScope st) f cdv A outer s H E).nox (defBody st) t ∧ t { nx := fun _ H' => Q .non H', rt := Q } (start N vs) H) : FnG P w K mg base (k + 1) f fd ps sp := by
  obtain ⟨oc, od, kV, doc, pm, an, cdv, ct, osl, rfl, lk, hcd⟩ := F.ex
  refine ⟨len, fun A outer s H args us vs Q E hgd room env0 bind vals told => ?_⟩
  have hlen := len _ _ _ _ told
  have inK : K.In s.heap := env0.mod.kin.keeps fun b o e => (env0.bs b o e).1
  have nolim : s.heap.NoLimit := env0.mod.nolimit.keeps fun b o e => (env0.bs b o e).1
  have kinds : ∀ y ∈ ps.zip us, (defScope st).names.lookup y.1 = some .local ∨ ((defScope st).names.lookup y.1 = some .cell ∧ ((cellsFrom (s.heap.objs.size + 1) (defScope st).names []).lookup y.1).isSome = true) := fun ⟨n, v⟩ hy => by
    rcases S.par n (List.of_mem_zip hy).1 with q | q
    · exact .inl q
    · exact .inr ⟨q, PySem.W.cellsFrom_some _ _ _ (.inl q)⟩
  refine codeAny_call_function room.depth (inK _ _ lk) rfl S.co S.gen rfl (PySem.W.codeRec_of inK hcd) (bind _ _ _ _ ?_)
  refine wpAny_newFunctionEnv_cells S.kind kinds fun ev hev s1 made => ?_
  subst hev
  refine ⟨nolim.keeps made.toInCall.keep, codeAny_func ?_⟩
  obtain ⟨t, ht0, ht2⟩ := body cdv A outer s H vs Q E hgd (room.deeper _) told
  have ht1 := ht0.nox
  have J0 : Inv (cxOf CX0 P w K mg base N qual (defScope st) f cdv A outer s H E) [] (start N vs) H s1 := inv_start S room.hd env0 hlen vals made
  refine wpAny_mono (ht1.run [] s1 (start N vs) H _ J0 ht2) (fun fl s' out => ?_) fun e s' out => out
  have fin : ∀ {σ' : L2.St} {H' : Hp} {v : V} {u : Value}, Inv (cxOf CX0 P w K mg base N qual (defScope st) f cdv A outer s H E) [] σ' H' s' → RelV v u → Q v H' → CE outer P w H s Q u s' :=
    fun {σ' H' v u} J r q => ⟨v, H', J.os, J.bare, J.base, J.hok, r, q⟩
  cases fl with
  | ret u =>
    obtain ⟨v, _, _, J, r, q⟩ := out
    exact fin J r q
  | next =>
    obtain ⟨_, _, J, q⟩ := out
    exact fin (v := V.non) (u := Value.none) J rfl q
  | brk =>
    obtain ⟨_, _, _, q⟩ := out
    exact q.elim
  | cont =>
    obtain ⟨_, _, _, q⟩ := out
    exact q.elim
/-- the law's def at its script, from an abstract heap that tracks the script alone, if anything -/
theorem script_callG {P : Program} {w : World} {K : PySem.W.Frag} {mg mb : Str → Option Value} {k : Nat} {fa a : Addr} {fd : FuncData} {x : Str} {sp : Sp} {t : Shared} {vs : List Value} {H : Hp}
    (inK : K.In t.heap) (nsG : t.heap.Ns mainGlobals mg) (nsB : t.heap.Ns builtinsNs mb) (boot : ∀ x : Str, x ≠ "__name__" → mb x = bootBuiltins x) (lim : t.heap.NoLimit) (gens : t.gens = #[])
    (scr : t.heap.get? a = some { cls := .type "list", data := .seq vs.toArray }) (room : Room k callerA)
    (F : ∀ base : Heap, K.In base → base.Ns mainGlobals mg → FnG P w K mg base k fa fd [x] sp) (bind : ∀ (s : Shared) (u : Value), BindsTo s fd ⟨[u], []⟩ [(x, u)])
    (only : Only H) (told : sp [.ref a] H (fun v _ => v = .bl true) fun _ _ _ => False) (hok : HOk P w H t.heap) (alone : ∀ b, H b ≠ none → b = a) (apart : H a ≠ none → K.lookup a = none) :
    codeAny (model P w) callerA (.call (.ref fa) ⟨[.ref a], []⟩) (fun r s' => r = .ok (.ret (.bool true)) ∧ OldK t.heap s'.heap ∧ s'.os = t.os ∧ AllBare s'.gens) t := by
  have free : ∀ {b : Addr} {o : Obj}, t.heap.get? b = some o → (b ≠ a ∨ (K.lookup a).isSome = true) → H b = none := fun {b o} e hb => by
    cases q : H b with
    | none => rfl
    | some u =>
      have z : b = a := alone b (by rw [q]; exact fun z => nomatch z)
      rcases hb with h | h
      · exact absurd z h
      · subst z
        rw [apart (by rw [q]; exact fun z => nomatch z)] at h
        cases h
  have dictOff : ∀ {b : Addr} {o : Obj} {es : Array DictEntry} {ep : Nat}, t.heap.get? b = some o → o.data = .dict es ep → b ≠ a := fun {b o es ep} e d z => by
    rw [z, scr] at e
    have e' := Option.some.inj e
    rw [← e'] at d
    cases d
  have nsH : ∀ {b : Addr} {m : Str → Option Value}, t.heap.Ns b m → (hidT t.heap H).Ns b m := fun {b m} h => by
    obtain ⟨o, es, ep, e, d, r⟩ := h
    exact ⟨o, es, ep, hidT_get e (free e (.inl (dictOff e d))), d, r⟩
  have inH : K.In (hidT t.heap H) := fun b o e => hidT_get (inK b o e) (by
    cases q : H b with
    | none => rfl
    | some u =>
      have z : b = a := alone b (by rw [q]; exact fun z => nomatch z)
      subst z
      rw [apart (by rw [q]; exact fun z => nomatch z)] at e
      cases e)
  obtain ⟨mc, lim1, lim2⟩ := lim
  have modH : Mod K mg (hidT t.heap H) := ⟨inH, nsH nsG, ⟨mb, nsH nsB, boot⟩, ⟨mc, nsH lim1, lim2⟩⟩
  have env0 : Env0 P w K mg (hidT t.heap H) callerA [] t H := ⟨rfl, modH, fun b o e => of_hidT e, Nat.le_of_eq (hidT_size _ _), trivial, fun b hb => (nomatch (show b ∈ ([] : List Addr) from hb)), hok, .of_eq gens⟩
  have run := (F _ inH (nsH nsG)).run callerA [] t H ⟨[.ref a], []⟩ [.ref a] [.ref a] _ _ rfl room env0 (bind t (.ref a)) (.cons rfl .nil) told
  refine codeAny_mono run fun r s' out => ?_
  match r, out with
  | .error e, out => exact out.elim
  | .ok .next, out => exact False.elim out
  | .ok .brk, out => exact False.elim out
  | .ok .cont, out => exact False.elim out
  | .ok (.ret u), out =>
    obtain ⟨v, H', os, bare, un, hok', rel, res⟩ := out
    have res : v = .bl true := res
    subst res
    obtain rfl : u = Value.bool true := rel
    refine ⟨rfl, OldK.of_keep fun b o e => ?_, os, bare⟩
    rcases only b with z | ⟨ob, xs, z⟩
    · exact un.keep b o e z (fun z => (nomatch (show b ∈ ([] : List Addr) from z))) (fun z => nomatch z)
    · obtain ⟨e1, _⟩ := hok b _ z
      obtain ⟨e2, _⟩ := hok' b _ (un.frzs b ob _ z)
      rw [e] at e1
      rw [Option.some.inj e1]
      exact e2
theorem law_callG {P : Program} {w : World} {K : PySem.W.Frag} {mg mb : Str → Option Value} {k : Nat} {fa a : Addr} {fd : FuncData} {x : Str} {sp : Sp} {t : Shared} {vs : List Value} {ns : List Int}
    (inK : K.In t.heap) (nsG : t.heap.Ns mainGlobals mg) (nsB : t.heap.Ns builtinsNs mb) (boot : ∀ x : Str, x ≠ "__name__" → mb x = bootBuiltins x) (lim : t.heap.NoLimit) (gens : t.gens = #[])
    (scr : t.heap.get? a = some { cls := .type "list", data := .seq vs.toArray }) (whl : IntsAre vs ns) (short : ns.length ≤ sizeLine) (room : Room k callerA)
    (F : ∀ base : Heap, K.In base → base.Ns mainGlobals mg → FnG P w K mg base k fa fd [x] sp) (bind : ∀ (s : Shared) (u : Value), BindsTo s fd ⟨[u], []⟩ [(x, u)])
    (told : ∀ H : Hp, Only H → SqL K H a (ns.map V.int) → sp [.ref a] H (fun v _ => v = .bl true) fun _ _ _ => False) :
    codeAny (model P w) callerA (.call (.ref fa) ⟨[.ref a], []⟩) (fun r s' => r = .ok (.ret (.bool true)) ∧ OldK t.heap s'.heap ∧ s'.os = t.os ∧ AllBare s'.gens) t := by
  have vals := vals_ints whl
  have many := whl.length
  cases hk : K.lookup a with
  | some o =>
    have e := inK a o hk
    rw [scr] at e
    cases e
    have only : Only (fun _ => none) := fun _ => .inl rfl
    refine script_callG (H := fun _ => none) inK nsG nsB boot lim gens scr room F bind only (told _ only (.inr ⟨_, vs.toArray, _, hk, rfl, rfl, rfl, by rw [List.size_toArray, many]; exact short, by simpa using vals⟩)) (fun b u z => ?_) (fun b z => absurd rfl z) fun z => absurd rfl z
    have z' : (none : Option HO) = some u := z
    cases z'
  | none =>
    have only : Only (fun b => if b = a then some (.frz { cls := .type "list", data := .seq vs.toArray } (.lst (ns.map V.int))) else none) := fun b => by
      by_cases hb : b = a
      · exact .inr ⟨_, _, if_pos hb⟩
      · exact .inl (if_neg hb)
    refine script_callG (H := fun b => if b = a then some (.frz { cls := .type "list", data := .seq vs.toArray } (.lst (ns.map V.int))) else none) inK nsG nsB boot lim gens scr room F bind only (told _ only (.inl (.inr ⟨_, if_pos rfl⟩))) (fun b u z => ?_) (fun b z => ?_) fun _ => hk
    · by_cases hb : b = a
      · have z' := (if_pos hb).symm.trans z
        cases z'
        subst hb
        exact ⟨scr, by rw [List.length_map]; exact short, vs, _, vals, scr⟩
      · have z' := (if_neg hb).symm.trans z
        cases z'
    · by_cases hb : b = a
      · exact hb
      · exact absurd (if_neg hb) z
/-- the goal that the law's end leaves, from the law's promise where no repr is under way -/
theorem walk_ofG {l : PySem.W.OpenLaw} {n k : Nat} {q : Program} {loose : List Str} {XP : (Str → Option Value) → Heap → Prop} {YP : World → Heap → Prop} {d : DefRec} {K : Params → PySem.W.Frag} {sp : World → Sp} {x : Str}
    (most : l.most = some n) (short : n ≤ sizeLine) (plain : d.params.defaults = []) (room : Room k callerA) (inY : ∀ (w : World) (h : Heap), YP w h → (K w.params).In h)
    (F : ∀ (w : World) (mg : Str → Option Value) (fa : Addr) (h : Heap), (K w.params).In h → h.Ns mainGlobals mg → mg d.name = some (.ref fa) →
      ∃ fd : FuncData, (∀ (s : Shared) (u : Value), BindsTo s fd ⟨[u], []⟩ [(x, u)]) ∧ ∀ base : Heap, (K w.params).In base → base.Ns mainGlobals mg → FnG l.prog w (K w.params) mg base k fa fd [x] (sp w))
    (told : ∀ (w : World) (H : Hp) (a : Addr) (ns : List Int), ns.length ≤ n → Only H → SqL (K w.params) H a (ns.map V.int) → sp w [.ref a] H (fun v _ => v = .bl true) fun _ _ _ => False) :
    PySem.W.WalkO q loose XP YP l.row.toRowW d [] (fun f vs => PySem.call f vs) := by
  refine Att.attach_call most plain fun w s0 t mg mb fa o pm cd doc a vs ns G Y ho hd hcd hmg scr whl few gens => ?_
  have inK := inY w _ Y
  obtain ⟨fd, bind, hF⟩ := F w mg fa _ inK G.T.g hmg
  exact law_callG inK G.T.g G.T.b G.T.builtins G.T.nolimit gens scr whl (Nat.le_trans few short) room hF bind fun H only hS => told w H a ns few only hS
/-- repr of data, where no repr is under way -/
def rReprD (K : PySem.W.Frag) : List V → Hp → VK → Prop := fun xs H Q => ∃ (a : Addr) (d : PyData), xs = [.ref a] ∧ Dp K H (.ref a) d ∧ d.showable = true ∧ d.hasDict = false ∧ d.depth ≤ 60 ∧ d.shown.length ≤ sizeLine ∧ Q (.str d.shown) H
theorem call_reprD {X : Cx} {K : PySem.W.Frag} (hg : X.A.guards = some []) (hu : X.A.units + 64 < cLine) (hK : X.K = K := by rfl) : CallR X (.builtin "repr") (rReprD K) := by
  subst hK
  intro pins s σ H xs us Q I r h
  obtain ⟨a, d, rfl, hd, h1, h2, h3, h4, q⟩ := h
  cases r with
  | cons r1 r2 =>
    cases r2
    obtain ⟨as, rd⟩ := Dp.reads I _ _ _ hd r1
    cases r1
    exact repr_of_reads' rd h1 (fun z => by rw [h2] at z; cases z) hg (by omega) (fun _ _ e => e) (fun h' u tk hk => ⟨.str d.shown, H, I.kept (t' := tk) hk, ⟨u, rfl⟩, q⟩) h4
end Five
end
section
namespace Five
open PySem PySem.Spec PyProof.Rows L2
open PySem.W (Datum DatumOrd T3)
/-! how long the text of data is -/
structure ShB (n : Nat) (d : PyData) : Prop where
  sh : d.showable = true
  nd : d.hasDict = false
  len : d.shown.length ≤ n
theorem ShB.le {n m : Nat} {d : PyData} (h : ShB n d) (k : n ≤ m) : ShB m d := ⟨h.sh, h.nd, Nat.le_trans h.len k⟩
theorem shb_none : ShB 4 .none := ⟨rfl, rfl, by rw [PyData.shown_none]; decide⟩
theorem shb_str {v : Str} (h : Nm v) : ShB 82 (.str v) := ⟨rfl, rfl, by
  rw [PyData.shown_str]
  have := StrLaws.reprText_len v fun c hc => by have := (h.2.2 c hc).2; omega
  have := h.2.1
  omega⟩
theorem shb_int {n : Int} (h0 : 0 ≤ n) (h : n < 10 ^ 6) : ShB 7 (.int n) := ⟨by
  simp only [PyData.showable, decide_eq_true_eq]
  have h2 : n.natAbs < 2 ^ 20 := by omega
  by_cases q : n.natAbs = 0
  · rw [q]; decide
  · have := (Nat.log2_lt q).mpr h2
    omega, rfl, by
  rw [PyData.shown_int]
  exact Nat.le_trans (toString_length_le h0 (k := 6) (by decide) h) (by decide)⟩
theorem shown_mem : ∀ {xs : List PyData} {t : Str}, t ∈ PyData.shownAll xs → ∃ x ∈ xs, t = x.shown
  | [], _, h => by rw [PyData.shownAll_nil] at h; cases h
  | x :: r, t, h => by
    rw [PyData.shownAll_cons] at h
    rcases List.mem_cons.mp h with e | e
    · exact ⟨x, by simp, e⟩
    · obtain ⟨y, h1, h2⟩ := shown_mem e
      exact ⟨y, List.mem_cons_of_mem _ h1, h2⟩
theorem piled_le {b : Nat} : ∀ {ts : List Str}, (∀ t ∈ ts, t.length ≤ b) → piled ts ≤ ts.length * (b + 2)
  | [], _ => Nat.le_of_eq (by simp [piled])
  | t :: r, h => by
    have h1 := h t (by simp)
    have h2 := piled_le (ts := r) fun x hx => h x (List.mem_cons_of_mem _ hx)
    rw [piled_cons, List.length_cons, Nat.succ_mul]
    omega
theorem join_le {b : Nat} {ts : List Str} (h : ∀ t ∈ ts, t.length ≤ b) : (Str.join ", " ts).length ≤ ts.length * (b + 2) := by
  by_cases e : ts = []
  · subst e; exact Nat.zero_le _
  · have := join_length_add ts e
    have := piled_le h
    omega
theorem nd_all : ∀ {xs : List PyData}, (∀ x ∈ xs, PyData.hasDict x = false) → PyData.hasDictAll xs = false
  | [], _ => by simp only [PyData.hasDictAll]
  | x :: r, h => by
    simp only [PyData.hasDictAll, h x (by simp), nd_all fun y hy => h y (List.mem_cons_of_mem _ hy), Bool.or_self]
theorem shb_items {b k : Nat} {xs : List PyData} (h : ∀ x ∈ xs, ShB b x) (hk : xs.length ≤ k) : PyData.showableAll xs = true ∧ PyData.hasDictAll xs = false ∧ (Str.join ", " (PyData.shownAll xs)).length ≤ k * (b + 2) := by
  refine ⟨PySem.Spec.showableAll_of (xs := xs) fun x hx => (h x hx).sh, nd_all fun x hx => (h x hx).nd, Nat.le_trans (join_le (b := b) fun t ht => ?_) ?_⟩
  · obtain ⟨x, hx, rfl⟩ := shown_mem ht
    exact (h x hx).len
  · rw [PyData.shownAll_length]
    exact Nat.mul_le_mul_right _ hk
theorem shb_list {b k : Nat} {xs : List PyData} (h : ∀ x ∈ xs, ShB b x) (hk : xs.length ≤ k) : ShB (2 + k * (b + 2)) (.list xs) := by
  obtain ⟨h1, h2, h3⟩ := shb_items h hk
  refine ⟨by simp only [PyData.showable]; exact h1, by simp only [PyData.hasDict]; exact h2, ?_⟩
  rw [PyData.shown_list, strLen_append, strLen_append]
  have e1 : ((("[" : String) : Str)).length = 1 := rfl
  have e2 : ((("]" : String) : Str)).length = 1 := rfl
  omega
theorem shb_tup {b k : Nat} {xs : List PyData} (h : ∀ x ∈ xs, ShB b x) (hk : xs.length ≤ k) : ShB (3 + k * (b + 2)) (.tuple xs) := by
  obtain ⟨h1, h2, h3⟩ := shb_items h hk
  refine ⟨by simp only [PyData.showable]; exact h1, by simp only [PyData.hasDict]; exact h2, ?_⟩
  rw [PyData.shown_tuple, strLen_append, strLen_append]
  have e1 : ((("(" : String) : Str)).length = 1 := rfl
  have e2 : (((if xs.length == 1 then ",)" else ")" : String) : Str)).length ≤ 2 := by split <;> decide
  omega
/-- what is known of every paper that four_paper tells -/
structure PapB (R : List Row) (pp : List Step4) : Prop where
  len : pp.length ≤ 60
  step : ∀ st ∈ pp, st.1 ∈ vsf R ∧ (0 ≤ st.2.1 ∧ st.2.1 < 4) ∧ st.2.2.length ≤ 2 ∧ ∀ y ∈ st.2.2, y.1 ∈ vsf R ∧ (0 ≤ y.2.1 ∧ y.2.1 < 4) ∧ y.2.2.length ≤ 60 ∧ ∀ u ∈ y.2.2, u ∈ vsf R
theorem sh_sw {y : Swap} {R : List Row} (hn : ∀ v ∈ vsf R, Nm v) (h : y.1 ∈ vsf R ∧ (0 ≤ y.2.1 ∧ y.2.1 < 4) ∧ y.2.2.length ≤ 60 ∧ ∀ u ∈ y.2.2, u ∈ vsf R) : ShB 15135 (Datum.toD (sw3 y)) := by
  have hb : ShB 5042 (.list (y.2.2.map PyData.str)) := shb_list (b := 82) (k := 60) (fun x hx => by obtain ⟨u, hu, rfl⟩ := List.mem_map.mp hx; exact shb_str (hn _ (h.2.2.2 u hu))) (by rw [List.length_map]; exact h.2.2.1)
  refine shb_tup (b := 5042) (k := 3) (fun x hx => ?_) (by simp)
  have hx : x ∈ ([.str y.1, .int y.2.1, .list (y.2.2.map PyData.str)] : List PyData) := hx
  simp only [List.mem_cons, List.not_mem_nil, or_false] at hx
  rcases hx with rfl | rfl | rfl
  · exact (shb_str (hn _ h.1)).le (by decide)
  · exact (shb_int h.2.1.1 (by omega)).le (by decide)
  · exact hb
theorem sh_st {st : Step4} {R : List Row} (hn : ∀ v ∈ vsf R, Nm v) (h : st.1 ∈ vsf R ∧ (0 ≤ st.2.1 ∧ st.2.1 < 4) ∧ st.2.2.length ≤ 2 ∧ ∀ y ∈ st.2.2, y.1 ∈ vsf R ∧ (0 ≤ y.2.1 ∧ y.2.1 < 4) ∧ y.2.2.length ≤ 60 ∧ ∀ u ∈ y.2.2, u ∈ vsf R) : ShB 90837 (Datum.toD (st3 st)) := by
  have hb : ShB 30276 (.list ((st.2.2.map sw3).map Datum.toD)) := shb_list (b := 15135) (k := 2) (fun x hx => by
    obtain ⟨z, hz, rfl⟩ := List.mem_map.mp hx
    obtain ⟨y, hy, rfl⟩ := List.mem_map.mp hz
    exact sh_sw hn (h.2.2.2 y hy)) (by rw [List.length_map, List.length_map]; exact h.2.2.1)
  refine shb_tup (b := 30276) (k := 3) (fun x hx => ?_) (by simp)
  have hx : x ∈ ([.str st.1, .int st.2.1, .list ((st.2.2.map sw3).map Datum.toD)] : List PyData) := hx
  simp only [List.mem_cons, List.not_mem_nil, or_false] at hx
  rcases hx with rfl | rfl | rfl
  · exact (shb_str (hn _ h.1)).le (by decide)
  · exact (shb_int h.2.1.1 (by omega)).le (by decide)
  · exact hb
theorem sh_pp {pp : List Step4} {R : List Row} (hn : ∀ v ∈ vsf R, Nm v) (h : PapB R pp) : ShB 5450342 (.list ((pp.map st3).map Datum.toD)) := shb_list (b := 90837) (k := 60) (fun x hx => by
    obtain ⟨z, hz, rfl⟩ := List.mem_map.mp hx
    obtain ⟨y, hy, rfl⟩ := List.mem_map.mp hz
    exact sh_st hn (h.step y hy)) (by rw [List.length_map, List.length_map]; exact h.len)
theorem room_two {rd : Str → List Str} {most : Nat} {v : Str} {hv : List (Str × Int)} {n : Nat} : (roomF rd most v hv n).1.length ≤ 2 := by
  unfold roomF
  split
  · exact Nat.zero_le _
  · split
    · exact Nat.le_succ _
    · split
      · exact Nat.le_refl _
      · exact Nat.zero_le _
theorem four_two {rd : Str → List Str} {most : Nat} : ∀ {l : List Str} {hv : List (Str × Int)} {pp pq : List Step4} {n k : Nat}, fourF rd most l hv pp n = (some pq, k) → (∀ st ∈ pp, st.2.2.length ≤ 2) → (∀ st ∈ pq, st.2.2.length ≤ 2) ∧ pq.length = pp.length + l.length
  | [], _, _, _, _, _, e, h => by cases e; exact ⟨h, rfl⟩
  | v :: l, hv, pp, pq, n, k, e, h => by
    unfold fourF at e
    split at e
    · obtain ⟨h1, h2⟩ := four_two e fun st hst => by
        rcases List.mem_append.mp hst with q | q
        · exact h st q
        · rw [List.mem_singleton.mp q]; exact room_two
      exact ⟨h1, by rw [h2, List.length_append, List.length_cons]; simp only [List.length_cons, List.length_nil]; omega⟩
    · cases e
theorem sws_in {R : List Row} {hv hv' : List (Str × Int)} {xs : List Swap} (w4 : Web4 R) (h : SwsTo (rdf R) 4 hv xs hv') : Hues4 R hv → ∀ y ∈ xs, y.1 ∈ vsf R ∧ (0 ≤ y.2.1 ∧ y.2.1 < 4) ∧ y.2.2.length ≤ 60 ∧ ∀ u ∈ y.2.2, u ∈ vsf R := by
  induction h with
  | nil => exact fun _ _ h => nomatch h
  | cons h t ih =>
    intro h4 y hy
    rcases List.mem_cons.mp hy with rfl | q
    · exact ⟨h4.sub _ h.inH, ⟨h.ge, h.lt⟩, (h.rowOk w4 h4).len, fun u hu => h4.sub u ((h.rowOk w4 h4).sub u hu)⟩
    · exact ih (h4.to _) y q
theorem pap_in {R : List Row} {hv hv' : List (Str × Int)} {xs : List Step4} (w4 : Web4 R) (h : PapTo (rdf R) (vsf R) 4 hv xs hv') : Hues4 R hv → ∀ st ∈ xs, st.1 ∈ vsf R ∧ (0 ≤ st.2.1 ∧ st.2.1 < 4) ∧ ∀ y ∈ st.2.2, y.1 ∈ vsf R ∧ (0 ≤ y.2.1 ∧ y.2.1 < 4) ∧ y.2.2.length ≤ 60 ∧ ∀ u ∈ y.2.2, u ∈ vsf R := by
  induction h with
  | nil => exact fun _ _ h => nomatch h
  | cons h t ih =>
    intro h4 st hst
    rcases List.mem_cons.mp hst with rfl | q
    · exact ⟨h.inV, ⟨h.ge, h.lt⟩, sws_in w4 h.sws h4⟩
    · refine ih ⟨?_, ?_⟩ st q
      · rw [ks_snoc, h.sws.ks]
        refine List.nodup_append.mpr ⟨h4.nd, by simp, fun a ha b hb e => h.new ?_⟩
        rw [h.sws.ks, ← List.mem_singleton.mp hb, ← e]; exact ha
      · intro u hu
        rw [ks_snoc, h.sws.ks] at hu
        rcases List.mem_append.mp hu with q | q
        · exact h4.sub u q
        · rw [List.mem_singleton.mp q]; exact h.inV
theorem pap_b {R : List Row} {most n : Nat} {l : List Str} {pq : List Step4} {k : Nat} (w4 : Web4 R) (hl : ∀ v ∈ l, v ∈ vsf R) (hn : l.Nodup) (e : fourF (rdf R) most l [] [] n = (some pq, k)) : PapB R pq := by
  obtain ⟨h1, h2⟩ := four_two e fun _ h => nomatch h
  obtain ⟨ps, hvF, e1, e2, e3⟩ := four_pap (vs := vsf R) e hl (by show l.Nodup; exact hn)
  rw [List.nil_append] at e1
  subst e1
  have h3 := pap_in w4 e2 ⟨List.nodup_nil, fun _ h => nomatch h⟩
  refine ⟨by rw [h2, List.length_nil, Nat.zero_add]; exact Nat.le_trans (nodup_le hn hl) (by rw [List.length_map]; exact w4.len), fun st hst => ?_⟩
  obtain ⟨q1, q2, q3⟩ := h3 st hst
  exact ⟨q1, q2, h1 st hst, q3⟩
theorem four_most {rd : Str → List Str} {most : Nat} {l : List Str} {hv : List (Str × Int)} {pp : List Step4} {n : Nat} (h : n ≤ most) : (fourF rd most l hv pp n).2 ≤ most := by
  rw [four_lim h]
  split
  · next q => exact q
  · exact Nat.le_refl _
end Five
end
section
namespace Five
open PySem PySem.Spec PyProof.Rows L2
def top (i : Nat) : Stmt := PySem.Challenge.pw_fivehues_k54_four_hues_mirrored.main.body.getD i (.Pass ⟨0, 0, 0, 0⟩)
abbrev s_wall : Stmt := top 0
abbrev N_wall : List Str := ["k"]
theorem sc_wall : FnScope N_wall ["k"] (defScope s_wall) := ⟨rfl, rfl, rfl, by decide +kernel, rfl, by decide +kernel, by decide +kernel⟩
abbrev s_OneWay_init : Stmt := inClass (top 5) 0
abbrev N_OneWay_init : List Str := ["self", "one", "other"]
theorem sc_OneWay_init : FnScope N_OneWay_init ["self", "one", "other"] (defScope s_OneWay_init) := ⟨rfl, rfl, rfl, by decide +kernel, rfl, by decide +kernel, by decide +kernel⟩
abbrev s_NotFlat_init : Stmt := inClass (top 6) 0
abbrev N_NotFlat_init : List Str := ["self", "many_places", "many_ties", "many_faces"]
theorem sc_NotFlat_init : FnScope N_NotFlat_init ["self", "many_places", "many_ties", "many_faces"] (defScope s_NotFlat_init) := ⟨rfl, rfl, rfl, by decide +kernel, rfl, by decide +kernel, by decide +kernel⟩
abbrev s_come_to_chains : Stmt := top 10
abbrev N_come_to_chains : List Str := ["web", "hues", "start", "two", "found", "waiting", "other"]
theorem sc_come_to_chains : FnScope N_come_to_chains ["web", "hues", "start", "two"] (defScope s_come_to_chains) := ⟨rfl, rfl, rfl, by decide +kernel, rfl, by decide +kernel, by decide +kernel⟩
abbrev s_chain : Stmt := top 12
abbrev N_chain : List Str := ["web", "hues", "start", "other"]
theorem sc_chain : FnScope N_chain ["web", "hues", "start", "other"] (defScope s_chain) := ⟨rfl, rfl, rfl, by decide +kernel, rfl, by decide +kernel, by decide +kernel⟩
abbrev s_turned : Stmt := top 13
abbrev N_turned : List Str := ["hues", "row", "one", "other", "found", "place"]
theorem sc_turned : FnScope N_turned ["hues", "row", "one", "other"] (defScope s_turned) := ⟨rfl, rfl, rfl, by decide +kernel, rfl, by decide +kernel, by decide +kernel⟩
abbrev s_exchanged : Stmt := top 14
abbrev N_exchanged : List Str := ["web", "hues", "start", "other"]
theorem sc_exchanged : FnScope N_exchanged ["web", "hues", "start", "other"] (defScope s_exchanged) := ⟨rfl, rfl, rfl, by decide +kernel, rfl, by decide +kernel, by decide +kernel⟩
abbrev s_Left_init : Stmt := inClass (top 16) 0
abbrev N_Left_init : List Str := ["self", "web", "place"]
theorem sc_Left_init : FnScope N_Left_init ["self", "web"] (defScope s_Left_init) := ⟨rfl, rfl, rfl, by decide +kernel, rfl, by decide +kernel, by decide +kernel⟩
abbrev s_Left_fewest : Stmt := inClass (top 16) 1
abbrev N_Left_fewest : List Str := ["self", "place"]
theorem sc_Left_fewest : FnScope N_Left_fewest ["self"] (defScope s_Left_fewest) := ⟨rfl, rfl, rfl, by decide +kernel, rfl, by decide +kernel, by decide +kernel⟩
abbrev s_Left_take_off : Stmt := inClass (top 16) 2
abbrev N_Left_take_off : List Str := ["self", "place", "other"]
theorem sc_Left_take_off : FnScope N_Left_take_off ["self", "place"] (defScope s_Left_take_off) := ⟨rfl, rfl, rfl, by decide +kernel, rfl, by decide +kernel, by decide +kernel⟩
abbrev s_Left_is_empty : Stmt := inClass (top 16) 3
abbrev N_Left_is_empty : List Str := ["self"]
theorem sc_Left_is_empty : FnScope N_Left_is_empty ["self"] (defScope s_Left_is_empty) := ⟨rfl, rfl, rfl, by decide +kernel, rfl, by decide +kernel, by decide +kernel⟩
abbrev s_order : Stmt := top 17
abbrev N_order : List Str := ["web", "left", "found", "place"]
theorem sc_order : FnScope N_order ["web"] (defScope s_order) := ⟨rfl, rfl, rfl, by decide +kernel, rfl, by decide +kernel, by decide +kernel⟩
abbrev s_free_hue : Stmt := top 20
abbrev N_free_hue : List Str := ["web", "hues", "place", "taken", "hue", "other"]
theorem sc_free_hue : FnScope N_free_hue ["web", "hues", "place"] (defScope s_free_hue) := ⟨rfl, rfl, rfl, by decide +kernel, rfl, by decide +kernel, by decide +kernel⟩
abbrev s_tries : Stmt := top 21
abbrev N_tries : List Str := ["web", "hues", "place", "found", "start", "hue"]
theorem sc_tries : FnScope N_tries ["web", "hues", "place"] (defScope s_tries) := ⟨rfl, rfl, rfl, by decide +kernel, rfl, by decide +kernel, by decide +kernel⟩
abbrev s_with_chain : Stmt := top 22
abbrev N_with_chain : List Str := ["web", "hues", "one"]
theorem sc_with_chain : FnScope N_with_chain ["web", "hues", "one"] (defScope s_with_chain) := ⟨rfl, rfl, rfl, by decide +kernel, rfl, by decide +kernel, by decide +kernel⟩
abbrev s_Search_init : Stmt := inClass (top 23) 0
abbrev N_Search_init : List Str := ["self", "web", "most"]
theorem sc_Search_init : FnScope N_Search_init ["self", "web", "most"] (defScope s_Search_init) := ⟨rfl, rfl, rfl, by decide +kernel, rfl, by decide +kernel, by decide +kernel⟩
abbrev s_Search_behind : Stmt := inClass (top 23) 1
abbrev N_Search_behind : List Str := ["self", "hues", "one"]
theorem sc_Search_behind : FnScope N_Search_behind ["self", "hues", "one"] (defScope s_Search_behind) := ⟨rfl, rfl, rfl, by decide +kernel, rfl, by decide +kernel, by decide +kernel⟩
abbrev s_Search_single : Stmt := inClass (top 23) 2
abbrev N_Search_single : List Str := ["self", "place", "one", "then", "swap"]
theorem sc_Search_single : FnScope N_Search_single ["self", "place"] (defScope s_Search_single) := ⟨rfl, rfl, rfl, by decide +kernel, rfl, by decide +kernel, by decide +kernel⟩
abbrev s_Search_second : Stmt := inClass (top 23) 3
abbrev N_Search_second : List Str := ["self", "place", "hues", "other", "then"]
theorem sc_Search_second : FnScope N_Search_second ["self", "place", "hues"] (defScope s_Search_second) := ⟨rfl, rfl, rfl, by decide +kernel, rfl, by decide +kernel, by decide +kernel⟩
abbrev s_Search_double : Stmt := inClass (top 23) 4
abbrev N_Search_double : List Str := ["self", "place", "one", "then", "found", "swaps"]
theorem sc_Search_double : FnScope N_Search_double ["self", "place"] (defScope s_Search_double) := ⟨rfl, rfl, rfl, by decide +kernel, rfl, by decide +kernel, by decide +kernel⟩
abbrev s_Search_put : Stmt := inClass (top 23) 5
abbrev N_Search_put : List Str := ["self", "place", "swaps", "hue"]
theorem sc_Search_put : FnScope N_Search_put ["self", "place"] (defScope s_Search_put) := ⟨rfl, rfl, rfl, by decide +kernel, rfl, by decide +kernel, by decide +kernel⟩
abbrev s_four_paper : Stmt := top 24
abbrev N_four_paper : List Str := ["web", "most", "search", "place"]
theorem sc_four_paper : FnScope N_four_paper ["web", "most"] (defScope s_four_paper) := ⟨rfl, rfl, rfl, by decide +kernel, rfl, by decide +kernel, by decide +kernel⟩
abbrev s_is_name : Stmt := top 28
abbrev N_is_name : List Str := ["thing", "sign"]
theorem sc_is_name : FnScope N_is_name ["thing"] (defScope s_is_name) := ⟨rfl, rfl, rfl, by decide +kernel, rfl, by decide +kernel, by decide +kernel⟩
abbrev s_from_least : Stmt := top 29
abbrev N_from_least : List Str := ["around", "at"]
theorem sc_from_least : FnScope N_from_least ["around"] (defScope s_from_least) := ⟨rfl, rfl, rfl, by decide +kernel, rfl, by decide +kernel, by decide +kernel⟩
abbrev s_behind : Stmt := top 30
abbrev N_behind : List Str := ["around", "place"]
theorem sc_behind : FnScope N_behind ["around", "place"] (defScope s_behind) := ⟨rfl, rfl, rfl, by decide +kernel, rfl, by decide +kernel, by decide +kernel⟩
abbrev s_face_from : Stmt := top 31
abbrev N_face_from : List Str := ["rounds", "step", "found", "p", "q", "here"]
theorem sc_face_from : FnScope N_face_from ["rounds", "step"] (defScope s_face_from) := ⟨rfl, rfl, rfl, by decide +kernel, rfl, by decide +kernel, by decide +kernel⟩
abbrev s_faces_in : Stmt := top 32
abbrev N_faces_in : List Str := ["rounds", "found", "seen", "place", "other", "face", "step"]
theorem sc_faces_in : FnScope N_faces_in ["rounds"] (defScope s_faces_in) := ⟨rfl, rfl, rfl, by decide +kernel, rfl, by decide +kernel, by decide +kernel⟩
abbrev s_come_to : Stmt := top 33
abbrev N_come_to : List Str := ["rounds", "place", "found", "waiting", "other"]
theorem sc_come_to : FnScope N_come_to ["rounds", "place"] (defScope s_come_to) := ⟨rfl, rfl, rfl, by decide +kernel, rfl, by decide +kernel, by decide +kernel⟩
abbrev s_pieces_in : Stmt := top 35
abbrev N_pieces_in : List Str := ["rounds", "found", "seen", "place", "piece", "one"]
theorem sc_pieces_in : FnScope N_pieces_in ["rounds"] (defScope s_pieces_in) := ⟨rfl, rfl, rfl, by decide +kernel, rfl, by decide +kernel, by decide +kernel⟩
abbrev s_want_names : Stmt := top 36
abbrev N_want_names : List Str := ["rows", "place", "around", "name"]
theorem sc_want_names : FnScope N_want_names ["rows"] (defScope s_want_names) := ⟨rfl, rfl, rfl, by decide +kernel, rfl, by decide +kernel, by decide +kernel⟩
abbrev s_want_unlike : Stmt := top 37
abbrev N_want_unlike : List Str := ["rows", "place", "around"]
theorem sc_want_unlike : FnScope N_want_unlike ["rows"] (defScope s_want_unlike) := ⟨rfl, rfl, rfl, by decide +kernel, rfl, by decide +kernel, by decide +kernel⟩
abbrev s_want_back : Stmt := top 38
abbrev N_want_back : List Str := ["rows", "rounds", "place", "around", "other"]
theorem sc_want_back : FnScope N_want_back ["rows", "rounds"] (defScope s_want_back) := ⟨rfl, rfl, rfl, by decide +kernel, rfl, by decide +kernel, by decide +kernel⟩
abbrev s_want_flat : Stmt := top 39
abbrev N_want_flat : List Str := ["rounds", "faces", "piece", "ties", "own", "place", "face"]
theorem sc_want_flat : FnScope N_want_flat ["rounds"] (defScope s_want_flat) := ⟨rfl, rfl, rfl, by decide +kernel, rfl, by decide +kernel, by decide +kernel⟩
abbrev s_Web_init : Stmt := inClass (top 40) 0
abbrev N_Web_init : List Str := ["self", "rows", "rounds", "place", "around"]
theorem sc_Web_init : FnScope N_Web_init ["self", "rows"] (defScope s_Web_init) := ⟨rfl, rfl, rfl, by decide +kernel, rfl, by decide +kernel, by decide +kernel⟩
abbrev s_Web_places : Stmt := inClass (top 40) 1
abbrev N_Web_places : List Str := ["self"]
theorem sc_Web_places : FnScope N_Web_places ["self"] (defScope s_Web_places) := ⟨rfl, rfl, rfl, by decide +kernel, rfl, by decide +kernel, by decide +kernel⟩
abbrev s_Web_round_of : Stmt := inClass (top 40) 2
abbrev N_Web_round_of : List Str := ["self", "place"]
theorem sc_Web_round_of : FnScope N_Web_round_of ["self", "place"] (defScope s_Web_round_of) := ⟨rfl, rfl, rfl, by decide +kernel, rfl, by decide +kernel, by decide +kernel⟩
abbrev s_Web_ties : Stmt := inClass (top 40) 3
abbrev N_Web_ties : List Str := ["self", "found", "one", "other"]
theorem sc_Web_ties : FnScope N_Web_ties ["self"] (defScope s_Web_ties) := ⟨rfl, rfl, rfl, by decide +kernel, rfl, by decide +kernel, by decide +kernel⟩
abbrev s_Web_is_tied : Stmt := inClass (top 40) 4
abbrev N_Web_is_tied : List Str := ["self", "one", "other"]
theorem sc_Web_is_tied : FnScope N_Web_is_tied ["self", "one", "other"] (defScope s_Web_is_tied) := ⟨rfl, rfl, rfl, by decide +kernel, rfl, by decide +kernel, by decide +kernel⟩
abbrev s_mirrored : Stmt := top 42
abbrev N_mirrored : List Str := ["web", "place"]
theorem sc_mirrored : FnScope N_mirrored ["web"] (defScope s_mirrored) := ⟨rfl, rfl, rfl, by decide +kernel, rfl, by decide +kernel, by decide +kernel⟩
abbrev s_law_cell : Stmt := top 44
abbrev N_law_cell : List Str := ["_law_script", "_law_k"]
theorem sc_law_cell : FnScope N_law_cell ["_law_script", "_law_k"] (defScope s_law_cell) := ⟨rfl, rfl, rfl, by decide +kernel, rfl, by decide +kernel, by decide +kernel⟩
abbrev s_law_pot : Stmt := top 45
abbrev N_law_pot : List Str := ["_law_cell_here"]
theorem sc_law_pot : FnScope N_law_pot ["_law_cell_here"] (defScope s_law_pot) := ⟨rfl, rfl, rfl, by decide +kernel, rfl, by decide +kernel, by decide +kernel⟩
abbrev s_law_take : Stmt := top 46
abbrev N_law_take : List Str := ["_law_pot_here", "_law_many", "_law_digit"]
theorem sc_law_take : FnScope N_law_take ["_law_pot_here", "_law_many"] (defScope s_law_take) := ⟨rfl, rfl, rfl, by decide +kernel, rfl, by decide +kernel, by decide +kernel⟩
abbrev s_law_names : Stmt := top 47
abbrev N_law_names : List Str := ["_law_pot_here", "_law_many", "_law_letters", "_law_step", "_law_begin", "_law_found", "_law_k", "_law_word", "_law_number", "_law_digit", "_law_sign"]
theorem sc_law_names : FnScope N_law_names ["_law_pot_here", "_law_many"] (defScope s_law_names) := ⟨rfl, rfl, rfl, by decide +kernel, rfl, by decide +kernel, by decide +kernel⟩
abbrev s_law_behind : Stmt := top 48
abbrev N_law_behind : List Str := ["_law_around", "_law_place"]
theorem sc_law_behind : FnScope N_law_behind ["_law_around", "_law_place"] (defScope s_law_behind) := ⟨rfl, rfl, rfl, by decide +kernel, rfl, by decide +kernel, by decide +kernel⟩
abbrev s_law_face : Stmt := top 49
abbrev N_law_face : List Str := ["_law_rounds_here", "_law_p", "_law_q", "_law_found", "_law_here"]
theorem sc_law_face : FnScope N_law_face ["_law_rounds_here", "_law_p", "_law_q"] (defScope s_law_face) := ⟨rfl, rfl, rfl, by decide +kernel, rfl, by decide +kernel, by decide +kernel⟩
abbrev s_law_put : Stmt := top 50
abbrev N_law_put : List Str := ["_law_rounds_here", "_law_one", "_law_corner_of", "_law_other", "_law_after", "_law_place", "_law_corner", "_law_new", "_law_row", "_law_at"]
theorem sc_law_put : FnScope N_law_put ["_law_rounds_here", "_law_one", "_law_corner_of", "_law_other", "_law_after"] (defScope s_law_put) := ⟨rfl, rfl, rfl, by decide +kernel, rfl, by decide +kernel, by decide +kernel⟩
abbrev s_law_grown : Stmt := top 51
abbrev N_law_grown : List Str := ["_law_pot_here", "_law_names_here", "_law_rounds_here", "_law_name", "_law_some", "_law_other", "_law_corner"]
theorem sc_law_grown : FnScope N_law_grown ["_law_pot_here", "_law_names_here"] (defScope s_law_grown) := ⟨rfl, rfl, rfl, by decide +kernel, rfl, by decide +kernel, by decide +kernel⟩
abbrev s_law_crossed : Stmt := top 52
abbrev N_law_crossed : List Str := ["_law_rounds_here", "_law_pot_here", "_law_some", "_law_p", "_law_face_here", "_law_first", "_law_second", "_law_place"]
theorem sc_law_crossed : FnScope N_law_crossed ["_law_rounds_here", "_law_pot_here"] (defScope s_law_crossed) := ⟨rfl, rfl, rfl, by decide +kernel, rfl, by decide +kernel, by decide +kernel⟩
abbrev s_law_filled : Stmt := top 53
abbrev N_law_filled : List Str := ["_law_rounds_here", "_law_place", "_law_other", "_law_face_here", "_law_first", "_law_second"]
theorem sc_law_filled : FnScope N_law_filled ["_law_rounds_here"] (defScope s_law_filled) := ⟨rfl, rfl, rfl, by decide +kernel, rfl, by decide +kernel, by decide +kernel⟩
abbrev s_law_two_rings : Stmt := top 54
abbrev N_law_two_rings : List Str := ["_law_names_here", "_law_many", "_law_rounds_here", "_law_inner", "_law_outer", "_law_top", "_law_ground", "_law_k", "_law_ahead"]
theorem sc_law_two_rings : FnScope N_law_two_rings ["_law_names_here", "_law_many"] (defScope s_law_two_rings) := ⟨rfl, rfl, rfl, by decide +kernel, rfl, by decide +kernel, by decide +kernel⟩
abbrev s_law_untied : Stmt := top 55
abbrev N_law_untied : List Str := ["_law_rounds_here", "_law_pot_here", "_law_some", "_law_one", "_law_other", "_law_place"]
theorem sc_law_untied : FnScope N_law_untied ["_law_rounds_here", "_law_pot_here"] (defScope s_law_untied) := ⟨rfl, rfl, rfl, by decide +kernel, rfl, by decide +kernel, by decide +kernel⟩
abbrev s_law_rounds : Stmt := top 56
abbrev N_law_rounds : List Str := ["_law_script", "_law_most", "_law_pot_here", "_law_names_here", "_law_way", "_law_rounds_here", "_law_k"]
theorem sc_law_rounds : FnScope N_law_rounds ["_law_script", "_law_most"] (defScope s_law_rounds) := ⟨rfl, rfl, rfl, by decide +kernel, rfl, by decide +kernel, by decide +kernel⟩
abbrev s_law_rows : Stmt := top 57
abbrev N_law_rows : List Str := ["_law_rounds_here", "_law_place"]
theorem sc_law_rows : FnScope N_law_rows ["_law_rounds_here"] (defScope s_law_rows) := ⟨rfl, rfl, rfl, by decide +kernel, rfl, by decide +kernel, by decide +kernel⟩
abbrev s_law_other_rows : Stmt := top 58
abbrev N_law_other_rows : List Str := ["_law_rounds_here", "_law_pot_here", "_law_found", "_law_place", "_law_around", "_law_at"]
theorem sc_law_other_rows : FnScope N_law_other_rows ["_law_rounds_here", "_law_pot_here"] (defScope s_law_other_rows) := ⟨rfl, rfl, rfl, by decide +kernel, rfl, by decide +kernel, by decide +kernel⟩
abbrev s_law : Stmt := top 59
abbrev N_law : List Str := ["_law_script", "_law_rounds_here", "_law_cell_here", "_law_pot_here", "_law_k", "_law_most", "_law_web", "_law_due", "_law_other", "_law_found", "_law_place", "_law_hue", "_law_swaps", "_law_start", "_law_other_hue", "_law_row_of"]
theorem sc_law : FnScope N_law ["_law_script"] (defScope s_law) := ⟨rfl, rfl, rfl, by decide +kernel, rfl, by decide +kernel, by decide +kernel⟩
structure Txt (K : PySem.W.Frag) (mg : Str → Option Value) (C : Addr) (cx : Nat → Addr) : Prop where
  n_abs : mg "abs" = none
  n_all : mg "all" = none
  n_dict : mg "dict" = none
  n_divmod : mg "divmod" = none
  n_isinstance : mg "isinstance" = none
  n_len : mg "len" = none
  n_list : mg "list" = none
  n_max : mg "max" = none
  n_min : mg "min" = none
  n_range : mg "range" = none
  n_repr : mg "repr" = none
  n_reversed : mg "reversed" = none
  n_set : mg "set" = none
  n_sorted : mg "sorted" = none
  n_str : mg "str" = none
  n_sum : mg "sum" = none
  g_FOUR : ∃ a, mg "FOUR" = some (.ref a) ∧ ∀ H, SqT K H a [.int 0, .int 1, .int 2, .int 3]
  g_LETTERS : ∃ u, mg "LETTERS" = some u ∧ RelV (.str "abcdefghijklmnopqrstuvwxyz") u
  g_MOST_LETTERS : ∃ u, mg "MOST_LETTERS" = some u ∧ RelV (.int 8) u
  d_wall : DefAt K mg "_wall" s_wall ["k"]
  d_come_to_chains : DefAt K mg "come_to_chains" s_come_to_chains ["web", "hues", "start", "two"] "come_to"
  d_chain : DefAt K mg "chain" s_chain ["web", "hues", "start", "other"]
  d_turned : DefAt K mg "turned" s_turned ["hues", "row", "one", "other"]
  d_exchanged : DefAt K mg "exchanged" s_exchanged ["web", "hues", "start", "other"]
  d_order : DefAt K mg "order" s_order ["web"]
  d_free_hue : DefAt K mg "free_hue" s_free_hue ["web", "hues", "place"]
  d_tries : DefAt K mg "tries" s_tries ["web", "hues", "place"]
  d_with_chain : DefAt K mg "with_chain" s_with_chain ["web", "hues", "one"]
  d_four_paper : DefAt K mg "four_paper" s_four_paper ["web", "most"]
  d_is_name : DefAt K mg "is_name" s_is_name ["thing"]
  d_from_least : DefAt K mg "from_least" s_from_least ["around"]
  d_behind : DefAt K mg "behind" s_behind ["around", "place"]
  d_face_from : DefAt K mg "face_from" s_face_from ["rounds", "step"]
  d_faces_in : DefAt K mg "faces_in" s_faces_in ["rounds"]
  d_come_to : DefAt K mg "come_to_webs" s_come_to ["rounds", "place"] "come_to"
  d_pieces_in : DefAt K mg "pieces_in" s_pieces_in ["rounds"]
  d_want_names : DefAt K mg "want_names" s_want_names ["rows"]
  d_want_unlike : DefAt K mg "want_unlike" s_want_unlike ["rows"]
  d_want_back : DefAt K mg "want_back" s_want_back ["rows", "rounds"]
  d_want_flat : DefAt K mg "want_flat" s_want_flat ["rounds"]
  d_mirrored : DefAt K mg "mirrored" s_mirrored ["web"]
  d_law_cell : DefAt K mg "_law_cell" s_law_cell ["_law_script", "_law_k"]
  d_law_pot : DefAt K mg "_law_pot" s_law_pot ["_law_cell_here"]
  d_law_take : DefAt K mg "_law_take" s_law_take ["_law_pot_here", "_law_many"]
  d_law_names : DefAt K mg "_law_names" s_law_names ["_law_pot_here", "_law_many"]
  d_law_behind : DefAt K mg "_law_behind" s_law_behind ["_law_around", "_law_place"]
  d_law_face : DefAt K mg "_law_face" s_law_face ["_law_rounds_here", "_law_p", "_law_q"]
  d_law_put : DefAt K mg "_law_put" s_law_put ["_law_rounds_here", "_law_one", "_law_corner_of", "_law_other", "_law_after"]
  d_law_grown : DefAt K mg "_law_grown" s_law_grown ["_law_pot_here", "_law_names_here"]
  d_law_crossed : DefAt K mg "_law_crossed" s_law_crossed ["_law_rounds_here", "_law_pot_here"]
  d_law_filled : DefAt K mg "_law_filled" s_law_filled ["_law_rounds_here"]
  d_law_two_rings : DefAt K mg "_law_two_rings" s_law_two_rings ["_law_names_here", "_law_many"]
  d_law_untied : DefAt K mg "_law_untied" s_law_untied ["_law_rounds_here", "_law_pot_here"]
  d_law_rounds : DefAt K mg "_law_rounds" s_law_rounds ["_law_script", "_law_most"]
  d_law_rows : DefAt K mg "_law_rows" s_law_rows ["_law_rounds_here"]
  d_law_other_rows : DefAt K mg "_law_other_rows" s_law_other_rows ["_law_rounds_here", "_law_pot_here"]
  d_law : DefAt K mg "law" s_law ["_law_script"]
  h_HueError : mg "HueError" = some (.ref (cx 0))
  h_NoName : mg "NoName" = some (.ref (cx 1))
  h_Twice : mg "Twice" = some (.ref (cx 2))
  h_OneWay : mg "OneWay" = some (.ref (cx 3))
  h_NotFlat : mg "NotFlat" = some (.ref (cx 4))
  h_NoPlace : mg "NoPlace" = some (.ref (cx 5))
  h_NoHue : mg "NoHue" = some (.ref (cx 6))
  cl : Cls K C
  nR : NoAttr K C "rounds"
  mgWeb : mg "Web" = some (.ref C)
  cl_Left : Cls K (cx 7)
  mg_Left : mg "Left" = some (.ref (cx 7))
  na_Left_rounds : NoAttr K (cx 7) "rounds"
  na_Left_many : NoAttr K (cx 7) "many"
  d_Left_init : ∃ f fd, Fun K "__init__" "Left.__init__" s_Left_init f fd ∧ Mk K (cx 7) f ∧ Binds K fd ["self", "web"] []
  d_Left_fewest : MetAt K (cx 7) "fewest" "Left.fewest" s_Left_fewest ["self"]
  d_Left_take_off : MetAt K (cx 7) "take_off" "Left.take_off" s_Left_take_off ["self", "place"]
  d_Left_is_empty : MetAt K (cx 7) "is_empty" "Left.is_empty" s_Left_is_empty ["self"]
  cl_Search : Cls K (cx 8)
  mg_Search : mg "Search" = some (.ref (cx 8))
  na_Search_flat : NoAttr K (cx 8) "flat"
  na_Search_most : NoAttr K (cx 8) "most"
  na_Search_steps : NoAttr K (cx 8) "steps"
  na_Search_back : NoAttr K (cx 8) "back"
  na_Search_paper : NoAttr K (cx 8) "paper"
  d_Search_init : ∃ f fd, Fun K "__init__" "Search.__init__" s_Search_init f fd ∧ Mk K (cx 8) f ∧ Binds K fd ["self", "web", "most"] []
  d_Search_behind : MetAt K (cx 8) "behind" "Search.behind" s_Search_behind ["self", "hues", "one"]
  d_Search_single : MetAt K (cx 8) "single" "Search.single" s_Search_single ["self", "place"]
  d_Search_second : MetAt K (cx 8) "second" "Search.second" s_Search_second ["self", "place", "hues"]
  d_Search_double : MetAt K (cx 8) "double" "Search.double" s_Search_double ["self", "place"]
  d_Search_put : MetAt K (cx 8) "put" "Search.put" s_Search_put ["self", "place"]
  d_Web_init : ∃ f fd, Fun K "__init__" "Web.__init__" s_Web_init f fd ∧ Mk K C f ∧ Binds K fd ["self", "rows"] []
  d_Web_places : MetAt K C "places" "Web.places" s_Web_places ["self"]
  d_Web_round_of : MetAt K C "round_of" "Web.round_of" s_Web_round_of ["self", "place"]
  d_Web_ties : MetAt K C "ties" "Web.ties" s_Web_ties ["self"]
  d_Web_is_tied : MetAt K C "is_tied" "Web.is_tied" s_Web_is_tied ["self", "one", "other"]
end Five
end
section
namespace Five
open PySem PySem.Spec PyProof.Rows L2
section
variable {P : Program} {w : World} {K : PySem.W.Frag} {mg : Str → Option Value} {base : Heap} {C : Addr} {cx : Nat → Addr}
def spBehind (K : PySem.W.Frag) : Sp := fun vs H Q _ => ∃ (a : Addr) (l : List Str) (x : Str), vs = [.ref a, .str x] ∧ LS K H a l ∧ x ∈ l ∧ Q (.str (nx l x)) H
theorem ok_behind (T : Txt K mg C cx) : Cal P w K mg base 1 "behind" (spBehind K) := by
  refine cal_of T.d_behind sc_behind (fun vs H Q E h => ?_) (fun f cdv A outer s H vs Q E hr h => ?_)
  · obtain ⟨a, l, x, rfl, _⟩ := h
    rfl
  · obtain ⟨a, l, x, rfl, ha, hx, q⟩ := h
    refine ⟨_, (pss_one (ps_ret (pe_ix (ix_listK (K := K)) (pv 0) (pe_op op_mod (pe_op op_add (pe_bm PySem.F.plainAttrs_list PySem.F.slot_list_index PySem.F.type_list_index (mt_indexK (K := K)) (pv 0) (pa_cons (pv 1) pa_nil)) pe_int) (pe_callB (call_lenK (K := K)) (by rfl) T.n_len (by decide +kernel) (pa_cons (pv 0) pa_nil))) (fun _ _ => rfl)))), ?_⟩
    obtain ⟨j, g1, g2, g3, h1, h2, h3, h4⟩ := ixS hx
    refine ⟨_, rfl, _, rfl, .inl ⟨rfl, _, ha⟩, _, rfl, a, _, _, j, _, rfl, rfl, ha, rfl, flat_strs l, g1, g2, g3, _, _, rfl, rfl, _, rfl, _, _, rfl, .inl ha, _, _, rfl, rfl, ?_, _, _, _, _, rfl, rfl, ha, at_map V.str (j := (j + 1) % l.length) ?_ h4, q⟩
    · rw [List.length_map]; omega
    · rw [List.length_map]; exact cast_mod _ _

def spFaceFrom (K : PySem.W.Frag) : Sp := fun vs H Q _ => ∃ (M : List Addr) (d t : Addr) (rows : List Row) (p q : Str) (r : List (Str × Str)), vs = [.ref d, .ref t] ∧ Al M H ∧ RdsAt K (wo H M) d rows ∧ T2 K (wo H M) t (p, q) ∧ Wf (vsf rows) (rdf rows) ∧ (∀ v ∈ vsf rows, Nm v) ∧
  (∀ x ∈ (p, q) :: r, x ∈ darts (vsf rows) (rdf rows)) ∧ Path (fs (rdf rows)) (p, q) r (p, q) ∧ ((p, q) :: r).Nodup ∧ r.length ≤ 9000 ∧
  ∀ (l : Addr) (H' : Hp), Same H H' → LR K (T2 K) (wo H' M) l ((p, q) :: r) → Q (.ref l) H'
theorem ok_face_from (T : Txt K mg C cx) : Cal P w K mg base 2 "face_from" (spFaceFrom K) := by
  refine cal_of T.d_face_from sc_face_from (fun vs H Q E h => ?_) (fun f cdv A outer s H vs Q E hr h => ?_)
  · obtain ⟨M, d, t, rows, p, q, r, rfl, _⟩ := h
    rfl
  · obtain ⟨M, d, t, rows, p, q, r, rfl, al, hd, ht, wf, hnm, hin, hp, hnd, hlen, k⟩ := h
    refine ⟨_, (pss_cons (ps_set (i := 2) sc_face_from.nd rfl (Or.inl rfl) (pe_lst (pa_cons (pv 1) pa_nil)))
      (pss_cons (ps_asg (pv 1) (pg_tupK (K := K) 2 (by rfl) (pgs_cons (pg_name (i := 3) sc_face_from.nd rfl (Or.inl rfl)) (pgs_cons (pg_name (i := 4) sc_face_from.nd rfl (Or.inl rfl)) pgs_nil))))
      (pss_cons (ps_set (i := 5) sc_face_from.nd rfl (Or.inl rfl) (pe_tup (pa_cons (pv 4) (pa_cons (pe_c (ok_behind T) hr (by decide) (by rfl) (pa_cons (pe_dget (hu_of hr) (pv 0) (pv 4) (fun _ _ => rfl)) (pa_cons (pv 3) pa_nil))) pa_nil))))
      (pss_cons (ps_while PassesOwn.never (pt_cmpR (op_neK (K := K) (Str × Str) hr.units) (pv 5) (pv 1) (nomark _)) (pss_cons (ps_expr (pe_bm PySem.F.plainAttrs_list PySem.F.slot_list_append PySem.F.type_list_append mt_append (pv 2) (pa_cons (pv 5) pa_nil)))
      (pss_cons (ps_asg (pv 5) (pg_tupK (K := K) 2 (by rfl) (pgs_cons (pg_name (i := 3) sc_face_from.nd rfl (Or.inl rfl)) (pgs_cons (pg_name (i := 4) sc_face_from.nd rfl (Or.inl rfl)) pgs_nil))))
      (pss_one (ps_set (i := 5) sc_face_from.nd rfl (Or.inl rfl) (pe_tup (pa_cons (pv 4) (pa_cons (pe_c (ok_behind T) hr (by decide) (by rfl) (pa_cons (pe_dget (hu_of hr) (pv 0) (pv 4) (fun _ _ => rfl)) (pa_cons (pv 3) pa_nil))) pa_nil))))))))
      (pss_one (ps_ret (pv 2))))))), ?_⟩
    have nxt : ∀ (c : Str × Str), c ∈ darts (vsf rows) (rdf rows) → c.2 ∈ vsf rows ∧ c.1 ∈ rdf rows c.2 := fun c hc => by
      obtain ⟨x, y⟩ := mem_darts.mp hc
      obtain ⟨a, _, b⟩ := wf.ties c.1 x c.2 y
      exact ⟨a, b⟩
    refine ⟨_, rfl, by show 1 ≤ sizeLine; decide, fun l hl => ?_⟩
    have s0 : Same H (upd H l (.lst [.ref t])) := .new hl
    refine ⟨_, rfl, t, _, rfl, SqT.of (up s0 (rd ht)), rfl, _, _, rfl, _, _, rfl, rfl, ?_⟩
    obtain ⟨hq1, hq2⟩ := nxt (p, q) (hin _ (by simp))
    obtain ⟨a1, g1, e1⟩ := (up s0 (rd hd)).get hq1
    refine ⟨_, rfl, _, rfl, _, rfl, d, _, rfl, g1, _, rfl, a1, _, p, rfl, e1, hq2, by show 2 ≤ sizeLine; decide, fun t1 ht1 => ?_⟩
    refine ⟨fun m σ H' => ∃ (r1 r2 : List (Str × Str)) (ts : List Addr) (tc : Addr) (pp qq : Option V), r = r1 ++ r2 ∧ m = r2.length ∧ σ = [some (.ref d), some (.ref t), some (.ref l), pp, qq, some (.ref tc)] ∧ Same H H' ∧ H' l = some (.lst (ts.map V.ref)) ∧ Paired (T2 K (wo H' (l :: M))) ts ((p, q) :: r1) ∧ T2 K (wo H' (l :: M)) tc ((r2 ++ [(p, q)]).headD (p, q)), ?_, ?_⟩
    · have s1 := s0.trans (.new (o := .tup [.str q, .str (nx (rdf rows q) p)]) ht1)
      refine ⟨r.length, [], r, [t], t1, _, _, rfl, rfl, rfl, s1, Same.new ht1 _ _ upd_same, .cons (up (wo_ext1 s1 hl) ht) .nil, ?_⟩
      rw [← path_next hp]
      refine T2.of upd_same fun z => ?_
      rcases List.mem_cons.mp z with z | z
      · rw [z, upd_same] at ht1; cases ht1
      · exact (al.same s0).fresh ht1 z
    · rintro m σ H' ⟨r1, r2, ts, tc, pp, qq, er, rfl, rfl, sm, hL, hT, hc⟩
      refine ⟨_, rfl, _, rfl, _, _, (rd hc).dp, (up sm (rd ht)).dp, _, rfl, ?_⟩
      cases r2 with
      | nil =>
        refine iteNe ⟨_, rfl, k l H' sm (LR.app hL (al.fresh hl) ?_)⟩
        rw [er, List.append_nil]
        exact hT
      | cons c r2 =>
        have hcin : c ∈ (p, q) :: r := by rw [er]; simp
        have hne : c ≠ (p, q) := fun e => by
          rw [er, e] at hnd
          exact (List.nodup_cons.mp hnd).1 (by simp)
        refine iteEq hne ⟨fun σ' H2 => ∃ (ts : List Addr) (tc : Addr) (pp qq : Option V), σ' = [some (.ref d), some (.ref t), some (.ref l), pp, qq, some (.ref tc)] ∧ Same H H2 ∧ H2 l = some (.lst (ts.map V.ref)) ∧ Paired (T2 K (wo H2 (l :: M))) ts ((p, q) :: (r1 ++ [c])) ∧ T2 K (wo H2 (l :: M)) tc ((r2 ++ [(p, q)]).headD (p, q)), ?_, ?_⟩
        · rintro σ' H2 ⟨ts, tc, pp, qq, h1, h2, h3, h4, h5⟩
          exact ⟨r2.length, Nat.lt_succ_self _, r1 ++ [c], r2, ts, tc, pp, qq, by rw [er]; simp, rfl, h1, h2, h3, h4, h5⟩
        · have hts : ts.length ≤ 9001 := by
            rw [Paired.length hT, List.length_cons]
            have : r.length = r1.length + (r2.length + 1) := by rw [er]; simp
            omega
          refine ⟨_, rfl, .inl ⟨rfl, _, SqL.of hL⟩, _, rfl, l, _, _, rfl, rfl, hL, by rw [List.length_map]; exact Nat.lt_of_le_of_lt hts (by decide), ?_⟩
          have s2 : Same H (upd H' l (.lst (ts.map V.ref ++ [.ref tc]))) := sm.mut hl
          have hc2 : T2 K (wo (upd H' l (.lst (ts.map V.ref ++ [.ref tc]))) (l :: M)) tc c := by rw [wo_mut (by simp)]; exact hc
          refine ⟨_, rfl, tc, _, rfl, SqT.of (rd hc2), rfl, _, _, rfl, _, _, rfl, rfl, ?_⟩
          obtain ⟨hc1, hc3⟩ := nxt c (hin c hcin)
          obtain ⟨a2, g2, e2⟩ := (up s2 (rd hd)).get hc1
          refine ⟨_, rfl, _, rfl, _, rfl, d, _, rfl, g2, _, rfl, a2, _, c.1, rfl, e2, hc3, by show 2 ≤ sizeLine; decide, fun t2 ht2 => ?_⟩
          have s3 : Same (upd H' l (.lst (ts.map V.ref ++ [.ref tc]))) (upd (upd H' l (.lst (ts.map V.ref ++ [.ref tc]))) t2 (.tup [.str c.2, .str (nx (rdf rows c.2) c.1)])) := .new ht2
          refine ⟨ts ++ [tc], t2, _, _, rfl, s2.trans s3, ?_, ?_, ?_⟩
          · refine s3 _ _ ?_
            rw [upd_same, List.map_append]
            rfl
          · have e0 : (p, q) :: (r1 ++ [c]) = ((p, q) :: r1) ++ [c] := rfl
            rw [e0]
            refine ups s3 (paired_snoc ?_ hc2)
            rw [wo_mut (by simp)]
            exact hT
          · have e := path_next (path_app.mp (by rw [er] at hp; exact hp)).2
            rw [← e]
            refine T2.of upd_same fun z => ?_
            rcases List.mem_cons.mp z with z | z
            · rw [z, upd_same] at ht2; cases ht2
            · exact (al.same s2).fresh ht2 z
end
end Five
end
section
namespace Five
open PySem PySem.Spec PyProof.Rows L2
section
variable {P : Program} {w : World} {K : PySem.W.Frag} {mg : Str → Option Value} {base : Heap} {C : Addr} {cx : Nat → Addr}
def spFromLeast (K : PySem.W.Frag) : Sp := fun vs H Q _ => ∃ (a : Addr) (l : List Str), vs = [.ref a] ∧ LS K H a l ∧ (∀ x ∈ l, Nm x) ∧ l.length ≤ 3000 ∧ ∀ p H', Same H H' → H p = none → H' p = some (.lst ((fl l).map V.str)) → Q (.ref p) H'
theorem ok_from_least (T : Txt K mg C cx) : Cal P w K mg base 1 "from_least" (spFromLeast K) := by
  refine cal_of T.d_from_least sc_from_least (fun vs H Q E h => ?_) (fun f cdv A outer s H vs Q E hr h => ?_)
  · obtain ⟨a, l, rfl, _⟩ := h
    rfl
  · obtain ⟨a, l, rfl, ha, hnm, hlen, k⟩ := h
    refine ⟨_, (pss_cons (ps_if (pt_cmpR (op_eqK (K := K) (List Str) hr.units) (pv 0) (pe_lst pa_nil) (nomark _)) (pss_one (ps_ret (pe_lst pa_nil))) pss_nil)
      (pss_cons (ps_set (i := 1) sc_from_least.nd rfl (Or.inl rfl) (pe_bm PySem.F.plainAttrs_list PySem.F.slot_list_index PySem.F.type_list_index (mt_indexK (K := K)) (pv 0) (pa_cons (pe_callB (cr_minSK (K := K) rfl hr.units) (by rfl) T.n_min (by decide +kernel) (pa_cons (pv 0) pa_nil)) pa_nil)))
      (pss_one (ps_ret (pe_op op_cat (pe_slice (sl_listK (K := K)) (pv 0) (po_some (pv 1)) po_none) (pe_slice (sl_listK (K := K)) (pv 0) po_none (po_some (pv 1)))))))), ?_⟩
    refine ⟨_, rfl, Nat.zero_le _, fun e he => ?_⟩
    have s0 : Same H (upd H e (.lst [])) := Same.new he
    refine ⟨_, _, (up s0 ha).dp, nil_dp (SqL.of upd_same), _, rfl, ?_⟩
    cases l with
    | nil =>
      refine iteYes rfl ⟨Nat.zero_le _, fun p hp => ?_⟩
      exact k p _ (s0.trans (Same.new hp)) (s0.free hp) upd_same
    | cons x r =>
      refine iteNo (fun z => (nomatch z)) ?_
      have ha1 : LS K _ a (x :: r) := up s0 ha
      refine ⟨_, rfl, .inl ⟨rfl, _, ha1⟩, _, rfl, a, x :: r, rfl, ha1, by simp, fun m hm hmin => ?_⟩
      obtain ⟨j, g1, g2, g3, h1, h2, h3, h4⟩ := ixS hm
      refine ⟨a, _, _, j, _, rfl, rfl, ha1, rfl, flat_strs _, g1, g2, g3, ?_⟩
      refine ⟨_, rfl, _, rfl, _, rfl, a, _, rfl, ha1, fun p1 hp1 => ?_⟩
      have s1 : Same (upd H e (.lst [])) (upd (upd H e (.lst [])) p1 (.lst (cutV ((x :: r).map V.str) (some (j : Int)) none))) := Same.new hp1
      refine ⟨_, rfl, _, rfl, _, rfl, a, _, rfl, up s1 ha1, fun p2 hp2 => ?_⟩
      have s2 := Same.new (o := .lst (cutV ((x :: r).map V.str) none (some (j : Int)))) hp2
      refine ⟨p1, p2, _, _, rfl, rfl, s2 _ _ upd_same, upd_same, ?_, fun p3 hp3 => ?_⟩
      · rw [cut_from, cut_to, List.length_drop, List.length_take, List.length_map]
        exact Nat.le_trans (show _ ≤ 3000 + 3000 by omega) (by decide)
      · refine k p3 _ (((s0.trans s1).trans s2).trans (Same.new hp3)) (((s0.trans s1).trans s2).free hp3) ?_
        rw [upd_same, cut_from, cut_to, fl_of (by simp) hm hmin h1 h2, List.map_append, List.map_drop, List.map_take]

/-- a piece, as come_to wants it -/
structure Pc (rows : List Row) (c : List Str) : Prop where
  nd : c.Nodup
  sub : ∀ x ∈ c, x ∈ vsf rows
  shut : ∀ v ∈ c, ∀ u ∈ rdf rows v, u ∈ c
  conn : ∀ S : Str → Prop, (∀ v u, v ∈ c → S v → u ∈ rdf rows v → S u) → ∀ v ∈ c, S v → ∀ u ∈ c, S u
def spComeTo (K : PySem.W.Frag) : Sp := fun vs H Q _ => ∃ (d : Addr) (rows : List Row) (v : Str) (c : List Str), vs = [.ref d, .str v] ∧ RdsAt K H d rows ∧ (∀ x ∈ vsf rows, Nm x) ∧ Pc rows c ∧ v ∈ c ∧ c.length ≤ 60 ∧
  ∀ (p : Addr) (H' : Hp), Same H H' → H p = none → H' p = some (.lst ((srt c).map V.str)) → Q (.ref p) H'
theorem ok_come_to (T : Txt K mg C cx) : Cal P w K mg base 1 "come_to_webs" (spComeTo K) := by
  refine cal_of T.d_come_to sc_come_to (fun vs H Q E h => ?_) (fun f cdv A outer s H vs Q E hr h => ?_)
  · obtain ⟨d, rows, v, c, rfl, _⟩ := h
    rfl
  · obtain ⟨d, rows, v, c, rfl, hd, hnm, pc, hv, hlen, k⟩ := h
    refine ⟨_, (pss_cons (ps_set (i := 2) sc_come_to.nd rfl (Or.inl rfl) (pe_disp (pps_cons (pv 1) pe_bl pps_nil) (by rfl) (by rfl) (fun z => by cases z) (by decide)))
      (pss_cons (ps_set (i := 3) sc_come_to.nd rfl (Or.inl rfl) (pe_lst (pa_cons (pv 1) pa_nil)))
      (pss_cons (ps_while PassesOwn.never (pt_cmpR (op_neK (K := K) (List Str) hr.units) (pv 3) (pe_lst pa_nil) (nomark _)) (pss_one (ps_for PassesOwn.never (by rfl) (pi_list (pe_dget (hu_of hr) (pv 0) (pe_bm0 PySem.F.plainAttrs_list PySem.F.slot_list_pop PySem.F.type_list_pop mt_pop (pv 3)) (fun _ _ => rfl))) (pg_name (i := 4) sc_come_to.nd rfl (Or.inl rfl)) (pss_one (ps_if (pt_cmp (pc_dnotin (hu_of hr) (pv 4) (pv 2))) (pss_cons (ps_dput (hu_of hr) (pv 2) (pv 4) pe_bl rfl)
      (pss_one (ps_expr (pe_bm PySem.F.plainAttrs_list PySem.F.slot_list_append PySem.F.type_list_append mt_append (pv 3) (pa_cons (pv 4) pa_nil))))) pss_nil)))))
      (pss_one (ps_ret (pe_callB (call_srtD rfl) (by rfl) T.n_sorted (by decide +kernel) (pa_cons (pv 2) pa_nil))))))), ?_⟩
    intro fd hfd
    refine ⟨_, rfl, upd_same, [(Sum.inr v, .bl true)], rfl, (by show 1 ≤ 15; decide), ?_⟩
    refine ⟨_, rfl, (by show 1 ≤ sizeLine; decide), fun wd hwd => ?_⟩
    have sf : Same H (upd (upd H fd (.dK [])) fd (.dK (mergeK [] [(Sum.inr v, .bl true)]))) := by
      rw [upd_upd]
      exact Same.new hfd
    have nwf : wd ≠ fd := fun e => by rw [e, upd_same] at hwd; cases hwd
    have hwd0 : H wd = none := sf.free hwd
    refine ⟨fun m σ H' => ∃ (fnd wt : List Str) (oth : Option V), σ = [some (.ref d), some (.str v), some (.ref fd), some (.ref wd), oth] ∧ Same H H' ∧ H' fd = some (.dK (tk fnd)) ∧ H' wd = some (.lst (wt.map V.str)) ∧ fnd.Nodup ∧ (∀ x ∈ fnd, x ∈ c) ∧ v ∈ fnd ∧ (∀ x ∈ wt, x ∈ fnd) ∧
      (∀ x ∈ fnd, x ∉ wt → ∀ u ∈ rdf rows x, u ∈ fnd) ∧ m = 2 * (c.length - fnd.length) + wt.length ∧ wt.length ≤ fnd.length, ?_, ?_⟩
    · refine ⟨_, [v], [v], none, rfl, sf.trans (Same.new hwd), ?_, upd_same, by simp, fun x hx => ?_, by simp, fun x hx => hx, fun x hx hn => absurd hx hn, rfl, Nat.le_refl _⟩
      · rw [upd_ne nwf.symm, upd_same]
        rfl
      · rw [List.mem_singleton.mp hx]; exact hv
    · rintro m σ H' ⟨fnd, wt, oth, rfl, sm, hF, hW, nd, sub, hvf, hwf, done, rfl, hle⟩
      have hfl : fnd.length ≤ 60 := Nat.le_trans (nodup_le nd sub) hlen
      have hnw : ∀ x ∈ wt, Nm x := fun x hx => hnm x (pc.sub x (sub x (hwf x hx)))
      refine ⟨_, rfl, Nat.zero_le _, fun e he => ?_⟩
      have s1 : Same H' (upd H' e (.lst [])) := Same.new he
      refine ⟨_, _, LS.dp (SqL.of (s1 _ _ hW)), nil_dp (SqL.of upd_same), _, rfl, ?_⟩
      by_cases hwt : wt = []
      · subst hwt
        refine iteNe ?_
        have perm : fnd.Perm c := perm_of_mem nd pc.nd fun x => ⟨sub x, fun hx => pc.conn (· ∈ fnd) (fun a b ha hs hb => done a hs (by simp) b hb) v hv hvf x hx⟩
        refine ⟨_, rfl, fd, tk fnd, fnd, rfl, .inl (s1 _ _ hF), tk_keys fnd, by omega, fun p hn => ?_⟩
        exact k p _ ((sm.trans s1).trans (Same.new hn)) ((sm.trans s1).free hn) (by rw [srt_congr perm.symm]; exact upd_same)
      · obtain ⟨w0, x, rfl⟩ : ∃ w0 x, wt = w0 ++ [x] := ⟨wt.dropLast, wt.getLast hwt, (List.dropLast_concat_getLast hwt).symm⟩
        have hxf : x ∈ fnd := hwf x (by simp)
        have hxr := pc.sub x (sub x hxf)
        refine iteEq hwt ⟨fun σ' H2 => ∃ m', m' < 2 * (c.length - fnd.length) + (w0 ++ [x]).length ∧ ∃ (fnd wt : List Str) (oth : Option V), σ' = [some (.ref d), some (.str v), some (.ref fd), some (.ref wd), oth] ∧ Same H H2 ∧ H2 fd = some (.dK (tk fnd)) ∧ H2 wd = some (.lst (wt.map V.str)) ∧ fnd.Nodup ∧ (∀ x ∈ fnd, x ∈ c) ∧ v ∈ fnd ∧ (∀ x ∈ wt, x ∈ fnd) ∧
          (∀ x ∈ fnd, x ∉ wt → ∀ u ∈ rdf rows x, u ∈ fnd) ∧ m' = 2 * (c.length - fnd.length) + wt.length ∧ wt.length ≤ fnd.length, fun _ _ z => z, ?_⟩
        have hW1 := s1 _ _ hW
        refine ⟨_, rfl, _, rfl, .inl ⟨rfl, _, SqL.of hW1⟩, wd, (w0 ++ [x]).map V.str, .str x, rfl, rfl, hW1, by simp, ?_⟩
        have e1 : ((w0 ++ [x]).map V.str).dropLast = w0.map V.str := by simp
        rw [e1]
        have s2 : Same H (upd (upd H' e (.lst [])) wd (.lst (w0.map V.str))) := (sm.trans s1).mut hwd0
        obtain ⟨ax, e2, g1⟩ := hd.at hxr
        refine ⟨d, _, rfl, g1 _ s2.sm, ax, rfl, ⟨_, up s2 e2⟩, for_list (K := K) (a := ax) (xs := (rdf rows x).map V.str) (fun i σ' H2 => ∃ (more : List Str) (oth : Option V), σ' = [some (.ref d), some (.str v), some (.ref fd), some (.ref wd), oth] ∧ Same H H2 ∧ H2 fd = some (.dK (tk (fnd ++ more))) ∧ H2 wd = some (.lst ((w0 ++ more).map V.str)) ∧ (fnd ++ more).Nodup ∧ (∀ y ∈ more, y ∈ c) ∧ (∀ u ∈ (rdf rows x).take i, u ∈ fnd ++ more)) ?_ ?_ ?_ ?_⟩
        · refine ⟨[], oth, rfl, s2, ?_, ?_, by simpa using nd, (fun y hy => (nomatch hy)), fun u hu => by simp at hu⟩
          · rw [upd_ne nwf.symm, List.append_nil]
            exact s1 _ _ hF
          · rw [upd_same, List.append_nil]
        · rintro i σ' H2 _ ⟨more, oth, _, sm2, _⟩
          exact up sm2 e2
        · rintro i y σ' H2 hi ⟨more, oth, rfl, sm2, hF2, hW2, nd2, sub2, hu2⟩
          obtain ⟨u, hu, rfl⟩ : ∃ u, (rdf rows x)[i]? = some u ∧ y = V.str u := by
            rw [List.getElem?_map] at hi
            cases e : (rdf rows x)[i]? with
            | none => rw [e] at hi; cases hi
            | some u => rw [e] at hi; exact ⟨u, rfl, (Option.some.inj hi).symm⟩
          have hur : u ∈ rdf rows x := List.mem_of_getElem? hu
          have huc : u ∈ c := pc.shut x (sub x hxf) u hur
          have htake : (rdf rows x).take (i + 1) = (rdf rows x).take i ++ [u] := by rw [List.take_add_one, hu]; rfl
          have hl2 : (fnd ++ more).length ≤ 60 := Nat.le_trans (nodup_le nd2 fun z hz => (List.mem_append.mp hz).elim (sub z) (sub2 z)) hlen
          refine ⟨_, rfl, _, rfl, fd, _, rfl, dget_tk u hF2, _, rfl, ?_⟩
          by_cases hm : u ∈ fnd ++ more
          · rw [if_pos hm]
            refine iteF ⟨more, _, rfl, sm2, hF2, hW2, nd2, sub2, fun z hz => ?_⟩
            rw [htake] at hz
            rcases List.mem_append.mp hz with q | q
            · exact hu2 z q
            · rw [List.mem_singleton.mp q]; exact hm
          · rw [if_neg hm]
            refine iteT ⟨_, rfl, _, rfl, fd, _, rfl, DPut.k (k := Sum.inr u) hF2 (by unfold tk; rw [List.length_map]; exact Nat.lt_of_le_of_lt hl2 (by decide)), ?_⟩
            have hW3 : upd H2 fd (.dK (putK (tk (fnd ++ more)) (Sum.inr u) (.bl true))) wd = some (.lst ((w0 ++ more).map V.str)) := by
              rw [upd_ne nwf]; exact hW2
            refine ⟨_, rfl, .inl ⟨rfl, _, SqL.of hW3⟩, _, rfl, wd, _, _, rfl, rfl, hW3, ?_, ?_⟩
            · rw [List.length_map]
              have : (w0 ++ more).length ≤ (fnd ++ more).length := by
                simp only [List.length_append, List.length_singleton] at hle ⊢
                omega
              exact Nat.lt_of_le_of_lt (Nat.le_trans this hl2) (by decide)
            · refine ⟨more ++ [u], _, rfl, (sm2.mut hfd).mut hwd0, ?_, ?_, ?_, fun z hz => ?_, fun z hz => ?_⟩
              · rw [upd_ne nwf.symm, upd_same, putK_tk hm, List.append_assoc]
              · rw [upd_same]; simp
              · rw [← List.append_assoc]
                refine List.nodup_append.mpr ⟨nd2, by simp, fun a ha b hb e => hm ?_⟩
                rw [← List.mem_singleton.mp hb, ← e]; exact ha
              · rcases List.mem_append.mp hz with q | q
                · exact sub2 z q
                · rw [List.mem_singleton.mp q]; exact huc
              · rw [htake] at hz
                rw [← List.append_assoc]
                rcases List.mem_append.mp hz with q | q
                · exact List.mem_append_left _ (hu2 z q)
                · exact List.mem_append_right _ q
        · rintro σ' H2 ⟨more, oth, rfl, sm2, hF2, hW2, nd2, sub2, hu2⟩
          have hlm : (fnd ++ more).length ≤ c.length := nodup_le nd2 fun z hz => (List.mem_append.mp hz).elim (sub z) (sub2 z)
          refine ⟨_, ?_, fnd ++ more, w0 ++ more, _, rfl, sm2, hF2, hW2, nd2, fun z hz => (List.mem_append.mp hz).elim (sub z) (sub2 z), List.mem_append_left _ hvf, fun z hz => ?_, fun z hz hn u hu => ?_, rfl, ?_⟩
          · simp only [List.length_append, List.length_singleton] at hlm ⊢
            omega
          · rcases List.mem_append.mp hz with q | q
            · exact List.mem_append_left _ (hwf z (by simp [q]))
            · exact List.mem_append_right _ q
          · by_cases ezx : z = x
            · rw [ezx] at hu
              exact hu2 u (by rw [List.length_map, List.take_length]; exact hu)
            · have hzf : z ∈ fnd := (List.mem_append.mp hz).resolve_right fun q => hn (List.mem_append_right _ q)
              exact List.mem_append_left _ (done z hzf (fun q => by
                rcases List.mem_append.mp q with q | q
                · exact hn (List.mem_append_left _ q)
                · exact ezx (List.mem_singleton.mp q)) u hu)
          · simp only [List.length_append, List.length_singleton] at hle ⊢
            omega
end
end Five
end
section
namespace Five
open PySem PySem.Spec PyProof.Rows L2
open PySem.W (Datum DatumOrd)
section
variable {P : Program} {w : World} {K : PySem.W.Frag} {mg : Str → Option Value} {base : Heap} {C : Addr} {cx : Nat → Addr}
def spPiecesIn (K : PySem.W.Frag) : Sp := fun vs H Q _ => ∃ (M : List Addr) (d : Addr) (rows : List Row) (ps : List (List Str)), vs = [.ref d] ∧ Al M H ∧ RdsAt K (wo H M) d rows ∧ (∀ x ∈ vsf rows, Nm x) ∧ (vsf rows).Nodup ∧ CD (vsf rows) (rdf rows) ps ∧ rows.length ≤ 60 ∧
  ∀ (l : Addr) (H' : Hp), Same H H' → NewLL H H' l (srt (ps.map srt)) → Q (.ref l) H'
theorem ok_pieces_in (T : Txt K mg C cx) : Cal P w K mg base 2 "pieces_in" (spPiecesIn K) := by
  refine cal_of T.d_pieces_in sc_pieces_in (fun vs H Q E h => ?_) (fun f cdv A outer s H vs Q E hr h => ?_)
  · obtain ⟨M, d, rows, ps, rfl, _⟩ := h
    rfl
  · obtain ⟨M, d, rows, ps, rfl, al, hd, hnm, hnd, cd, hlen, k⟩ := h
    refine ⟨_, (pss_cons (ps_set (i := 1) sc_pieces_in.nd rfl (Or.inl rfl) (pe_lst pa_nil))
      (pss_cons (ps_set (i := 2) sc_pieces_in.nd rfl (Or.inl rfl) pe_dnewK)
      (pss_cons (ps_for PassesOwn.never (by rfl) (pi_list (pe_callB (call_srtD rfl) (by rfl) T.n_sorted (by decide +kernel) (pa_cons (pv 0) pa_nil))) (pg_name (i := 3) sc_pieces_in.nd rfl (Or.inl rfl)) (pss_one (ps_if (pt_cmp (pc_dnotin (hu_of hr) (pv 3) (pv 2))) (pss_cons (ps_set (i := 4) sc_pieces_in.nd rfl (Or.inl rfl) (pe_c (ok_come_to T) hr (by decide) (by rfl) (pa_cons (pv 0) (pa_cons (pv 3) pa_nil))))
      (pss_cons (ps_expr (pe_bm PySem.F.plainAttrs_dict PySem.F.slot_dict_update PySem.F.type_dict_update (mt_updatePK (K := K) rfl) (pv 2) (pa_cons (pe_lc (own := [("one", 5)]) (by rfl) sc_pieces_in.nd (pi_list (pv 4)) (blkOk_by (own := [("one", 5)]) (N := N_pieces_in) (sc := defScope s_pieces_in) (by decide +kernel)) (fun _ _ _ _ _ => (pg_name (i := 5) sc_pieces_in.nd rfl (Or.inl rfl))) (fun _ _ _ _ _ => pts_nil) (fun _ _ _ _ _ => (pe_tup (pa_cons (pv 5) (pa_cons pe_bl pa_nil))))) pa_nil)))
      (pss_one (ps_expr (pe_bm PySem.F.plainAttrs_list PySem.F.slot_list_append PySem.F.type_list_append mt_append (pv 1) (pa_cons (pv 4) pa_nil)))))) pss_nil)))
      (pss_one (ps_ret (pv 1)))))), ?_⟩
    have hvl : (vsf rows).length ≤ 60 := by rw [List.length_map]; exact hlen
    have hfn : ps.flatten.Nodup := cd.perm.nodup_iff.mpr hnd
    have pcOf : ∀ c ∈ ps, Pc rows c := fun c hc => ⟨by
        obtain ⟨rest, hp⟩ := perm_head hc
        have := (hp.flatten.nodup_iff).mp hfn
        rw [List.flatten_cons] at this
        exact (List.nodup_append.mp this).1, fun x hx => cd.perm.mem_iff.mp (List.mem_flatten.mpr ⟨c, hc, hx⟩), cd.shut c hc, (cd.conn c hc).2⟩
    have pcLen : ∀ c ∈ ps, c.length ≤ 60 := fun c hc => Nat.le_trans (nodup_le (pcOf c hc).nd (pcOf c hc).sub) hvl
    refine ⟨Nat.zero_le _, fun l hl => ?_⟩
    intro sd hsd
    have s0 : Same H (upd H l (.lst [])) := .new hl
    have s1 := s0.trans (.new (o := .dK []) hsd)
    have hsd0 : H sd = none := s0.free hsd
    have nls : l ≠ sd := fun e => by rw [← e, upd_same] at hsd; cases hsd
    obtain ⟨kvs, hk1, hk2⟩ := up s1 (rd hd)
    refine ⟨_, rfl, d, kvs, vsf rows, rfl, hk1, rds_keys hk2, by omega, fun a ha => ?_⟩
    have s2 := s1.trans (.new (o := .lst ((srt (vsf rows)).map V.str)) ha)
    have ha0 : H a = none := s1.free ha
    have nal : a ≠ l := fun e => by rw [e, upd_ne nls, upd_same] at ha; cases ha
    have nas : a ≠ sd := fun e => by rw [e, upd_same] at ha; cases ha
    generalize hss : srt (vsf rows) = ss at *
    have sspw : ss.Pairwise (fun a b => leD a b = true) := by rw [← hss]; exact srt_pw _
    have ssn : ss.Nodup := by rw [← hss]; exact (srt_perm _).nodup_iff.mpr hnd
    have ssm : ∀ x, x ∈ ss ↔ x ∈ vsf rows := fun x => by rw [← hss]; exact srt_mem
    refine ⟨a, rfl, ⟨_, SqL.of upd_same⟩, for_list (K := K) (a := a) (xs := ss.map V.str) (fun i σ H' => ∃ (dn td : List (List Str)) (as : List Addr) (x y z : Option V), σ = [some (.ref d), some (.ref l), some (.ref sd), x, y, z] ∧ Same H H' ∧ H' a = some (.lst (ss.map V.str)) ∧ H' l = some (.lst (as.map V.ref)) ∧ H' sd = some (.dK (tk (dn.map srt).flatten)) ∧ Paired (LsN H (wo H' (l :: sd :: M))) as (dn.map srt) ∧ ps.Perm (dn ++ td) ∧
      (∀ u ∈ ss.take i, u ∈ dn.flatten) ∧ (dn.map srt).Pairwise (fun a b => leD a b = true) ∧ ∀ c ∈ dn, ∃ h t, srt c = h :: t ∧ h ∈ ss.take i) ?_ ?_ ?_ ?_⟩
    · refine ⟨[], ps, [], _, _, _, rfl, s2, upd_same, ?_, ?_, .nil, .refl _, fun u hu => by simp at hu, .nil, fun c hc => (nomatch hc)⟩
      · rw [upd_ne nal.symm, upd_ne nls, upd_same]; rfl
      · rw [upd_ne nas.symm, upd_same]; rfl
    · rintro i σ H' _ ⟨dn, td, as, x, y, z, _, _, hA, _⟩
      exact SqL.of hA
    · rintro i y σ H' hi ⟨dn, td, as, x, y', z, rfl, sm, hA, hL, hS, hP, hps, htk, hpw, hhd⟩
      obtain ⟨u, hu, rfl⟩ := item_str hi
      have huv : u ∈ vsf rows := (ssm u).mp (List.mem_of_getElem? hu)
      have hfl : ∀ v, v ∈ (dn.map srt).flatten ↔ v ∈ dn.flatten := fun v => by
        simp only [List.mem_flatten, List.mem_map]
        exact ⟨fun ⟨c, ⟨c', h1, h2⟩, h3⟩ => ⟨c', h1, by rw [← h2] at h3; exact srt_mem.mp h3⟩, fun ⟨c, h1, h2⟩ => ⟨srt c, ⟨c, h1, rfl⟩, srt_mem.mpr h2⟩⟩
      have hpf : (dn.flatten ++ td.flatten).Perm (vsf rows) := by
        rw [← List.flatten_append]
        exact (hps.flatten).symm.trans cd.perm
      have hnf : (dn.flatten ++ td.flatten).Nodup := hpf.nodup_iff.mpr hnd
      have hlf : (dn.map srt).flatten.length ≤ 60 := by
        have e1 := flat_srt_len dn
        have := hpf.length_eq
        rw [List.length_append] at this
        omega
      refine ⟨_, rfl, _, rfl, sd, _, rfl, dget_tk u hS, _, rfl, ?_⟩
      by_cases hm : u ∈ (dn.map srt).flatten
      · rw [if_pos hm]
        refine iteF ⟨dn, td, as, _, _, _, rfl, sm, hA, hL, hS, hP, hps, fun v hv => ?_, hpw, fun c hc => ?_⟩
        · rw [take_snoc hu] at hv
          rcases List.mem_append.mp hv with q | q
          · exact htk v q
          · rw [List.mem_singleton.mp q]; exact (hfl u).mp hm
        · obtain ⟨h, t, e1, e2⟩ := hhd c hc
          exact ⟨h, t, e1, by rw [take_snoc hu]; exact List.mem_append_left _ e2⟩
      · rw [if_neg hm]
        have hund : u ∉ dn.flatten := fun q => hm ((hfl u).mpr q)
        obtain ⟨c, hct, huc⟩ := List.mem_flatten.mp ((List.mem_append.mp (hpf.mem_iff.mpr huv)).resolve_left hund)
        have hcp : c ∈ ps := hps.mem_iff.mpr (List.mem_append_right _ hct)
        obtain ⟨td', hp2⟩ := perm_head hct
        have up0 : Same (wo H M) (wo H' (l :: sd :: M)) := wo_ext2 sm hl hsd0
        refine iteT ⟨_, rfl, _, rfl, d, rows, u, c, rfl, rd (up up0 hd), hnm, pcOf c hcp, huc, pcLen c hcp, fun p H2 s3 hp hpl => ?_⟩
        have hS2 := s3 _ _ hS
        have hL2 := s3 _ _ hL
        have al2 : Al (l :: sd :: M) H2 := (((al.same sm).cons hS).cons hL).same s3
        have pn : p ∉ l :: sd :: M := (((al.same sm).cons hS).cons hL).fresh hp
        have pN : LsN H (wo H2 (l :: sd :: M)) p (srt c) := LsN.of (sm.free hp) hpl pn
        have pS : LS K (wo H2 (l :: sd :: M)) p (srt c) := pN.ls
        refine ⟨_, rfl, .inr (.inr (.inl ⟨rfl, .inl ⟨_, hS2⟩⟩)), _, rfl, p, rfl, ⟨_, rd pS⟩, fun D hD => ?_⟩
        refine lcL (K := K) (M := l :: sd :: M) (paired_map V.str (srt c)) (fun G v x => ∃ t, v = .ref t ∧ SqT K G t [.str x, .bl true]) (fun G G' v x s ⟨t, e, h⟩ => ⟨t, e, s.sm.seqT h⟩) some hD al2 (by rw [srt_length]; exact Nat.lt_of_le_of_lt (pcLen c hcp) (by decide)) (rd pS) (fun v b H3 Ky Kn hb e s4 al4 ky kn => ?_) (fun ys H3 s4 hD3 hp3 => ?_)
        · subst e
          refine ⟨rfl, lcy ⟨_, rfl, by show 2 ≤ sizeLine; decide, fun t ht => ky _ _ _ rfl (.new ht) ⟨t, rfl, .inl (.inl ?_)⟩⟩⟩
          rw [wo_out (al4.fresh ht), upd_same]
        · rw [List.filterMap_some] at hp3
          obtain ⟨ts, rfl, hts⟩ := paired_refs hp3
          have hS3 := s4 _ _ hS2
          have hL3 := s4 _ _ hL2
          have hndc : ((dn.map srt).flatten ++ srt c).Nodup := by
            refine List.nodup_append.mpr ⟨?_, (srt_perm c).nodup_iff.mpr (pcOf c hcp).nd, fun v hv v' hv' e => ?_⟩
            · exact (flat_srt_perm dn).nodup_iff.mpr (List.nodup_append.mp hnf).1
            · subst e
              exact (List.nodup_append.mp hnf).2.2 v ((hfl v).mp hv) v (List.mem_flatten.mpr ⟨c, hct, srt_mem.mp hv'⟩) rfl
          refine ⟨sd, D, _, tk (srt c), ts, rfl, rfl, hS3, SqL.of hD3, ?_, ?_, ?_⟩
          · exact pairs_tk wo_same hts
          · rw [tk_length, tk_length, srt_length]
            exact Nat.le_trans (Nat.add_le_add hlf (pcLen c hcp)) (by decide)
          · rw [mergeK_tk _ _ hndc]
            have nDl : D ≠ l := fun e => by rw [e] at hD; rw [hL2] at hD; cases hD
            have nDs : D ≠ sd := fun e => by rw [e] at hD; rw [hS2] at hD; cases hD
            have hL4 : upd H3 sd (.dK (tk ((dn.map srt).flatten ++ srt c))) l = some (.lst (as.map V.ref)) := by rw [upd_ne nls]; exact hL3
            refine ⟨_, rfl, .inl ⟨rfl, _, SqL.of hL4⟩, _, rfl, l, _, _, rfl, rfl, hL4, ?_, ?_⟩
            · rw [List.length_map, Paired.length hP, List.length_map]
              have h2 : dn.length ≤ dn.flatten.length := flat_len_le fun c hc => (cd.conn c (hps.mem_iff.mpr (List.mem_append_left _ hc))).1
              have := hpf.length_eq
              rw [List.length_append] at this
              exact Nat.lt_of_le_of_lt (show dn.length ≤ 60 by omega) (by decide)
            · obtain ⟨hh, ht, ec, ehc, ele⟩ := srt_head (c := c) (cd.conn c hcp).1
              have ehu : hh = u := by
                cases q : DatumOrd.lt hh u with
                | true =>
                  exfalso
                  have h1 := srt_before sspw hu ((ssm hh).mpr ((pcOf c hcp).sub hh ehc)) q
                  exact (List.nodup_append.mp hnf).2.2 hh (htk hh h1) hh (List.mem_flatten.mpr ⟨c, hct, ehc⟩) rfl
                | false =>
                  have h2 := ele u huc
                  unfold leD at h2
                  exact lt_tri q (by simpa using h2)
              subst ehu
              have sfin : Same H (upd (upd H3 sd (.dK (tk ((dn.map srt).flatten ++ srt c)))) l (.lst (as.map V.ref ++ [.ref p]))) := ((((sm.trans s3).trans s4).mut hsd0).mut hl)
              refine ⟨dn ++ [c], td', as ++ [p], _, _, _, rfl, sfin, ?_, ?_, ?_, ?_, ?_, ?_, ?_, ?_⟩
              · rw [upd_ne nal, upd_ne nas]
                exact (s3.trans s4) _ _ hA
              · rw [upd_same]; simp
              · rw [upd_ne nls.symm, upd_same, List.map_append, List.flatten_append]; simp
              · rw [wo_mut (by simp), wo_mut (by simp), List.map_append]
                exact paired_snoc (ups (s3.trans s4) hP) (upw s4 pN)
              · refine hps.trans ?_
                rw [List.append_assoc]
                exact List.Perm.append_left _ hp2
              · intro v hv
                rw [take_snoc hu] at hv
                rw [List.flatten_append]
                rcases List.mem_append.mp hv with q | q
                · exact List.mem_append_left _ (htk v q)
                · rw [List.mem_singleton.mp q]; exact List.mem_append_right _ (by simpa using huc)
              · rw [List.map_append]
                refine List.pairwise_append.mpr ⟨hpw, by simp, fun q hq q' hq' => ?_⟩
                have eq' : q' = srt c := by simpa using hq'
                obtain ⟨c1, hc1, rfl⟩ := List.mem_map.mp hq
                obtain ⟨h1, t1, e1, e2⟩ := hhd c1 hc1
                rw [eq', e1, ec]
                unfold leD
                rw [lt_asym (lt_cons (srt_after sspw ssn hu e2))]
                rfl
              · intro c1 hc1
                rw [take_snoc hu]
                rcases List.mem_append.mp hc1 with q | q
                · obtain ⟨h1, t1, e1, e2⟩ := hhd c1 q
                  exact ⟨h1, t1, e1, List.mem_append_left _ e2⟩
                · rw [List.mem_singleton.mp q]
                  exact ⟨hh, ht, ec, by simp⟩
    · rintro σ H' ⟨dn, td, as, x, y, z, rfl, sm, hA, hL, hS, hP, hps, htk, hpw, hhd⟩
      have etd : td = [] := by
        cases td with
        | nil => rfl
        | cons c r =>
          exfalso
          have hcp : c ∈ ps := hps.mem_iff.mpr (by simp)
          obtain ⟨u, r', e⟩ := List.exists_cons_of_ne_nil (cd.conn c hcp).1
          have huc : u ∈ c := by rw [e]; simp
          have h1 : u ∈ dn.flatten := htk u (by rw [List.length_map, List.take_length]; exact (ssm u).mpr ((pcOf c hcp).sub u huc))
          have hnf : (dn ++ c :: r).flatten.Nodup := (hps.flatten.nodup_iff).mp hfn
          rw [List.flatten_append] at hnf
          exact (List.nodup_append.mp hnf).2.2 u h1 u (by simp [huc]) rfl
      subst etd
      rw [List.append_nil] at hps
      refine ⟨_, rfl, k l H' sm ?_⟩
      have e : dn.map srt = srt (ps.map srt) := srt_uniq (hps.symm.map srt) hpw
      rw [← e]
      exact ⟨as, by rw [nw_of hl]; exact hL, Paired.mapP hP fun _ _ q => nw_up wo_same _ _ q⟩
end
end Five
end
section
namespace Five
open PySem PySem.Spec PyProof.Rows L2
open PySem.W (Datum DatumOrd)
section
variable {P : Program} {w : World} {K : PySem.W.Frag} {mg : Str → Option Value} {base : Heap} {C : Addr} {cx : Nat → Addr}
def spFacesIn (K : PySem.W.Frag) : Sp := fun vs H Q _ => ∃ (M : List Addr) (d : Addr) (rows : List Row) (cs : List (List (Str × Str))), vs = [.ref d] ∧ Al M H ∧ RdsAt K (wo H M) d rows ∧ (∃ kvs, H d = some (.dK kvs)) ∧ (∀ x ∈ vsf rows, Nm x) ∧ Wf (vsf rows) (rdf rows) ∧ FD (vsf rows) (rdf rows) cs ∧ rows.length ≤ 60 ∧
  ∀ (l : Addr) (H' : Hp), Same H H' → NewLL H H' l (facesF rows cs) → Q (.ref l) H'
theorem ok_faces_in (T : Txt K mg C cx) : Cal P w K mg base 3 "faces_in" (spFacesIn K) := by
  refine cal_of T.d_faces_in sc_faces_in (fun vs H Q E h => ?_) (fun f cdv A outer s H vs Q E hr h => ?_)
  · obtain ⟨M, d, rows, cs, rfl, _⟩ := h
    rfl
  · obtain ⟨M, d, rows, cs, rfl, al, hd, hx, hnm, wf, F, hlen, k⟩ := h
    refine ⟨_, (pss_cons (ps_lock (ps_setLc (i := 1) (own := [("place", 3)]) (by rfl) sc_faces_in.nd rfl rfl (sw_true rfl rfl rfl (by decide +kernel)) (pi_keys (pv 0)) (blkOk_by (own := [("place", 3)]) (N := N_faces_in) (sc := defScope s_faces_in) (by decide +kernel)) (fun _ _ _ _ _ => (pg_name (i := 3) sc_faces_in.nd rfl (Or.inl rfl))) (fun _ _ _ _ _ => (pts_one (pt_cmpR (op_eqK (K := K) (List Str) hr.units) (pe_dget (hu_of hr) (pv 0) (pv 3) (fun _ _ => rfl)) (pe_lst pa_nil) (nomark _)))) (fun _ _ _ _ _ => (pe_lst (pa_cons (pv 3) pa_nil)))))
      (pss_cons (ps_set (i := 2) sc_faces_in.nd rfl (Or.inl rfl) pe_dnewT)
      (pss_cons (ps_for PassesOwn.never (by rfl) (pi_list (pe_callB (call_srtD rfl) (by rfl) T.n_sorted (by decide +kernel) (pa_cons (pv 0) pa_nil))) (pg_name (i := 3) sc_faces_in.nd rfl (Or.inl rfl)) (pss_one (ps_for PassesOwn.never (by rfl) (pi_list (pe_callB (cr_srtSK (K := K) hr.units) (by rfl) T.n_sorted (by decide +kernel) (pa_cons (pe_dget (hu_of hr) (pv 0) (pv 3) (fun _ _ => rfl)) pa_nil))) (pg_name (i := 4) sc_faces_in.nd rfl (Or.inl rfl)) (pss_one (ps_if (pt_cmp (pc_dnotin (hu_of hr) (pe_tup (pa_cons (pv 3) (pa_cons (pv 4) pa_nil))) (pv 2))) (pss_cons (ps_set (i := 5) sc_faces_in.nd rfl (Or.inl rfl) (pe_c (ok_face_from T) hr (by decide) (by rfl) (pa_cons (pv 0) (pa_cons (pe_tup (pa_cons (pv 3) (pa_cons (pv 4) pa_nil))) pa_nil))))
      (pss_cons (ps_expr (pe_bm PySem.F.plainAttrs_dict PySem.F.slot_dict_update PySem.F.type_dict_update (mt_updateTK (K := K) rfl hr.units) (pv 2) (pa_cons (pe_lc (own := [("step", 6)]) (by rfl) sc_faces_in.nd (pi_list (pv 5)) (blkOk_by (own := [("step", 6)]) (N := N_faces_in) (sc := defScope s_faces_in) (by decide +kernel)) (fun _ _ _ _ _ => (pg_name (i := 6) sc_faces_in.nd rfl (Or.inl rfl))) (fun _ _ _ _ _ => pts_nil) (fun _ _ _ _ _ => (pe_tup (pa_cons (pv 6) (pa_cons pe_bl pa_nil))))) pa_nil)))
      (pss_one (ps_expr (pe_bm PySem.F.plainAttrs_list PySem.F.slot_list_append PySem.F.type_list_append mt_append (pv 1) (pa_cons (pe_lc (own := [("step", 6)]) (by rfl) sc_faces_in.nd (pi_list (pv 5)) (blkOk_by (own := [("step", 6)]) (N := N_faces_in) (sc := defScope s_faces_in) (by decide +kernel)) (fun _ _ _ _ _ => (pg_name (i := 6) sc_faces_in.nd rfl (Or.inl rfl))) (fun _ _ _ _ _ => pts_nil) (fun _ _ _ _ _ => (pe_ix (ix_tupK (K := K)) (pv 6) pe_int (fun _ _ => rfl)))) pa_nil)))))) pss_nil)))))
      (pss_one (ps_ret (pe_callB (cr_srtRK (K := K) (List Str) hr.units) (by rfl) T.n_sorted (by decide +kernel) (pa_cons (pv 1) pa_nil))))))), ?_⟩
    have hvl : (vsf rows).length ≤ 60 := by rw [List.length_map]; exact hlen
    have hdl : (darts (vsf rows) (rdf rows)).length ≤ 3600 := Nat.le_trans (darts_len wf) (Nat.mul_le_mul hvl hvl)
    have hrl : ∀ v ∈ vsf rows, (rdf rows v).length ≤ 60 := fun v hv => Nat.le_trans (nodup_le (wf.rn v hv) fun u hu => (wf.ties v hv u hu).1) hvl
    have hdn : (darts (vsf rows) (rdf rows)).Nodup := darts_nodup wf.nd wf.rn
    have hcn : cs.flatten.Nodup := F.perm.nodup_iff.mpr hdn
    have hdM : d ∉ M := rds_out hd
    obtain ⟨kvs, hk1, hk2⟩ := rds_x (rd hd) hx
    -- the places without ties
    refine ⟨d, .dK kvs, hk1, trivial, fun od => ?_⟩
    have sL : Sm H (upd H d (.frz od (.dK kvs))) := lock_sm hk1 trivial id
    have hdL : RdsAt K (upd H d (.frz od (.dK kvs))) d rows := Mn.up sL (rd hd)
    refine ⟨_, rfl, d, od, rfl, .inl ⟨kvs, upd_same, fun l hl => ?_⟩⟩
    have ndl : l ≠ d := fun e => by rw [e, upd_same] at hl; cases hl
    have hl0 : H l = none := by rw [upd_ne ndl] at hl; exact hl
    refine lcK (M := M) (l := vsf rows) (rds_keys hk2) (fun G v x => ∃ a, v = .ref a ∧ LsN H G a x) (rV_up (R := LsN H)) (fun v => if rdf rows v = [] then some [v] else none) hl al.upd (Nat.lt_of_le_of_lt hvl (by decide)) upd_same (fun b H3 Ky Kn hb s4 al4 ky kn => ?_) (fun ys H3 s4 hD3 hp3 => ?_)
    · obtain ⟨a1, g1, e1⟩ := (up s4 hdL).get hb
      refine ⟨rfl, _, rfl, _, rfl, d, _, rfl, g1, Nat.zero_le _, fun e he => ?_⟩
      refine ⟨_, _, (up (.new he) e1).dp, nil_dp (SqL.of upd_same), _, rfl, ?_⟩
      by_cases hem : rdf rows b = []
      · refine iteYes hem ⟨_, rfl, by show 1 ≤ sizeLine; decide, fun t ht => ky _ [b] _ (if_pos hem) ((Same.new he).trans (.new ht)) ⟨t, rfl, ?_⟩⟩
        have ht0 : upd H d (.frz od (.dK kvs)) t = none := (s4.trans (.new he)).free ht
        have ntd : t ≠ d := fun e => by rw [e, upd_same] at ht0; cases ht0
        rw [upd_ne ntd] at ht0
        exact LsN.of (l := [b]) ht0 upd_same (al4.upd.fresh ht)
      · exact iteNo hem (kn _ (if_neg hem) (.new he))
    obtain ⟨as0, rfl, hp0⟩ := paired_refs hp3
    have hdN : d ∉ l :: M := fun q => by
      rcases List.mem_cons.mp q with q | q
      · exact ndl q.symm
      · exact hdM q
    obtain ⟨u1, u2, u3⟩ := unlock_all (N := l :: M) hk1 s4 hdN
    refine ⟨u1, ?_⟩
    have hL0 : upd H3 d (.dK kvs) l = some (.lst (as0.map V.ref)) := by rw [upd_ne ndl]; exact hD3
    have hP0 : Paired (LsN H (wo (upd H3 d (.dK kvs)) (l :: M))) as0 (lonesF rows) := Paired.mapP hp0 fun a0 _ q => by
      obtain ⟨z1, z2⟩ := nw_get q
      show nw H _ a0 = _
      rw [nw_of z1]
      exact u3.t _ _ trivial z2
    clear hp0 hp3 u1 u3 hD3 s4 hdL sL
    generalize upd H3 d (.dK kvs) = HA at *
    -- the ways
    intro sd hsd
    have hsd0 : H sd = none := u2.free hsd
    have nls : l ≠ sd := fun e => by rw [← e, hL0] at hsd; cases hsd
    have s1 : Same H (upd HA sd (.dT [])) := u2.trans (.new hsd)
    obtain ⟨kvs', hk1', hk2'⟩ := up s1 (rd hd)
    refine ⟨_, rfl, d, kvs', vsf rows, rfl, hk1', rds_keys hk2', by omega, fun a ha => ?_⟩
    have s2 := s1.trans (.new (o := .lst ((srt (vsf rows)).map V.str)) ha)
    have ha0 : H a = none := s1.free ha
    have nal : a ≠ l := fun e => by rw [e, upd_ne nls, hL0] at ha; cases ha
    have nas : a ≠ sd := fun e => by rw [e, upd_same] at ha; cases ha
    generalize hss : srt (vsf rows) = ss at *
    have sspw : ss.Pairwise (fun a b => leD a b = true) := by rw [← hss]; exact srt_pw _
    have ssm : ∀ x, x ∈ ss ↔ x ∈ vsf rows := fun x => by rw [← hss]; exact srt_mem
    let St : List (List (Str × Str)) → Hp → Prop := fun dn H' => Same H H' ∧ H' a = some (.lst (ss.map V.str)) ∧ (∃ as : List Addr, H' l = some (.lst (as.map V.ref)) ∧ Paired (LsN H (wo H' (l :: sd :: M))) as (lonesF rows ++ dn.map fun c => (flD c).map (·.1))) ∧ H' sd = some (.dT (tkT (dn.map flD).flatten)) ∧ ∃ td, cs.Perm (dn ++ td)
    refine ⟨a, rfl, ⟨_, SqL.of upd_same⟩, for_list (K := K) (a := a) (xs := ss.map V.str) (fun i σ H' => ∃ (dn : List (List (Str × Str))) (x y z u : Option V), σ = [some (.ref d), some (.ref l), some (.ref sd), x, y, z, u] ∧ St dn H' ∧
      ∀ s ∈ darts (vsf rows) (rdf rows), s.1 ∈ ss.take i → s ∈ dn.flatten) ?_ ?_ ?_ ?_⟩
    · refine ⟨[], _, _, _, _, rfl, ⟨s2, upd_same, ⟨as0, ?_, ?_⟩, ?_, cs, .refl _⟩, fun u hu h2 => by simp at h2⟩
      · rw [upd_ne nal.symm, upd_ne nls]; exact hL0
      · rw [List.map_nil, List.append_nil]
        exact upp (wo_ext1 ((Same.new hsd).trans (.new ha)) hsd |>.trans (wo_less (by intro x hx; simp at hx ⊢; rcases hx with q | q | q <;> simp [q]))) hP0
      · rw [upd_ne nas.symm, upd_same]; rfl
    · rintro i σ H' _ ⟨dn, x, y, z, u, _, ⟨_, hA, _⟩, _⟩
      exact SqL.of hA
    · rintro i y σ H' hi ⟨dn, x, y', z, u', rfl, ⟨sm, hA, ⟨as, hL, hP⟩, hS, td, hps⟩, hin⟩
      obtain ⟨p, hp, rfl⟩ := item_str hi
      have hpv : p ∈ vsf rows := (ssm p).mp (List.mem_of_getElem? hp)
      obtain ⟨ap, gp, ep⟩ := (up sm (rd hd)).get hpv
      refine ⟨_, rfl, _, rfl, d, _, rfl, gp, ap, rdf rows p, rfl, ep, fun b hb => ?_⟩
      have nbl : b ≠ l := fun e => by rw [e, hL] at hb; cases hb
      have nbs : b ≠ sd := fun e => by rw [e, hS] at hb; cases hb
      have nba : b ≠ a := fun e => by rw [e, hA] at hb; cases hb
      have hb0 : H b = none := sm.free hb
      have sb : Same H' (upd H' b (.lst ((srt (rdf rows p)).map V.str))) := .new hb
      generalize hos : srt (rdf rows p) = os at *
      have ospw : os.Pairwise (fun a b => leD a b = true) := by rw [← hos]; exact srt_pw _
      have osm : ∀ x, x ∈ os ↔ x ∈ rdf rows p := fun x => by rw [← hos]; exact srt_mem
      refine ⟨b, rfl, ⟨_, SqL.of upd_same⟩, for_list (K := K) (a := b) (xs := os.map V.str) (fun j σ H' => ∃ (dn : List (List (Str × Str))) (y z u : Option V), σ = [some (.ref d), some (.ref l), some (.ref sd), some (.str p), y, z, u] ∧ St dn H' ∧ H' b = some (.lst (os.map V.str)) ∧
        (∀ s ∈ darts (vsf rows) (rdf rows), s.1 ∈ ss.take i → s ∈ dn.flatten) ∧ ∀ o ∈ os.take j, (p, o) ∈ dn.flatten) ?_ ?_ ?_ ?_⟩
      · refine ⟨dn, _, _, _, rfl, ⟨sm.trans sb, sb _ _ hA, ⟨as, sb _ _ hL, ups sb hP⟩, sb _ _ hS, td, hps⟩, upd_same, hin, fun o ho => by simp at ho⟩
      · rintro j σ H2 _ ⟨dn, y, z, u, _, _, hB, _⟩
        exact SqL.of hB
      · rintro j yy σ H2 hj ⟨dn, y2, z2, u2', rfl, ⟨sm2, hA2, ⟨as2, hL2, hP2⟩, hS2, td2, hps2⟩, hB2, hin2, hos2⟩
        obtain ⟨q, hq, rfl⟩ := item_str hj
        have hqr : q ∈ rdf rows p := (osm q).mp (List.mem_of_getElem? hq)
        have hdart : (p, q) ∈ darts (vsf rows) (rdf rows) := mem_darts.mpr ⟨hpv, hqr⟩
        have hfm : ∀ s, s ∈ (dn.map flD).flatten ↔ s ∈ dn.flatten := fun s => (flat_flD_perm dn).mem_iff
        have hpf : (dn.flatten ++ td2.flatten).Perm (darts (vsf rows) (rdf rows)) := by
          rw [← List.flatten_append]
          exact (hps2.flatten).symm.trans F.perm
        have hnf : (dn.flatten ++ td2.flatten).Nodup := hpf.nodup_iff.mpr hdn
        have al2 : Al (l :: sd :: M) H2 := ((al.same sm2).cons hS2).cons hL2
        refine ⟨_, rfl, _, rfl, by show 2 ≤ sizeLine; decide, fun t ht => ?_⟩
        have st : Same H2 (upd H2 t (.tup [.str p, .str q])) := .new ht
        refine ⟨_, rfl, sd, _, rfl, dget_tkT (K := K) (s := (p, q)) (st _ _ hS2) upd_same, _, rfl, ?_⟩
        by_cases hm : (p, q) ∈ (dn.map flD).flatten
        · rw [if_pos hm]
          refine iteF ⟨dn, _, _, _, rfl, ⟨sm2.trans st, st _ _ hA2, ⟨as2, st _ _ hL2, ups st hP2⟩, st _ _ hS2, td2, hps2⟩, st _ _ hB2, hin2, fun o ho => ?_⟩
          rw [take_snoc hq] at ho
          rcases List.mem_append.mp ho with w | w
          · exact hos2 o w
          · rw [List.mem_singleton.mp w]; exact (hfm _).mp hm
        · rw [if_neg hm]
          refine iteT ?_
          have hund : (p, q) ∉ dn.flatten := fun w => hm ((hfm _).mpr w)
          obtain ⟨c, hct, huc⟩ := List.mem_flatten.mp ((List.mem_append.mp (hpf.mem_iff.mpr hdart)).resolve_left hund)
          have hcp : c ∈ cs := hps2.mem_iff.mpr (List.mem_append_right _ hct)
          obtain ⟨td', hp2⟩ := perm_head hct
          obtain ⟨X, Y, ec, hX⟩ := mem_split huc
          have hcnd : c.Nodup := by
            obtain ⟨rest, hpr⟩ := perm_head hcp
            have := (hpr.flatten.nodup_iff).mp hcn
            rw [List.flatten_cons] at this
            exact (List.nodup_append.mp this).1
          have hcin : ∀ s ∈ c, s ∈ darts (vsf rows) (rdf rows) := fun s hs => fd_in F hcp hs
          have hleast : ∀ s ∈ c, leD (p, q) s = true := fun s hs => by
            cases z : DatumOrd.lt s (p, q) with
            | false => unfold leD; rw [z]; rfl
            | true =>
              exfalso
              have hsd' := hcin s hs
              have : s ∈ dn.flatten := by
                rcases (lt_pair s (p, q)).mp z with ⟨e1, e2⟩ | ⟨e1, e2⟩
                · have h3 := hos2 s.2 (srt_before ospw hq ((osm s.2).mpr (by have := (mem_darts.mp hsd').2; rw [e1] at this; exact this)) e2)
                  have : s = (p, s.2) := Prod.ext e1 rfl
                  rw [this]; exact h3
                · exact hin2 s hsd' (srt_before sspw hp ((ssm s.1).mpr (mem_darts.mp hsd').1) e2)
              exact (List.nodup_append.mp hnf).2.2 s this s (List.mem_flatten.mpr ⟨c, hct, hs⟩) rfl
          have hrot : flD c = (p, q) :: Y ++ X := flD_rot ec hX hleast
          have hcyc : Path (fs (rdf rows)) (p, q) (Y ++ X) (p, q) := cyc_rot (A := X) (B := (p, q) :: Y) (by rw [← ec]; exact F.cyc c hcp)
          have hrn : ((p, q) :: (Y ++ X)).Nodup := by
            have := (flD_perm c).nodup_iff.mpr hcnd
            rw [hrot] at this
            simpa using this
          have hmemr : ∀ s ∈ (p, q) :: (Y ++ X), s ∈ darts (vsf rows) (rdf rows) := fun s hs => hcin s (flD_mem.mp (by rw [hrot]; simpa using hs))
          have hclen : c.length ≤ 3600 := Nat.le_trans (nodup_le hcnd hcin) hdl
          have hcl2 : (Y ++ X).length ≤ 9000 := by
            have := congrArg List.length ec
            simp only [List.length_append, List.length_cons] at this ⊢
            omega
          -- face = face_from(rounds, (place, other))
          have hdA : RdsAt K (wo (upd H2 t (.tup [.str p, .str q])) (l :: sd :: M)) d rows := up (wo_ext2 (sm2.trans st) hl0 hsd0) hd
          refine ⟨_, rfl, _, rfl, _, rfl, by show 2 ≤ sizeLine; decide, fun t2 ht2 => ?_⟩
          have st2 : Same (upd H2 t (.tup [.str p, .str q])) (upd (upd H2 t (.tup [.str p, .str q])) t2 (.tup [.str p, .str q])) := .new ht2
          refine ⟨l :: sd :: M, d, t2, rows, p, q, Y ++ X, rfl, (al2.same st).same st2, upw st2 hdA, T2.of upd_same ((al2.same st).fresh ht2), wf, hnm, hmemr, hcyc, hrn, hcl2, fun fl H4 s4 hF => ?_⟩
          have sm4 : Same H2 H4 := (st.trans st2).trans s4
          have al4 := al2.same sm4
          obtain ⟨ts, hF1, hF2⟩ := id hF
          have hflen : ((p, q) :: (Y ++ X)).length < sizeLine := Nat.lt_of_le_of_lt (Nat.succ_le_succ hcl2) (by decide)
          have elen : (flD c).length = c.length := (flD_perm c).length_eq
          -- seen.update
          refine ⟨_, rfl, .inr (.inr (.inl ⟨rfl, .inr ⟨_, sm4 _ _ hS2⟩⟩)), _, rfl, fl, rfl, ⟨_, wo_same.sm.seq hF1⟩, fun D hD => ?_⟩
          refine lcL (K := K) (M := l :: sd :: M) (paired_refs' hF2) (fun G v x => ∃ a, v = .ref a ∧ ∃ t, T2 K G t x ∧ SqT K G a [.ref t, .bl true]) (fun G G' v x s ⟨a, e, t, h1, h2⟩ => ⟨a, e, t, up s h1, s.sm.seqT h2⟩) some hD al4 hflen (wo_same.sm.seq hF1) (fun v b H5 Ky Kn hb ⟨tb, e, hT⟩ s5 al5 ky kn => ?_) (fun ys H5 s5 hD5 hp5 => ?_)
          · subst e
            refine ⟨rfl, lcy ⟨_, rfl, by show 2 ≤ sizeLine; decide, fun t6 ht6 => ky _ _ _ rfl (.new ht6) ⟨t6, rfl, tb, ?_, .inl (.inl ?_)⟩⟩⟩
            · have h7 : T2 K H4 tb b := rd hT
              have : tb ∉ D :: l :: sd :: M := fun w => by
                rcases List.mem_cons.mp w with w | w
                · rw [w] at h7; rw [show H4 D = _ from h7] at hD; cases hD
                · have := (wo_get (show wo H4 (l :: sd :: M) tb = _ from hT)).2
                  exact this w
              show wo _ _ tb = _
              rw [wo_out this]
              exact (s5.trans (.new ht6)) _ _ h7
            · rw [wo_out (al5.fresh ht6), upd_same]
          rw [List.filterMap_some] at hp5
          obtain ⟨us, rfl, hus⟩ := paired_refs hp5
          have hndc : ((dn.map flD).flatten ++ flD c).Nodup := by
            refine List.nodup_append.mpr ⟨(flat_flD_perm dn).nodup_iff.mpr (List.nodup_append.mp hnf).1, (flD_perm c).nodup_iff.mpr hcnd, fun v hv v' hv' e => ?_⟩
            subst e
            exact (List.nodup_append.mp hnf).2.2 v ((hfm v).mp hv) v (List.mem_flatten.mpr ⟨c, hct, flD_mem.mp hv'⟩) rfl
          have hS5 := (sm4.trans s5) _ _ hS2
          have hL5 := (sm4.trans s5) _ _ hL2
          have hlf : (dn.map flD).flatten.length ≤ 3600 := by
            rw [(flat_flD_perm dn).length_eq]
            have := hpf.length_eq
            rw [List.length_append] at this
            omega
          have hpt : Paired (fun p kv => ∃ b, H5 b = some (.tup (kv.1.map kV)) ∧ SqT K H5 p [.ref b, kv.2]) us (tkT (flD c)) := by
            rw [hrot]
            exact pairs_tkT (K := K) wo_same hus
          refine ⟨sd, D, _, tkT (flD c), us, rfl, rfl, hS5, SqL.of hD5, hpt, ?_, ?_⟩
          · rw [tkT_length, tkT_length, elen]
            exact Nat.le_trans (Nat.add_le_add hlf hclen) (by decide)
          rw [mergeT_tkT _ _ hndc]
          have hF6 : LR K (T2 K) (wo (upd H5 sd (.dT (tkT ((dn.map flD).flatten ++ flD c)))) (l :: sd :: M)) fl ((p, q) :: (Y ++ X)) := by
            rw [wo_mut (by simp)]
            exact upw s5 hF
          have hL6 : upd H5 sd (.dT (tkT ((dn.map flD).flatten ++ flD c))) l = some (.lst (as2.map V.ref)) := by rw [upd_ne nls]; exact hL5
          have hS6 : upd H5 sd (.dT (tkT ((dn.map flD).flatten ++ flD c))) sd = some (.dT (tkT ((dn.map flD).flatten ++ flD c))) := upd_same
          have hP6 : Paired (LsN H (wo (upd H5 sd (.dT (tkT ((dn.map flD).flatten ++ flD c)))) (l :: sd :: M))) as2 (lonesF rows ++ dn.map fun c => (flD c).map (·.1)) := by
            rw [wo_mut (by simp)]
            exact ups (sm4.trans s5) hP2
          have sm6 : Same H (upd H5 sd (.dT (tkT ((dn.map flD).flatten ++ flD c)))) := ((sm2.trans sm4).trans s5).mut hsd0
          have hA6 : upd H5 sd (.dT (tkT ((dn.map flD).flatten ++ flD c))) a = some (.lst (ss.map V.str)) := by rw [upd_ne nas]; exact (sm4.trans s5) _ _ hA2
          have hB6 : upd H5 sd (.dT (tkT ((dn.map flD).flatten ++ flD c))) b = some (.lst (os.map V.str)) := by rw [upd_ne nbs]; exact (sm4.trans s5) _ _ hB2
          have al6 : Al (l :: sd :: M) (upd H5 sd (.dT (tkT ((dn.map flD).flatten ++ flD c)))) := (al4.same s5).upd
          generalize upd H5 sd (.dT (tkT ((dn.map flD).flatten ++ flD c))) = H6 at *
          -- found.append
          obtain ⟨ts6, hF61, hF62⟩ := id hF6
          refine ⟨_, rfl, .inl ⟨rfl, _, SqL.of hL6⟩, _, rfl, fl, rfl, ⟨_, wo_same.sm.seq hF61⟩, fun D2 hD2 => ?_⟩
          refine lcL (K := K) (M := l :: sd :: M) (paired_refs' hF62) (fun G v (x : Str) => v = .str x) (fun G G' v x s e => e) (fun s => some s.1) hD2 al6 hflen (wo_same.sm.seq hF61) (fun v b H7 Ky Kn hb ⟨tb, e, hT⟩ s7 al7 ky kn => ?_) (fun ys H7 s7 hD7 hp7 => ?_)
          · subst e
            refine ⟨rfl, lcy ⟨_, rfl, tb, _, 0, _, rfl, rfl, SqT.of (s7 _ _ (rd hT)), rfl, ky _ _ _ rfl (.refl _) rfl⟩⟩
          rw [filterMap_some] at hp7
          have ey := paired_vals hp7
          subst ey
          have hL7 := s7 _ _ hL6
          have nD2l : D2 ≠ l := fun e => by rw [e, hL6] at hD2; cases hD2
          refine ⟨l, _, _, rfl, rfl, hL7, ?_, ?_⟩
          · rw [List.length_map, Paired.length hP6, List.length_append, List.length_map]
            have h1 : (lonesF rows).length ≤ 60 := Nat.le_trans (List.length_filterMap_le _ _) hvl
            have h2 : dn.length ≤ dn.flatten.length := flat_len_le fun c hc => cyc_ne (F.cyc c (hps2.mem_iff.mpr (List.mem_append_left _ hc)))
            have := hpf.length_eq
            rw [List.length_append] at this
            exact Nat.lt_of_le_of_lt (show _ ≤ 60 + 3600 by omega) (by decide)
          · have e6 : ((p, q) :: (Y ++ X)).map (·.1) = (flD c).map (·.1) := by rw [hrot]; rfl
            rw [e6] at hD7
            refine ⟨dn ++ [c], _, _, _, rfl, ⟨(sm6.trans s7).mut hl0, ?_, ⟨as2 ++ [D2], ?_, ?_⟩, ?_, td', ?_⟩, ?_, ?_, ?_⟩
            · rw [upd_ne nal]; exact s7 _ _ hA6
            · rw [upd_same]; simp
            · rw [wo_mut (by simp), List.map_append, ← List.append_assoc]
              exact paired_snoc (ups s7 hP6) (LsN.of (sm6.free hD2) hD7 (al6.fresh hD2))
            · rw [upd_ne nls.symm, List.map_append, List.flatten_append]
              simpa using s7 _ _ hS6
            · refine hps2.trans ?_
              rw [List.append_assoc]
              exact List.Perm.append_left _ hp2
            · rw [upd_ne nbl]; exact s7 _ _ hB6
            · intro s hs h1
              rw [List.flatten_append]
              exact List.mem_append_left _ (hin2 s hs h1)
            · intro o ho
              rw [take_snoc hq] at ho
              rw [List.flatten_append]
              rcases List.mem_append.mp ho with w | w
              · exact List.mem_append_left _ (hos2 o w)
              · rw [List.mem_singleton.mp w]; exact List.mem_append_right _ (by simpa using huc)
      · rintro σ H2 ⟨dn, y2, z2, u2', rfl, hSt, hB2, hin2, hos2⟩
        refine ⟨dn, _, _, _, _, rfl, hSt, fun s hs h1 => ?_⟩
        rw [take_snoc hp] at h1
        rcases List.mem_append.mp h1 with w | w
        · exact hin2 s hs w
        · have e := List.mem_singleton.mp w
          have h2 := hos2 s.2 (by rw [List.length_map, List.take_length]; exact (osm s.2).mpr (by rw [← e]; exact (mem_darts.mp hs).2))
          have : s = (p, s.2) := Prod.ext e rfl
          rw [this]; exact h2
    · rintro σ H' ⟨dn, x, y, z, u, rfl, ⟨sm, hA, ⟨as, hL, hP⟩, hS, td, hps⟩, hin⟩
      have etd : td = [] := by
        cases td with
        | nil => rfl
        | cons c r =>
          exfalso
          have hcp : c ∈ cs := hps.mem_iff.mpr (by simp)
          obtain ⟨s, r', e⟩ := List.exists_cons_of_ne_nil (cyc_ne (F.cyc c hcp))
          have hsc : s ∈ c := by rw [e]; simp
          have hsd' := fd_in F hcp hsc
          have h1 : s ∈ dn.flatten := hin s hsd' (by rw [List.length_map, List.take_length]; exact (ssm s.1).mpr (mem_darts.mp hsd').1)
          have hnf : (dn ++ c :: r).flatten.Nodup := (hps.flatten.nodup_iff).mp hcn
          rw [List.flatten_append] at hnf
          exact (List.nodup_append.mp hnf).2.2 s h1 s (by simp [hsc]) rfl
      subst etd
      rw [List.append_nil] at hps
      refine ⟨_, rfl, l, as, _, rfl, SqL.of hL, Paired.mapP hP fun a x h => LS.dp (K := K) (rd h).ls, fun x hx => .inr fun d hd => ?_, fun cs' p hcs he hp => ?_⟩
      · have : d = tD x := by simpa using hd
        subst this
        exact ⟨fun z => (nomatch z), fun _ z => (nomatch z)⟩
      · refine k p _ (sm.trans (.new hp)) ?_
        obtain ⟨z1, z2, z3⟩ := zip_fst hP
        have e : facesF rows cs = cs'.map (·.2) := by
          rw [he]
          exact srt_congr (List.Perm.append_left _ (hps.map _))
        rw [e]
        refine ⟨cs'.map (·.1), ?_, ?_⟩
        · rw [nw_of (sm.free hp), upd_same, List.map_map]; rfl
        · have hall : ∀ c ∈ cs', LsN H (wo H' (l :: sd :: M)) c.1 c.2 := fun c hc => z3 c (hcs.mem_iff.mp hc)
          have key : ∀ l2 : List (Addr × List Str), (∀ c ∈ l2, LsN H (wo H' (l :: sd :: M)) c.1 c.2) → Paired (LsN H (upd H' p (.lst (cs'.map fun c => V.ref c.1)))) (l2.map (·.1)) (l2.map (·.2)) := by
            intro l2
            induction l2 with
            | nil => intro _; exact .nil
            | cons c r ih => exact fun h => .cons (up (wo_same.trans (Same.new hp)) (h c (by simp))) (ih fun x hx => h x (List.mem_cons_of_mem _ hx))
          exact key cs' hall
end
end Five
end
section
namespace Five
open PySem PySem.Spec PyProof.Rows L2
open PySem.W (Datum DatumOrd)
section
variable {P : Program} {w : World} {K : PySem.W.Frag} {mg : Str → Option Value} {base : Heap} {C : Addr} {cx : Nat → Addr}
def spIsName (K : PySem.W.Frag) : Sp := fun vs H Q _ => ∃ x : Str, vs = [.str x] ∧ x.length ≤ 4000 ∧ ∀ H', Same H H' → Q (.bl (isNm x)) H'
theorem ok_is_name (T : Txt K mg C cx) : Cal P w K mg base 1 "is_name" (spIsName K) := by
  refine cal_of T.d_is_name sc_is_name (fun vs H Q E h => ?_) (fun f cdv A outer s H vs Q E hr h => ?_)
  · obtain ⟨x, rfl, _⟩ := h
    rfl
  · obtain ⟨x, rfl, hx, k⟩ := h
    refine ⟨_, (pss_cons (ps_if (PW.pt (pw_or (pt_not (pt_val (pe_callB (call_isiK' (K := K)) (by rfl) T.n_isinstance (by decide +kernel) (pa_cons (pv 0) (pa_cons (pe_bltn (v := .ty "str") (by rfl) T.n_str (by decide +kernel) rfl) pa_nil))))) (pw_or1 (pt_not (pt_chain op_le op_le pe_int (pe_callB call_len_str (by rfl) T.n_len (by decide +kernel) (pa_cons (pv 0) pa_nil)) (pe_gc (by rfl) T.g_MOST_LETTERS)))))) (pss_one (ps_ret pe_bl)) pss_nil)
      (pss_one (ps_ret (pe_callB (cr_allK (K := K) rfl) (by rfl) T.n_all (by decide +kernel) (pa_cons (pe_lc (own := [("sign", 1)]) (by rfl) sc_is_name.nd (pi_str (pv 0)) (blkOk_by (own := [("sign", 1)]) (N := N_is_name) (sc := defScope s_is_name) (by decide +kernel)) (fun _ _ _ _ _ => (pg_name (i := 1) sc_is_name.nd rfl (Or.inl rfl))) (fun _ _ _ _ _ => pts_nil) (fun _ _ _ _ _ => (pe_cmpR op_in_sign (pv 1) (pe_gc (by rfl) T.g_LETTERS) (by rfl)))) pa_nil))))), ?_⟩
    have hz : x.length ≤ sizeLine := Nat.le_trans hx (by decide)
    refine ⟨_, rfl, .str x, .ty "str", _, _, true, rfl, .ty "str", .base (.str x), kit_ty (by decide +kernel), _, rfl, iteF ⟨_, rfl, x, rfl, hz, _, _, rfl, rfl, _, rfl, ?_⟩⟩
    by_cases h1 : (1 : Int) ≤ (x.length : Int)
    · rw [decide_eq_true h1]
      refine iteT ⟨_, _, rfl, rfl, _, rfl, ?_⟩
      by_cases h2 : (x.length : Int) ≤ 8
      · rw [decide_eq_true h2]
        refine iteF ⟨_, rfl, x, rfl, fun D hD => ?_⟩
        refine lcT (M := []) (fun G v (b : Bool) => v = .bl b) (fun _ _ _ _ _ e => e) (fun c => some (decide (c ∈ abc.cps.toList))) hD al_nil (by rw [str_len]; exact Nat.lt_of_le_of_lt hx (by decide)) (fun c H2 Ky Kn hc s1 al ky kn => ?_) (fun ys H2 s1 hD2 hp => ?_)
        · exact ⟨rfl, lcy ⟨_, rfl, c, _, rfl, rfl, ky _ _ _ rfl (.refl _) rfl⟩⟩
        · rw [filterMap_some] at hp
          have e := paired_vals hp
          subst e
          refine ⟨D, _, rfl, SqL.of hD2, ?_⟩
          have e : isNm x = (x.cps.toList.map fun c => decide (c ∈ abc.cps.toList)).all id := by
            unfold isNm
            rw [decide_eq_true (by omega), decide_eq_true (by omega)]
            rfl
          rw [← e]
          exact k _ s1
      · rw [decide_eq_false h2]
        refine iteT ?_
        have e : isNm x = false := by
          unfold isNm
          rw [decide_eq_false (p := x.length ≤ 8) (by omega)]
          simp
        have := k _ (.refl _)
        rw [e] at this
        exact this
    · rw [decide_eq_false h1]
      refine iteF ⟨_, rfl, iteT ?_⟩
      have e : isNm x = false := by
        unfold isNm
        rw [decide_eq_false (p := 1 ≤ x.length) (by omega)]
        simp
      have := k _ (.refl _)
      rw [e] at this
      exact this
end
end Five
end
section
namespace Five
open PySem PySem.Spec PyProof.Rows L2
open PySem.W (Datum DatumOrd)
section
variable {P : Program} {w : World} {K : PySem.W.Frag} {mg : Str → Option Value} {base : Heap} {C : Addr} {cx : Nat → Addr}
def spWantNames (K : PySem.W.Frag) : Sp := fun vs H Q _ => ∃ (M : List Addr) (a : Addr) (rows : List Row), vs = [.ref a] ∧ Al M H ∧ LR K (RowT K) (wo H M) a rows ∧ (∀ r ∈ rows, Nm r.1 ∧ (∀ x ∈ r.2, Nm x) ∧ r.2.length ≤ 3000) ∧ ∀ H', Same H H' → Q .non H'
theorem ok_want_names (T : Txt K mg C cx) : Cal P w K mg base 2 "want_names" (spWantNames K) := by
  refine cal_of T.d_want_names sc_want_names (fun vs H Q E h => ?_) (fun f cdv A outer s H vs Q E hr h => ?_)
  · obtain ⟨M, a, rows, rfl, _⟩ := h
    rfl
  · obtain ⟨M, a, rows, rfl, al, ⟨as, ha, hp⟩, hnm, k⟩ := h
    refine ⟨_, (pss_one (ps_for PassesOwn.never (by rfl) (pi_list (pv 0)) (pg_tupK (K := K) 2 (by rfl) (pgs_cons (pg_name (i := 1) sc_want_names.nd rfl (Or.inl rfl)) (pgs_cons (pg_name (i := 2) sc_want_names.nd rfl (Or.inl rfl)) pgs_nil))) (pss_one (ps_if (pt_not (pt_val (pe_callB (cr_allK (K := K) rfl) (by rfl) T.n_all (by decide +kernel) (pa_cons (pe_lc (own := [("name", 3)]) (by rfl) sc_want_names.nd (pi_list (pe_op op_cat (pe_lst (pa_cons (pv 1) pa_nil)) (pv 2))) (blkOk_by (own := [("name", 3)]) (N := N_want_names) (sc := defScope s_want_names) (by decide +kernel)) (fun _ _ _ _ _ => (pg_name (i := 3) sc_want_names.nd rfl (Or.inl rfl))) (fun _ _ _ _ _ => pts_nil) (fun _ _ _ _ _ => (pe_c (ok_is_name T) hr (by decide) (by rfl) (pa_cons (pv 3) pa_nil)))) pa_nil)))) (pss_one ps_never) pss_nil)))), ?_⟩
    refine ⟨_, rfl, a, rfl, ⟨_, wo_same.sm.seq ha⟩, for_list (K := K) (a := a) (xs := as.map V.ref) (fun i σ H' => ∃ (x y z : Option V), σ = [some (.ref a), x, y, z] ∧ Same H H') ⟨_, _, _, rfl, .refl _⟩ (fun i σ H' _ ⟨x, y, z, _, sm⟩ => sm.seq (wo_same.sm.seq ha)) ?_ (fun σ H' ⟨x, y, z, _, sm⟩ => k H' sm)⟩
    rintro i v σ H' hi ⟨x, y, z, rfl, sm⟩
    obtain ⟨t, ht, rfl⟩ := item_ref hi
    obtain ⟨r, hr1, b, h1, h2⟩ := paired_get hp i t ht
    have hrm : r ∈ rows := List.mem_of_getElem? hr1
    obtain ⟨n1, n2, n3⟩ := hnm r hrm
    have h1' : H' t = some (.tup [.str r.1, .ref b]) := sm _ _ (wo_same _ _ h1)
    have h2' : H' b = some (.lst (r.2.map V.str)) := sm _ _ (wo_same _ _ h2)
    refine ⟨t, _, rfl, SqT.of h1', rfl, _, _, rfl, _, _, rfl, rfl, ?_⟩
    refine ⟨_, rfl, by show 1 ≤ sizeLine; decide, fun p1 hp1 => ⟨_, rfl, p1, b, _, _, rfl, rfl, upd_same, Same.new hp1 _ _ h2', ?_, fun p2 hp2 => ⟨p2, rfl, ⟨_, SqL.of upd_same⟩, fun D hD => ?_⟩⟩⟩
    · rw [List.length_map]
      exact Nat.le_trans (show 1 + r.2.length ≤ 1 + 3000 by omega) (by decide)
    have s2 : Same H' (upd (upd H' p1 (.lst [.str r.1])) p2 (.lst ([.str r.1] ++ r.2.map V.str))) := (Same.new hp1).trans (.new hp2)
    have e : ([V.str r.1] ++ r.2.map V.str) = (r.1 :: r.2).map V.str := rfl
    rw [e] at *
    refine lcL (K := K) (M := []) (paired_map V.str (r.1 :: r.2)) (fun G v (b : Bool) => v = .bl b) (fun _ _ _ _ _ e => e) (fun x => some (isNm x)) hD al_nil ?_ (SqL.of upd_same) (fun v b H2 Ky Kn hb e s3 al2 ky kn => ?_) (fun ys H2 s3 hD2 hp => ?_)
    · exact Nat.lt_of_le_of_lt (show (r.1 :: r.2).length ≤ 3001 by simp; omega) (by decide)
    · subst e
      have hb' : Nm b := by
        rcases List.mem_cons.mp hb with q | q
        · rw [q]; exact n1
        · exact n2 b q
      exact ⟨rfl, lcy ⟨_, rfl, b, rfl, Nat.le_trans hb'.2.1 (by decide), fun H3 s4 => ky _ _ _ rfl s4 rfl⟩⟩
    · rw [filterMap_some] at hp
      have e := paired_vals hp
      subst e
      refine ⟨D, _, rfl, SqL.of hD2, _, rfl, ?_⟩
      have e : ((r.1 :: r.2).map isNm).all id = true := by
        rw [List.all_eq_true]
        intro b hb
        obtain ⟨x, hx, rfl⟩ := List.mem_map.mp hb
        refine (isNm_iff x).mpr ?_
        rcases List.mem_cons.mp hx with q | q
        · rw [q]; exact n1
        · exact n2 x q
      rw [e]
      exact iteF ⟨_, _, _, rfl, sm.trans (s2.trans s3)⟩

def spWantUnlike (K : PySem.W.Frag) : Sp := fun vs H Q _ => ∃ (M : List Addr) (a : Addr) (rows : List Row), vs = [.ref a] ∧ Al M H ∧ LR K (RowT K) (wo H M) a rows ∧ (vsf rows).Nodup ∧ (∀ r ∈ rows, r.2.Nodup ∧ r.2.length ≤ 3000) ∧ rows.length ≤ 3000 ∧ ∀ H', Same H H' → Q .non H'
theorem ok_want_unlike (T : Txt K mg C cx) : Cal P w K mg base 1 "want_unlike" (spWantUnlike K) := by
  refine cal_of T.d_want_unlike sc_want_unlike (fun vs H Q E h => ?_) (fun f cdv A outer s H vs Q E hr h => ?_)
  · obtain ⟨M, a, rows, rfl, _⟩ := h
    rfl
  · obtain ⟨M, a, rows, rfl, al, ⟨as, ha, hp⟩, hnd, hrn, hlen, k⟩ := h
    refine ⟨_, (pss_cons (ps_if (pt_cmpR op_lt (pe_lenSetS (by rfl) T.n_len (by rfl) T.n_set (pe_lc (own := [("place", 1), ("around", 2)]) (by rfl) sc_want_unlike.nd (pi_list (pv 0)) (blkOk_by (own := [("place", 1), ("around", 2)]) (N := N_want_unlike) (sc := defScope s_want_unlike) (by decide +kernel)) (fun _ _ _ _ _ => (pg_tupK (K := K) 2 (by rfl) (pgs_cons (pg_name (i := 1) sc_want_unlike.nd rfl (Or.inl rfl)) (pgs_cons (pg_name (i := 2) sc_want_unlike.nd rfl (Or.inl rfl)) pgs_nil)))) (fun _ _ _ _ _ => pts_nil) (fun _ _ _ _ _ => (pv 1)))) (pe_callB (call_lenK (K := K)) (by rfl) T.n_len (by decide +kernel) (pa_cons (pv 0) pa_nil)) (nomark _)) (pss_one ps_never) pss_nil)
      (pss_one (ps_for PassesOwn.never (by rfl) (pi_list (pv 0)) (pg_tupK (K := K) 2 (by rfl) (pgs_cons (pg_name (i := 1) sc_want_unlike.nd rfl (Or.inl rfl)) (pgs_cons (pg_name (i := 2) sc_want_unlike.nd rfl (Or.inl rfl)) pgs_nil))) (pss_one (ps_if (pt_cmpR op_lt (pe_lenSetS (by rfl) T.n_len (by rfl) T.n_set (pv 2)) (pe_callB (call_lenK (K := K)) (by rfl) T.n_len (by decide +kernel) (pa_cons (pv 2) pa_nil)) (nomark _)) (pss_one ps_never) pss_nil))))), ?_⟩
    have ha' := wo_same.sm.seq ha
    have hp' : Paired (RowT K H) as rows := Paired.mapP hp fun _ _ q => rd q
    refine ⟨_, rfl, a, rfl, ⟨_, ha'⟩, fun D hD => ?_⟩
    refine lcL (K := K) (M := []) (paired_refs' hp') (fun G v (x : Str) => v = .str x) (fun _ _ _ _ _ e => e) (fun r => some r.1) hD al_nil (Nat.lt_of_le_of_lt hlen (by decide)) ha' (fun v r H2 Ky Kn hb ⟨t, e, b, h1, h2⟩ s3 al2 ky kn => ?_) (fun ys H2 s3 hD2 hp2 => ?_)
    · subst e
      exact ⟨t, _, rfl, SqT.of (s3 _ _ h1), rfl, _, _, rfl, _, _, rfl, rfl, rfl, lcy ⟨_, rfl, ky _ _ _ rfl (.refl _) rfl⟩⟩
    · rw [filterMap_some] at hp2
      have e := paired_vals hp2
      subst e
      refine ⟨D, rows.map (·.1), rfl, SqL.of hD2, by rw [List.length_map]; omega, _, rfl, a, _, rfl, .inl (s3.seq ha'), _, _, rfl, rfl, _, rfl, ?_⟩
      have e : decide (((dd (vsf rows)).length : Int) < ((as.map V.ref).length : Int)) = false := by
        rw [dd_nodup hnd, List.length_map, List.length_map, Paired.length hp]
        exact decide_eq_false (by omega)
      rw [e]
      refine iteF ?_
      refine ⟨_, rfl, a, rfl, ⟨_, s3.seq ha'⟩, for_list (K := K) (a := a) (xs := as.map V.ref) (fun i σ H' => ∃ (x y : Option V), σ = [some (.ref a), x, y] ∧ Same H H') ⟨_, _, rfl, s3⟩ (fun i σ H' _ ⟨x, y, _, sm⟩ => sm.seq ha') ?_ (fun σ H' ⟨x, y, _, sm⟩ => k H' sm)⟩
      rintro i v σ H' hi ⟨x, y, rfl, sm⟩
      obtain ⟨t, ht, rfl⟩ := item_ref hi
      obtain ⟨r, hr1, b, h1, h2⟩ := paired_get hp' i t ht
      obtain ⟨n1, n2⟩ := hrn r (List.mem_of_getElem? hr1)
      refine ⟨t, _, rfl, SqT.of (sm _ _ h1), rfl, _, _, rfl, _, _, rfl, rfl, ?_⟩
      have h2' : SqL K H' b (r.2.map V.str) := SqL.of (sm _ _ h2)
      refine ⟨_, rfl, b, r.2, rfl, h2', by omega, _, rfl, b, _, rfl, .inl h2', _, _, rfl, rfl, _, rfl, ?_⟩
      have e : decide (((dd r.2).length : Int) < ((r.2.map V.str).length : Int)) = false := by
        rw [dd_nodup n1, List.length_map]
        exact decide_eq_false (by omega)
      rw [e]
      exact iteF ⟨_, _, rfl, sm⟩

def spWantBack (K : PySem.W.Frag) : Sp := fun vs H Q _ => ∃ (M : List Addr) (a d : Addr) (rows rows' : List Row), vs = [.ref a, .ref d] ∧ Al M H ∧ LR K (RowT K) (wo H M) a rows ∧ RdsAt K (wo H M) d rows' ∧
  (∀ r ∈ rows, ∀ x ∈ r.2, x ≠ r.1 ∧ x ∈ vsf rows' ∧ r.1 ∈ rdf rows' x) ∧ ∀ H', Same H H' → Q .non H'
theorem ok_want_back (T : Txt K mg C cx) : Cal P w K mg base 1 "want_back" (spWantBack K) := by
  refine cal_of T.d_want_back sc_want_back (fun vs H Q E h => ?_) (fun f cdv A outer s H vs Q E hr h => ?_)
  · obtain ⟨M, a, d, rows, rows', rfl, _⟩ := h
    rfl
  · obtain ⟨M, a, d, rows, rows', rfl, al, ⟨as, ha, hp⟩, hd, hback, k⟩ := h
    refine ⟨_, (pss_one (ps_for PassesOwn.never (by rfl) (pi_list (pv 0)) (pg_tupK (K := K) 2 (by rfl) (pgs_cons (pg_name (i := 2) sc_want_back.nd rfl (Or.inl rfl)) (pgs_cons (pg_name (i := 3) sc_want_back.nd rfl (Or.inl rfl)) pgs_nil))) (pss_one (ps_for PassesOwn.never (by rfl) (pi_list (pv 3)) (pg_name (i := 4) sc_want_back.nd rfl (Or.inl rfl)) (pss_one (ps_if (PW.pt (pw_or (pt_cmpR op_eq (pv 4) (pv 2) (nomark _)) (pw_or (pt_cmp (pc_dnotin (hu_of hr) (pv 4) (pv 1))) (pw_or1 (pt_cmpR (op_notInK (K := K)) (pv 2) (pe_dget (hu_of hr) (pv 1) (pv 4) (fun _ _ => rfl)) (by rfl)))))) (pss_one ps_never) pss_nil)))))), ?_⟩
    have ha' := wo_same.sm.seq ha
    have hp' : Paired (RowT K H) as rows := Paired.mapP hp fun _ _ q => rd q
    have hd' : RdsAt K H d rows' := rd hd
    refine ⟨_, rfl, a, rfl, ⟨_, ha'⟩, for_list (K := K) (a := a) (xs := as.map V.ref) (fun i σ H' => ∃ (x y z : Option V), σ = [some (.ref a), some (.ref d), x, y, z] ∧ Same H H') ⟨_, _, _, rfl, .refl _⟩ (fun i σ H' _ ⟨x, y, z, _, sm⟩ => sm.seq ha') ?_ (fun σ H' ⟨x, y, z, _, sm⟩ => k H' sm)⟩
    rintro i v σ H' hi ⟨x, y, z, rfl, sm⟩
    obtain ⟨t, ht, rfl⟩ := item_ref hi
    obtain ⟨r, hr1, b, h1, h2⟩ := paired_get hp' i t ht
    have hrb := hback r (List.mem_of_getElem? hr1)
    refine ⟨t, _, rfl, SqT.of (sm _ _ h1), rfl, _, _, rfl, _, _, rfl, rfl, ?_⟩
    refine ⟨_, rfl, b, rfl, ⟨_, SqL.of (sm _ _ h2)⟩, for_list (K := K) (a := b) (xs := r.2.map V.str) (fun i σ H' => ∃ z : Option V, σ = [some (.ref a), some (.ref d), some (.str r.1), some (.ref b), z] ∧ Same H H') ⟨_, rfl, sm⟩ (fun i σ H' _ ⟨z, _, sm⟩ => SqL.of (sm _ _ h2)) ?_ (fun σ H' ⟨z, e, sm⟩ => ⟨_, _, _, e, sm⟩)⟩
    rintro j v σ H2 hj ⟨z, rfl, sm2⟩
    obtain ⟨u, hu, rfl⟩ := item_str hj
    obtain ⟨b1, b2, b3⟩ := hrb u (List.mem_of_getElem? hu)
    obtain ⟨au, gu, eu⟩ := (up sm2 hd').get b2
    refine ⟨_, rfl, _, rfl, rfl, _, rfl, ?_⟩
    have e1 : decide (V.str u = V.str r.1) = false := decide_eq_false fun q => b1 (V.str.inj q)
    rw [e1]
    refine iteF ⟨_, rfl, _, rfl, d, _, rfl, gu, _, rfl, iteF ⟨_, rfl, _, rfl, _, rfl, d, _, rfl, gu, au, _, rfl, .inl eu, rfl, flat_strs _, _, rfl, ?_⟩⟩
    rw [inV_str, decide_eq_true b3]
    exact iteF ⟨_, rfl, sm2⟩
end
end Five
end
section
namespace Five
open PySem PySem.Spec PyProof.Rows L2
open PySem.W (Datum DatumOrd)
section
variable {P : Program} {w : World} {K : PySem.W.Frag} {mg : Str → Option Value} {base : Heap} {C : Addr} {cx : Nat → Addr}
def spWantFlat (K : PySem.W.Frag) : Sp := fun vs H Q _ => ∃ (M : List Addr) (d : Addr) (rows : List Row), vs = [.ref d] ∧ Al M H ∧ RdsAt K (wo H M) d rows ∧ (∃ kvs, H d = some (.dK kvs)) ∧ (∀ x ∈ vsf rows, Nm x) ∧ Pl (vsf rows) (rdf rows) ∧ rows.length ≤ 60 ∧ ∀ H', Same H H' → Q .non H'
theorem ok_want_flat (T : Txt K mg C cx) : Cal P w K mg base 4 "want_flat" (spWantFlat K) := by
  refine cal_of T.d_want_flat sc_want_flat (fun vs H Q E h => ?_) (fun f cdv A outer s H vs Q E hr h => ?_)
  · obtain ⟨M, d, rows, rfl, _⟩ := h
    rfl
  · obtain ⟨M, d, rows, rfl, al, hd, hx, hnm, pl, hlen, k⟩ := h
    refine ⟨_, (pss_cons (ps_set (i := 1) sc_want_flat.nd rfl (Or.inl rfl) (pe_c (ok_faces_in T) hr (by decide) (by rfl) (pa_cons (pv 0) pa_nil)))
      (pss_one (ps_for PassesOwn.never (by rfl) (pi_list (pe_c (ok_pieces_in T) hr (by decide) (by rfl) (pa_cons (pv 0) pa_nil))) (pg_name (i := 2) sc_want_flat.nd rfl (Or.inr rfl)) (pss_cons (ps_set (i := 3) sc_want_flat.nd rfl (Or.inl rfl) (pe_op op_fdiv (pe_callB (cr_sumK (K := K) rfl) (by rfl) T.n_sum (by decide +kernel) (pa_cons (pe_lc (own := [("place", 5)]) (by rfl) sc_want_flat.nd (pi_list (pv 2)) (blkOk_by (own := [("place", 5)]) (N := N_want_flat) (sc := defScope s_want_flat) (by decide +kernel)) (fun _ _ _ _ _ => (pg_name (i := 5) sc_want_flat.nd rfl (Or.inl rfl))) (fun _ _ _ _ _ => pts_nil) (fun _ _ _ _ _ => (pe_callB (call_lenK (K := K)) (by rfl) T.n_len (by decide +kernel) (pa_cons (pe_dget (hu_of hr) (pv 0) (pv 5) (fun _ _ => rfl)) pa_nil)))) pa_nil)) pe_int))
      (pss_cons (ps_set (i := 4) sc_want_flat.nd rfl (Or.inl rfl) (pe_callB (call_lenK (K := K)) (by rfl) T.n_len (by decide +kernel) (pa_cons (pe_lc (own := [("face", 6)]) (by rfl) sc_want_flat.nd (pi_list (pv 1)) (blkOk_by (own := [("face", 6)]) (N := N_want_flat) (sc := defScope s_want_flat) (by decide +kernel)) (fun _ _ _ _ _ => (pg_name (i := 6) sc_want_flat.nd rfl (Or.inl rfl))) (fun _ _ _ _ _ => (pts_one (pt_cmpR (op_inK (K := K)) (pe_ix (ix_listK (K := K)) (pv 6) pe_int (fun _ _ => rfl)) (pv 2) (by rfl)))) (fun _ _ _ _ _ => (pv 6))) pa_nil)))
      (pss_one (ps_if (pt_cmpR op_ne (pe_op op_add (pe_callB (call_lenK (K := K)) (by rfl) T.n_len (by decide +kernel) (pa_cons (pv 2) pa_nil)) (pv 4)) (pe_op op_add (pv 3) pe_int) (nomark _)) (pss_one ps_never) pss_nil))))))), ?_⟩
    have hvl : (vsf rows).length ≤ 60 := by rw [List.length_map]; exact hlen
    have wf := pl.wf
    obtain ⟨cs, ps, F, cd, eu⟩ := pl.flat
    have hfn : ps.flatten.Nodup := cd.perm.nodup_iff.mpr wf.nd
    refine ⟨_, rfl, M, d, rows, cs, rfl, al, hd, hx, hnm, wf, F, hlen, fun lf H1 s1 hFn => ?_⟩
    have hF : LR K (LS K) (wo H1 M) lf (facesF rows cs) := hFn.lr al
    refine ⟨_, rfl, M, d, rows, ps, rfl, al.same s1, upw s1 hd, hnm, wf.nd, cd, hlen, fun lp H2 s2 hPn => ?_⟩
    have hP : LR K (LS K) (wo H2 M) lp (srt (ps.map srt)) := hPn.lr (al.same s1)
    obtain ⟨as, hP1, hP2⟩ := hP
    have hd2 : RdsAt K (wo H2 M) d rows := upw (s1.trans s2) hd
    have hF2 : LR K (LS K) (wo H2 M) lf (facesF rows cs) := upw s2 hF
    have al2 := al.same (s1.trans s2)
    refine ⟨lp, rfl, ⟨_, wo_same.sm.seq hP1⟩, for_list (K := K) (a := lp) (xs := as.map V.ref) (fun i σ H' => ∃ (x y z u w : Option V), σ = [some (.ref d), some (.ref lf), x, y, z, u, w] ∧ Same H2 H') ⟨_, _, _, _, _, rfl, .refl _⟩ (fun i σ H' _ ⟨_, _, _, _, _, _, sm⟩ => sm.seq (wo_same.sm.seq hP1)) ?_ (fun σ H' ⟨_, _, _, _, _, _, sm⟩ => k H' ((s1.trans s2).trans sm))⟩
    rintro i v σ H' hi ⟨x, y, z, u, w', rfl, sm⟩
    obtain ⟨pa, hpa, rfl⟩ := item_ref hi
    obtain ⟨pc, hpc1, hpc2⟩ := paired_get hP2 i pa hpa
    obtain ⟨c, hc, rfl⟩ : ∃ c ∈ ps, srt c = pc := List.mem_map.mp (srt_mem.mp (List.mem_of_getElem? hpc1))
    have hcn : c.Nodup := by
      obtain ⟨rest, hp⟩ := perm_head hc
      have := (hp.flatten.nodup_iff).mp hfn
      rw [List.flatten_cons] at this
      exact (List.nodup_append.mp this).1
    have hcs : ∀ x ∈ c, x ∈ vsf rows := fun x hx => cd.perm.mem_iff.mp (List.mem_flatten.mpr ⟨c, hc, hx⟩)
    have hcl : c.length ≤ 60 := Nat.le_trans (nodup_le hcn hcs) hvl
    have hpc : LS K H' pa (srt c) := up sm (rd hpc2)
    have hdH : RdsAt K H' d rows := up sm (rd hd2)
    -- ties
    refine ⟨_, rfl, pa, rfl, ⟨_, hpc⟩, fun D hD => ?_⟩
    refine lcL (K := K) (M := []) (paired_map V.str (srt c)) (fun G v (n : Int) => v = .int n) (fun _ _ _ _ _ e => e) (fun v => some ((((rdf rows v).map V.str).length : Nat) : Int)) hD al_nil (by rw [srt_length]; exact Nat.lt_of_le_of_lt hcl (by decide)) hpc (fun v b H3 Ky Kn hb e s3 al3 ky kn => ?_) (fun ys H3 s3 hD3 hp3 => ?_)
    · subst e
      obtain ⟨a1, g1, e1⟩ := (up s3 hdH).get (hcs b (srt_mem.mp hb))
      exact ⟨rfl, lcy ⟨_, rfl, _, rfl, d, _, rfl, g1, a1, _, rfl, .inl e1, ky _ _ _ rfl (.refl _) rfl⟩⟩
    rw [filterMap_some] at hp3
    have ey := paired_vals hp3
    subst ey
    refine ⟨D, _, rfl, SqL.of hD3, _, _, rfl, rfl, ⟨by decide, by decide⟩, ?_⟩
    have esum : ((srt c).map fun v => ((((rdf rows v).map V.str).length : Nat) : Int)).sum = (deg (rdf rows) c : Int) := by
      simp only [List.length_map]
      rw [deg_sum, deg_perm (srt_perm c)]
    rw [esum]
    -- own
    obtain ⟨fs, hF21, hF22⟩ := hF2
    have hF3 := (sm.trans s3).seq (wo_same.sm.seq hF21)
    refine ⟨_, rfl, lf, rfl, ⟨_, hF3⟩, fun D2 hD2 => ?_⟩
    refine lcL (K := K) (M := M) (paired_refs' (ups (sm.trans s3) hF22)) (fun G v (x : List Str) => True) (fun _ _ _ _ _ e => e) (fun f => if hdS f ∈ srt c then some f else none) hD2 (al2.same (sm.trans s3)) (Nat.lt_of_le_of_lt (faces_len F wf hlen) (by decide)) hF3 (fun v f H4 Ky Kn hb ⟨fa, e, hfa⟩ s4 al4 ky kn => ?_) (fun ys H4 s4 hD4 hp4 => ?_)
    · subst e
      obtain ⟨f0, fr, ef⟩ := List.exists_cons_of_ne_nil (faces_ne F hb)
      have hfa' : LS K H4 fa f := up s4 (rd hfa)
      refine ⟨rfl, _, rfl, fa, _, 0, .str f0, rfl, rfl, hfa', at_map V.str (j := 0) rfl (by rw [ef]; rfl), _, rfl, pa, _, rfl, .inl (up (s3.trans s4) hpc), rfl, flat_strs _, _, rfl, ?_⟩
      rw [inV_str]
      have e0 : hdS f = f0 := by rw [ef]; rfl
      by_cases hm : f0 ∈ srt c
      · exact iteYes hm ⟨_, rfl, ky _ f _ (if_pos (by rw [e0]; exact hm)) (.refl _) trivial⟩
      · exact iteNo hm (kn _ (if_neg (by rw [e0]; exact hm)) (.refl _))
    have ylen : ys.length = nfc cs c + nlone (rdf rows) c := by
      rw [Paired.length hp4, ← own_count wf.nd F hcn hcs (cd.shut c hc)]
      have : ∀ l : List (List Str), (l.filterMap fun f => if hdS f ∈ srt c then some f else none).length = (l.filter fun f => decide (hdS f ∈ c)).length := by
        intro l
        induction l with
        | nil => rfl
        | cons f r ih =>
          rw [List.filterMap_cons, List.filter_cons]
          by_cases hm : hdS f ∈ c
          · rw [if_pos (srt_mem.mpr hm), if_pos (by simpa using hm)]
            simp [ih]
          · rw [if_neg fun q => hm (srt_mem.mp q), if_neg (by simpa using hm)]
            exact ih
      exact this _
    refine ⟨D2, _, rfl, .inl (SqL.of hD4), ?_⟩
    have hpc4 : LS K H4 pa (srt c) := up (s3.trans s4) hpc
    refine ⟨_, rfl, pa, _, rfl, .inl hpc4, _, rfl, _, _, rfl, rfl, _, rfl, _, _, rfl, rfl, rfl, _, rfl, iteNS ?_ ⟨_, _, _, _, _, rfl, (sm.trans s3).trans s4⟩⟩
    have e := eu c hc
    rw [List.length_map, srt_length, ylen]
    refine congrArg V.int ?_
    omega
end
end Five
end
section
namespace Five
open PySem PySem.Spec PyProof.Rows L2
open PySem.W (Datum DatumOrd)
section
variable {P : Program} {w : World} {K : PySem.W.Frag} {mg : Str → Option Value} {base : Heap} {C : Addr} {cx : Nat → Addr}
def spWebInit (K : PySem.W.Frag) (C : Addr) : Sp := fun vs H Q _ => ∃ (M : List Addr) (x dx a : Addr) (rows : List Row), vs = [.ref x, .ref a] ∧ H x = some (.ins C dx []) ∧ Al M H ∧ LR K (RowT K) (wo H (x :: M)) a rows ∧ RowsOk rows ∧
  ∀ (H' : Hp) (d : Addr) (kvs : List (Key × V)), Same (wo H [x]) H' → H' x = some (.ins C dx [("rounds", .ref d)]) → H d = none → H' d = some (.dK kvs) → Paired (RowKV K (nw H H')) kvs (webRows rows) → Q .non H'
theorem ok_Web_init (T : Txt K mg C cx) : ∃ f fd, Mk K C f ∧ FnOk P w K mg base CX0 5 f fd ["self", "rows"] (spWebInit K C) ∧ Binds K fd ["self", "rows"] [] := by
  obtain ⟨f, fd, F, hm, b⟩ := T.d_Web_init
  refine ⟨f, fd, hm, F.ok sc_Web_init (fun vs H Q E h => ?_) (fun cdv A outer s H vs Q E hr h => ?_), b⟩
  · obtain ⟨M, x, dx, a, rows, rfl, _⟩ := h
    rfl
  · obtain ⟨M, x, dx, a, rows, rfl, hx, al, hrows, ok, k⟩ := h
    refine ⟨_, (pss_cons (ps_expr (pe_c (ok_want_names T) hr (by decide) (by rfl) (pa_cons (pv 1) pa_nil)))
      (pss_cons (ps_expr (pe_c (ok_want_unlike T) hr (by decide) (by rfl) (pa_cons (pv 1) pa_nil)))
      (pss_cons (ps_set (i := 2) sc_Web_init.nd rfl (Or.inr rfl) (pe_callTy (call_dictK (K := K) rfl) (by rfl) T.n_dict (by decide +kernel) (pa_cons (pe_lc (own := [("place", 3), ("around", 4)]) (by rfl) sc_Web_init.nd (pi_list (pv 1)) (blkOk_by (own := [("place", 3), ("around", 4)]) (N := N_Web_init) (sc := defScope s_Web_init) (by decide +kernel)) (fun _ _ _ _ _ => (pg_tupK (K := K) 2 (by rfl) (pgs_cons (pg_name (i := 3) sc_Web_init.nd rfl (Or.inl rfl)) (pgs_cons (pg_name (i := 4) sc_Web_init.nd rfl (Or.inl rfl)) pgs_nil)))) (fun _ _ _ _ _ => pts_nil) (fun _ _ _ _ _ => (pe_tup (pa_cons (pv 3) (pa_cons (pe_callTy (call_listK (K := K)) (by rfl) T.n_list (by decide +kernel) (pa_cons (pv 4) pa_nil)) pa_nil))))) pa_nil)))
      (pss_cons (ps_expr (pe_c (ok_want_back T) hr (by decide) (by rfl) (pa_cons (pv 1) (pa_cons (pv 2) pa_nil))))
      (pss_cons (ps_expr (pe_c (ok_want_flat T) hr (by decide) (by rfl) (pa_cons (pv 2) pa_nil)))
      (pss_one (ps_fld (pv 0) (pe_callTy (call_dictK (K := K) rfl) (by rfl) T.n_dict (by decide +kernel) (pa_cons (pe_lc (own := [("place", 3)]) (by rfl) sc_Web_init.nd (pi_list (pe_callB (call_srtD rfl) (by rfl) T.n_sorted (by decide +kernel) (pa_cons (pv 2) pa_nil))) (blkOk_by (own := [("place", 3)]) (N := N_Web_init) (sc := defScope s_Web_init) (by decide +kernel)) (fun _ _ _ _ _ => (pg_name (i := 3) sc_Web_init.nd rfl (Or.inl rfl))) (fun _ _ _ _ _ => pts_nil) (fun _ _ _ _ _ => (pe_tup (pa_cons (pv 3) (pa_cons (pe_c (ok_from_least T) hr (by decide) (by rfl) (pa_cons (pe_dget (hu_of hr) (pv 2) (pv 3) (fun _ _ => rfl)) pa_nil)) pa_nil))))) pa_nil)) rfl))))))), ?_⟩
    have alx : Al (x :: M) H := al.cons hx
    have wf := ok.pl.wf
    refine ⟨_, rfl, x :: M, a, rows, rfl, alx, hrows, fun r hr => ?_, fun H1 s1 => ?_⟩
    · obtain ⟨h1, h2, h3, h4, h5⟩ := ok.row hr
      exact ⟨ok.nm _ h1, fun y hy => ok.nm y (h4 y hy).1, by omega⟩
    have al1 := alx.same s1
    refine ⟨_, rfl, x :: M, a, rows, rfl, al1, upw s1 hrows, wf.nd, fun r hr => ?_, Nat.le_trans ok.len (by decide), fun H2 s2 => ?_⟩
    · obtain ⟨h1, h2, h3, h4, h5⟩ := ok.row hr
      exact ⟨h3, by omega⟩
    have al2 := al1.same s2
    have hrows2 : LR K (RowT K) (wo H2 (x :: M)) a rows := upw s2 (upw s1 hrows)
    obtain ⟨as, ha1, ha2⟩ := id hrows2
    -- rounds = dict(..)
    refine ⟨_, rfl, a, rfl, ⟨_, wo_same.sm.seq ha1⟩, fun D hD => ?_⟩
    refine lcL (K := K) (M := x :: M) (paired_refs' ha2) (fun G v r => ∃ t, v = .ref t ∧ RowP K G t r) (rV_up (R := RowP K)) some hD al2 (Nat.lt_of_le_of_lt ok.len (by decide)) (wo_same.sm.seq ha1) (fun v r H3 Ky Kn hb ⟨t, e, b, h1, h2⟩ s3 al3 ky kn => ?_) (fun ys H3 s3 hD3 hp3 => ?_)
    · subst e
      have h1' : H3 t = some (.tup [.str r.1, .ref b]) := s3 _ _ (wo_same _ _ h1)
      have h2' : H3 b = some (.lst (r.2.map V.str)) := s3 _ _ (wo_same _ _ h2)
      refine ⟨t, _, rfl, SqT.of h1', rfl, _, _, rfl, _, _, rfl, rfl, rfl, lcy ⟨_, rfl, _, rfl, b, _, rfl, .inl (SqL.of h2'), fun l hl => ⟨by show 2 ≤ sizeLine; decide, fun t2 ht2 => ky _ r _ rfl ((Same.new hl).trans (.new ht2)) ⟨t2, rfl, l, ?_, ?_⟩⟩⟩⟩
      · exact .inl (.inl (by rw [wo_out (al3.upd.fresh ht2), upd_same]))
      · exact LS.of (Same.new ht2 _ _ upd_same) (al3.fresh hl)
    rw [List.filterMap_some] at hp3
    obtain ⟨ts, rfl, hts⟩ := paired_refs hp3
    obtain ⟨kvs, hk1, hk2⟩ := kv_of_rows hts
    refine ⟨D, ts, kvs, rfl, SqL.of hD3, Paired.mapP hk1 fun _ _ q => wo_same.sm.seqT q, fun d hd => ?_⟩
    have hkn : (kvs.map (·.1)).Nodup := by rw [rds_keys hk2]; exact nodup_inr wf.nd
    rw [mergeK_nodup hkn]
    have sd : Same H3 (upd H3 d (.dK kvs)) := .new hd
    have al3 : Al (x :: M) H3 := al2.same s3
    have al4 : Al (x :: M) (upd H3 d (.dK kvs)) := al3.same sd
    have hdn : d ∉ x :: M := al3.fresh hd
    have hrd : RdsAt K (wo (upd H3 d (.dK kvs)) (x :: M)) d rows := by
      refine ⟨kvs, .inl (by rw [wo_out hdn, upd_same]), Paired.mapP hk2 fun _ _ q => rowKV_up ?_ q⟩
      exact (wo_less (M := x :: M) (L := D :: x :: M) fun y hy => List.mem_cons_of_mem _ hy).sm.trans sd.wo.sm
    have hdx : upd H3 d (.dK kvs) d = some (.dK kvs) := upd_same
    have sH4 : Same H2 (upd H3 d (.dK kvs)) := s3.trans sd
    generalize upd H3 d (.dK kvs) = H4 at *
    -- want_back, want_flat
    refine ⟨_, rfl, _, rfl, x :: M, a, d, rows, rows, rfl, al4, upw sH4 hrows2, hrd, fun r hr y hy => ?_, fun H5 s5 => ?_⟩
    · obtain ⟨h1, h2, h3, h4, h5⟩ := ok.row hr
      exact ⟨(h4 y hy).2.1, (h4 y hy).1, (h4 y hy).2.2⟩
    have al5 := al4.same s5
    refine ⟨_, rfl, x :: M, d, rows, rfl, al5, upw s5 hrd, ⟨kvs, s5 _ _ hdx⟩, ok.nm, ok.pl, ok.len, fun H6 s6 => ?_⟩
    have al6 := al5.same s6
    have hrd6 : RdsAt K (wo H6 (x :: M)) d rows := upw s6 (upw s5 hrd)
    have sH6 : Same H H6 := ((((s1.trans s2).trans sH4).trans s5).trans s6)
    -- self.rounds = dict(..)
    have hvl : (vsf rows).length ≤ 60 := by rw [List.length_map]; exact ok.len
    refine ⟨_, rfl, d, kvs, vsf rows, rfl, .inl ((s5.trans s6) _ _ hdx), rds_keys hk2, by omega, fun sl hsl => ?_⟩
    have s7 : Same H6 (upd H6 sl (.lst ((srt (vsf rows)).map V.str))) := .new hsl
    have al7 := al6.same s7
    refine ⟨sl, rfl, ⟨_, SqL.of upd_same⟩, fun D2 hD2 => ?_⟩
    have hrd7 := upw s7 hrd6
    refine lcL (K := K) (M := x :: M) (paired_map V.str (srt (vsf rows))) (fun G v r => ∃ t, v = .ref t ∧ RowN K H G t r) (rV_up (R := RowN K H)) (fun v => some (v, fl (rdf rows v))) hD2 al7 (by rw [srt_length]; exact Nat.lt_of_le_of_lt hvl (by decide)) (SqL.of upd_same) (fun v b H8 Ky Kn hb e s8 al8 ky kn => ?_) (fun ys H8 s8 hD8 hp8 => ?_)
    · subst e
      have hbv : b ∈ vsf rows := srt_mem.mp hb
      obtain ⟨a1, g1, e1⟩ := (up s8 (rd hrd7)).get hbv
      refine ⟨rfl, lcy ⟨_, rfl, _, rfl, _, rfl, d, _, rfl, g1, a1, rdf rows b, rfl, e1, fun y hy => ok.nm y (wf.ties b hbv y hy).1, ?_, fun p H9 s9 hp hpl => ⟨by show 2 ≤ sizeLine; decide, fun t2 ht2 => ky _ (b, fl (rdf rows b)) _ rfl (s9.trans (.new ht2)) ⟨t2, rfl, p, ?_, ?_⟩⟩⟩⟩
      · exact Nat.le_trans (nodup_le (wf.rn b hbv) fun u hu => (wf.ties b hbv u hu).1) (Nat.le_trans hvl (by decide))
      · exact .inl (.inl (by rw [wo_out ((al8.same s9).fresh ht2), upd_same]))
      · have hp0 : H p = none := ((sH6.trans s7).trans s8).free hp
        exact .inl (.inl (by rw [nw_of hp0, wo_out (al8.fresh hp)]; exact Same.new ht2 _ _ hpl))
    rw [filterMap_some] at hp8
    obtain ⟨ts2, rfl, hts2⟩ := paired_refs hp8
    obtain ⟨kvs2, hk3, hk4⟩ := kv_of_rowsN hts2
    refine ⟨D2, ts2, kvs2, rfl, SqL.of hD8, Paired.mapP hk3 fun _ _ q => wo_same.sm.seqT q, fun d2 hd2 => ?_⟩
    have hkn2 : (kvs2.map (·.1)).Nodup := by
      rw [rds_keys hk4]
      refine nodup_inr ?_
      rw [show vsf ((srt (vsf rows)).map fun v => (v, fl (rdf rows v))) = srt (vsf rows) from vsf_web rows]
      exact (srt_perm _).nodup_iff.mpr wf.nd
    rw [mergeK_nodup hkn2]
    have sd2 : Same H8 (upd H8 d2 (.dK kvs2)) := .new hd2
    have sHf : Same H (upd H8 d2 (.dK kvs2)) := ((sH6.trans s7).trans s8).trans sd2
    have al9 : Al (x :: M) H8 := al7.same s8
    have ndx : d2 ≠ x := fun q => by
      have := ((sH6.trans s7).trans s8) _ _ hx
      rw [← q, hd2] at this
      cases this
    refine ⟨_, rfl, x, C, dx, _, rfl, sHf _ _ hx, T.cl, T.nR, by decide, ?_⟩
    refine k _ d2 kvs2 ?_ upd_same (((sH6.trans s7).trans s8).free hd2) ?_ ?_
    · intro q o e
      obtain ⟨h1, h2⟩ := wo_get e
      rw [upd_ne (by simpa using h2)]
      exact sHf _ _ h1
    · rw [upd_ne ndx, upd_same]
    · refine Paired.mapP hk4 fun _ _ q => rowKV_up (Same.sm fun a o e => ?_) q
      obtain ⟨h1, h2⟩ := nw_get e
      rw [nw_of h1, upd_ne (ne_of_none hx h1).symm]
      exact sd2 _ _ (wo_same _ _ h2)
theorem ok_Web (T : Txt K mg C cx) : Mak P w K mg base 5 "Web" C (spWebInit K C) := by
  obtain ⟨f, fd, h1, h2, h3⟩ := ok_Web_init (P := P) (w := w) (base := base) T
  exact ⟨f, fd, _, h1, h2, T.mgWeb, h3⟩
end
end Five
end
section
namespace Five
open PySem PySem.Spec PyProof.Rows L2
open PySem.W (Datum DatumOrd)
section
variable {P : Program} {w : World} {K : PySem.W.Frag} {mg : Str → Option Value} {base : Heap} {C : Addr} {cx : Nat → Addr}
theorem WebAt.rds {G : Hp} {x : Addr} {rows : List Row} (h : WebAt K C G x rows) : ∃ dx d, G x = some (.ins C dx [("rounds", .ref d)]) ∧ RdsAt K G d rows ∧ ∃ kvs, G d = some (.dK kvs) ∧ Paired (RowKV K G) kvs rows := by
  obtain ⟨dx, d, kvs, h1, h2, h3⟩ := h
  exact ⟨dx, d, h1, ⟨kvs, .inl h2, h3⟩, kvs, h2, h3⟩
def spPlaces (K : PySem.W.Frag) (C : Addr) : Sp := fun vs H Q _ => ∃ (x : Addr) (W : List Row), vs = [.ref x] ∧ WebAt K C H x W ∧ ∀ p, H p = none → Q (.ref p) (upd H p (.lst ((vsf W).map V.str)))
theorem ok_Web_places (T : Txt K mg C cx) : Met P w K mg base 1 C "places" (spPlaces K C) := by
  refine met_of T.cl T.d_Web_places sc_Web_places (fun vs H Q E h => ?_) (fun f cdv A outer s H vs Q E hr h => ?_)
  · obtain ⟨x, W, rfl, _⟩ := h
    rfl
  · obtain ⟨x, W, rfl, hw, k⟩ := h
    refine ⟨_, (pss_one (ps_ret (pe_callTy (call_listD rfl) (by rfl) T.n_list (by decide +kernel) (pa_cons (pe_fld (pv 0) rfl) pa_nil)))), ?_⟩
    obtain ⟨dx, d, h1, h2, kvs, h3, h4⟩ := hw.rds
    refine ⟨_, rfl, x, C, dx, _, _, rfl, h1, T.cl, T.nR, rfl, d, kvs, rfl, .inl h3, fun p hp => ?_⟩
    have e : kvs.map (fun kv => kV kv.1) = (vsf W).map V.str := by
      have := congrArg (List.map kV) (rds_keys h4)
      rw [List.map_map, List.map_map] at this
      exact this
    have := k p hp
    rw [← e] at this
    exact this
end
end Five
end
section
namespace Five
open PySem PySem.Spec PyProof.Rows L2
open PySem.W (Datum DatumOrd)
section
variable {P : Program} {w : World} {K : PySem.W.Frag} {mg : Str → Option Value} {base : Heap} {C : Addr} {cx : Nat → Addr}
def spRoundOf (K : PySem.W.Frag) (C : Addr) : Sp := fun vs H Q _ => ∃ (x : Addr) (W : List Row) (v : Str), vs = [.ref x, .str v] ∧ WebAt K C H x W ∧ v ∈ vsf W ∧ ∀ p, H p = none → Q (.ref p) (upd H p (.lst ((rdf W v).map V.str)))
theorem ok_Web_round_of (T : Txt K mg C cx) : Met P w K mg base 1 C "round_of" (spRoundOf K C) := by
  refine met_of T.cl T.d_Web_round_of sc_Web_round_of (fun vs H Q E h => ?_) (fun f cdv A outer s H vs Q E hr h => ?_)
  · obtain ⟨x, W, v, rfl, _⟩ := h
    rfl
  · obtain ⟨x, W, v, rfl, hw, hv, k⟩ := h
    refine ⟨_, (pss_cons (ps_if (pt_cmp (pc_dnotin (hu_of hr) (pv 1) (pe_fld (pv 0) rfl))) (pss_one ps_never) pss_nil)
      (pss_one (ps_ret (pe_callTy (call_listK (K := K)) (by rfl) T.n_list (by decide +kernel) (pa_cons (pe_dget (hu_of hr) (pe_fld (pv 0) rfl) (pv 1) (fun _ _ => rfl)) pa_nil))))), ?_⟩
    obtain ⟨dx, d, h1, h2, kvs, h3, h4⟩ := hw.rds
    obtain ⟨a, g1, e1⟩ := h2.get hv
    refine ⟨_, rfl, _, rfl, x, C, dx, _, _, rfl, h1, T.cl, T.nR, rfl, d, _, rfl, g1, _, rfl, iteF ?_⟩
    exact ⟨_, rfl, x, C, dx, _, _, rfl, h1, T.cl, T.nR, rfl, _, rfl, d, _, rfl, g1, a, _, rfl, .inl e1, k⟩
end
end Five
end
section
namespace Five
open PySem PySem.Spec PyProof.Rows L2
open PySem.W (Datum DatumOrd)
section
variable {P : Program} {w : World} {K : PySem.W.Frag} {mg : Str → Option Value} {base : Heap} {C : Addr} {cx : Nat → Addr}
def spMirrored (K : PySem.W.Frag) (C : Addr) : Sp := fun vs H Q _ => ∃ (M : List Addr) (x : Addr) (W : List Row), vs = [.ref x] ∧ Al M H ∧ WebAt K C (wo H M) x W ∧ RowsOk W ∧ ∀ (y : Addr) (H' : Hp), Same H H' → H y = none → WebAt K C (wo H' M) y (webRows (revR W)) → Q (.ref y) H'
theorem ok_mirrored (T : Txt K mg C cx) : Cal P w K mg base 7 "mirrored" (spMirrored K C) := by
  refine cal_of T.d_mirrored sc_mirrored (fun vs H Q E h => ?_) (fun f cdv A outer s H vs Q E hr h => ?_)
  · obtain ⟨M, x, W, rfl, _⟩ := h
    rfl
  · obtain ⟨M, x, W, rfl, al, hwM, ok, k⟩ := h
    refine ⟨_, (pss_one (ps_ret (pe_mk (ok_Web T) hr (by decide) (by rfl) (pa_cons (pe_lc (own := [("place", 1)]) (by rfl) sc_mirrored.nd (pi_list (pe_mt0 (ok_Web_places T) hr (by decide) (pv 0))) (blkOk_by (own := [("place", 1)]) (N := N_mirrored) (sc := defScope s_mirrored) (by decide +kernel)) (fun _ _ _ _ _ => (pg_name (i := 1) sc_mirrored.nd rfl (Or.inl rfl))) (fun _ _ _ _ _ => pts_nil) (fun _ _ _ _ _ => (pe_tup (pa_cons (pv 1) (pa_cons (pe_lstRev (K := K) (by rfl) (by rfl) T.n_list (by rfl) T.n_reversed (pe_mt (ok_Web_round_of T) hr (by decide) (pv 0) (pa_cons (pv 1) pa_nil))) pa_nil))))) pa_nil)))), ?_⟩
    have hw : WebAt K C H x W := rd hwM
    obtain ⟨dx, d, h1, h2, kvs, h3, h4⟩ := hw.rds
    refine ⟨_, rfl, x, dx, _, rfl, h1, rfl, x, W, rfl, hw, fun pl hpl => ?_⟩
    have s1 : Same H (upd H pl (.lst ((vsf W).map V.str))) := .new hpl
    have hp1 : upd H pl (.lst ((vsf W).map V.str)) pl = some (.lst ((vsf W).map V.str)) := upd_same
    generalize upd H pl (.lst ((vsf W).map V.str)) = H1 at *
    refine ⟨pl, rfl, ⟨_, SqL.of hp1⟩, fun D hD => ?_⟩
    refine lcL (K := K) (M := []) (paired_map V.str (vsf W)) (fun G v r => ∃ t, v = .ref t ∧ RowT K G t r) (fun G G' v x s ⟨t, e1, e2⟩ => ⟨t, e1, up s e2⟩) (fun v => some (v, (rdf W v).reverse)) hD al_nil (by rw [List.length_map]; exact Nat.lt_of_le_of_lt ok.len (by decide)) (SqL.of hp1) (fun z v H2 Ky Kn hb e s2 al2 ky kn => ?_) (fun ys H2 s2 hD2 hp2 => ?_)
    · subst e
      obtain ⟨wx, wdd, w1, _⟩ := (up (s1.trans s2) hw).rds
      refine ⟨rfl, lcy ⟨_, rfl, _, rfl, x, wx, _, rfl, w1, rfl, _, rfl, x, W, v, rfl, up (s1.trans s2) hw, hb, fun ar har => ⟨ar, _, rfl, SqL.of upd_same, fun b hb2 => ?_⟩⟩⟩
      refine ⟨by show 2 ≤ sizeLine; decide, fun t2 ht2 => ky _ (v, (rdf W v).reverse) _ rfl (((Same.new har).trans (.new hb2)).trans (.new ht2)) ⟨t2, rfl, ?_⟩⟩
      exact RowT.of upd_same (al2.upd.upd.fresh ht2) (Same.new ht2 _ _ (by rw [List.map_reverse]; exact upd_same)) (al2.upd.fresh hb2)
    · rw [filterMap_some, revR_eta ok.pl.wf.nd] at hp2
      obtain ⟨ts, rfl, hts⟩ := paired_refs hp2
      have hts2 : Paired (RowT K H2) ts (revR W) := Paired.mapP hts fun _ _ q => rd q
      have s02 := s1.trans s2
      refine fun y dy hy hdy ne => ?_
      have sN : Same H2 (upd (upd H2 dy (.own y)) y (.ins C dy [])) := (Same.new hdy).trans (.new (by rw [upd_ne ne.symm]; exact hy))
      have hyn : upd (upd H2 dy (.own y)) y (.ins C dy []) y = some (.ins C dy []) := upd_same
      generalize upd (upd H2 dy (.own y)) y (.ins C dy []) = HN at *
      have sE : Same H2 (wo HN [y]) := by
        have := wo_ext1 (M := []) sN hy
        rwa [wo_nil] at this
      refine ⟨[], y, dy, D, revR W, rfl, hyn, al_nil, ⟨ts, SqL.of (sE _ _ hD2), Paired.mapP hts2 fun _ _ q => up (R := RowT K) sE q⟩, ok.rev, fun H3 d kvs s3 g1 g2 g3 g4 => ⟨rfl, ?_⟩⟩
      have s23 : Same H2 H3 := fun q o e => s3 _ _ (by rw [wo_out fun z => ne_of_none e hy (by simpa using z)]; exact sN _ _ e)
      have s03 := s02.trans s23
      have hy0 : H y = none := s02.free hy
      have hd0 : H d = none := (s02.trans sN).free g2
      have alN : Al M HN := al.same (s02.trans sN)
      refine k y H3 s03 hy0 ⟨dy, d, kvs, by rw [wo_out (al.fresh hy0)]; exact g1, by rw [wo_out (al.fresh hd0)]; exact g3, Paired.mapP g4 fun _ _ q => rowKV_up (Same.sm fun b o e => ?_) q⟩
      obtain ⟨q1, q2⟩ := nw_get e
      rw [wo_out (alN.fresh q1)]
      exact q2
end
end Five
end
section
namespace Five
open PySem PySem.Spec PyProof.Rows L2
open PySem.W (Datum DatumOrd)
theorem rot_flp {rows W : List Row} (h : Rot rows W) (hn : (vsf W).Nodup) {v : Str} (hv : v ∈ vsf W) : (rdf (webRows rows) v).Perm (rdf W v) := by
  have hv2 : v ∈ vsf rows := h.vs.mem_iff.mpr hv
  obtain ⟨L, M, e1, e2⟩ := h.rd hn hv
  obtain ⟨L2, M2, e3, e4⟩ := fl_perm (rdf rows v)
  rw [rdf_web hv2, e4]
  refine List.perm_append_comm.trans ?_
  rw [← e3, e2, e1]
  exact List.perm_append_comm
theorem rot_len {rows W : List Row} (h : Rot rows W) : (webRows rows).length = W.length := by
  rw [web_len]
  have := h.vs.length_eq
  rwa [List.length_map, List.length_map] at this
theorem rot_vs {rows W : List Row} (h : Rot rows W) (v : Str) : v ∈ vsf (webRows rows) ↔ v ∈ vsf W := vsf_web_mem.trans h.vs.mem_iff
section
variable {P : Program} {w : World} {K : PySem.W.Frag} {mg : Str → Option Value} {base : Heap} {C : Addr} {cx : Nat → Addr}
/-- a web made of rows -/
theorem web_mk {H2 : Hp} {M : List Addr} {rl : Addr} {rws : List Row} {Q : VK} {E : XK} {x dx : Addr} (al : Al M H2) (hrows : LR K (RowT K) (wo H2 M) rl rws) (ok : RowsOk rws) (hx : H2 x = none) (hdx : H2 dx = none) (ne : dx ≠ x)
    (kk : ∀ (H3 : Hp), Same H2 H3 → WebAt K C (wo H3 M) x (webRows rws) → Q .non H3) :
    spWebInit K C [.ref x, .ref rl] (upd (upd H2 dx (.own x)) x (.ins C dx [])) Q E := by
  have sN : Same H2 (upd (upd H2 dx (.own x)) x (.ins C dx [])) := (Same.new hdx).trans (.new (by rw [upd_ne ne.symm]; exact hx))
  have hxn : upd (upd H2 dx (.own x)) x (.ins C dx []) x = some (.ins C dx []) := upd_same
  generalize upd (upd H2 dx (.own x)) x (.ins C dx []) = HN at *
  refine ⟨M, x, dx, rl, rws, rfl, hxn, al.same sN, up (wo_ext1 sN hx) hrows, ok, fun H3 d' kvs' s3 h1 h2 h3 h4 => ?_⟩
  have s23 : Same H2 H3 := fun q o e => s3 _ _ (by rw [wo_out fun z => ne_of_none e hx (by simpa using z)]; exact sN _ _ e)
  have hd2 : H2 d' = none := sN.free h2
  refine kk H3 s23 ?_
  refine ⟨dx, d', kvs', by rw [wo_out (al.fresh hx)]; exact h1, by rw [wo_out (al.fresh hd2)]; exact h3, Paired.mapP h4 fun _ _ q => rowKV_up (Same.sm fun b o e => ?_) q⟩
  obtain ⟨q1, q2⟩ := nw_get e
  rw [wo_out ((al.same sN).fresh q1)]
  exact q2
end
end Five
end
section
namespace Five
open PySem PySem.Spec PyProof.Rows L2
open PySem.W (Datum DatumOrd)
section
variable {P : Program} {w : World} {K : PySem.W.Frag} {mg : Str → Option Value} {base : Heap} {C : Addr} {cx : Nat → Addr}
def spComeC (K : PySem.W.Frag) (C : Addr) : Sp := fun vs H Q _ => ∃ (x dh t : Addr) (R : List Row) (hv : List (Str × Int)) (s : Str) (a b : Int), vs = [.ref x, .ref dh, .str s, .ref t] ∧ WebAt K C H x R ∧ HuAt H dh hv ∧ H t = some (.tup [.int a, .int b]) ∧ s ∈ vsf R ∧ Wf (vsf R) (rdf R) ∧ R.length ≤ 60 ∧
  ∀ (fd : Addr) (c : List Str) (H' : Hp), Same H H' → H fd = none → H' fd = some (.dK (tk c)) → ChP (rdf R) (okH hv a b) s c → Q (.ref fd) H'
theorem ok_come_to_chains (T : Txt K mg C cx) : Cal P w K mg base 2 "come_to_chains" (spComeC K C) := by
  refine cal_of T.d_come_to_chains sc_come_to_chains (fun vs H Q E h => ?_) (fun f cdv A outer s H vs Q E hr h => ?_)
  · obtain ⟨x, dh, t, R, hv, s, a, b, rfl, _⟩ := h
    rfl
  · obtain ⟨x, dh, t, R, hv, v, a, b, rfl, hw, hh, ht, hvR, wf, hlen, k⟩ := h
    refine ⟨_, (pss_cons (ps_set (i := 4) sc_come_to_chains.nd rfl (Or.inl rfl) (pe_disp (pps_cons (pv 2) pe_bl pps_nil) (by rfl) (by rfl) (fun z => by cases z) (by decide)))
      (pss_cons (ps_set (i := 5) sc_come_to_chains.nd rfl (Or.inl rfl) (pe_lst (pa_cons (pv 2) pa_nil)))
      (pss_cons (ps_while PassesOwn.never (pt_cmpR (op_neK (K := K) (List Str) hr.units) (pv 5) (pe_lst pa_nil) (nomark _)) (pss_one (ps_for PassesOwn.never (by rfl) (pi_list (pe_mt (ok_Web_round_of T) hr (by decide) (pv 0) (pa_cons (pe_bm0 PySem.F.plainAttrs_list PySem.F.slot_list_pop PySem.F.type_list_pop mt_pop (pv 5)) pa_nil))) (pg_name (i := 6) sc_come_to_chains.nd rfl (Or.inl rfl)) (pss_one (ps_if (PW.pt (pw_and (pt_cmp (pc_dnotin (hu_of hr) (pv 6) (pv 4))) (pw_and (pt_cmp (pc_din (hu_of hr) (pv 6) (pv 1))) (pw_and1 (pt_cmpR (op_inK (K := K)) (pe_dget (hu_of hr) (pv 1) (pv 6) (fun _ _ => rfl)) (pv 3) (by rfl)))))) (pss_cons (ps_dput (hu_of hr) (pv 4) (pv 6) pe_bl rfl)
      (pss_one (ps_expr (pe_bm PySem.F.plainAttrs_list PySem.F.slot_list_append PySem.F.type_list_append mt_append (pv 5) (pa_cons (pv 6) pa_nil))))) pss_nil)))))
      (pss_one (ps_ret (pv 4)))))), ?_⟩
    have hvl : (vsf R).length ≤ 60 := by rw [List.length_map]; exact hlen
    have hrl : ∀ v ∈ vsf R, (rdf R v).length ≤ 60 := fun v hv => Nat.le_trans (nodup_le (wf.rn v hv) fun u hu => (wf.ties v hv u hu).1) hvl
    intro fd hfd
    refine ⟨_, rfl, upd_same, [(Sum.inr v, .bl true)], rfl, (by show 1 ≤ 15; decide), ?_⟩
    refine ⟨_, rfl, (by show 1 ≤ sizeLine; decide), fun wd hwd => ?_⟩
    have sf : Same H (upd (upd H fd (.dK [])) fd (.dK (mergeK [] [(Sum.inr v, .bl true)]))) := by
      rw [upd_upd]
      exact Same.new hfd
    have nwf : wd ≠ fd := fun e => by rw [e, upd_same] at hwd; cases hwd
    have hwd0 : H wd = none := sf.free hwd
    refine ⟨fun m σ H' => ∃ (fnd wt : List Str) (oth : Option V), σ = [some (.ref x), some (.ref dh), some (.str v), some (.ref t), some (.ref fd), some (.ref wd), oth] ∧ Same H H' ∧ H' fd = some (.dK (tk fnd)) ∧ H' wd = some (.lst (wt.map V.str)) ∧ fnd.Nodup ∧ (∀ x ∈ fnd, x ∈ vsf R) ∧ v ∈ fnd ∧ (∀ x ∈ wt, x ∈ fnd) ∧
      (∀ x ∈ fnd, x ∉ wt → ∀ u ∈ rdf R x, okH hv a b u → u ∈ fnd) ∧ (∀ S : Str → Prop, S v → (∀ y u, S y → u ∈ rdf R y → okH hv a b u → S u) → ∀ y ∈ fnd, S y) ∧ m = 2 * ((vsf R).length - fnd.length) + wt.length ∧ wt.length ≤ fnd.length, ?_, ?_⟩
    · refine ⟨_, [v], [v], none, rfl, sf.trans (Same.new hwd), ?_, upd_same, by simp, fun x hx => ?_, by simp, fun x hx => hx, fun x hx hn => absurd hx hn, fun S h0 _ y hy => by rw [List.mem_singleton.mp hy]; exact h0, rfl, Nat.le_refl _⟩
      · rw [upd_ne nwf.symm, upd_same]
        rfl
      · rw [List.mem_singleton.mp hx]; exact hvR
    · rintro m σ H' ⟨fnd, wt, oth, rfl, sm, hF, hW, nd, sub, hvf, hwf, done, lst, rfl, hle⟩
      have hfl : fnd.length ≤ 60 := Nat.le_trans (nodup_le nd sub) hvl
      refine ⟨_, rfl, Nat.zero_le _, fun e he => ?_⟩
      have s1 : Same H' (upd H' e (.lst [])) := Same.new he
      refine ⟨_, _, LS.dp (SqL.of (s1 _ _ hW)), nil_dp (SqL.of upd_same), _, rfl, ?_⟩
      by_cases hwt : wt = []
      · subst hwt
        refine iteNe ⟨_, rfl, ?_⟩
        exact k fd fnd _ (sm.trans s1) hfd (s1 _ _ hF) ⟨nd, hvf, fun y hy u hu ho => done y hy (by simp) u hu ho, lst⟩
      · obtain ⟨w0, y, rfl⟩ : ∃ w0 x, wt = w0 ++ [x] := ⟨wt.dropLast, wt.getLast hwt, (List.dropLast_concat_getLast hwt).symm⟩
        have hyf : y ∈ fnd := hwf y (by simp)
        have hyR := sub y hyf
        refine iteEq hwt ⟨_, fun _ _ z => z, ?_⟩
        have hW1 := s1 _ _ hW
        obtain ⟨wx, wdd, h1, _⟩ := (up (sm.trans s1) hw).rds
        refine ⟨_, rfl, x, wx, _, rfl, h1, rfl, _, rfl, .inl ⟨rfl, _, SqL.of hW1⟩, wd, (w0 ++ [y]).map V.str, .str y, rfl, rfl, hW1, by simp, ?_⟩
        have e1 : ((w0 ++ [y]).map V.str).dropLast = w0.map V.str := by simp
        rw [e1]
        have s2 : Same H (upd (upd H' e (.lst [])) wd (.lst (w0.map V.str))) := (sm.trans s1).mut hwd0
        refine ⟨x, R, y, rfl, up s2 hw, hyR, fun ax hax => ?_⟩
        have s3 : Same H (upd (upd (upd H' e (.lst [])) wd (.lst (w0.map V.str))) ax (.lst ((rdf R y).map V.str))) := s2.trans (.new hax)
        have hax0 : H ax = none := s2.free hax
        have naw : ax ≠ wd := fun q => by rw [q, upd_same] at hax; cases hax
        have naf : ax ≠ fd := fun q => by rw [q, upd_ne nwf.symm, s1 _ _ hF] at hax; cases hax
        have hF3 : upd (upd (upd H' e (.lst [])) wd (.lst (w0.map V.str))) ax (.lst ((rdf R y).map V.str)) fd = some (.dK (tk fnd)) := by rw [upd_ne naf.symm, upd_ne nwf.symm]; exact s1 _ _ hF
        have hW3 : upd (upd (upd H' e (.lst [])) wd (.lst (w0.map V.str))) ax (.lst ((rdf R y).map V.str)) wd = some (.lst (w0.map V.str)) := by rw [upd_ne naw.symm, upd_same]
        have hA3 : upd (upd (upd H' e (.lst [])) wd (.lst (w0.map V.str))) ax (.lst ((rdf R y).map V.str)) ax = some (.lst ((rdf R y).map V.str)) := upd_same
        generalize upd (upd (upd H' e (.lst [])) wd (.lst (w0.map V.str))) ax (.lst ((rdf R y).map V.str)) = H3 at *
        refine ⟨ax, rfl, ⟨_, SqL.of hA3⟩, for_list (K := K) (a := ax) (xs := (rdf R y).map V.str) (fun i σ' H2 => ∃ (more : List Str) (oth : Option V), σ' = [some (.ref x), some (.ref dh), some (.str v), some (.ref t), some (.ref fd), some (.ref wd), oth] ∧ Same H H2 ∧ H2 ax = some (.lst ((rdf R y).map V.str)) ∧ H2 fd = some (.dK (tk (fnd ++ more))) ∧ H2 wd = some (.lst ((w0 ++ more).map V.str)) ∧ (fnd ++ more).Nodup ∧ (∀ z ∈ more, z ∈ rdf R y ∧ okH hv a b z) ∧ (∀ u ∈ (rdf R y).take i, okH hv a b u → u ∈ fnd ++ more)) ?_ ?_ ?_ ?_⟩
        · exact ⟨[], oth, rfl, s3, hA3, by rw [List.append_nil]; exact hF3, by rw [List.append_nil]; exact hW3, by simpa using nd, (fun y hy => (nomatch hy)), fun u hu => by simp at hu⟩
        · rintro i σ' H2 _ ⟨more, oth, _, sm2, q, _⟩
          exact SqL.of q
        · rintro i z σ' H2 hi ⟨more, oth, rfl, sm2, hA2, hF2, hW2, nd2, sub2, hu2⟩
          obtain ⟨u, hu, rfl⟩ := item_str hi
          have hur : u ∈ rdf R y := List.mem_of_getElem? hu
          have huR : u ∈ vsf R := (wf.ties y hyR u hur).1
          have htake : (rdf R y).take (i + 1) = (rdf R y).take i ++ [u] := take_snoc hu
          have hl2 : (fnd ++ more).length ≤ 60 := Nat.le_trans (nodup_le nd2 fun z hz => (List.mem_append.mp hz).elim (sub z) fun q => (wf.ties y hyR z (sub2 z q).1).1) hvl
          have skip : ¬ (u ∉ fnd ++ more ∧ okH hv a b u) → ∃ (more : List Str) (oth : Option V), [some (V.ref x), some (.ref dh), some (.str v), some (.ref t), some (.ref fd), some (.ref wd), some (.str u)] = [some (.ref x), some (.ref dh), some (.str v), some (.ref t), some (.ref fd), some (.ref wd), oth] ∧ Same H H2 ∧ H2 ax = some (.lst ((rdf R y).map V.str)) ∧ H2 fd = some (.dK (tk (fnd ++ more))) ∧ H2 wd = some (.lst ((w0 ++ more).map V.str)) ∧ (fnd ++ more).Nodup ∧ (∀ z ∈ more, z ∈ rdf R y ∧ okH hv a b z) ∧ (∀ u ∈ (rdf R y).take (i + 1), okH hv a b u → u ∈ fnd ++ more) := fun hsk => by
            refine ⟨more, _, rfl, sm2, hA2, hF2, hW2, nd2, sub2, fun z hz ho => ?_⟩
            rw [htake] at hz
            rcases List.mem_append.mp hz with q | q
            · exact hu2 z q ho
            · rw [List.mem_singleton.mp q] at ho ⊢
              exact Decidable.byContradiction fun n => hsk ⟨n, ho⟩
          refine ⟨_, rfl, _, rfl, fd, _, rfl, dget_tk u hF2, _, rfl, ?_⟩
          by_cases hm : u ∈ fnd ++ more
          · rw [if_pos hm]
            exact iteF (iteF (skip fun q => q.1 hm))
          rw [if_neg hm]
          have hh2 := up sm2 hh
          refine iteT ⟨_, rfl, _, rfl, dh, _, rfl, hh2.get? u, _, rfl, ?_⟩
          by_cases hk : u ∈ ks hv
          case neg =>
            rw [if_neg hk]
            exact iteF (iteF (skip fun q => hk q.2.1))
          rw [if_pos hk]
          refine iteT ⟨_, rfl, _, rfl, dh, _, rfl, hh2.get hk, _, rfl, t, _, rfl, .inr (SqT.of (sm2 _ _ ht)), rfl, rfl, _, rfl, ?_⟩
          rw [show (if false = true then !inV (V.int (hval hv u)) [V.int a, V.int b] else inV (V.int (hval hv u)) [V.int a, V.int b]) = decide (hval hv u = a ∨ hval hv u = b) from inV_two _ _ _]
          by_cases hab : hval hv u = a ∨ hval hv u = b
          case neg => exact iteNo hab (skip fun q => hab q.2.2)
          have hok : okH hv a b u := ⟨hk, hab⟩
          refine iteYes hab ⟨_, rfl, _, rfl, fd, _, rfl, DPut.k (k := Sum.inr u) hF2 (by unfold tk; rw [List.length_map]; exact Nat.lt_of_le_of_lt hl2 (by decide)), ?_⟩
          have hW3 : upd H2 fd (.dK (putK (tk (fnd ++ more)) (Sum.inr u) (.bl true))) wd = some (.lst ((w0 ++ more).map V.str)) := by
            rw [upd_ne nwf]; exact hW2
          refine ⟨_, rfl, .inl ⟨rfl, _, SqL.of hW3⟩, _, rfl, wd, _, _, rfl, rfl, hW3, ?_, ?_⟩
          · rw [List.length_map]
            have : (w0 ++ more).length ≤ (fnd ++ more).length := by
              simp only [List.length_append, List.length_singleton] at hle ⊢
              omega
            exact Nat.lt_of_le_of_lt (Nat.le_trans this hl2) (by decide)
          · refine ⟨more ++ [u], _, rfl, (sm2.mut hfd).mut hwd0, ?_, ?_, ?_, ?_, fun z hz => ?_, fun z hz ho => ?_⟩
            · rw [upd_ne naw, upd_ne naf]; exact hA2
            · rw [upd_ne nwf.symm, upd_same, putK_tk hm, List.append_assoc]
            · rw [upd_same]; simp
            · rw [← List.append_assoc]
              refine List.nodup_append.mpr ⟨nd2, by simp, fun a ha b hb e => hm ?_⟩
              rw [← List.mem_singleton.mp hb, ← e]; exact ha
            · rcases List.mem_append.mp hz with q | q
              · exact sub2 z q
              · rw [List.mem_singleton.mp q]; exact ⟨hur, hok⟩
            · rw [htake] at hz
              rw [← List.append_assoc]
              rcases List.mem_append.mp hz with q | q
              · exact List.mem_append_left _ (hu2 z q ho)
              · exact List.mem_append_right _ q
        · rintro σ' H2 ⟨more, oth, rfl, sm2, hA2, hF2, hW2, nd2, sub2, hu2⟩
          have subm : ∀ z ∈ fnd ++ more, z ∈ vsf R := fun z hz => (List.mem_append.mp hz).elim (sub z) fun q => (wf.ties y hyR z (sub2 z q).1).1
          have hlm : (fnd ++ more).length ≤ (vsf R).length := nodup_le nd2 subm
          refine ⟨_, ?_, fnd ++ more, w0 ++ more, _, rfl, sm2, hF2, hW2, nd2, subm, List.mem_append_left _ hvf, fun z hz => ?_, fun z hz hn u hu ho => ?_, fun S h0 hS z hz => ?_, rfl, ?_⟩
          · simp only [List.length_append, List.length_singleton] at hlm ⊢
            omega
          · rcases List.mem_append.mp hz with q | q
            · exact List.mem_append_left _ (hwf z (by simp [q]))
            · exact List.mem_append_right _ q
          · by_cases ezx : z = y
            · rw [ezx] at hu
              exact hu2 u (by rw [List.length_map, List.take_length]; exact hu) ho
            · have hzf : z ∈ fnd := (List.mem_append.mp hz).resolve_right fun q => hn (List.mem_append_right _ q)
              exact List.mem_append_left _ (done z hzf (fun q => by
                rcases List.mem_append.mp q with q | q
                · exact hn (List.mem_append_left _ q)
                · exact ezx (List.mem_singleton.mp q)) u hu ho)
          · rcases List.mem_append.mp hz with q | q
            · exact lst S h0 hS z q
            · obtain ⟨q1, q2⟩ := sub2 z q
              exact hS y z (lst S h0 hS y hyf) q1 q2
          · simp only [List.length_append, List.length_singleton] at hle ⊢
            omega
def spChain (K : PySem.W.Frag) (C : Addr) : Sp := fun vs H Q _ => ∃ (x dh : Addr) (R : List Row) (hv : List (Str × Int)) (s : Str) (o : Int), vs = [.ref x, .ref dh, .str s, .int o] ∧ WebAt K C H x R ∧ HuAt H dh hv ∧ s ∈ vsf R ∧ s ∈ ks hv ∧ 0 ≤ o ∧ o ≠ hval hv s ∧ Wf (vsf R) (rdf R) ∧ R.length ≤ 60 ∧
  ∀ (p : Addr) (c : List Str) (H' : Hp), Same H H' → H p = none → H' p = some (.lst ((srt c).map V.str)) → ChP (rdf R) (okH hv (hval hv s) o) s c → Q (.ref p) H'
theorem ok_chain (T : Txt K mg C cx) : Cal P w K mg base 3 "chain" (spChain K C) := by
  refine cal_of T.d_chain sc_chain (fun vs H Q E h => ?_) (fun f cdv A outer s H vs Q E hr h => ?_)
  · obtain ⟨x, dh, R, hv, s, o, rfl, _⟩ := h
    rfl
  · obtain ⟨x, dh, R, hv, v, o, rfl, hw, hh, hvR, hvk, ho, hov, wf, hlen, k⟩ := h
    refine ⟨_, (pss_cons (ps_if (pt_cmp (pc_dnotin (hu_of hr) (pv 2) (pv 1))) (pss_one ps_never) pss_nil)
      (pss_cons (ps_if (PW.pt (pw_or (pt_cmpR op_lt (pv 3) pe_int (nomark _)) (pw_or1 (pt_cmpR op_eq (pv 3) (pe_dget (hu_of hr) (pv 1) (pv 2) (fun _ _ => rfl)) (nomark _))))) (pss_one ps_never) pss_nil)
      (pss_one (ps_ret (pe_callB (call_srtD rfl) (by rfl) T.n_sorted (by decide +kernel) (pa_cons (pe_c (ok_come_to_chains T) hr (by decide) (by rfl) (pa_cons (pv 0) (pa_cons (pv 1) (pa_cons (pv 2) (pa_cons (pe_tup (pa_cons (pe_dget (hu_of hr) (pv 1) (pv 2) (fun _ _ => rfl)) (pa_cons (pv 3) pa_nil))) pa_nil))))) pa_nil)))))), ?_⟩
    refine ⟨_, rfl, _, rfl, dh, _, rfl, hh.get hvk, _, rfl, iteF ?_⟩
    refine ⟨_, rfl, _, _, rfl, rfl, _, rfl, iteNo (by omega) ⟨_, rfl, _, rfl, _, rfl, dh, _, rfl, hh.get hvk, rfl, _, rfl, ?_⟩⟩
    rw [show decide (V.int o = V.int (hval hv v)) = false by simp [hov]]
    refine iteF ⟨_, rfl, _, rfl, _, rfl, _, rfl, _, rfl, dh, _, rfl, hh.get hvk, _, rfl, by show 2 ≤ sizeLine; decide, fun t ht => ?_⟩
    have s1 : Same H (upd H t (.tup [.int (hval hv v), .int o])) := .new ht
    refine ⟨x, dh, t, R, hv, v, hval hv v, o, rfl, up s1 hw, up s1 hh, upd_same, hvR, wf, hlen, fun fd c H' s2 hfd hF hc => ?_⟩
    have hcl : c.length ≤ 60 := Nat.le_trans (nodup_le hc.nd fun z hz => hc.sub hvR (fun y hy u hu => (wf.ties y hy u hu).1) hz) (by rw [List.length_map]; exact hlen)
    exact ⟨fd, tk c, c, rfl, .inl hF, tk_keys c, by omega, fun p hp => k p c _ ((s1.trans s2).trans (.new hp)) ((s1.trans s2).free hp) upd_same hc⟩
end
end Five
end
section
namespace Five
open PySem PySem.Spec PyProof.Rows L2
open PySem.W (Datum DatumOrd)
theorem swH_nil (hv : List (Str × Int)) (a o : Int) : swH hv [] a o = hv := by
  unfold swH
  conv => rhs; rw [← List.map_id hv]
  refine List.map_congr_left fun x _ => ?_
  simp
theorem swH_snoc {hv : List (Str × Int)} {c : List Str} {a o : Int} {v : Str} (hn : (ks hv).Nodup) (hv' : v ∈ ks hv) : putH (swH hv c a o) v (if hval hv v = a then o else a) = swH hv (c ++ [v]) a o := by
  unfold putH
  rw [if_pos (by rw [ks_swH]; exact hv')]
  unfold swH
  rw [List.map_map]
  refine List.map_congr_left fun x hx => ?_
  have ex : x.1 = v → x.2 = hval hv v := fun e => by
    have : (v, x.2) ∈ hv := by rw [← e]; exact hx
    exact (hval_of hn this).symm
  show (if (if x.1 ∈ c then (x.1, if x.2 = a then o else a) else x).1 = v then ((if x.1 ∈ c then (x.1, if x.2 = a then o else a) else x).1, if hval hv v = a then o else a) else (if x.1 ∈ c then (x.1, if x.2 = a then o else a) else x)) = _
  have e1 : (if x.1 ∈ c then (x.1, if x.2 = a then o else a) else x).1 = x.1 := by split <;> rfl
  rw [e1]
  by_cases e : x.1 = v
  · rw [if_pos e, if_pos (show x.1 ∈ c ++ [v] by rw [e]; simp), ex e]
  · rw [if_neg e]
    by_cases hc : x.1 ∈ c
    · rw [if_pos hc, if_pos (List.mem_append_left _ hc)]
    · rw [if_neg hc, if_neg (by simp [hc, e])]
section
variable {P : Program} {w : World} {K : PySem.W.Frag} {mg : Str → Option Value} {base : Heap} {C : Addr} {cx : Nat → Addr}
def spTurned (K : PySem.W.Frag) : Sp := fun vs H Q _ => ∃ (dh row : Addr) (hv : List (Str × Int)) (l : List Str) (a o : Int), vs = [.ref dh, .ref row, .int a, .int o] ∧ HuAt H dh hv ∧ LS K H row l ∧ (∀ v ∈ l, v ∈ ks hv) ∧ hv.length ≤ 60 ∧
  ∀ (fd : Addr) (H' : Hp), Same H H' → H fd = none → H' fd = some (.dK (dk V.int (swH hv l a o))) → Q (.ref fd) H'
theorem ok_turned (T : Txt K mg C cx) : Cal P w K mg base 1 "turned" (spTurned K) := by
  refine cal_of T.d_turned sc_turned (fun vs H Q E h => ?_) (fun f cdv A outer s H vs Q E hr h => ?_)
  · obtain ⟨dh, row, hv, l, a, o, rfl, _⟩ := h
    rfl
  · obtain ⟨dh, row, hv, l, a, o, rfl, hh, hl, hin, hlen, k⟩ := h
    refine ⟨_, (pss_cons (ps_set (i := 4) sc_turned.nd rfl (Or.inl rfl) (pe_callTy call_dictD (by rfl) T.n_dict (by decide +kernel) (pa_cons (pv 0) pa_nil)))
      (pss_cons (ps_for PassesOwn.never (by rfl) (pi_list (pv 1)) (pg_name (i := 5) sc_turned.nd rfl (Or.inl rfl)) (pss_one (ps_if (pt_cmpR op_eq (pe_dget (hu_of hr) (pv 0) (pv 5) (fun _ _ => rfl)) (pv 2) (nomark _)) (pss_one (ps_dput (hu_of hr) (pv 4) (pv 5) (pv 3) rfl)) (pss_one (ps_dput (hu_of hr) (pv 4) (pv 5) (pv 2) rfl)))))
      (pss_one (ps_ret (pv 4))))), ?_⟩
    refine ⟨_, rfl, dh, _, rfl, hh.1, fun fd hfd => ?_⟩
    have s1 : Same H (upd H fd (.dK (dk V.int hv))) := .new hfd
    have hfv : upd H fd (.dK (dk V.int hv)) fd = some (.dK (dk V.int hv)) := upd_same
    generalize upd H fd (.dK (dk V.int hv)) = H1 at *
    refine ⟨_, rfl, row, rfl, ⟨_, up s1 hl⟩, for_list (K := K) (a := row) (xs := l.map V.str) (fun i σ H' => ∃ (y5 : Option V), σ = [some (.ref dh), some (.ref row), some (.int a), some (.int o), some (.ref fd), y5] ∧ Same H H' ∧ H' fd = some (.dK (dk V.int (swH hv (l.take i) a o)))) ?_ ?_ ?_ ?_⟩
    · exact ⟨_, rfl, s1, by rw [List.take_zero, swH_nil]; exact hfv⟩
    · rintro i σ H' _ ⟨_, _, sm, _⟩
      exact up sm hl
    · rintro i z σ H' hi ⟨y5, rfl, sm, hF⟩
      obtain ⟨u, hu, rfl⟩ := item_str hi
      have huk := hin u (List.mem_of_getElem? hu)
      have hsz : (dk V.int (swH hv (l.take i) a o)).length < sizeLine := by
        rw [dk_length]
        unfold swH
        rw [List.length_map]
        exact Nat.lt_of_le_of_lt hlen (by decide)
      have fin : ∀ n, n = (if hval hv u = a then o else a) → ∃ (y5 : Option V), [some (V.ref dh), some (.ref row), some (.int a), some (.int o), some (.ref fd), some (.str u)] = [some (.ref dh), some (.ref row), some (.int a), some (.int o), some (.ref fd), y5] ∧ Same H (upd H' fd (.dK (putK (dk V.int (swH hv (l.take i) a o)) (Sum.inr u) (.int n)))) ∧ upd H' fd (.dK (putK (dk V.int (swH hv (l.take i) a o)) (Sum.inr u) (.int n))) fd = some (.dK (dk V.int (swH hv (l.take (i + 1)) a o))) := fun n e => by
        refine ⟨_, rfl, sm.mut hfd, ?_⟩
        rw [upd_same, putH_dk, e, swH_snoc hh.2 huk, take_snoc hu]
      refine ⟨_, rfl, _, rfl, dh, _, rfl, (up sm hh).get huk, _, rfl, rfl, _, rfl, ?_⟩
      by_cases c : hval hv u = a
      · rw [show decide (V.int (hval hv u) = V.int a) = true by simp [c]]
        exact iteT ⟨_, rfl, _, rfl, _, rfl, fd, _, rfl, DPut.k (k := Sum.inr u) hF hsz, fin o (by rw [if_pos c])⟩
      · rw [show decide (V.int (hval hv u) = V.int a) = false by simp [c]]
        exact iteF ⟨_, rfl, _, rfl, _, rfl, fd, _, rfl, DPut.k (k := Sum.inr u) hF hsz, fin a (by rw [if_neg c])⟩
    · rintro σ H' ⟨y5, rfl, sm, hF⟩
      rw [List.length_map, List.take_length] at hF
      exact ⟨_, rfl, k fd H' sm hfd hF⟩
end
end Five
end
section
namespace Five
open PySem PySem.Spec PyProof.Rows L2
open PySem.W (Datum DatumOrd)
theorem swH_len (hv : List (Str × Int)) (c : List Str) (a o : Int) : (swH hv c a o).length = hv.length := by unfold swH; rw [List.length_map]
section
variable {P : Program} {w : World} {K : PySem.W.Frag} {mg : Str → Option Value} {base : Heap} {C : Addr} {cx : Nat → Addr}
def spExch (K : PySem.W.Frag) (C : Addr) : Sp := fun vs H Q _ => ∃ (x dh : Addr) (R : List Row) (hv : List (Str × Int)) (s : Str) (o : Int), vs = [.ref x, .ref dh, .str s, .int o] ∧ WebAt K C H x R ∧ HuAt H dh hv ∧ s ∈ vsf R ∧ s ∈ ks hv ∧ 0 ≤ o ∧ o ≠ hval hv s ∧ Wf (vsf R) (rdf R) ∧ R.length ≤ 60 ∧ hv.length ≤ 60 ∧
  ∀ (fd : Addr) (c : List Str) (H' : Hp), Same H H' → H fd = none → H' fd = some (.dK (dk V.int (swH hv c (hval hv s) o))) → ChP (rdf R) (okH hv (hval hv s) o) s c → Q (.ref fd) H'
theorem ok_exchanged (T : Txt K mg C cx) : Cal P w K mg base 4 "exchanged" (spExch K C) := by
  refine cal_of T.d_exchanged sc_exchanged (fun vs H Q E h => ?_) (fun f cdv A outer s H vs Q E hr h => ?_)
  · obtain ⟨x, dh, R, hv, s, o, rfl, _⟩ := h
    rfl
  · obtain ⟨x, dh, R, hv, v, o, rfl, hw, hh, hvR, hvk, ho, hov, wf, hlen, hhl, k⟩ := h
    refine ⟨_, (pss_one (ps_ret (pe_c (ok_turned T) hr (by decide) (by rfl) (pa_cons (pv 1) (pa_cons (pe_c (ok_chain T) hr (by decide) (by rfl) (pa_cons (pv 0) (pa_cons (pv 1) (pa_cons (pv 2) (pa_cons (pv 3) pa_nil))))) (pa_cons (pe_dget (hu_of hr) (pv 1) (pv 2) (fun _ _ => rfl)) (pa_cons (pv 3) pa_nil))))))), ?_⟩
    refine ⟨_, rfl, _, rfl, _, rfl, _, rfl, _, rfl, x, dh, R, hv, v, o, rfl, hw, hh, hvR, hvk, ho, hov, wf, hlen, fun p c H1 s1 hp hpv hc => ?_⟩
    refine ⟨_, rfl, _, rfl, dh, _, rfl, (up s1 hh).get hvk, _, rfl, dh, p, hv, srt c, hval hv v, o, rfl, up s1 hh, SqL.of hpv, fun u hu => ?_, hhl, fun fd H2 s2 hfd hF => ?_⟩
    · rcases hc.ok_of (srt_mem.mp hu) with e | e
      · rw [e]; exact hvk
      · exact e.1
    · refine k fd c H2 (s1.trans s2) (s1.free hfd) ?_ hc
      rw [hF]
      congr 3
      unfold swH
      refine List.map_congr_left fun x _ => ?_
      by_cases e : x.1 ∈ c
      · rw [if_pos e, if_pos (srt_mem.mpr e)]
      · rw [if_neg e, if_neg fun z => e (srt_mem.mp z)]
end
end Five
end
section
namespace Five
open PySem PySem.Spec PyProof.Rows L2
open PySem.W (Datum DatumOrd)
section
variable {P : Program} {w : World} {K : PySem.W.Frag} {mg : Str → Option Value} {base : Heap} {C : Addr} {cx : Nat → Addr}
/-- the places that are left -/
structure LeftAt (K : PySem.W.Frag) (CL : Addr) (H : Hp) (a dx dr dm : Addr) (R : List Row) (mv : List (Str × Int)) : Prop where
  obj : H a = some (.ins CL dx [("rounds", .ref dr), ("many", .ref dm)])
  rds : RdsAt K (wo H [dm]) dr R
  many : H dm = some (.dK (dk V.int mv))
theorem LeftAt.same {CL : Addr} {H H' : Hp} {a dx dr dm : Addr} {R : List Row} {mv : List (Str × Int)} (h : LeftAt K CL H a dx dr dm R mv) (s : Same H H') : LeftAt K CL H' a dx dr dm R mv := ⟨s _ _ h.obj, upw s h.rds, s _ _ h.many⟩
theorem LeftAt.set {CL : Addr} {H H' : Hp} {a dx dr dm : Addr} {R : List Row} {mv mv' : List (Str × Int)} (h : LeftAt K CL H a dx dr dm R mv) (s : Same (wo H [dm]) H') (hm : H' dm = some (.dK (dk V.int mv'))) : LeftAt K CL H' a dx dr dm R mv' := by
  have na : a ≠ dm := fun e => by have := h.obj; rw [e, h.many] at this; cases this
  refine ⟨s _ _ (by rw [wo_out (by simpa using na)]; exact h.obj), up (R := RdsAt K) (fun b o e => ?_) h.rds, hm⟩
  obtain ⟨q1, q2⟩ := wo_get e
  rw [wo_out q2]
  exact s _ _ e
def spEmpty (K : PySem.W.Frag) (CL : Addr) : Sp := fun vs H Q _ => ∃ (a dx dr dm : Addr) (R : List Row) (mv : List (Str × Int)), vs = [.ref a] ∧ LeftAt K CL H a dx dr dm R mv ∧ ∀ H', Same H H' → Q (.bl (decide (mv = []))) H'
theorem ok_Left_is_empty (T : Txt K mg C cx) : Met P w K mg base 1 (cx 7) "is_empty" (spEmpty K (cx 7)) := by
  refine met_of T.cl_Left T.d_Left_is_empty sc_Left_is_empty (fun vs H Q E h => ?_) (fun f cdv A outer s H vs Q E hr h => ?_)
  · obtain ⟨a, dx, dr, dm, R, mv, rfl, _⟩ := h
    rfl
  · obtain ⟨a, dx, dr, dm, R, mv, rfl, hL, k⟩ := h
    refine ⟨_, (pss_one (ps_ret (pe_cmpR (op_eq_dictE (Nat.lt_of_succ_lt (hu_of hr))) (pe_fld (pv 0) rfl) pe_dnewK (nomark _)))), ?_⟩
    refine ⟨_, rfl, a, _, dx, _, _, rfl, hL.obj, T.cl_Left, T.na_Left_many, rfl, fun e he => ⟨dm, e, _, rfl, rfl, Same.new he _ _ hL.many, upd_same, ?_⟩⟩
    have := k _ (.new (o := .dK []) he)
    have e2 : decide (dk V.int mv = []) = decide (mv = []) := by
      cases mv <;> simp [dk]
    rw [e2]
    exact this
def spFewest (K : PySem.W.Frag) (CL : Addr) : Sp := fun vs H Q _ => ∃ (a dx dr dm : Addr) (R : List Row) (mv : List (Str × Int)), vs = [.ref a] ∧ LeftAt K CL H a dx dr dm R mv ∧ mv ≠ [] ∧ (ks mv).Nodup ∧ mv.length ≤ 60 ∧
  ∀ u H', Same H H' → u ∈ ks mv → (∀ v ∈ ks mv, leD (hval mv u, u) (hval mv v, v) = true) → Q (.str u) H'
theorem ok_Left_fewest (T : Txt K mg C cx) : Met P w K mg base 1 (cx 7) "fewest" (spFewest K (cx 7)) := by
  refine met_of T.cl_Left T.d_Left_fewest sc_Left_fewest (fun vs H Q E h => ?_) (fun f cdv A outer s H vs Q E hr h => ?_)
  · obtain ⟨a, dx, dr, dm, R, mv, rfl, _⟩ := h
    rfl
  · obtain ⟨a, dx, dr, dm, R, mv, rfl, hL, hne, hn, hl, k⟩ := h
    refine ⟨_, (pss_one (ps_ret (pe_ix (ix_tupK (K := K)) (pe_callB (cr_minIS (K := K) rfl hr.units) (by rfl) T.n_min (by decide +kernel) (pa_cons (pe_lock (pe_lc (own := [("place", 1)]) (by rfl) sc_Left_fewest.nd (pi_keys (pe_fld (pv 0) rfl)) (blkOk_by (own := [("place", 1)]) (N := N_Left_fewest) (sc := defScope s_Left_fewest) (by decide +kernel)) (fun _ _ _ _ _ => (pg_name (i := 1) sc_Left_fewest.nd rfl (Or.inl rfl))) (fun _ _ _ _ _ => pts_nil) (fun _ _ _ _ _ => (pe_tup (pa_cons (pe_dget (hu_of hr) (pe_fldK (K := K) (pv 0) rfl) (pv 1) (fun _ _ => rfl)) (pa_cons (pv 1) pa_nil)))))) pa_nil)) pe_int (fun _ _ => rfl)))), ?_⟩
    refine ⟨dm, .dK (dk V.int mv), hL.many, trivial, fun od => ?_⟩
    have na : a ≠ dm := fun e => by have := hL.obj; rw [e, hL.many] at this; cases this
    have hobj : upd H dm (.frz od (.dK (dk V.int mv))) a = some (.ins (cx 7) dx [("rounds", .ref dr), ("many", .ref dm)]) := by rw [upd_ne na]; exact hL.obj
    have hfz : upd H dm (.frz od (.dK (dk V.int mv))) dm = some (.frz od (.dK (dk V.int mv))) := upd_same
    refine ⟨_, rfl, a, _, dx, _, _, rfl, hobj, T.cl_Left, T.na_Left_many, rfl, dm, od, rfl, .inl ⟨_, hfz, fun l hl0 => ?_⟩⟩
    have ndl : l ≠ dm := fun e => by rw [e, upd_same] at hl0; cases hl0
    refine lcK (M := []) (l := ks mv) dk_keys (fun G v (x : Int × Str) => ∃ t, v = .ref t ∧ TI2 K G t x) (rV_up (R := TI2 K)) (fun v => some (hval mv v, v)) hl0 al_nil (by rw [ks_length]; exact Nat.lt_of_le_of_lt hl (by decide)) hfz (fun b H3 Ky Kn hb s4 al4 ky kn => ?_) (fun ys H3 s4 hD3 hp3 => ?_)
    · have hg : DGet H3 dm (.str b) (some (.int (hval mv b))) := by
        obtain ⟨⟨b', p⟩, h1, h2⟩ := List.mem_map.mp hb
        cases h2
        rw [hval_of hn h1, ← show valV (dk V.int mv) (Sum.inr b') = some (.int p) from valV_dk_some hn h1]
        exact .inl ⟨_, Sum.inr b', .inr ⟨od, s4 _ _ hfz⟩, rfl, rfl⟩
      exact ⟨rfl, lcy ⟨_, rfl, a, _, dx, _, _, rfl, s4 _ _ hobj, T.cl_Left, T.na_Left_many, rfl, _, rfl, dm, _, rfl, hg, _, rfl, by show 2 ≤ sizeLine; decide, fun t ht => ky _ (hval mv b, b) _ rfl (.new ht) ⟨t, rfl, TI2.of upd_same (al4.fresh ht)⟩⟩⟩
    rw [filterMap_some] at hp3
    obtain ⟨ts, rfl, hts⟩ := paired_refs hp3
    obtain ⟨u1, u2, u3⟩ := unlock_all (N := [l]) hL.many s4 (fun q => ndl (List.mem_singleton.mp q).symm)
    refine ⟨u1, ?_⟩
    have hL0 : upd H3 dm (.dK (dk V.int mv)) l = some (.lst (ts.map V.ref)) := by rw [upd_ne ndl]; exact hD3
    have hP0 : Paired (TI2 K (upd H3 dm (.dK (dk V.int mv)))) ts ((ks mv).map fun v => (hval mv v, v)) := Paired.mapP hts fun t x q => by
      obtain ⟨q1, q2⟩ := wo_get (show wo H3 [l] t = _ from q)
      show upd H3 dm _ t = _
      rw [upd_ne fun e => by rw [e, u1] at q1; cases q1]
      exact q1
    refine ⟨l, ts, _, rfl, SqL.of hL0, hP0, ?_, fun b m hm hmin hb => ?_⟩
    · cases mv with
      | nil => exact absurd rfl hne
      | cons x mv => simp
    · obtain ⟨u, hu, rfl⟩ := List.mem_map.mp hm
      exact ⟨b, _, _, _, rfl, rfl, SqT.of hb, rfl, k u _ u2 hu fun v hv => hmin _ (List.mem_map.mpr ⟨v, hv, rfl⟩)⟩
def spTakeOff (K : PySem.W.Frag) (CL : Addr) : Sp := fun vs H Q _ => ∃ (a dx dr dm : Addr) (R : List Row) (mv : List (Str × Int)) (u : Str), vs = [.ref a, .str u] ∧ LeftAt K CL H a dx dr dm R mv ∧ (ks mv).Nodup ∧ mv.length ≤ 60 ∧ u ∈ ks mv ∧ u ∈ vsf R ∧ (rdf R u).Nodup ∧
  ∀ H', Same (wo H [dm]) H' → LeftAt K CL H' a dx dr dm R (decL (dropH mv u) (rdf R u)) → Q .non H'
theorem ok_Left_take_off (T : Txt K mg C cx) : Met P w K mg base 1 (cx 7) "take_off" (spTakeOff K (cx 7)) := by
  refine met_of T.cl_Left T.d_Left_take_off sc_Left_take_off (fun vs H Q E h => ?_) (fun f cdv A outer s H vs Q E hr h => ?_)
  · obtain ⟨a, dx, dr, dm, R, mv, u, rfl, _⟩ := h
    rfl
  · obtain ⟨a, dx, dr, dm, R, mv, u, rfl, hL, hn, hl, hu, huR, hrn, k⟩ := h
    refine ⟨_, (pss_cons (ps_expr (pe_dpop1 (pe_fld (pv 0) rfl) (pv 1) ⟨rfl, rfl, rfl, rfl⟩))
      (pss_one (ps_for PassesOwn.never (by rfl) (pi_list (pe_dget (hu_of hr) (pe_fld (pv 0) rfl) (pv 1) (fun _ _ => rfl))) (pg_name (i := 2) sc_Left_take_off.nd rfl (Or.inl rfl)) (pss_one (ps_if (pt_cmp (pc_din (hu_of hr) (pv 2) (pe_fld (pv 0) rfl))) (pss_one (ps_dput (hu_of hr) (pe_fld (pv 0) rfl) (pv 2) (pe_op op_sub (pe_dget (hu_of hr) (pe_fld (pv 0) rfl) (pv 2) (fun _ _ => rfl)) pe_int) rfl)) pss_nil))))), ?_⟩
    obtain ⟨⟨u', p⟩, hup, e⟩ := List.mem_map.mp hu
    have e : u' = u := e
    subst e
    refine ⟨_, rfl, a, _, dx, _, _, rfl, hL.obj, T.cl_Left, T.na_Left_many, rfl, dm, rfl, .inl ⟨_, .inl hL.many⟩, _, rfl, _, Sum.inr u', _, hL.many, rfl, valV_dk_some hn hup, ?_⟩
    rw [dropH_dk]
    have s0 : Same (wo H [dm]) (upd H dm (.dK (dk V.int (dropH mv u')))) := fun b o e => by
      obtain ⟨q1, q2⟩ := wo_get e
      rw [upd_ne (by simpa using q2)]
      exact q1
    have hL1 := hL.set s0 (mv' := dropH mv u') upd_same
    generalize upd H dm (.dK (dk V.int (dropH mv u'))) = H1 at *
    have hn1 : (ks (dropH mv u')).Nodup := dropH_nd hn
    have hl1 : (dropH mv u').length ≤ 60 := Nat.le_trans (dropH_len _ _) hl
    obtain ⟨ra, g2, g1⟩ := hL1.rds.getS huR
    have gget : DGet H1 dr (.str u') (some (.ref ra)) := by
      rcases g1 _ (.refl _) with ⟨kvs, kk, c1, c2, c3⟩ | ⟨kvs, kk, b, c1, c2, c3, c4⟩
      · exact .inl ⟨kvs, kk, c1.imp (fun z => wo_same _ _ z) (fun ⟨o, z⟩ => ⟨o, wo_same _ _ z⟩), c2, c3⟩
      · exact .inr ⟨kvs, kk, b, c1.imp (fun z => wo_same _ _ z) (fun ⟨o, z⟩ => ⟨o, wo_same _ _ z⟩), c2, wo_same _ _ c3, c4⟩
    refine ⟨_, rfl, a, _, dx, _, _, rfl, hL1.obj, T.cl_Left, T.na_Left_rounds, rfl, _, rfl, dr, _, rfl, gget, ra, rfl, ⟨_, rd g2⟩, for_list (K := K) (a := ra) (xs := (rdf R u').map V.str) (fun j σ H' => ∃ (y : Option V), σ = [some (.ref a), some (.str u'), y] ∧ Same (wo H1 [dm]) H' ∧ LeftAt K (cx 7) H' a dx dr dm R (decL (dropH mv u') ((rdf R u').take j))) ?_ ?_ ?_ ?_⟩
    · exact ⟨_, rfl, wo_same, by rw [List.take_zero, decL_nil]; exact hL1⟩
    · rintro j σ H' _ ⟨y, _, s1, _⟩
      exact up (R := LS K) s1 g2
    · rintro j v σ H' hj ⟨y, rfl, s1, hL2⟩
      obtain ⟨o, ho, rfl⟩ := item_str hj
      have hnd2 : (ks (decL (dropH mv u') ((rdf R u').take j))).Nodup := by rw [ks_decL]; exact hn1
      have hlen2 : (decL (dropH mv u') ((rdf R u').take j)).length ≤ 60 := by unfold decL; rw [List.length_map]; exact hl1
      have etk : (rdf R u').take (j + 1) = (rdf R u').take j ++ [o] := by rw [List.take_add_one, ho]; rfl
      have hoj : o ∉ (rdf R u').take j := fun q => by
        obtain ⟨kx, hk, e⟩ := List.mem_take_iff_getElem.mp q
        obtain ⟨a1, a2⟩ := List.getElem?_eq_some_iff.mp ho
        have := (List.getElem_inj hrn).mp (e.trans a2.symm)
        omega
      by_cases hok : o ∈ ks (dropH mv u')
      · have hok2 : o ∈ ks (decL (dropH mv u') ((rdf R u').take j)) := by rw [ks_decL]; exact hok
        refine ⟨_, rfl, _, rfl, a, _, dx, _, _, rfl, hL2.obj, T.cl_Left, T.na_Left_many, rfl, dm, _, rfl, dget_hv hL2.many hnd2 hok2, _, rfl, iteT ?_⟩
        refine ⟨_, rfl, a, _, dx, _, _, rfl, hL2.obj, T.cl_Left, T.na_Left_many, rfl, _, rfl, dm, _, rfl, dget_hv hL2.many hnd2 hok2, _, _, rfl, rfl, _, rfl, a, _, dx, _, _, rfl, hL2.obj, T.cl_Left, T.na_Left_many, rfl, _, rfl, dm, _, rfl, DPut.k (k := Sum.inr o) hL2.many (by rw [dk_length]; exact Nat.lt_of_le_of_lt hlen2 (by decide)), ?_⟩
        rw [putH_dk, decL_in hn1 hoj hok, ← etk]
        have s2 : Same (wo H' [dm]) (upd H' dm (.dK (dk V.int (decL (dropH mv u') ((rdf R u').take (j + 1)))))) := fun b z e => by
          obtain ⟨q1, q2⟩ := wo_get e
          rw [upd_ne (by simpa using q2)]
          exact q1
        refine ⟨_, rfl, fun b z e => ?_, hL2.set s2 upd_same⟩
        obtain ⟨q1, q2⟩ := wo_get e
        rw [upd_ne (by simpa using q2)]
        exact s1 _ _ e
      · have hok2 : o ∉ ks (decL (dropH mv u') ((rdf R u').take j)) := by rw [ks_decL]; exact hok
        refine ⟨_, rfl, _, rfl, a, _, dx, _, _, rfl, hL2.obj, T.cl_Left, T.na_Left_many, rfl, dm, _, rfl, dget_dk_none hL2.many hok2, _, rfl, iteF ⟨_, rfl, s1, ?_⟩⟩
        rw [etk, decL_out hok]
        exact hL2
    · rintro σ H' ⟨y, rfl, s1, hL2⟩
      rw [List.length_map, List.take_length] at hL2
      refine k H' (fun b z e => ?_) hL2
      obtain ⟨q1, q2⟩ := wo_get e
      exact s1 _ _ (by rw [wo_out q2]; exact s0 _ _ e)
end
end Five
end
section
namespace Five
open PySem PySem.Spec PyProof.Rows L2
open PySem.W (Datum DatumOrd)
theorem rows_eq {R : List Row} (hn : (vsf R).Nodup) : (vsf R).map (fun v => (v, rdf R v)) = R := by
  rw [show vsf R = R.map (·.1) from rfl, List.map_map]
  conv => rhs; rw [← List.map_id R]
  refine List.map_congr_left fun r hr => ?_
  show (r.1, rdf R r.1) = r
  rw [rdf_of hn hr]
theorem mvL_full {rd : Str → List Str} {L : List Str} (h : ∀ v ∈ L, ∀ u ∈ rd v, u ∈ L) : mvL rd L = L.map fun v => (v, (((rd v).length : Nat) : Int)) := by
  unfold mvL
  refine List.map_congr_left fun v hv => ?_
  have : cntL rd L v = (rd v).length := by
    unfold cntL
    rw [List.filter_eq_self.mpr fun u hu => decide_eq_true (h v hv u hu)]
  rw [this]
section
variable {P : Program} {w : World} {K : PySem.W.Frag} {mg : Str → Option Value} {base : Heap} {C : Addr} {cx : Nat → Addr}
/-- a pair of a text and a number -/
def TS2 (K : PySem.W.Frag) (G : Hp) (t : Addr) (x : Str × Int) : Prop := G t = some (.tup [.str x.1, .int x.2])
instance : Ms (TS2 K) := ⟨fun s h => s _ _ h⟩
def spLeftInit (K : PySem.W.Frag) (C CL : Addr) : Sp := fun vs H Q _ => ∃ (a dx x : Addr) (R : List Row), vs = [.ref a, .ref x] ∧ H a = some (.ins CL dx []) ∧ WebAt K C (wo H [a]) x R ∧ (vsf R).Nodup ∧ R.length ≤ 60 ∧ (∀ v ∈ vsf R, (rdf R v).length ≤ 60 ∧ ∀ u ∈ rdf R v, u ∈ vsf R) ∧
  ∀ (H' : Hp) (dr dm : Addr), Same (wo H [a]) H' → H dm = none → LeftAt K CL H' a dx dr dm R (mvL (rdf R) (vsf R)) → Q .non H'
theorem ok_Left_init (T : Txt K mg C cx) : ∃ f fd, Mk K (cx 7) f ∧ FnOk P w K mg base CX0 2 f fd ["self", "web"] (spLeftInit K C (cx 7)) ∧ Binds K fd ["self", "web"] [] := by
  obtain ⟨f, fd, F, hm, b⟩ := T.d_Left_init
  refine ⟨f, fd, hm, F.ok sc_Left_init (fun vs H Q E h => ?_) (fun cdv A outer s H vs Q E hr h => ?_), b⟩
  · obtain ⟨a, dx, x, R, rfl, _⟩ := h
    rfl
  · obtain ⟨a, dx, x, R, rfl, ha, hw, hn, hl, hR, k⟩ := h
    refine ⟨_, (pss_cons (ps_fld (pv 0) (pe_callTy (call_dictK (K := K) rfl) (by rfl) T.n_dict (by decide +kernel) (pa_cons (pe_lc (own := [("place", 2)]) (by rfl) sc_Left_init.nd (pi_list (pe_mt0 (ok_Web_places T) hr (by decide) (pv 1))) (blkOk_by (own := [("place", 2)]) (N := N_Left_init) (sc := defScope s_Left_init) (by decide +kernel)) (fun _ _ _ _ _ => (pg_name (i := 2) sc_Left_init.nd rfl (Or.inl rfl))) (fun _ _ _ _ _ => pts_nil) (fun _ _ _ _ _ => (pe_tup (pa_cons (pv 2) (pa_cons (pe_mt (ok_Web_round_of T) hr (by decide) (pv 1) (pa_cons (pv 2) pa_nil)) pa_nil))))) pa_nil)) rfl)
      (pss_one (ps_fld (pv 0) (pe_callTy (call_dictK (K := K) rfl) (by rfl) T.n_dict (by decide +kernel) (pa_cons (pe_lock (pe_lc (own := [("place", 2)]) (by rfl) sc_Left_init.nd (pi_keys (pe_fld (pv 0) rfl)) (blkOk_by (own := [("place", 2)]) (N := N_Left_init) (sc := defScope s_Left_init) (by decide +kernel)) (fun _ _ _ _ _ => (pg_name (i := 2) sc_Left_init.nd rfl (Or.inl rfl))) (fun _ _ _ _ _ => pts_nil) (fun _ _ _ _ _ => (pe_tup (pa_cons (pv 2) (pa_cons (pe_callB (call_lenK (K := K)) (by rfl) T.n_len (by decide +kernel) (pa_cons (pe_dget (hu_of hr) (pe_fldK (K := K) (pv 0) rfl) (pv 2) (fun _ _ => rfl)) pa_nil)) pa_nil)))))) pa_nil)) rfl))), ?_⟩
    have hvl : (vsf R).length ≤ 60 := by rw [List.length_map]; exact hl
    have ala : Al [a] H := al_nil.cons ha
    have hwR : WebAt K C H x R := rd hw
    obtain ⟨wx, wd, h1, _⟩ := hwR.rds
    refine ⟨_, rfl, x, wx, _, rfl, h1, rfl, x, R, rfl, hwR, fun p hp => ?_⟩
    have s1 : Same H (upd H p (.lst ((vsf R).map V.str))) := .new hp
    have hpv : upd H p (.lst ((vsf R).map V.str)) p = some (.lst ((vsf R).map V.str)) := upd_same
    generalize upd H p (.lst ((vsf R).map V.str)) = H1 at *
    refine ⟨p, rfl, ⟨_, SqL.of hpv⟩, fun D hD => ?_⟩
    refine lcL (K := K) (M := [a]) (paired_map V.str (vsf R)) (fun G v r => ∃ t, v = .ref t ∧ RowP K G t r) (rV_up (R := RowP K)) (fun v => some (v, rdf R v)) hD (ala.same s1) (Nat.lt_of_le_of_lt hvl (by decide)) (SqL.of hpv) (fun v u H3 Ky Kn hb e s3 al3 ky kn => ?_) (fun ys H3 s3 hD3 hp3 => ?_)
    · subst e
      have hw3 := up (s1.trans s3) hwR
      obtain ⟨wx3, wd3, h13, _⟩ := hw3.rds
      exact ⟨rfl, lcy ⟨_, rfl, _, rfl, x, wx3, _, rfl, h13, rfl, _, rfl, x, R, u, rfl, hw3, hb, fun l hl3 => ⟨by show 2 ≤ sizeLine; decide, fun t ht => ky _ (u, rdf R u) _ rfl ((Same.new hl3).trans (.new ht)) ⟨t, rfl, l, .inl (.inl (by rw [wo_out (al3.upd.fresh ht), upd_same])), LS.of (Same.new ht _ _ upd_same) (al3.fresh hl3)⟩⟩⟩⟩
    rw [filterMap_some, rows_eq hn] at hp3
    obtain ⟨ts, rfl, hts⟩ := paired_refs hp3
    obtain ⟨kvs, hk1, hk2⟩ := kv_of_rows hts
    refine ⟨D, ts, kvs, rfl, SqL.of hD3, Paired.mapP hk1 fun _ _ q => wo_same.sm.seqT q, fun d hd => ?_⟩
    have hkn : (kvs.map (·.1)).Nodup := by rw [rds_keys hk2]; exact nodup_inr hn
    rw [mergeK_nodup hkn]
    have s03 : Same H H3 := s1.trans s3
    have hd0 : H d = none := s03.free hd
    have nad : a ≠ d := ne_of_none (s03 _ _ ha) hd
    have s04 : Same H (upd H3 d (.dK kvs)) := s03.trans (.new hd)
    refine ⟨_, rfl, a, _, dx, _, rfl, s04 _ _ ha, T.cl_Left, T.na_Left_rounds, by decide, ?_⟩
    show (_ : TS) _ _ (upd (upd H3 d (.dK kvs)) a (.ins (cx 7) dx [("rounds", .ref d)]))
    have hav : upd (upd H3 d (.dK kvs)) a (.ins (cx 7) dx [("rounds", .ref d)]) a = some (.ins (cx 7) dx [("rounds", .ref d)]) := upd_same
    have hdv : upd (upd H3 d (.dK kvs)) a (.ins (cx 7) dx [("rounds", .ref d)]) d = some (.dK kvs) := by rw [upd_ne nad.symm, upd_same]
    have hkvA : Paired (RowKV K (wo (upd (upd H3 d (.dK kvs)) a (.ins (cx 7) dx [("rounds", .ref d)])) [a])) kvs R := by
      refine Paired.mapP hk2 fun _ _ q => rowKV_up (Same.sm fun b o e => ?_) q
      obtain ⟨q1, q2⟩ := wo_get e
      simp at q2
      rw [wo_out (by simp [q2.2]), upd_ne q2.2]
      exact Same.new hd _ _ q1
    have sA : Same (wo H [a]) (upd (upd H3 d (.dK kvs)) a (.ins (cx 7) dx [("rounds", .ref d)])) := fun b o e => by
      obtain ⟨q1, q2⟩ := wo_get e
      rw [upd_ne (by simpa using q2)]
      exact s04 _ _ q1
    generalize upd (upd H3 d (.dK kvs)) a (.ins (cx 7) dx [("rounds", .ref d)]) = HA at *
    -- many
    refine ⟨d, .dK kvs, hdv, trivial, fun od => ?_⟩
    have haL : upd HA d (.frz od (.dK kvs)) a = some (.ins (cx 7) dx [("rounds", .ref d)]) := by rw [upd_ne nad]; exact hav
    have hfz : upd HA d (.frz od (.dK kvs)) d = some (.frz od (.dK kvs)) := upd_same
    have sL : Sm HA (upd HA d (.frz od (.dK kvs))) := lock_sm hdv trivial id
    have hrdL : RdsAt K (upd HA d (.frz od (.dK kvs))) d R := ⟨kvs, .inr ⟨od, hfz⟩, Paired.mapP hkvA fun _ _ q => rowKV_up sL (rowKV_up wo_same.sm q)⟩
    refine ⟨_, rfl, a, _, dx, _, _, rfl, haL, T.cl_Left, T.na_Left_rounds, rfl, d, od, rfl, .inl ⟨_, hfz, fun l hl0 => ?_⟩⟩
    have ndl : l ≠ d := fun e => by rw [e, upd_same] at hl0; cases hl0
    refine lcK (M := []) (l := vsf R) (rds_keys hk2) (fun G v (x : Str × Int) => ∃ t, v = .ref t ∧ TS2 K G t x) (rV_up (R := TS2 K)) (fun v => some (v, (((rdf R v).length : Nat) : Int))) hl0 al_nil (Nat.lt_of_le_of_lt hvl (by decide)) hfz (fun b H5 Ky Kn hb s5 al5 ky kn => ?_) (fun ys H5 s5 hD5 hp5 => ?_)
    · obtain ⟨ra, g1, g2⟩ := (up s5 hrdL).get hb
      refine ⟨rfl, lcy ⟨_, rfl, _, rfl, a, _, dx, _, _, rfl, s5 _ _ haL, T.cl_Left, T.na_Left_rounds, rfl, _, rfl, d, _, rfl, g1, ra, _, rfl, .inl g2, by show 2 ≤ sizeLine; decide, fun t ht => ky _ (b, (((rdf R b).length : Nat) : Int)) _ rfl (.new ht) ⟨t, rfl, ?_⟩⟩⟩
      show wo _ _ t = _
      rw [wo_out (al5.fresh ht), upd_same, List.length_map]
    rw [filterMap_some] at hp5
    obtain ⟨ts2, rfl, hts2⟩ := paired_refs hp5
    obtain ⟨u1, u2, u3⟩ := unlock_all (N := [l]) hdv s5 (fun q => ndl (List.mem_singleton.mp q).symm)
    refine ⟨u1, ?_⟩
    have hL0 : upd H5 d (.dK kvs) l = some (.lst (ts2.map V.ref)) := by rw [upd_ne ndl]; exact hD5
    have hP0 : Paired (fun p kv => SqT K (upd H5 d (.dK kvs)) p [kV kv.1, kv.2]) ts2 (dk V.int ((vsf R).map fun v => (v, (((rdf R v).length : Nat) : Int)))) := by
      have key : ∀ {ts : List Addr} {l2 : List (Str × Int)}, Paired (TS2 K (wo H5 [l])) ts l2 → Paired (fun p kv => SqT K (upd H5 d (.dK kvs)) p [kV kv.1, kv.2]) ts (dk V.int l2) := by
        intro ts l2 h
        induction h with
        | nil => exact .nil
        | @cons t x ts l2 q _ ih =>
          refine .cons ?_ ih
          obtain ⟨q1, q2⟩ := wo_get (show wo H5 [l] t = _ from q)
          refine SqT.of ?_
          rw [upd_ne fun e => by rw [e, u1] at q1; cases q1]
          exact q1
      exact key hts2
    rw [← mvL_full fun v hv => (hR v hv).2] at hP0
    refine ⟨l, ts2, _, rfl, SqL.of hL0, hP0, fun dm hdm => ?_⟩
    have hmn : ((dk V.int (mvL (rdf R) (vsf R))).map (·.1)).Nodup := by rw [dk_keys, ks_mvL]; exact nodup_inr hn
    rw [mergeK_nodup hmn]
    have sU : Same HA (upd H5 d (.dK kvs)) := u2
    have hdv2 : upd H5 d (.dK kvs) d = some (.dK kvs) := upd_same
    generalize upd H5 d (.dK kvs) = HU at *
    have hdmA : HA dm = none := sU.free hdm
    have hdm0 : H dm = none := by
      have nda : dm ≠ a := fun e => by rw [e, hav] at hdmA; cases hdmA
      have := sA.free hdmA
      rwa [wo_out (by simpa using nda)] at this
    have nam : a ≠ dm := ne_of_none hav hdmA
    have haU : upd HU dm (.dK (dk V.int (mvL (rdf R) (vsf R)))) a = some (.ins (cx 7) dx [("rounds", .ref d)]) := Same.new hdm _ _ (sU _ _ hav)
    refine ⟨_, rfl, a, _, dx, _, rfl, haU, T.cl_Left, T.na_Left_many, by show 1 < 1000; decide, ?_⟩
    refine k (upd (upd HU dm (.dK (dk V.int (mvL (rdf R) (vsf R))))) a (.ins (cx 7) dx [("rounds", .ref d), ("many", .ref dm)])) d dm (fun b o e => ?_) hdm0 ⟨upd_same, ⟨kvs, .inl ?_, Paired.mapP hkvA fun _ _ q => rowKV_up (Same.sm fun b o e => ?_) q⟩, by rw [upd_ne nam.symm, upd_same]⟩
    · obtain ⟨q1, q2⟩ := wo_get e
      rw [upd_ne (by simpa using q2)]
      exact Same.new hdm _ _ (sU _ _ (sA _ _ e))
    · have ndm : d ≠ dm := ne_of_none hdv hdmA
      rw [wo_out (by simpa using ndm), upd_ne nad.symm, upd_ne ndm]
      exact hdv2
    · obtain ⟨q1, q2⟩ := wo_get e
      have nbm : b ≠ dm := ne_of_none q1 hdmA
      rw [wo_out (by simpa using nbm), upd_ne (by simpa using q2), upd_ne nbm]
      exact sU _ _ q1
theorem ok_Left (T : Txt K mg C cx) : Mak P w K mg base 2 "Left" (cx 7) (spLeftInit K C (cx 7)) := by
  obtain ⟨f, fd, h1, h2, h3⟩ := ok_Left_init (P := P) (w := w) (base := base) T
  exact ⟨f, fd, _, h1, h2, T.mg_Left, h3⟩
def spOrder (K : PySem.W.Frag) (C : Addr) : Sp := fun vs H Q _ => ∃ (x : Addr) (R : List Row), vs = [.ref x] ∧ WebAt K C H x R ∧ R.length ≤ 60 ∧ Wf (vsf R) (rdf R) ∧
  ∀ (l : Addr) (L : List Str) (H' : Hp), Same H H' → H l = none → H' l = some (.lst (L.map V.str)) → Ord (rdf R) (vsf R) L → Q (.ref l) H'
theorem ok_order (T : Txt K mg C cx) : Cal P w K mg base 4 "order" (spOrder K C) := by
  refine cal_of T.d_order sc_order (fun vs H Q E h => ?_) (fun f cdv A outer s H vs Q E hr h => ?_)
  · obtain ⟨x, R, rfl, _⟩ := h
    rfl
  · obtain ⟨x, R, rfl, hw, hl, wf, k⟩ := h
    refine ⟨_, (pss_cons (ps_set (i := 1) sc_order.nd rfl (Or.inl rfl) (pe_mk (ok_Left T) hr (by decide) (by rfl) (pa_cons (pv 0) pa_nil)))
      (pss_cons (ps_set (i := 2) sc_order.nd rfl (Or.inl rfl) (pe_lst pa_nil))
      (pss_cons (ps_while PassesOwn.never (pt_not (pt_val (pe_mt0 (ok_Left_is_empty T) hr (by decide) (pv 1)))) (pss_cons (ps_set (i := 3) sc_order.nd rfl (Or.inl rfl) (pe_mt0 (ok_Left_fewest T) hr (by decide) (pv 1)))
      (pss_cons (ps_expr (pe_mt (ok_Left_take_off T) hr (by decide) (pv 1) (pa_cons (pv 3) pa_nil)))
      (pss_one (ps_expr (pe_bm PySem.F.plainAttrs_list PySem.F.slot_list_append PySem.F.type_list_append mt_append (pv 2) (pa_cons (pv 3) pa_nil)))))))
      (pss_one (ps_ret (pv 2)))))), ?_⟩
    have hvl : (vsf R).length ≤ 60 := by rw [List.length_map]; exact hl
    refine ⟨_, rfl, fun a dx ha hdx ne => ?_⟩
    have sN : Same H (upd (upd H dx (.own a)) a (.ins (cx 7) dx [])) := (Same.new hdx).trans (.new (by rw [upd_ne ne.symm]; exact ha))
    have han : upd (upd H dx (.own a)) a (.ins (cx 7) dx []) a = some (.ins (cx 7) dx []) := upd_same
    generalize upd (upd H dx (.own a)) a (.ins (cx 7) dx []) = HN at *
    refine ⟨a, dx, x, R, rfl, han, up (fun b o e => by rw [wo_out fun z => ne_of_none e ha (by simpa using z)]; exact sN _ _ e) hw, wf.nd, hl, fun v hv => ⟨Nat.le_trans (nodup_le (wf.rn v hv) fun u hu => (wf.ties v hv u hu).1) hvl, fun u hu => (wf.ties v hv u hu).1⟩, fun H1 dr dm s1 hdm hL => ⟨rfl, ?_⟩⟩
    have s01 : Same H H1 := fun b o e => s1 _ _ (by rw [wo_out fun z => ne_of_none e ha (by simpa using z)]; exact sN _ _ e)
    have hdm0 : H dm = none := sN.free hdm
    refine ⟨Nat.zero_le _, fun lf hlf => ?_⟩
    have hlf0 : H lf = none := s01.free hlf
    have nlm : lf ≠ dm := fun e => by rw [e, hL.many] at hlf; cases hlf
    refine ⟨fun m σ H' => ∃ (Lf dn : List Str) (y : Option V), σ = [some (.ref x), some (.ref a), some (.ref lf), y] ∧ Same H H' ∧ (Same (wo H1 [dm]) H' ∧ H' dm = some (.dK (dk V.int (mvL (rdf R) Lf)))) ∧ H' lf = some (.lst (dn.map V.str)) ∧ Lf.Nodup ∧ (∀ v ∈ Lf, v ∈ vsf R) ∧ (∀ l', Ord (rdf R) Lf l' → Ord (rdf R) (vsf R) (dn ++ l')) ∧ dn.length + Lf.length ≤ 60 ∧ m = Lf.length, ⟨_, vsf R, [], _, rfl, s01.trans (.new hlf), ⟨wo_same.trans (.new hlf), Same.new hlf _ _ hL.many⟩, upd_same, wf.nd, fun v h => h, fun l' h => h, by simpa using hvl, rfl⟩, ?_⟩
    rintro m σ H' ⟨Lf, dn, y, rfl, sm, ⟨hs1, hm1⟩, hF, hLn, hLs, hO, hlen, rfl⟩
    have hL' : LeftAt K (cx 7) H' a dx dr dm R (mvL (rdf R) Lf) := hL.set hs1 hm1
    refine ⟨_, rfl, a, dx, _, rfl, hL'.obj, rfl, a, dx, dr, dm, R, _, rfl, hL', fun H2 s2 => ⟨_, rfl, ?_⟩⟩
    have hL2 := hL'.same s2
    have hF2 := s2 _ _ hF
    have sm2 := sm.trans s2
    cases Lf with
    | nil =>
      rw [decide_eq_true (show mvL (rdf R) [] = [] from rfl)]
      refine iteF ⟨_, rfl, k lf dn H2 sm2 hlf0 hF2 ?_⟩
      have := hO [] .nil
      rwa [List.append_nil] at this
    | cons v0 Lt =>
      rw [decide_eq_false (show ¬ mvL (rdf R) (v0 :: Lt) = [] from fun q => by cases q)]
      generalize hLf : v0 :: Lt = Lf at *
      have hne : mvL (rdf R) Lf ≠ [] := by rw [← hLf]; intro q; cases q
      have hkn : (ks (mvL (rdf R) Lf)).Nodup := by rw [ks_mvL]; exact hLn
      have hml : (mvL (rdf R) Lf).length ≤ 60 := by unfold mvL; rw [List.length_map]; omega
      have hvl2 : ∀ v ∈ Lf, hval (mvL (rdf R) Lf) v = ((cntL (rdf R) Lf v : Nat) : Int) := fun v hv => hval_of hkn (List.mem_map.mpr ⟨v, hv, rfl⟩)
      refine iteT ⟨_, fun _ _ z => z, _, rfl, a, dx, _, rfl, hL2.obj, rfl, a, dx, dr, dm, R, _, rfl, hL2, hne, hkn, hml, fun u H3 s3 hu hmin => ?_⟩
      rw [ks_mvL] at hu hmin
      have hleast : Least (rdf R) Lf u := ⟨hu, fun v hv => by rw [← hvl2 u hu, ← hvl2 v hv]; exact hmin v hv⟩
      have hL3 := hL2.same s3
      have huR := hLs u hu
      refine ⟨_, rfl, a, dx, _, rfl, hL3.obj, rfl, _, rfl, a, dx, dr, dm, R, _, u, rfl, hL3, hkn, hml, by rw [ks_mvL]; exact hu, huR, wf.rn u huR, fun H4 s4 hL4 => ?_⟩
      rw [take_mvL hu (fun v hv => ⟨fun q => (wf.ties v (hLs v hv) u q).2.2, fun q => (wf.ties u huR v q).2.2⟩) fun v hv => wf.rn v (hLs v hv)] at hL4
      have hF4 : H4 lf = some (.lst (dn.map V.str)) := s4 _ _ (by rw [wo_out (by simpa using nlm)]; exact s3 _ _ hF2)
      have sm4 : Same H H4 := fun b o e => s4 _ _ (by rw [wo_out (by simpa using ne_of_none e hdm0)]; exact s3 _ _ (sm2 _ _ e))
      have hLf1 : 1 ≤ Lf.length := by rw [← hLf]; simp
      have hflt : (Lf.filter fun v => decide (v ≠ u)).length + 1 = Lf.length := by
        obtain ⟨A1, B1, e1, _, _, e2⟩ := filter_split hLn hu
        rw [e2, e1]
        simp
        omega
      refine ⟨_, rfl, .inl ⟨rfl, _, SqL.of hF4⟩, _, rfl, lf, _, _, rfl, rfl, hF4, by rw [List.length_map]; exact Nat.lt_of_le_of_lt (show dn.length ≤ 60 by omega) (by decide), ?_⟩
      have nlm2 : Same (wo H4 [lf]) (upd H4 lf (.lst (dn.map V.str ++ [.str u]))) := fun b o e => by
        obtain ⟨q1, q2⟩ := wo_get e
        rw [upd_ne (by simpa using q2)]
        exact q1
      refine ⟨(Lf.filter fun v => decide (v ≠ u)).length, by omega, Lf.filter fun v => decide (v ≠ u), dn ++ [u], _, rfl, sm4.mut hlf0, ?_, by rw [upd_same]; simp, hLn.sublist List.filter_sublist, fun v hv => hLs v (List.mem_filter.mp hv).1, fun l' h => ?_, by rw [List.length_append, List.length_singleton]; omega, rfl⟩
      · refine ⟨fun b o e => ?_, by rw [upd_ne nlm.symm]; exact hL4.many⟩
        obtain ⟨q1, q2⟩ := wo_get e
        rw [upd_ne (ne_of_none q1 hlf)]
        exact s4 _ _ (by rw [wo_out q2]; exact s3 _ _ (s2 _ _ (hs1 _ _ e)))
      · rw [List.append_assoc]
        exact hO _ (.cons hleast h)
end
end Five
end
section
namespace Five
open PySem PySem.Spec PyProof.Rows L2
open PySem.W (Datum DatumOrd)
section
variable {P : Program} {w : World} {K : PySem.W.Frag} {mg : Str → Option Value} {base : Heap} {C : Addr} {cx : Nat → Addr}
def spCell (K : PySem.W.Frag) : Sp := fun vs H Q _ => ∃ (a : Addr) (ns : List Int) (k : Int), vs = [.ref a, .int k] ∧ SqL K H a (ns.map V.int) ∧ 0 ≤ k ∧ k ≤ 100 ∧ ∀ n : Int, Q (.int n) H
theorem ok_law_cell (T : Txt K mg C cx) : Cal P w K mg base 1 "_law_cell" (spCell K) := by
  refine cal_of T.d_law_cell sc_law_cell (fun vs H Q E h => ?_) (fun f cdv A outer s H vs Q E hr h => ?_)
  · obtain ⟨a, ns, k, rfl, _⟩ := h
    rfl
  · obtain ⟨a, ns, k, rfl, ha, hk0, hk1, kk⟩ := h
    refine ⟨_, (pss_cons (ps_if (pt_cmpR op_lt (pv 1) (pe_callB (call_lenK (K := K)) (by rfl) T.n_len (by decide +kernel) (pa_cons (pv 0) pa_nil)) (nomark _)) (pss_one (ps_ret (pe_ix (ix_listK (K := K)) (pv 0) (pv 1) (fun _ _ => rfl)))) pss_nil)
      (pss_one (ps_ret pe_int))), ?_⟩
    refine ⟨_, rfl, _, rfl, a, _, rfl, .inl ha, _, _, rfl, rfl, _, rfl, ?_⟩
    rw [List.length_map]
    by_cases hk : k < (ns.length : Int)
    · have e1 : ns[k.toNat]? = some ns[k.toNat] := List.getElem?_eq_getElem (by omega)
      exact iteYes hk ⟨_, rfl, _, rfl, a, _, _, _, rfl, rfl, ha, at_map V.int (j := k.toNat) (by omega) e1, kk _⟩
    · exact iteNo hk (kk _)
def spPot (K : PySem.W.Frag) : Sp := fun vs H Q _ => ∃ (c : Int), vs = [.int c] ∧ ∀ (p : Addr) (H' : Hp), Same H H' → H p = none → PotAt H' p → Q (.ref p) H'
theorem ok_law_pot (T : Txt K mg C cx) : Cal P w K mg base 1 "_law_pot" (spPot K) := by
  refine cal_of T.d_law_pot sc_law_pot (fun vs H Q E h => ?_) (fun f cdv A outer s H vs Q E hr h => ?_)
  · obtain ⟨c, rfl, _⟩ := h
    rfl
  · obtain ⟨cell, rfl, kk⟩ := h
    refine ⟨_, (pss_one (ps_ret (pe_lst (pa_cons (pe_callB (call_max2 rfl) (by rfl) T.n_max (by decide +kernel) (pa_cons pe_int (pa_cons (pe_op op_sub (pv 0) (pe_op op_pow pe_int pe_int)) pa_nil))) (pa_cons (pe_op op_add (pe_op op_mod (pe_callB call_abs (by rfl) T.n_abs (by decide +kernel) (pa_cons (pv 0) pa_nil)) pe_int) pe_int) pa_nil))))), ?_⟩
    have fin : ∀ p : Addr, H p = none → Q (.ref p) (upd H p (.lst [.int (if cell - 10 ^ 18 > 0 then cell - 10 ^ 18 else 0), .int ((if cell < 0 then -cell else cell) % 2147483563 + 1)])) := fun p hp => by
      refine kk p _ (.new hp) hp ⟨_, _, upd_same, ?_, ?_, ?_⟩
      · split <;> omega
      · have := Int.emod_nonneg (if cell < 0 then -cell else cell) (show (2147483563 : Int) ≠ 0 by decide)
        omega
      · have := Int.emod_lt_of_pos (if cell < 0 then -cell else cell) (show (0 : Int) < 2147483563 by decide)
        omega
    exact ⟨_, rfl, _, _, rfl, rfl, ⟨by decide, by decide, by decide⟩, _, _, rfl, rfl, _, _, rfl, _, rfl, _, rfl, _, _, rfl, rfl, (by show (0 : Int) < 2147483563; decide), _, _, rfl, rfl, by show 2 ≤ sizeLine; decide, fin⟩
def spTake (K : PySem.W.Frag) : Sp := fun vs H Q _ => ∃ (p : Addr) (m : Int), vs = [.ref p, .int m] ∧ PotAt H p ∧ 0 < m ∧ m < 1073741824 ∧ ∀ (d : Int) (H' : Hp), 0 ≤ d → d < m → Dr p H H' → Q (.int d) H'
theorem ok_law_take (T : Txt K mg C cx) : Cal P w K mg base 1 "_law_take" (spTake K) := by
  refine cal_of T.d_law_take sc_law_take (fun vs H Q E h => ?_) (fun f cdv A outer s H vs Q E hr h => ?_)
  · obtain ⟨p, m, rfl, _⟩ := h
    rfl
  · obtain ⟨p, m, rfl, pot, hm, hm2, kk⟩ := h
    obtain ⟨x, y, hp, hx, hy, hy2⟩ := id pot
    refine ⟨_, (pss_cons (ps_if (pt_cmpR op_gt (pe_ix (ix_listK (K := K)) (pv 0) pe_int (fun _ _ => rfl)) pe_int (nomark _)) (pss_cons (ps_asg (pe_callB call_divmod (by rfl) T.n_divmod (by decide +kernel) (pa_cons (pe_ix (ix_listK (K := K)) (pv 0) pe_int (fun _ _ => rfl)) (pa_cons (pv 1) pa_nil))) (pg_tupK (K := K) 2 (by rfl) (pgs_cons (pg_sub (pv 0) pe_int set_list) (pgs_cons (pg_name (i := 2) sc_law_take.nd rfl (Or.inl rfl)) pgs_nil))))
      (pss_one (ps_ret (pv 2)))) pss_nil)
      (pss_cons (ps_asg (pe_op op_mod (pe_op op_add (pe_op op_mul (pe_ix (ix_listK (K := K)) (pv 0) pe_int (fun _ _ => rfl)) pe_int) pe_int) pe_int) (pg_sub (pv 0) pe_int set_list))
      (pss_one (ps_ret (pe_op op_mod (pe_op op_fdiv (pe_op op_mod (pe_op op_mul (pe_ix (ix_listK (K := K)) (pv 0) pe_int (fun _ _ => rfl)) (pe_ix (ix_listK (K := K)) (pv 0) pe_int (fun _ _ => rfl))) pe_int) pe_int) (pv 1)))))), ?_⟩
    have a0 : ∀ (u v : Int), atI [V.int u, V.int v] 0 = some (V.int u) := fun u v => at_map V.int (l := [u, v]) (j := 0) rfl rfl
    have a1 : ∀ (u v : Int), atI [V.int u, V.int v] 1 = some (V.int v) := fun u v => at_map V.int (l := [u, v]) (j := 1) rfl rfl
    refine ⟨_, rfl, p, _, 0, _, rfl, rfl, SqL.of hp, a0 _ _, _, _, rfl, rfl, _, rfl, ?_⟩
    by_cases h0 : x > 0
    · refine iteYes h0 ⟨_, rfl, p, _, 0, _, rfl, rfl, SqL.of hp, a0 _ _, _, rfl, _, _, rfl, ⟨hm, hm2⟩, fun t ht => ?_⟩
      have ntp : p ≠ t := ne_of_none hp ht
      refine ⟨t, _, rfl, SqT.of upd_same, rfl, _, _, rfl, _, rfl, p, _, 0, 0, rfl, rfl, Same.new ht _ _ hp, rfl, _, _, rfl, rfl, _, rfl, ?_⟩
      refine kk _ _ (Int.emod_nonneg _ (by omega)) (Int.emod_lt_of_pos _ hm) ⟨fun a o e => ?_, ⟨x / m, y, by rw [upd_same]; rfl, Int.ediv_nonneg hx (by omega), hy, hy2⟩⟩
      obtain ⟨q1, q2⟩ := wo_get e
      rw [upd_ne (by simpa using q2)]
      exact Same.new ht _ _ q1
    · refine iteNo h0 ?_
      refine ⟨_, rfl, p, _, 1, _, rfl, rfl, SqL.of hp, a1 _ _, _, _, rfl, rfl, .inr ⟨by decide, by decide⟩, _, _, rfl, rfl, _, _, rfl, rfl, (by show (0 : Int) < 2147483629; decide), _, rfl, p, _, 1, 1, rfl, rfl, hp, rfl, ?_⟩
      have hy' : 0 ≤ (y * 39373 + 7919) % 2147483629 ∧ (y * 39373 + 7919) % 2147483629 < 2147483629 := ⟨Int.emod_nonneg _ (by decide), Int.emod_lt_of_pos _ (by decide)⟩
      have hz : upd H p (.lst ([V.int x, V.int y].set 1 (V.int ((y * 39373 + 7919) % 2147483629)))) p = some (.lst [.int x, .int ((y * 39373 + 7919) % 2147483629)]) := by rw [upd_same]; rfl
      refine ⟨_, rfl, p, _, 1, _, rfl, rfl, SqL.of hz, a1 _ _, _, rfl, p, _, 1, _, rfl, rfl, SqL.of hz, a1 _ _, _, _, rfl, rfl, .inl ⟨by omega, by omega⟩, _, _, rfl, rfl, (by show (0 : Int) < 2147483563; decide), _, _, rfl, rfl, ⟨by decide, by decide⟩, _, rfl, _, _, rfl, rfl, hm, ?_⟩
      refine kk _ _ (Int.emod_nonneg _ (by omega)) (Int.emod_lt_of_pos _ hm) ⟨fun a o e => ?_, ⟨x, _, hz, hx, hy'.1, by omega⟩⟩
      obtain ⟨q1, q2⟩ := wo_get e
      rw [upd_ne (by simpa using q2)]
      exact q1
def spBehindD (K : PySem.W.Frag) : Sp := fun vs H Q _ => ∃ (a : Addr) (l : List Str) (x : Str), vs = [.ref a, .str x] ∧ LS K H a l ∧ x ∈ l ∧ Q (.str (nx l x)) H
theorem ok_law_behind_d (T : Txt K mg C cx) : Cal P w K mg base 1 "_law_behind" (spBehindD K) := by
  refine cal_of T.d_law_behind sc_law_behind (fun vs H Q E h => ?_) (fun f cdv A outer s H vs Q E hr h => ?_)
  · obtain ⟨a, l, x, rfl, _⟩ := h
    rfl
  · obtain ⟨a, l, x, rfl, ha, hx, q⟩ := h
    refine ⟨_, (pss_one (ps_ret (pe_ix (ix_listK (K := K)) (pv 0) (pe_op op_mod (pe_op op_add (pe_bm PySem.F.plainAttrs_list PySem.F.slot_list_index PySem.F.type_list_index (mt_indexK (K := K)) (pv 0) (pa_cons (pv 1) pa_nil)) pe_int) (pe_callB (call_lenK (K := K)) (by rfl) T.n_len (by decide +kernel) (pa_cons (pv 0) pa_nil))) (fun _ _ => rfl)))), ?_⟩
    obtain ⟨j, g1, g2, g3, h1, h2, h3, h4⟩ := ixS hx
    refine ⟨_, rfl, _, rfl, .inl ⟨rfl, _, ha⟩, _, rfl, a, _, _, j, _, rfl, rfl, ha, rfl, flat_strs l, g1, g2, g3, _, _, rfl, rfl, _, rfl, _, _, rfl, .inl ha, _, _, rfl, rfl, ?_, _, _, _, _, rfl, rfl, ha, at_map V.str (j := (j + 1) % l.length) ?_ h4, q⟩
    · rw [List.length_map]; omega
    · rw [List.length_map]; exact cast_mod _ _
def spFace (K : PySem.W.Frag) : Sp := fun vs H Q _ => ∃ (d : Addr) (W : List Row) (c o : Str) (r : List (Str × Str)), vs = [.ref d, .str c, .str o] ∧ RdsAt K H d W ∧ Wf (vsf W) (rdf W) ∧
  (∀ x ∈ (c, o) :: r, x ∈ darts (vsf W) (rdf W)) ∧ Path (fs (rdf W)) (c, o) r (c, o) ∧ ((c, o) :: r).Nodup ∧ r.length ≤ 3600 ∧
  ∀ (l : Addr) (ts : List Addr) (H' : Hp), Same H H' → H l = none → H' l = some (.lst (ts.map V.ref)) → Paired (T2 K (wo H' [l])) ts ((c, o) :: r) → Q (.ref l) H'
theorem ok_law_face (T : Txt K mg C cx) : Cal P w K mg base 2 "_law_face" (spFace K) := by
  refine cal_of T.d_law_face sc_law_face (fun vs H Q E h => ?_) (fun f cdv A outer s H vs Q E hr h => ?_)
  · obtain ⟨d, W, c, o, r, rfl, _⟩ := h
    rfl
  · obtain ⟨d, W, c, o, r, rfl, hd, wf, hin, hp, hnd, hlen, k⟩ := h
    refine ⟨_, (pss_cons (ps_set (i := 3) sc_law_face.nd rfl (Or.inl rfl) (pe_lst (pa_cons (pe_tup (pa_cons (pv 1) (pa_cons (pv 2) pa_nil))) pa_nil)))
      (pss_cons (ps_set (i := 4) sc_law_face.nd rfl (Or.inl rfl) (pe_tup (pa_cons (pv 2) (pa_cons (pe_c (ok_law_behind_d T) hr (by decide) (by rfl) (pa_cons (pe_dget (hu_of hr) (pv 0) (pv 2) (fun _ _ => rfl)) (pa_cons (pv 1) pa_nil))) pa_nil))))
      (pss_cons (ps_while PassesOwn.never (pt_cmpR (op_neK (K := K) (Str × Str) hr.units) (pv 4) (pe_ix (ix_listK (K := K)) (pv 3) pe_int (fun _ _ => rfl)) (nomark _)) (pss_cons (ps_expr (pe_bm PySem.F.plainAttrs_list PySem.F.slot_list_append PySem.F.type_list_append mt_append (pv 3) (pa_cons (pv 4) pa_nil)))
      (pss_one (ps_set (i := 4) sc_law_face.nd rfl (Or.inl rfl) (pe_tup (pa_cons (pe_ix (ix_tupK (K := K)) (pv 4) pe_int (fun _ _ => rfl)) (pa_cons (pe_c (ok_law_behind_d T) hr (by decide) (by rfl) (pa_cons (pe_dget (hu_of hr) (pv 0) (pe_ix (ix_tupK (K := K)) (pv 4) pe_int (fun _ _ => rfl)) (fun _ _ => rfl)) (pa_cons (pe_ix (ix_tupK (K := K)) (pv 4) pe_int (fun _ _ => rfl)) pa_nil))) pa_nil)))))))
      (pss_one (ps_ret (pv 3)))))), ?_⟩
    have nxt : ∀ (x : Str × Str), x ∈ darts (vsf W) (rdf W) → x.2 ∈ vsf W ∧ x.1 ∈ rdf W x.2 := fun x hc => by
      obtain ⟨x1, y1⟩ := mem_darts.mp hc
      obtain ⟨a, _, b⟩ := wf.ties x.1 x1 x.2 y1
      exact ⟨a, b⟩
    refine ⟨_, rfl, _, rfl, by show 2 ≤ sizeLine; decide, fun t ht => ⟨by show 1 ≤ sizeLine; decide, fun l hl => ?_⟩⟩
    have s0 : Same H (upd H t (.tup [.str c, .str o])) := .new ht
    have s1 : Same H (upd (upd H t (.tup [.str c, .str o])) l (.lst [.ref t])) := s0.trans (.new hl)
    have hl0 := s0.free hl
    have ntl : t ≠ l := fun e => by rw [e, upd_same] at hl; cases hl
    have ht1 : upd (upd H t (.tup [.str c, .str o])) l (.lst [.ref t]) t = some (.tup [.str c, .str o]) := by rw [upd_ne ntl, upd_same]
    have hl1 : upd (upd H t (.tup [.str c, .str o])) l (.lst [.ref t]) l = some (.lst ([t].map V.ref)) := upd_same
    generalize upd (upd H t (.tup [.str c, .str o])) l (.lst [.ref t]) = H1 at *
    obtain ⟨hov, hco⟩ := nxt (c, o) (hin _ List.mem_cons_self)
    obtain ⟨a2, e2, g2⟩ := hd.getS hov
    refine ⟨_, rfl, _, rfl, _, rfl, d, _, rfl, g2 _ s1, _, rfl, a2, _, c, rfl, up s1 e2, hco, by show 2 ≤ sizeLine; decide, fun t2 ht2 => ?_⟩
    have s2 : Same H1 (upd H1 t2 (.tup [.str o, .str (nx (rdf W o) c)])) := .new ht2
    have n2l : t2 ≠ l := fun e => by rw [e, hl1] at ht2; cases ht2
    have hpath0 : fs (rdf W) (c, o) = (r ++ [(c, o)]).headD (c, o) := path_next hp
    refine ⟨fun m σ H' => ∃ (D R : List (Str × Str)) (ts : List Addr) (tc : Addr), r = D ++ R ∧ m = R.length ∧ σ = [some (.ref d), some (.str c), some (.str o), some (.ref l), some (.ref tc)] ∧ Same H H' ∧ H' l = some (.lst ((t :: ts).map V.ref)) ∧ Paired (T2 K (wo H' [l])) (t :: ts) ((c, o) :: D) ∧ T2 K (wo H' [l]) tc ((R ++ [(c, o)]).headD (c, o)), ?_, ?_⟩
    · refine ⟨_, [], r, [], t2, rfl, rfl, rfl, s1.trans s2, s2 _ _ hl1, .cons (T2.of (s2 _ _ ht1) (by simpa using ntl)) .nil, ?_⟩
      rw [← hpath0]
      exact T2.of upd_same (by simpa using n2l)
    · rintro m σ H' ⟨D, R, ts, tc, er, rfl, rfl, sm, hL, hT, hc⟩
      have hT0 : T2 K (wo H' [l]) t (c, o) := by cases hT with | cons h _ => exact h
      refine ⟨_, rfl, _, rfl, l, _, 0, _, rfl, rfl, SqL.of hL, at_map V.ref (l := t :: ts) (j := 0) rfl rfl, _, _, T2.dp (K := K) (rd hc), T2.dp (K := K) (rd hT0), _, rfl, ?_⟩
      cases R with
      | nil =>
        rw [List.append_nil] at er
        refine iteNe ⟨_, rfl, k l (t :: ts) H' sm hl0 hL (by rw [er]; exact hT)⟩
      | cons x R =>
        have hxin : x ∈ (c, o) :: r := by rw [er]; simp
        have hxc : x ≠ (c, o) := fun q => by
          have := (List.nodup_cons.mp hnd).1
          rw [er, ← q] at this
          exact this (by simp)
        refine iteEq hxc ⟨_, fun _ _ z => z, ?_⟩
        have hts : (t :: ts).length ≤ 3601 := by
          rw [Paired.length hT]
          have := congrArg List.length er
          simp at this ⊢
          omega
        refine ⟨_, rfl, .inl ⟨rfl, _, SqL.of hL⟩, _, rfl, l, _, _, rfl, rfl, hL, by rw [List.length_map]; exact Nat.lt_of_le_of_lt hts (by decide), ?_⟩
        have s2 : Same H (upd H' l (.lst ((t :: ts).map V.ref ++ [.ref tc]))) := sm.mut hl0
        have hc2 : T2 K (wo (upd H' l (.lst ((t :: ts).map V.ref ++ [.ref tc]))) [l]) tc x := by rw [wo_mut (by simp)]; exact hc
        have hcv : upd H' l (.lst ((t :: ts).map V.ref ++ [.ref tc])) tc = some (.tup [.str x.1, .str x.2]) := rd hc2
        obtain ⟨hc1, hc3⟩ := nxt x (hin x hxin)
        obtain ⟨a2, e2, g2⟩ := hd.getS hc1
        refine ⟨_, rfl, tc, _, _, _, rfl, rfl, SqT.of hcv, rfl, _, rfl, _, rfl, tc, _, _, _, rfl, rfl, SqT.of hcv, rfl, d, _, rfl, g2 _ s2, _, rfl, tc, _, _, _, rfl, rfl, SqT.of hcv, rfl, a2, _, x.1, rfl, up s2 e2, hc3, by show 2 ≤ sizeLine; decide, fun t2 ht2 => ?_⟩
        have s3 : Same (upd H' l (.lst ((t :: ts).map V.ref ++ [.ref tc]))) (upd (upd H' l (.lst ((t :: ts).map V.ref ++ [.ref tc]))) t2 (.tup [.str x.2, .str (nx (rdf W x.2) x.1)])) := .new ht2
        refine ⟨R.length, Nat.lt_succ_self _, D ++ [x], R, ts ++ [tc], t2, by rw [er]; simp, rfl, rfl, s2.trans s3, ?_, ?_, ?_⟩
        · refine s3 _ _ ?_
          rw [upd_same]
          simp
        · refine ups s3 ?_
          have : Paired (T2 K (wo (upd H' l (.lst ((t :: ts).map V.ref ++ [.ref tc]))) [l])) ((t :: ts) ++ [tc]) (((c, o) :: D) ++ [x]) := paired_snoc (by rw [wo_mut (by simp)]; exact hT) hc2
          exact this
        · have hpx : Path (fs (rdf W)) x R (c, o) := by
            rw [er] at hp
            exact (path_app.mp hp).2
          rw [← path_next hpx]
          exact T2.of upd_same (fun z => by rw [List.mem_singleton.mp z, upd_same] at ht2; cases ht2)
end
end Five
end
section
namespace Five
open PySem PySem.Spec PyProof.Rows L2
open PySem.W (Datum DatumOrd)
/-- what stands ahead of a corner, and behind it -/
def Cor (l : List Str) : Option Str → List Str → List Str → Prop
  | none, A, B => A = [] ∧ l = B
  | some c, A, B => ∃ A', A = A' ++ [c] ∧ c ∉ A' ∧ l = A ++ B
theorem Cor.app {l : List Str} {co : Option Str} {A B : List Str} (h : Cor l co A B) : l = A ++ B := by
  cases co with
  | none => rw [h.1, h.2]; rfl
  | some c => obtain ⟨A', _, _, e⟩ := h; exact e
theorem cor_of {l : List Str} {c : Str} (h : c ∈ l) : ∃ A B, Cor l (some c) A B := by
  obtain ⟨A, B, h1, h2⟩ := cor_ex h
  exact ⟨A ++ [c], B, A, rfl, h1, h2⟩
/-- both ends of a tie put in -/
def tied2 (W : List Row) (one other : Str) (A B A2 B2 : List Str) : List Row := setR (setR W one (A ++ other :: B)) other (A2 ++ one :: B2)
theorem vsf_tied2 (W : List Row) (one other : Str) (A B A2 B2 : List Str) : vsf (tied2 W one other A B A2 B2) = vsf W := by unfold tied2; rw [vsf_setR, vsf_setR]
section
variable {P : Program} {w : World} {K : PySem.W.Frag} {mg : Str → Option Value} {base : Heap} {C : Addr} {cx : Nat → Addr}
theorem cut_cor {l : List Str} {co : Option Str} {A B : List Str} (h : Cor l co A B) : ∃ j : Nat, A.length = j ∧ cutV (l.map V.str) none (some (j : Int)) = A.map V.str ∧ cutV (l.map V.str) (some (j : Int)) none = B.map V.str := by
  refine ⟨_, rfl, ?_, ?_⟩
  · rw [h.app, cut_to, ← List.map_take, List.take_left]
  · rw [h.app, cut_from, ← List.map_drop, List.drop_left]
def spPut (K : PySem.W.Frag) : Sp := fun vs H Q _ => ∃ (p d : Addr) (W : List Row) (one other : Str) (co ca : Option Str) (A B A2 B2 : List Str), vs = [.ref d, .str one, oV' co, .str other, oV' ca] ∧ GD K p d H W ∧ PotAt H p ∧ d ≠ p ∧ W.length ≤ 60 ∧ one ∈ vsf W ∧ other ∈ vsf W ∧ one ≠ other ∧ (rdf W one).length ≤ 60 ∧ (rdf W other).length ≤ 60 ∧ Cor (rdf W one) co A B ∧ Cor (rdf W other) ca A2 B2 ∧
  ∀ (H' : Hp), Same (wo H [d]) H' → GD K p d H' (tied2 W one other A B A2 B2) → Q .non H'
theorem ok_law_put (T : Txt K mg C cx) : Cal P w K mg base 1 "_law_put" (spPut K) := by
  refine cal_of T.d_law_put sc_law_put (fun vs H Q E h => ?_) (fun f cdv A outer s H vs Q E hr h => ?_)
  · obtain ⟨p, d, W, one, other, co, ca, A, B, A2, B2, rfl, _⟩ := h
    rfl
  · obtain ⟨p, d, W, one, other, co, ca, A1, B1, A2, B2, rfl, hg, pot, ndp, hl, hone, hoth, hne, hrl1, hrl2, hco1, hco2, kk⟩ := h
    refine ⟨_, (pss_one (ps_for PassesOwn.never (by rfl) (pi_tup (pe_tup (pa_cons (pe_tup (pa_cons (pv 1) (pa_cons (pv 2) (pa_cons (pv 3) pa_nil)))) (pa_cons (pe_tup (pa_cons (pv 3) (pa_cons (pv 4) (pa_cons (pv 1) pa_nil)))) pa_nil)))) (pg_tupK (K := K) 3 (by rfl) (pgs_cons (pg_name (i := 5) sc_law_put.nd rfl (Or.inl rfl)) (pgs_cons (pg_name (i := 6) sc_law_put.nd rfl (Or.inl rfl)) (pgs_cons (pg_name (i := 7) sc_law_put.nd rfl (Or.inl rfl)) pgs_nil)))) (pss_cons (ps_set (i := 8) sc_law_put.nd rfl (Or.inl rfl) (pe_dget (hu_of hr) (pv 0) (pv 5) (fun _ _ => rfl)))
      (pss_cons (ps_set (i := 9) sc_law_put.nd rfl (Or.inl rfl) pe_int)
      (pss_cons (ps_if (pt_cmpR op_notN (pv 6) pe_non (nomark _)) (pss_one (ps_set (i := 9) sc_law_put.nd rfl (Or.inl rfl) (pe_op op_add (pe_bm PySem.F.plainAttrs_list PySem.F.slot_list_index PySem.F.type_list_index (mt_indexK (K := K)) (pv 8) (pa_cons (pv 6) pa_nil)) pe_int))) pss_nil)
      (pss_one (ps_dput (hu_of hr) (pv 0) (pv 5) (pe_op op_cat (pe_op op_cat (pe_slice (sl_listK (K := K)) (pv 8) po_none (po_some (pv 9))) (pe_lst (pa_cons (pv 7) pa_nil))) (pe_slice (sl_listK (K := K)) (pv 8) (po_some (pv 9)) po_none)) rfl))))))), ?_⟩
    refine ⟨_, rfl, _, rfl, _, rfl, by show 3 ≤ sizeLine; decide, fun t1 ht1 => ⟨_, rfl, _, rfl, _, rfl, by show 3 ≤ sizeLine; decide, fun t2 ht2 => ⟨by show 2 ≤ sizeLine; decide, fun tt htt => ?_⟩⟩⟩
    have sA : Same H (upd H t1 (.tup [.str one, oV' co, .str other])) := .new ht1
    have h1A : upd H t1 (.tup [.str one, oV' co, .str other]) t1 = some (.tup [.str one, oV' co, .str other]) := upd_same
    generalize upd H t1 (.tup [.str one, oV' co, .str other]) = HA at *
    have sB : Same HA (upd HA t2 (.tup [.str other, oV' ca, .str one])) := .new ht2
    have h2B : upd HA t2 (.tup [.str other, oV' ca, .str one]) t2 = some (.tup [.str other, oV' ca, .str one]) := upd_same
    have h1B := sB _ _ h1A
    generalize upd HA t2 (.tup [.str other, oV' ca, .str one]) = HB at *
    have sC : Same HB (upd HB tt (.tup [.ref t1, .ref t2])) := .new htt
    have hC : upd HB tt (.tup [.ref t1, .ref t2]) tt = some (.tup ([t1, t2].map V.ref)) := upd_same
    have h1C := sC _ _ h1B
    have h2C := sC _ _ h2B
    have s3 := (sA.trans sB).trans sC
    generalize upd HB tt (.tup [.ref t1, .ref t2]) = HC at *
    obtain ⟨kvs0, hk0, _⟩ := id (hg.same s3)
    have n1 : t1 ≠ d := fun e => by rw [e, hk0] at h1C; cases h1C
    have n2 : t2 ≠ d := fun e => by rw [e, hk0] at h2C; cases h2C
    have n3 : tt ≠ d := fun e => by rw [e, hk0] at hC; cases hC
    let Wi : Nat → List Row := fun i => match i with
      | 0 => W
      | 1 => setR W one (A1 ++ other :: B1)
      | _ => tied2 W one other A1 B1 A2 B2
    refine ⟨tt, rfl, ⟨_, SqT.of hC⟩, for_tup (K := K) (a := tt) (xs := [t1, t2].map V.ref) (fun i σ H' => ∃ (y5 y6 y7 y8 y9 : Option V), σ = [some (.ref d), some (.str one), some (oV' co), some (.str other), some (oV' ca), y5, y6, y7, y8, y9] ∧ Same (wo HC [d]) H' ∧ GD K p d H' (Wi i)) ?_ ?_ ?_ ?_⟩
    · exact ⟨_, _, _, _, _, rfl, wo_same, hg.same s3⟩
    · rintro i σ H' _ ⟨_, _, _, _, _, _, a, _⟩
      exact SqT.of (a _ _ (by rw [wo_out (by simpa using n3)]; exact hC))
    · rintro i x σ H' hi ⟨y5, y6, y7, y8, y9, rfl, a, hgi⟩
      have potI : PotAt H' p := by
        obtain ⟨x, y, q1, q2⟩ := pot.same s3
        exact ⟨x, y, a _ _ (by rw [wo_out (by simpa using ndp.symm)]; exact q1), q2⟩
      obtain ⟨t, v, nw, cr, A, B, Wc, rfl, htv, hgc, hlc, hvc, hrc, hcor, eW⟩ : ∃ (t : Addr) (v nw : Str) (cr : Option Str) (A B : List Str) (Wc : List Row), x = .ref t ∧ H' t = some (.tup [.str v, oV' cr, .str nw]) ∧ GD K p d H' Wc ∧ Wc.length ≤ 60 ∧ v ∈ vsf Wc ∧ (rdf Wc v).length ≤ 60 ∧ Cor (rdf Wc v) cr A B ∧ setR Wc v (A ++ nw :: B) = Wi (i + 1) := by
        have hlt : i < 2 := (List.getElem?_eq_some_iff.mp hi).1
        have hi2 : i = 0 ∨ i = 1 := by omega
        rcases hi2 with rfl | rfl
        · refine ⟨t1, one, other, co, A1, B1, W, ?_, a _ _ (by rw [wo_out (by simpa using n1)]; exact h1C), hgi, hl, hone, hrl1, hco1, rfl⟩
          simp at hi
          exact hi.symm
        · have er : rdf (setR W one (A1 ++ other :: B1)) other = rdf W other := rdf_setR_ne fun e => hne e.symm
          refine ⟨t2, other, one, ca, A2, B2, setR W one (A1 ++ other :: B1), ?_, a _ _ (by rw [wo_out (by simpa using n2)]; exact h2C), hgi, by rw [setR_len]; exact hl, by rw [vsf_setR]; exact hoth, by rw [er]; exact hrl2, by rw [er]; exact hco2, rfl⟩
          simp at hi
          exact hi.symm
      refine ⟨t, _, rfl, SqT.of htv, rfl, _, _, rfl, _, _, rfl, _, _, rfl, rfl, ?_⟩
      obtain ⟨ra, g2, g1⟩ := hgc.rds.getS hvc
      have hrc2 := hrc
      rw [hcor.app, List.length_append] at hrc2
      refine ⟨_, rfl, _, rfl, d, _, rfl, g1 _ (.refl _), ?_⟩
      obtain ⟨kvs, hd, hP⟩ := id hgc
      have hsz : kvs.length < sizeLine := by
        rw [GD.size hd hgc]
        exact Nat.lt_of_le_of_lt hlc (by decide)
      obtain ⟨jj, hjj, hX1, hX2⟩ := cut_cor hcor
      refine ⟨_, rfl, rfl, _, rfl, ?_⟩
      refine joinN (fun σ' H'' => σ' = [some (.ref d), some (.str one), some (oV' co), some (.str other), some (oV' ca), some (.str v), some (oV' cr), some (.str nw), some (.ref ra), some (.int jj)] ∧ H'' = H') (fun hb => ?_) (fun hb r => ?_) ?_
      · cases cr with
        | none =>
          refine ⟨?_, rfl⟩
          have : jj = 0 := by rw [← hjj, hcor.1]; rfl
          rw [this]; rfl
        | some c => rw [notN'_some] at hb; cases hb
      · cases cr with
        | none => rw [notN'_none] at hb; cases hb
        | some c =>
          obtain ⟨A', eA, hcA, eL⟩ := hcor
          subst eA
          have hcm : c ∈ rdf Wc v := by rw [eL]; simp
          obtain ⟨j, k1, k2, k3, m1, m2, m3, m4⟩ := ixS hcm
          have hj : j = A'.length := by
            have hAc : (rdf Wc v)[A'.length]? = some c := by rw [eL]; simp
            rcases Nat.lt_trichotomy j A'.length with q | q | q
            · have : A'[j]? = some c := by
                rw [← m1, eL, List.append_assoc, List.getElem?_append_left q]
              exact absurd (List.mem_of_getElem? this) hcA
            · exact q
            · exact absurd rfl (m2 _ _ q hAc)
          refine ⟨_, rfl, .inl ⟨rfl, _, g2⟩, _, rfl, ra, _, _, j, _, rfl, rfl, g2, rfl, flat_strs _, k1, k2, k3, _, _, rfl, rfl, r _ _ ⟨?_, rfl⟩⟩
          have e9 : (fun i j => V.int (i + j)) (j : Int) (1 : Int) = V.int jj := by
            show V.int ((j : Int) + 1) = _
            rw [← hjj, hj]; simp
          rw [e9]; rfl
      rintro σ' H'' ⟨rfl, rfl⟩
      refine ⟨_, rfl, _, rfl, _, rfl, ra, _, rfl, g2, fun c1 hc1 => ?_⟩
      rw [hX1]
      refine ⟨_, rfl, by show 1 ≤ sizeLine; decide, fun c2 hc2 => ⟨c1, c2, _, _, rfl, rfl, Same.new hc2 _ _ upd_same, upd_same, ?_, fun c3 hc3 => ?_⟩⟩
      · rw [List.length_map]
        exact Nat.le_trans (show _ + 1 ≤ 60 + 1 by omega) (by decide)
      refine ⟨_, rfl, _, rfl, _, rfl, ra, _, rfl, (((Same.new hc1).trans (.new hc2)).trans (.new hc3)).seq g2, fun c4 hc4 => ?_⟩
      rw [hX2]
      refine ⟨c3, c4, _, _, rfl, rfl, Same.new hc4 _ _ upd_same, upd_same, ?_, fun c5 hc5 => ?_⟩
      · rw [List.length_append, List.length_map, List.length_map]
        exact Nat.le_trans (show _ ≤ 60 + 1 + 60 by simp; omega) (by decide)
      refine ⟨_, rfl, _, rfl, d, _, rfl, DPut.k (k := Sum.inr v) (((((Same.new hc1).trans (.new hc2)).trans (.new hc3)).trans ((Same.new hc4).trans (.new hc5))) _ _ hd) hsz, ?_⟩
      have hfr := ((((Same.new hc1).trans (.new hc2)).trans (.new hc3)).trans (Same.new hc4)).free hc5
      refine ⟨_, _, _, _, _, rfl, fun b o e => ?_, ?_⟩
      · obtain ⟨q1, q2⟩ := wo_get e
        exact GD.fin1 (d := d) ((((Same.new hc1).trans (.new hc2)).trans (.new hc3)).trans ((Same.new hc4).trans (.new hc5))) _ _ (by rw [wo_out q2]; exact a _ _ e)
      · rw [← eW]
        refine GD.fin2 ((((Same.new hc1).trans (.new hc2)).trans (.new hc3)).trans ((Same.new hc4).trans (.new hc5))) hgc hd potI hvc hfr upd_same ?_
        simp
    · rintro σ H' ⟨y5, y6, y7, y8, y9, rfl, a, hgi⟩
      exact kk H' (fun b o e => by
        obtain ⟨q1, q2⟩ := wo_get e
        exact a _ _ (by rw [wo_out q2]; exact s3 _ _ q1)) hgi
end
end Five
end
section
namespace Five
open PySem PySem.Spec PyProof.Rows L2
open PySem.W (Datum DatumOrd)
section
variable {P : Program} {w : World} {K : PySem.W.Frag} {mg : Str → Option Value} {base : Heap} {C : Addr} {cx : Nat → Addr}
def spNames (K : PySem.W.Frag) : Sp := fun vs H Q _ => ∃ (p : Addr) (n : Nat), vs = [.ref p, .int n] ∧ PotAt H p ∧ n ≤ 26 ∧
  ∀ (l : Addr) (names : List Str) (H' : Hp), Dr p H H' → H l = none → H' l = some (.lst (names.map V.str)) → names.length = n → names.Nodup → (∀ x ∈ names, Nm x) → Q (.ref l) H'
theorem ok_law_names (T : Txt K mg C cx) : Cal P w K mg base 2 "_law_names" (spNames K) := by
  refine cal_of T.d_law_names sc_law_names (fun vs H Q E h => ?_) (fun f cdv A outer s H vs Q E hr h => ?_)
  · obtain ⟨p, n, rfl, _⟩ := h
    rfl
  · obtain ⟨p, n, rfl, pot, hn, kk⟩ := h
    refine ⟨_, (pss_cons (ps_set (i := 2) sc_law_names.nd rfl (Or.inl rfl) pe_str)
      (pss_cons (ps_set (i := 3) sc_law_names.nd rfl (Or.inl rfl) (pe_ix (ix_listK (K := K)) (pe_lst (pa_cons pe_int (pa_cons pe_int (pa_cons pe_int (pa_cons pe_int (pa_cons pe_int (pa_cons pe_int pa_nil))))))) (pe_c (ok_law_take T) hr (by decide) (by rfl) (pa_cons (pv 0) (pa_cons pe_int pa_nil))) (fun _ _ => rfl)))
      (pss_cons (ps_set (i := 4) sc_law_names.nd rfl (Or.inl rfl) (pe_c (ok_law_take T) hr (by decide) (by rfl) (pa_cons (pv 0) (pa_cons pe_int pa_nil))))
      (pss_cons (ps_set (i := 5) sc_law_names.nd rfl (Or.inl rfl) (pe_lst pa_nil))
      (pss_cons (ps_if (pt_cmpR op_eq (pe_c (ok_law_take T) hr (by decide) (by rfl) (pa_cons (pv 0) (pa_cons pe_int pa_nil))) pe_int (nomark _)) (pss_cons (ps_for PassesOwn.never (by rfl) (pi_range1 (by rfl) T.n_range (pa_cons (pv 1) pa_nil)) (pg_name (i := 6) sc_law_names.nd rfl (Or.inl rfl)) (pss_cons (ps_set (i := 7) sc_law_names.nd rfl (Or.inl rfl) pe_str)
      (pss_cons (ps_set (i := 8) sc_law_names.nd rfl (Or.inl rfl) (pe_op op_add (pe_op op_add (pv 4) (pv 6)) pe_int))
      (pss_cons (ps_while PassesOwn.never (pt_cmpR op_gt (pv 8) pe_int (nomark _)) (pss_cons (ps_asg (pe_callB call_divmod (by rfl) T.n_divmod (by decide +kernel) (pa_cons (pe_op op_sub (pv 8) pe_int) (pa_cons pe_int pa_nil))) (pg_tupK (K := K) 2 (by rfl) (pgs_cons (pg_name (i := 8) sc_law_names.nd rfl (Or.inl rfl)) (pgs_cons (pg_name (i := 9) sc_law_names.nd rfl (Or.inl rfl)) pgs_nil))))
      (pss_one (ps_set (i := 7) sc_law_names.nd rfl (Or.inl rfl) (pe_op op_add_str (pe_ix ix_str (pv 2) (pe_op op_mod (pe_op op_add (pv 4) (pe_op op_mul (pv 3) (pv 9))) pe_int) (fun _ _ => rfl)) (pv 7))))))
      (pss_one (ps_expr (pe_bm PySem.F.plainAttrs_list PySem.F.slot_list_append PySem.F.type_list_append mt_append (pv 5) (pa_cons (pv 7) pa_nil))))))))
      (pss_one (ps_ret (pv 5)))) pss_nil)
      (pss_cons (ps_for PassesOwn.never (by rfl) (pi_range1 (by rfl) T.n_range (pa_cons (pv 1) pa_nil)) (pg_name (i := 6) sc_law_names.nd rfl (Or.inl rfl)) (pss_cons (ps_set (i := 10) sc_law_names.nd rfl (Or.inl rfl) (pe_ix ix_str pe_str (pe_c (ok_law_take T) hr (by decide) (by rfl) (pa_cons (pv 0) (pa_cons pe_int pa_nil))) (fun _ _ => rfl)))
      (pss_one (ps_expr (pe_bm PySem.F.plainAttrs_list PySem.F.slot_list_append PySem.F.type_list_append mt_append (pv 5) (pa_cons (pe_op op_add_str (pe_ix ix_str (pv 2) (pe_op op_mod (pe_op op_add (pv 4) (pe_op op_mul (pv 3) (pv 6))) pe_int) (fun _ _ => rfl)) (pe_op op_rep_str (pv 10) (pe_c (ok_law_take T) hr (by decide) (by rfl) (pa_cons (pv 0) (pa_cons pe_int pa_nil))))) pa_nil))))))
      (pss_one (ps_ret (pv 5))))))))), ?_⟩
    have en : ((n : Nat) : Int).toNat = n := by simp
    refine ⟨by show 6 ≤ sizeLine; decide, fun c hc => ⟨_, rfl, p, 6, rfl, pot.same (.new hc), by decide, by decide, fun dg H1 hd0 hd1 d1 => ?_⟩⟩
    have ncp : c ≠ p := fun e => pot.ne (by rw [← e]; exact hc)
    have hc1 : H1 c = some (.lst (([1, 3, 5, 7, 9, 11] : List Int).map V.int)) := d1.get ncp (by rw [upd_same]; rfl)
    have dr1 : Dr p H H1 := ((Dr.refl pot).new (o := .lst [.int 1, .int 3, .int 5, .int 7, .int 9, .int 11]) hc).trans d1
    obtain ⟨st, hst, hst2⟩ : ∃ m : Nat, ([1, 3, 5, 7, 9, 11] : List Int)[dg.toNat]? = some (m : Int) ∧ m ∈ [1, 3, 5, 7, 9, 11] := by
      have hcs : dg.toNat = 0 ∨ dg.toNat = 1 ∨ dg.toNat = 2 ∨ dg.toNat = 3 ∨ dg.toNat = 4 ∨ dg.toNat = 5 := by omega
      rcases hcs with e | e | e | e | e | e <;> rw [e]
      · exact ⟨1, rfl, by simp⟩
      · exact ⟨3, rfl, by simp⟩
      · exact ⟨5, rfl, by simp⟩
      · exact ⟨7, rfl, by simp⟩
      · exact ⟨9, rfl, by simp⟩
      · exact ⟨11, rfl, by simp⟩
    have hst11 : st ≤ 11 := by simp at hst2; omega
    refine ⟨c, _, _, .int st, rfl, rfl, SqL.of hc1, at_map V.int (j := dg.toNat) (by omega) hst, _, rfl, p, 26, rfl, d1.pot, by decide, by decide, fun sh H2 hs0 hs1 d2 => ?_⟩
    obtain ⟨si, rfl⟩ : ∃ si : Nat, sh = (si : Int) := ⟨sh.toNat, by omega⟩
    have dr2 := dr1.trans d2
    refine ⟨Nat.zero_le _, fun lf hlf => ?_⟩
    have nlf : lf ≠ p := dr2.ne hlf
    have hlf0 : H lf = none := dr2.free hlf
    refine ⟨_, rfl, p, 3, rfl, dr2.pot.same (.new hlf), by decide, by decide, fun d3 H3 h30 h31 dd3 => ⟨rfl, _, rfl, ?_⟩⟩
    have dr3 : Dr p H H3 := (dr2.new (o := .lst []) hlf).trans dd3
    have hL3 : H3 lf = some (.lst []) := dd3.get nlf upd_same
    have at26 : ∀ k : Nat, k < 26 → atI qw.cps.toList (k : Int) = some (qc k) := fun k hk => atI_nat (qw_at k hk)
    have e26 : ∀ k : Nat, ((si : Int) + (st : Int) * (k : Int)) % 26 = (((si + st * k) % 26 : Nat) : Int) := fun k => by simp
    refine joinN (fun σ' H' => σ' = [some (.ref p), some (.int n), some (.str qw), some (.int st), some (.int si), some (.ref lf), none, none, none, none, none] ∧ H' = H3) (fun _ => ⟨rfl, rfl⟩) (fun _ _ => ?_) ?_
    · -- words of two signs
      let aa := qc ((si + st * 0) % 26)
      let bb := qc ((si + st * 1) % 26)
      have hab : aa ≠ bb := fun e => by
        have := step_inj hst2 (g := si) (i := 0) (j := 1) (by decide) (by decide) (qc_inj _ (Nat.mod_lt _ (by decide)) _ (Nat.mod_lt _ (by decide)) e)
        omega
      refine ⟨_, rfl, n, rfl, by omega, by omega, for_range (lo := 0) (n := ((n : Nat) : Int).toNat) (fun i σ H' => ∃ (y6 y7 y8 y9 y10 : Option V), σ = [some (.ref p), some (.int n), some (.str qw), some (.int st), some (.int si), some (.ref lf), y6, y7, y8, y9, y10] ∧ Dr p H H' ∧ H' lf = some (.lst ((((List.range i).map fun k => bword aa bb (si + k + 1)).map txt).map V.str))) ?_ ?_ ?_⟩
      · exact ⟨_, _, _, _, _, rfl, dr3, hL3⟩
      · rintro i σ H' hi ⟨y6, y7, y8, y9, y10, rfl, dr, hL⟩
        have hi' : i < n := by omega
        refine ⟨_, rfl, _, rfl, _, _, rfl, rfl, _, _, rfl, rfl, ?_⟩
        refine ⟨fun m σ H' => ∃ (y9 : Option V) (num : Nat) (ws : List Nat), m = num ∧ σ = [some (.ref p), some (.int n), some (.str qw), some (.int st), some (.int si), some (.ref lf), some (.int (0 + (i : Nat))), some (.str (txt ws)), some (.int num), y9, y10] ∧ Dr p H H' ∧ H' lf = some (.lst ((((List.range i).map fun k => bword aa bb (si + k + 1)).map txt).map V.str)) ∧ num ≤ 60 ∧ bword aa bb (si + i + 1) = bword aa bb num ++ ws, ?_, ?_⟩
        · refine ⟨_, y9, si + i + 1, [], rfl, ?_, dr, hL, by omega, by simp⟩
          have : ((si : Int) + (0 + (i : Int)) + 1) = ((si + i + 1 : Nat) : Int) := by omega
          show [_, _, _, _, _, _, _, _, some (V.int ((si : Int) + (0 + (i : Int)) + 1)), _, _] = _
          rw [this]; rfl
        · rintro num σ H' ⟨y9, _, ws, rfl, rfl, dr, hL, hnum, hw⟩
          refine ⟨_, rfl, _, _, rfl, rfl, _, rfl, ?_⟩
          by_cases h0 : num = 0
          · subst h0
            refine iteNo (by simp) ?_
            rw [bword_zero, List.nil_append] at hw
            refine ⟨_, rfl, .inl ⟨rfl, _, SqL.of hL⟩, _, rfl, lf, _, _, rfl, rfl, hL, ?_, _, _, _, _, _, rfl, dr.mut hlf0 nlf, ?_⟩
            · simp
              exact Nat.lt_of_lt_of_le (show i < 27 by omega) (by decide)
            · rw [upd_same, List.range_succ, ← hw]
              simp
          · refine iteYes (show (num : Int) > 0 by omega) ⟨_, fun _ _ z => z, ?_⟩
            refine ⟨_, rfl, _, _, rfl, rfl, _, _, rfl, ⟨by show (0 : Int) < 2; decide, by show (2 : Int) < 1073741824; decide⟩, fun t ht => ?_⟩
            have e1 : ((num : Int) - 1) / 2 = (((num - 1) / 2 : Nat) : Int) := by omega
            have e2 : ((num : Int) - 1) % 2 = (((num - 1) % 2 : Nat) : Int) := by omega
            refine ⟨t, _, rfl, SqT.of upd_same, rfl, _, _, rfl, _, _, rfl, rfl, ?_⟩
            have hmul : CMul (st : Int) (((num : Int) - 1) % 2) := .inl ⟨by omega, by omega⟩
            have e3 : ((si : Int) + (st : Int) * (((num : Int) - 1) % 2)) % 26 = (((si + st * ((num - 1) % 2)) % 26 : Nat) : Int) := by rw [e2, e26]
            refine ⟨_, rfl, _, rfl, _, rfl, _, rfl, _, _, rfl, rfl, hmul, _, _, rfl, rfl, _, _, rfl, rfl, (by show (0 : Int) < 26; decide), qw, _, qc ((si + st * ((num - 1) % 2)) % 26), rfl, rfl, qw_len, (by rw [e3]; exact at26 _ (Nat.mod_lt _ (by decide))), _, rfl, _, _, rfl, rfl, ?_, ?_⟩
            · rw [txt_len]
              have h1 := congrArg List.length hw
              have h2 := bword_len (a := aa) (b := bb) 6 (n := si + i + 1) (by omega)
              rw [List.length_append] at h1
              show 1 + ws.length ≤ sizeLine
              exact Nat.le_trans (show 1 + ws.length ≤ 7 by omega) (by decide)
            · refine ⟨(num - 1) / 2, by omega, some (.int (((num : Int) - 1) % 2)), (num - 1) / 2, qc ((si + st * ((num - 1) % 2)) % 26) :: ws, rfl, ?_, dr.new ht, Same.new ht _ _ hL, by omega, ?_⟩
              · simp only [List.set]
                rw [e1, show ((⟨#[qc ((si + st * ((num - 1) % 2)) % 26)]⟩ : Str)) = txt [qc ((si + st * ((num - 1) % 2)) % 26)] from rfl, txt_app]
                rfl
              · rw [hw, bword_pos aa bb h0, List.append_assoc]
                congr 1
                have : (num - 1) % 2 = 0 ∨ (num - 1) % 2 = 1 := by omega
                rcases this with e | e <;> rw [e] <;> simp [aa, bb]
      · rintro σ H' ⟨y6, y7, y8, y9, y10, rfl, dr, hL⟩
        rw [en] at hL
        refine ⟨_, rfl, kk lf (((List.range n).map fun k => bword aa bb (si + k + 1)).map txt) H' dr hlf0 hL (by simp) ?_ fun x hx => ?_⟩
        · rw [List.map_map]
          refine List.Pairwise.map _ (fun x y hxy e => hxy ?_) List.nodup_range
          have := bword_inj hab (txt_inj e)
          omega
        · obtain ⟨l, hl, rfl⟩ := List.mem_map.mp hx
          obtain ⟨k, hk, rfl⟩ := List.mem_map.mp hl
          have hk := List.mem_range.mp hk
          refine nm_txt (bword_ne (by omega)) ?_ fun c hc => ?_
          · exact Nat.le_trans (bword_len 6 (by omega)) (by decide)
          · rcases bword_mem hc with rfl | rfl
            · exact qc_ok _ (Nat.mod_lt _ (by decide))
            · exact qc_ok _ (Nat.mod_lt _ (by decide))
    rintro σ' H' ⟨rfl, rfl⟩
    refine ⟨_, rfl, n, rfl, by omega, by omega, for_range (lo := 0) (n := ((n : Nat) : Int).toNat) (fun i σ H' => ∃ (y6 y7 y8 y9 y10 : Option V) (cs : List (List Nat)), σ = [some (.ref p), some (.int n), some (.str qw), some (.int st), some (.int si), some (.ref lf), y6, y7, y8, y9, y10] ∧ Dr p H H' ∧ H' lf = some (.lst ((cs.map txt).map V.str)) ∧ cs.length = i ∧ ∀ k l, cs[k]? = some l → ∃ t, l = qc ((si + st * k) % 26) :: t ∧ t.length ≤ 7 ∧ ∀ c ∈ t, 97 ≤ c ∧ c ≤ 122) ?_ ?_ ?_⟩
    · exact ⟨_, _, _, _, _, [], rfl, dr3, hL3, rfl, fun k l h => by simp at h⟩
    · rintro i σ H' hi ⟨y6, y7, y8, y9, y10, cs, rfl, dr, hL, hcl, hcs⟩
      have hi' : i < n := by omega
      refine ⟨_, rfl, p, 2, rfl, dr.pot, by decide, by decide, fun sg H4 hs0' hs1' d4 => ?_⟩
      obtain ⟨sn, hsn, hsn2⟩ : ∃ c : Nat, atI (Str.ofString "ab").cps.toList sg = some c ∧ 97 ≤ c ∧ c ≤ 122 := by
        have : sg = 0 ∨ sg = 1 := by omega
        rcases this with rfl | rfl
        · exact ⟨97, by decide +kernel, by decide, by decide⟩
        · exact ⟨98, by decide +kernel, by decide, by decide⟩
      have dr4 := dr.trans d4
      have hL4 := d4.get nlf hL
      refine ⟨Str.ofString "ab", _, sn, rfl, rfl, by decide +kernel, hsn, ?_⟩
      have hmul : CMul (st : Int) (0 + (i : Int)) := .inl ⟨by omega, by omega⟩
      have e3 : ((si : Int) + (st : Int) * (0 + (i : Int))) % 26 = (((si + st * i) % 26 : Nat) : Int) := by rw [show (0 : Int) + (i : Int) = (i : Int) by omega, e26]
      refine ⟨_, rfl, .inl ⟨rfl, _, SqL.of hL4⟩, _, rfl, _, rfl, _, rfl, _, rfl, _, _, rfl, rfl, hmul, _, _, rfl, rfl, _, _, rfl, rfl, (by show (0 : Int) < 26; decide), qw, _, qc ((si + st * i) % 26), rfl, rfl, qw_len, (by rw [e3]; exact at26 _ (Nat.mod_lt _ (by decide))), _, rfl, _, rfl, p, 8, rfl, dr4.pot, by decide, by decide, fun m H5 hm0 hm1 d5 => ⟨sn, m, rfl, rfl, hm0, by omega, ?_⟩⟩
      have dr5 := dr4.trans d5
      have hL5 := d5.get nlf hL4
      refine ⟨_, _, rfl, rfl, ?_, lf, _, _, rfl, rfl, hL5, ?_, ?_⟩
      · show 1 + (txt (List.replicate m.toNat sn)).length ≤ sizeLine
        rw [txt_len, List.length_replicate]
        exact Nat.le_trans (show 1 + m.toNat ≤ 8 by omega) (by decide)
      · rw [List.length_map, List.length_map, hcl]
        exact Nat.lt_of_lt_of_le (show i < 27 by omega) (by decide)
      · refine ⟨_, _, _, _, _, cs ++ [qc ((si + st * i) % 26) :: List.replicate m.toNat sn], rfl, dr5.mut hlf0 nlf, ?_, by rw [List.length_append, hcl]; rfl, fun k l hk => ?_⟩
        · rw [upd_same]
          show some (HO.lst (_ ++ [V.str (txt [qc ((si + st * i) % 26)] ++ txt (List.replicate m.toNat sn))])) = _
          rw [txt_app]
          simp
        · by_cases hki : k < cs.length
          · rw [List.getElem?_append_left hki] at hk
            exact hcs k l hk
          · have hke : k = cs.length := by
              have := (List.getElem?_eq_some_iff.mp hk).1
              rw [List.length_append] at this
              simp at this
              omega
            subst hke
            rw [List.getElem?_append_right (Nat.le_refl _)] at hk
            simp at hk
            refine ⟨List.replicate m.toNat sn, by rw [← hk, hcl], by rw [List.length_replicate]; omega, fun c hc => ?_⟩
            rw [List.eq_of_mem_replicate hc]
            exact hsn2
    · rintro σ H' ⟨y6, y7, y8, y9, y10, cs, rfl, dr, hL, hcl, hcs⟩
      rw [en] at hcl
      refine ⟨_, rfl, kk lf (cs.map txt) H' dr hlf0 hL (by rw [List.length_map]; exact hcl) ?_ fun x hx => ?_⟩
      · refine List.pairwise_iff_getElem.mpr fun a b ha hb hab e => ?_
        rw [List.getElem_map, List.getElem_map] at e
        rw [List.length_map] at ha hb
        have e' := txt_inj e
        obtain ⟨t1, e1, _⟩ := hcs a _ (List.getElem?_eq_getElem ha)
        obtain ⟨t2, e2, _⟩ := hcs b _ (List.getElem?_eq_getElem hb)
        rw [e1, e2] at e'
        injection e' with e3 _
        have := step_inj hst2 (g := si) (i := a) (j := b) (by omega) (by omega) (qc_inj _ (Nat.mod_lt _ (by decide)) _ (Nat.mod_lt _ (by decide)) e3)
        omega
      · obtain ⟨l, hl, rfl⟩ := List.mem_map.mp hx
        obtain ⟨k, hk⟩ := List.mem_iff_getElem?.mp hl
        obtain ⟨t, e, h1, h2⟩ := hcs k l hk
        refine nm_txt (by rw [e]; simp) (by rw [e]; simp; omega) fun c hc => ?_
        rw [e] at hc
        rcases List.mem_cons.mp hc with z | z
        · rw [z]; exact qc_ok _ (Nat.mod_lt _ (by decide))
        · exact h2 c z
end
end Five
end
section
namespace Five
open PySem PySem.Spec PyProof.Rows L2
open PySem.W (Datum DatumOrd)
theorem path_two {β : Type} [DecidableEq β] {f : β → β} {s : β} {r : List β} (h : Path f s r s) {x y : β} (hx : x ∈ s :: r) (hy : y ∈ s :: r) : ∃ r', Path f x r' y := by
  have h1 : ∃ r1, Path f s r1 y := by
    rcases List.mem_cons.mp hy with e | e
    · rw [e]; exact ⟨r, h⟩
    · obtain ⟨A, B, rfl, _⟩ := mem_split e
      exact ⟨A, (path_app.mp h).1⟩
  have h2 : ∃ r2, Path f x r2 s := by
    rcases List.mem_cons.mp hx with e | e
    · rw [e]; exact ⟨r, h⟩
    · obtain ⟨A, B, rfl, _⟩ := mem_split e
      exact ⟨B, (path_app.mp h).2⟩
  obtain ⟨r1, h1⟩ := h1
  obtain ⟨r2, h2⟩ := h2
  exact ⟨r2 ++ s :: r1, path_app.mpr ⟨h2, h1⟩⟩
section
variable {P : Program} {w : World} {K : PySem.W.Frag} {mg : Str → Option Value} {base : Heap} {C : Addr} {cx : Nat → Addr}
/-- a tie across a face, put in -/
theorem chord_pl {W : List Row} {o q a p : Str} {A B A2 B2 : List Str} (pl : Pl (vsf W) (rdf W)) (ho : o ∈ vsf W) (hq : q ∈ vsf W) (hqo : q ≠ o) (hn : q ∉ rdf W o) (c1 : Cor (rdf W o) (some a) A B) (c2 : Cor (rdf W q) (some p) A2 B2) (hf : ∃ r, Path (fs (rdf W)) (a, o) r (p, q)) : Pl (vsf (tied2 W o q A B A2 B2)) (rdf (tied2 W o q A B A2 B2)) := by
  rw [vsf_tied2]
  obtain ⟨A', rfl, _, e1⟩ := c1
  obtain ⟨C', rfl, _, e2⟩ := c2
  refine Pl.chord (A := A') (B := B) (C := C') (D := B2) pl ho hq hqo hn (by rw [e1]; simp) ?_ (by rw [e2]; simp) ?_ (fun v hv h1 h2 => ?_) hf
  · unfold tied2
    rw [rdf_setR_ne (fun e => hqo e.symm), rdf_setR_eq ho]; simp
  · unfold tied2
    rw [rdf_setR_eq (by rw [vsf_setR]; exact hq)]; simp
  · unfold tied2
    rw [rdf_setR_ne h2, rdf_setR_ne h1]
def spCrossed (K : PySem.W.Frag) : Sp := fun vs H Q _ => ∃ (p d : Addr) (W : List Row), vs = [.ref d, .ref p] ∧ GD K p d H W ∧ PotAt H p ∧ d ≠ p ∧ W.length ≤ 60 ∧ Pl (vsf W) (rdf W) ∧
  ∀ (H' : Hp) (W' : List Row), D2 p d H H' → GD K p d H' W' → vsf W' = vsf W → Pl (vsf W') (rdf W') → Q .non H'
theorem ok_law_crossed (T : Txt K mg C cx) : Cal P w K mg base 3 "_law_crossed" (spCrossed K) := by
  refine cal_of T.d_law_crossed sc_law_crossed (fun vs H Q E h => ?_) (fun f cdv A outer s H vs Q E hr h => ?_)
  · obtain ⟨p, d, W, rfl, _⟩ := h
    rfl
  · obtain ⟨p, d, W, rfl, hg, pot, ndp, hlen, pl, kk⟩ := h
    refine ⟨_, (pss_cons (ps_lock (ps_setLc (i := 2) (own := [("_law_place", 7)]) (by rfl) sc_law_crossed.nd rfl rfl (sw_true rfl rfl rfl (by decide +kernel)) (pi_keys (pv 0)) (blkOk_by (own := [("_law_place", 7)]) (N := N_law_crossed) (sc := defScope s_law_crossed) (by decide +kernel)) (fun _ _ _ _ _ => (pg_name (i := 7) sc_law_crossed.nd rfl (Or.inl rfl))) (fun _ _ _ _ _ => (pts_one (pt_cmpR (op_neK (K := K) (List Str) hr.units) (pe_dget (hu_of hr) (pv 0) (pv 7) (fun _ _ => rfl)) (pe_lst pa_nil) (nomark _)))) (fun _ _ _ _ _ => (pv 7))))
      (pss_one (ps_if (pt_cmpR (op_neK (K := K) (List Str) hr.units) (pv 2) (pe_lst pa_nil) (nomark _)) (pss_cons (ps_set (i := 3) sc_law_crossed.nd rfl (Or.inl rfl) (pe_ix (ix_listK (K := K)) (pv 2) (pe_c (ok_law_take T) hr (by decide) (by rfl) (pa_cons (pv 1) (pa_cons (pe_callB (call_lenK (K := K)) (by rfl) T.n_len (by decide +kernel) (pa_cons (pv 2) pa_nil)) pa_nil))) (fun _ _ => rfl)))
      (pss_cons (ps_set (i := 4) sc_law_crossed.nd rfl (Or.inl rfl) (pe_c (ok_law_face T) hr (by decide) (by rfl) (pa_cons (pv 0) (pa_cons (pv 3) (pa_cons (pe_ix (ix_listK (K := K)) (pe_dget (hu_of hr) (pv 0) (pv 3) (fun _ _ => rfl)) (pe_c (ok_law_take T) hr (by decide) (by rfl) (pa_cons (pv 1) (pa_cons (pe_callB (call_lenK (K := K)) (by rfl) T.n_len (by decide +kernel) (pa_cons (pe_dget (hu_of hr) (pv 0) (pv 3) (fun _ _ => rfl)) pa_nil)) pa_nil))) (fun _ _ => rfl)) pa_nil)))))
      (pss_cons (ps_set (i := 5) sc_law_crossed.nd rfl (Or.inl rfl) (pe_ix (ix_listK (K := K)) (pv 4) (pe_c (ok_law_take T) hr (by decide) (by rfl) (pa_cons (pv 1) (pa_cons (pe_callB (call_lenK (K := K)) (by rfl) T.n_len (by decide +kernel) (pa_cons (pv 4) pa_nil)) pa_nil))) (fun _ _ => rfl)))
      (pss_cons (ps_set (i := 6) sc_law_crossed.nd rfl (Or.inl rfl) (pe_ix (ix_listK (K := K)) (pv 4) (pe_c (ok_law_take T) hr (by decide) (by rfl) (pa_cons (pv 1) (pa_cons (pe_callB (call_lenK (K := K)) (by rfl) T.n_len (by decide +kernel) (pa_cons (pv 4) pa_nil)) pa_nil))) (fun _ _ => rfl)))
      (pss_one (ps_if (PW.pt (pw_and (pt_cmpR op_ne (pe_ix (ix_tupK (K := K)) (pv 5) pe_int (fun _ _ => rfl)) (pe_ix (ix_tupK (K := K)) (pv 6) pe_int (fun _ _ => rfl)) (nomark _)) (pw_and1 (pt_cmpR (op_notInK (K := K)) (pe_ix (ix_tupK (K := K)) (pv 6) pe_int (fun _ _ => rfl)) (pe_dget (hu_of hr) (pv 0) (pe_ix (ix_tupK (K := K)) (pv 5) pe_int (fun _ _ => rfl)) (fun _ _ => rfl)) (by rfl))))) (pss_one (ps_expr (pe_c (ok_law_put T) hr (by decide) (by rfl) (pa_cons (pv 0) (pa_cons (pe_ix (ix_tupK (K := K)) (pv 5) pe_int (fun _ _ => rfl)) (pa_cons (pe_ix (ix_tupK (K := K)) (pv 5) pe_int (fun _ _ => rfl)) (pa_cons (pe_ix (ix_tupK (K := K)) (pv 6) pe_int (fun _ _ => rfl)) (pa_cons (pe_ix (ix_tupK (K := K)) (pv 6) pe_int (fun _ _ => rfl)) pa_nil)))))))) pss_nil)))))) pss_nil))), ?_⟩
    have hvl : (vsf W).length ≤ 60 := by rw [List.length_map]; exact hlen
    have hrl : ∀ v ∈ vsf W, (rdf W v).length ≤ 60 := fun v hv => Nat.le_trans (nodup_le (pl.wf.rn v hv) fun u hu => (pl.wf.ties v hv u hu).1) hvl
    obtain ⟨kvs, hk1, hkP⟩ := id hg
    have hk2 : Paired (RowKV K H) kvs W := Paired.mapP hkP fun _ _ q => rowKV_up wo_same.sm q
    -- the places with ties
    refine ⟨d, .dK kvs, hk1, trivial, fun od => ?_⟩
    have sL : Sm H (upd H d (.frz od (.dK kvs))) := lock_sm hk1 trivial id
    have hdL : RdsAt K (upd H d (.frz od (.dK kvs))) d W := Mn.up sL hg.rds
    refine ⟨_, rfl, d, od, rfl, .inl ⟨kvs, upd_same, fun l hl => ?_⟩⟩
    have ndl : l ≠ d := fun e => by rw [e, upd_same] at hl; cases hl
    have hl0 : H l = none := by rw [upd_ne ndl] at hl; exact hl
    refine lcK (M := []) (l := vsf W) (rds_keys hk2) (fun G v (x : Str) => v = .str x) (fun _ _ _ _ _ e => e) (fun v => if rdf W v = [] then none else some v) hl al_nil (Nat.lt_of_le_of_lt hvl (by decide)) upd_same (fun b H3 Ky Kn hb s4 al4 ky kn => ?_) (fun ys H3 s4 hD3 hp3 => ?_)
    · obtain ⟨a1, g1, e1⟩ := (up s4 hdL).get hb
      refine ⟨rfl, _, rfl, _, rfl, d, _, rfl, g1, Nat.zero_le _, fun e he => ?_⟩
      refine ⟨_, _, (up (.new he) e1).dp, nil_dp (SqL.of upd_same), _, rfl, ?_⟩
      by_cases hem : rdf W b = []
      · exact iteNo (fun q => q hem) (kn _ (if_pos hem) (.new he))
      · exact iteYes hem ⟨_, rfl, ky _ b _ (if_neg hem) (.new he) rfl⟩
    have ey := paired_vals hp3
    subst ey
    have hns : ∀ v ∈ (vsf W).filterMap (fun v => if rdf W v = [] then none else some v), v ∈ vsf W ∧ rdf W v ≠ [] := fun v hv => by
      obtain ⟨u, h1, h2⟩ := List.mem_filterMap.mp hv
      by_cases e : rdf W u = []
      · rw [if_pos e] at h2; cases h2
      · rw [if_neg e] at h2
        cases h2
        exact ⟨h1, e⟩
    have hnsl : ((vsf W).filterMap (fun v => if rdf W v = [] then none else some v)).length ≤ 60 := Nat.le_trans (List.length_filterMap_le _ _) hvl
    generalize (vsf W).filterMap (fun v => if rdf W v = [] then none else some v) = ns at *
    obtain ⟨u1, u2, u3⟩ := unlock_all (N := []) hk1 s4 (by simp)
    refine ⟨u1, ?_⟩
    have hL0 : upd H3 d (.dK kvs) l = some (.lst (ns.map V.str)) := by rw [upd_ne ndl]; exact hD3
    generalize upd H3 d (.dK kvs) = HA at *
    have nlp : l ≠ p := fun e => pot.ne (by rw [← e]; exact hl0)
    refine ⟨_, rfl, Nat.zero_le _, fun e he => ?_⟩
    have sC : Same H (upd HA e (.lst [])) := u2.trans (.new he)
    have hlC := Same.new (o := .lst []) he _ _ hL0
    refine ⟨_, _, LS.dp (SqL.of hlC), nil_dp (SqL.of upd_same), _, rfl, ?_⟩
    by_cases hem0 : ns = []
    · subst hem0
      exact iteNe (kk _ W ((D2.refl pot).same sC) (hg.same sC) rfl pl)
    refine iteEq hem0 ?_
    generalize upd HA e (.lst []) = HC at *
    have hsn : 0 < ns.length := List.length_pos_iff.mpr hem0
    have dC : Dr p H HC := (Dr.refl pot).same sC
    -- one
    refine ⟨_, rfl, _, rfl, _, rfl, l, _, rfl, .inl (SqL.of hlC), p, _, rfl, dC.pot, by rw [List.length_map]; omega, by rw [List.length_map]; omega, fun j H1 hj0 hj1 dj => ?_⟩
    rw [List.length_map] at hj1
    have d1 : Dr p H H1 := dC.trans dj
    obtain ⟨o, ho⟩ : ∃ o, ns[j.toNat]? = some o := ⟨_, List.getElem?_eq_getElem (by omega)⟩
    refine ⟨l, _, _, _, rfl, rfl, SqL.of (dj.get nlp hlC), at_map V.str (j := j.toNat) (by omega) ho, ?_⟩
    obtain ⟨hov, hor⟩ := hns o (List.mem_of_getElem? ho)
    have hrp : 0 < (rdf W o).length := List.length_pos_iff.mpr hor
    have hrl1 := hrl o hov
    have hg1 := hg.dr ndp d1
    obtain ⟨ra, g2w, g1⟩ := hg1.getM hov
    have g2 : LS K H1 ra (rdf W o) := rd g2w
    refine ⟨_, rfl, _, rfl, _, rfl, _, rfl, d, _, rfl, g1 _ (.refl _), _, rfl, _, rfl, _, rfl, d, _, rfl, g1 _ (.refl _), ra, _, rfl, .inl g2, p, _, rfl, d1.pot, by rw [List.length_map]; omega, by rw [List.length_map]; omega, fun j2 H2 hj2 hj3 dj2 => ?_⟩
    rw [List.length_map] at hj3
    have d2 : Dr p H H2 := d1.trans dj2
    have hg2 := hg.dr ndp d2
    have g22 : LS K H2 ra (rdf W o) := up (Dr.wo2 dj2) g2w
    obtain ⟨c, hc⟩ : ∃ c, (rdf W o)[j2.toNat]? = some c := ⟨_, List.getElem?_eq_getElem (by omega)⟩
    have hcm : c ∈ rdf W o := List.mem_of_getElem? hc
    have hdart : (o, c) ∈ darts (vsf W) (rdf W) := mem_darts.mpr ⟨hov, hcm⟩
    obtain ⟨r, hp, hin, hrn, hlr⟩ := fd_path pl hdart
    have hlr2 : r.length ≤ 3600 := by
      have : (vsf W).length * (vsf W).length ≤ 60 * 60 := Nat.mul_le_mul hvl hvl
      omega
    refine ⟨ra, _, _, _, rfl, rfl, g22, at_map V.str (j := j2.toNat) (by omega) hc, d, W, o, c, r, rfl, hg2.rds, pl.wf, hin, hp, hrn, hlr2, fun ls ts H4 s4 hls hL hT => ?_⟩
    have d4 : Dr p H H4 := d2.same s4
    have hlt : ts.length = r.length + 1 := by rw [Paired.length hT]; simp
    have nlsp : ls ≠ p := d2.ne hls
    have hT4 : Paired (T2 K H4) ts ((o, c) :: r) := upp wo_same hT
    have keepT : ∀ {HX : Hp}, Dr p H4 HX → Paired (T2 K HX) ts ((o, c) :: r) := fun {HX} dx => Paired.mapP hT4 fun t z h => by
      have h : H4 t = some (.tup [.str z.1, .str z.2]) := h
      exact dx.get (fun e => by
        obtain ⟨x, y, hx, _⟩ := d4.pot
        rw [e, hx] at h
        cases h) h
    -- first
    refine ⟨_, rfl, _, rfl, _, rfl, ls, _, rfl, .inl (SqL.of hL), p, _, rfl, d4.pot, by rw [List.length_map]; omega, by rw [List.length_map]; omega, fun f1 H5 hf0 hf1 dj5 => ?_⟩
    rw [List.length_map] at hf1
    have hL5 := dj5.get nlsp hL
    obtain ⟨t1, ht1⟩ : ∃ t, ts[f1.toNat]? = some t := ⟨_, List.getElem?_eq_getElem (by omega)⟩
    obtain ⟨⟨fa, fo⟩, hs1, hs1'⟩ := paired_get hT4 _ t1 ht1
    have hfin : (fa, fo) ∈ (o, c) :: r := List.mem_of_getElem? hs1
    refine ⟨ls, _, _, _, rfl, rfl, SqL.of hL5, at_map V.ref (j := f1.toNat) (by omega) ht1, ?_⟩
    refine ⟨_, rfl, _, rfl, _, rfl, ls, _, rfl, .inl (SqL.of hL5), p, _, rfl, dj5.pot, by rw [List.length_map]; omega, by rw [List.length_map]; omega, fun f2 H6 hf2 hf3 dj6 => ?_⟩
    rw [List.length_map] at hf3
    have hL6 := dj6.get nlsp hL5
    obtain ⟨t2, ht2⟩ : ∃ t, ts[f2.toNat]? = some t := ⟨_, List.getElem?_eq_getElem (by omega)⟩
    obtain ⟨⟨sa, so⟩, hs2, hs2'⟩ := paired_get hT4 _ t2 ht2
    have hsin : (sa, so) ∈ (o, c) :: r := List.mem_of_getElem? hs2
    refine ⟨ls, _, _, _, rfl, rfl, SqL.of hL6, at_map V.ref (j := f2.toNat) (by omega) ht2, ?_⟩
    have d6 : Dr p H H6 := (d4.trans dj5).trans dj6
    have hg6 := hg.dr ndp d6
    have hT6 := keepT (dj5.trans dj6)
    have v1 : H6 t1 = some (.tup [.str fa, .str fo]) := by
      obtain ⟨z, q1, q2⟩ := paired_get hT6 _ t1 ht1
      rw [hs1] at q1
      cases q1
      exact q2
    have v2 : H6 t2 = some (.tup [.str sa, .str so]) := by
      obtain ⟨z, q1, q2⟩ := paired_get hT6 _ t2 ht2
      rw [hs2] at q1
      cases q1
      exact q2
    have dt : ∀ x ∈ (o, c) :: r, x.2 ∈ vsf W ∧ x.1 ∈ rdf W x.2 := fun x hx => by
      obtain ⟨c1, c2⟩ := mem_darts.mp (hin x hx)
      obtain ⟨c3, c4, c5⟩ := pl.wf.ties x.1 c1 x.2 c2
      exact ⟨c3, c5⟩
    obtain ⟨hfo, hfa⟩ := dt _ hfin
    obtain ⟨hso, hsa⟩ := dt _ hsin
    have stop : Q .non H6 := kk H6 W ((D2.refl pot).dr d6) hg6 rfl pl
    refine ⟨_, rfl, t1, _, _, _, rfl, rfl, SqT.of v1, rfl, _, rfl, t2, _, _, _, rfl, rfl, SqT.of v2, rfl, rfl, _, rfl, ?_⟩
    by_cases hqo : so = fo
    · subst hqo
      rw [show (!decide (V.str so = V.str so)) = false by simp]
      exact iteF (iteF stop)
    rw [show (!decide (V.str fo = V.str so)) = true by simp [Ne.symm hqo]]
    obtain ⟨rb, e6, g6⟩ := hg6.rds.getS hfo
    refine iteT ⟨_, rfl, t2, _, _, _, rfl, rfl, SqT.of v2, rfl, _, rfl, _, rfl, t1, _, _, _, rfl, rfl, SqT.of v1, rfl, d, _, rfl, g6 _ (.refl _), rb, _, rfl, .inl e6, rfl, flat_strs _, _, rfl, ?_⟩
    rw [inV_str]
    by_cases hqin : so ∈ rdf W fo
    · rw [decide_eq_true hqin]
      exact iteF stop
    rw [decide_eq_false hqin]
    obtain ⟨A1, B1, cr1⟩ := cor_of hfa
    obtain ⟨A2, B2, cr2⟩ := cor_of hsa
    refine iteT ⟨_, rfl, _, rfl, t1, _, _, _, rfl, rfl, SqT.of v1, rfl, _, rfl, t1, _, _, _, rfl, rfl, SqT.of v1, rfl, _, rfl, t2, _, _, _, rfl, rfl, SqT.of v2, rfl, _, rfl, t2, _, _, _, rfl, rfl, SqT.of v2, rfl, p, d, W, fo, so, some fa, some sa, A1, B1, A2, B2, rfl, hg6, d6.pot, ndp, hlen, hfo, hso, fun e => hqo e.symm, hrl _ hfo, hrl _ hso, cr1, cr2, fun H8 s8 hg8 => ?_⟩
    exact kk H8 _ (((D2.refl pot).dr d6).mut s8 ndp) hg8 (vsf_tied2 ..) (chord_pl pl hfo hso hqo hqin cr1 cr2 (path_two hp hfin hsin))
end
end Five
end
section
namespace Five
open PySem PySem.Spec PyProof.Rows L2
open PySem.W (Datum DatumOrd)
theorem keysV {kvs : List (Key × V)} {l : List Str} (h : kvs.map (·.1) = l.map Sum.inr) : kvs.map (fun kv => kV kv.1) = l.map V.str := by
  have := congrArg (List.map kV) h
  rw [List.map_map, List.map_map] at this
  exact this
theorem filterMap_if {l : List Str} {p : Str → Prop} [DecidablePred p] : l.filterMap (fun u => if p u then some u else none) = l.filter (fun u => decide (p u)) := by
  induction l with
  | nil => rfl
  | cons a l ih =>
    by_cases c : p a
    · simp [c, ih]
    · simp [c, ih]
section
variable {P : Program} {w : World} {K : PySem.W.Frag} {mg : Str → Option Value} {base : Heap} {C : Addr} {cx : Nat → Addr}
def spUntied (K : PySem.W.Frag) : Sp := fun vs H Q _ => ∃ (p d : Addr) (W : List Row), vs = [.ref d, .ref p] ∧ GD K p d H W ∧ PotAt H p ∧ d ≠ p ∧ W.length ≤ 60 ∧ Pl (vsf W) (rdf W) ∧
  ∀ (H' : Hp) (W' : List Row), D2 p d H H' → GD K p d H' W' → vsf W' = vsf W → Pl (vsf W') (rdf W') → Q .non H'
theorem ok_law_untied (T : Txt K mg C cx) : Cal P w K mg base 2 "_law_untied" (spUntied K) := by
  refine cal_of T.d_law_untied sc_law_untied (fun vs H Q E h => ?_) (fun f cdv A outer s H vs Q E hr h => ?_)
  · obtain ⟨p, d, W, rfl, _⟩ := h
    rfl
  · obtain ⟨p, d, W, rfl, hg, pot, ndp, hlen, pl, kk⟩ := h
    refine ⟨_, (pss_cons (ps_lock (ps_setLc (i := 2) (own := [("_law_place", 5)]) (by rfl) sc_law_untied.nd rfl rfl (sw_true rfl rfl rfl (by decide +kernel)) (pi_keys (pv 0)) (blkOk_by (own := [("_law_place", 5)]) (N := N_law_untied) (sc := defScope s_law_untied) (by decide +kernel)) (fun _ _ _ _ _ => (pg_name (i := 5) sc_law_untied.nd rfl (Or.inl rfl))) (fun _ _ _ _ _ => (pts_one (pt_cmpR (op_neK (K := K) (List Str) hr.units) (pe_dget (hu_of hr) (pv 0) (pv 5) (fun _ _ => rfl)) (pe_lst pa_nil) (nomark _)))) (fun _ _ _ _ _ => (pv 5))))
      (pss_one (ps_if (pt_cmpR (op_neK (K := K) (List Str) hr.units) (pv 2) (pe_lst pa_nil) (nomark _)) (pss_cons (ps_set (i := 3) sc_law_untied.nd rfl (Or.inr rfl) (pe_ix (ix_listK (K := K)) (pv 2) (pe_c (ok_law_take T) hr (by decide) (by rfl) (pa_cons (pv 1) (pa_cons (pe_callB (call_lenK (K := K)) (by rfl) T.n_len (by decide +kernel) (pa_cons (pv 2) pa_nil)) pa_nil))) (fun _ _ => rfl)))
      (pss_cons (ps_set (i := 4) sc_law_untied.nd rfl (Or.inr rfl) (pe_ix (ix_listK (K := K)) (pe_dget (hu_of hr) (pv 0) (pv 3) (fun _ _ => rfl)) (pe_c (ok_law_take T) hr (by decide) (by rfl) (pa_cons (pv 1) (pa_cons (pe_callB (call_lenK (K := K)) (by rfl) T.n_len (by decide +kernel) (pa_cons (pe_dget (hu_of hr) (pv 0) (pv 3) (fun _ _ => rfl)) pa_nil)) pa_nil))) (fun _ _ => rfl)))
      (pss_cons (ps_dput (hu_of hr) (pv 0) (pv 3) (pe_lc (own := [("_law_place", 5)]) (by rfl) sc_law_untied.nd (pi_list (pe_dget (hu_of hr) (pv 0) (pv 3) (fun _ _ => rfl))) (blkOk_by (own := [("_law_place", 5)]) (N := N_law_untied) (sc := defScope s_law_untied) (by decide +kernel)) (fun _ _ _ _ _ => (pg_name (i := 5) sc_law_untied.nd rfl (Or.inl rfl))) (fun _ _ _ _ _ => (pts_one (pt_cmpR op_ne (pv 5) (pv 4) (nomark _)))) (fun _ _ _ _ _ => (pv 5))) rfl)
      (pss_one (ps_dput (hu_of hr) (pv 0) (pv 4) (pe_lc (own := [("_law_place", 5)]) (by rfl) sc_law_untied.nd (pi_list (pe_dget (hu_of hr) (pv 0) (pv 4) (fun _ _ => rfl))) (blkOk_by (own := [("_law_place", 5)]) (N := N_law_untied) (sc := defScope s_law_untied) (by decide +kernel)) (fun _ _ _ _ _ => (pg_name (i := 5) sc_law_untied.nd rfl (Or.inl rfl))) (fun _ _ _ _ _ => (pts_one (pt_cmpR op_ne (pv 5) (pv 3) (nomark _)))) (fun _ _ _ _ _ => (pv 5))) rfl))))) pss_nil))), ?_⟩
    have hvl : (vsf W).length ≤ 60 := by rw [List.length_map]; exact hlen
    have hrl : ∀ v ∈ vsf W, (rdf W v).length ≤ 60 := fun v hv => Nat.le_trans (nodup_le (pl.wf.rn v hv) fun u hu => (pl.wf.ties v hv u hu).1) hvl
    obtain ⟨kvs, hk1, hkP⟩ := id hg
    have hk2 : Paired (RowKV K H) kvs W := Paired.mapP hkP fun _ _ q => rowKV_up wo_same.sm q
    -- the places with ties
    refine ⟨d, .dK kvs, hk1, trivial, fun od => ?_⟩
    have sL : Sm H (upd H d (.frz od (.dK kvs))) := lock_sm hk1 trivial id
    have hdL : RdsAt K (upd H d (.frz od (.dK kvs))) d W := Mn.up sL hg.rds
    refine ⟨_, rfl, d, od, rfl, .inl ⟨kvs, upd_same, fun l hl => ?_⟩⟩
    have ndl : l ≠ d := fun e => by rw [e, upd_same] at hl; cases hl
    have hl0 : H l = none := by rw [upd_ne ndl] at hl; exact hl
    refine lcK (M := []) (l := vsf W) (rds_keys hk2) (fun G v (x : Str) => v = .str x) (fun _ _ _ _ _ e => e) (fun v => if rdf W v = [] then none else some v) hl al_nil (Nat.lt_of_le_of_lt hvl (by decide)) upd_same (fun b H3 Ky Kn hb s4 al4 ky kn => ?_) (fun ys H3 s4 hD3 hp3 => ?_)
    · obtain ⟨a1, g1, e1⟩ := (up s4 hdL).get hb
      refine ⟨rfl, _, rfl, _, rfl, d, _, rfl, g1, Nat.zero_le _, fun e he => ?_⟩
      refine ⟨_, _, (up (.new he) e1).dp, nil_dp (SqL.of upd_same), _, rfl, ?_⟩
      by_cases hem : rdf W b = []
      · exact iteNo (fun q => q hem) (kn _ (if_pos hem) (.new he))
      · exact iteYes hem ⟨_, rfl, ky _ b _ (if_neg hem) (.new he) rfl⟩
    have ey := paired_vals hp3
    subst ey
    have hns : ∀ v ∈ (vsf W).filterMap (fun v => if rdf W v = [] then none else some v), v ∈ vsf W ∧ rdf W v ≠ [] := fun v hv => by
      obtain ⟨u, h1, h2⟩ := List.mem_filterMap.mp hv
      by_cases e : rdf W u = []
      · rw [if_pos e] at h2; cases h2
      · rw [if_neg e] at h2
        cases h2
        exact ⟨h1, e⟩
    have hnsl : ((vsf W).filterMap (fun v => if rdf W v = [] then none else some v)).length ≤ 60 := Nat.le_trans (List.length_filterMap_le _ _) hvl
    generalize (vsf W).filterMap (fun v => if rdf W v = [] then none else some v) = ns at *
    obtain ⟨u1, u2, u3⟩ := unlock_all (N := []) hk1 s4 (by simp)
    refine ⟨u1, ?_⟩
    have hL0 : upd H3 d (.dK kvs) l = some (.lst (ns.map V.str)) := by rw [upd_ne ndl]; exact hD3
    generalize upd H3 d (.dK kvs) = HA at *
    have nlp : l ≠ p := fun e => pot.ne (by rw [← e]; exact hl0)
    refine ⟨_, rfl, Nat.zero_le _, fun e he => ?_⟩
    have sC : Same H (upd HA e (.lst [])) := u2.trans (.new he)
    have hlC := Same.new (o := .lst []) he _ _ hL0
    refine ⟨_, _, LS.dp (SqL.of hlC), nil_dp (SqL.of upd_same), _, rfl, ?_⟩
    by_cases hem0 : ns = []
    · subst hem0
      exact iteNe (kk _ W ((D2.refl pot).same sC) (hg.same sC) rfl pl)
    refine iteEq hem0 ?_
    generalize upd HA e (.lst []) = HC at *
    have hsn : 0 < ns.length := List.length_pos_iff.mpr hem0
    have dC : Dr p H HC := (Dr.refl pot).same sC
    -- one
    refine ⟨_, rfl, _, rfl, _, rfl, l, _, rfl, .inl (SqL.of hlC), p, _, rfl, dC.pot, by rw [List.length_map]; omega, by rw [List.length_map]; omega, fun j H1 hj0 hj1 dj => ?_⟩
    rw [List.length_map] at hj1
    have d1 : Dr p H H1 := dC.trans dj
    obtain ⟨o, ho⟩ : ∃ o, ns[j.toNat]? = some o := ⟨_, List.getElem?_eq_getElem (by omega)⟩
    refine ⟨l, _, _, _, rfl, rfl, SqL.of (dj.get nlp hlC), at_map V.str (j := j.toNat) (by omega) ho, ?_⟩
    obtain ⟨hov, hor⟩ := hns o (List.mem_of_getElem? ho)
    have hrp : 0 < (rdf W o).length := List.length_pos_iff.mpr hor
    have hrl1 := hrl o hov
    have hg1 := hg.dr ndp d1
    obtain ⟨ra, g2w, g1⟩ := hg1.getM hov
    have g2 : LS K H1 ra (rdf W o) := rd g2w
    refine ⟨_, rfl, _, rfl, d, _, rfl, g1 _ (.refl _), _, rfl, _, rfl, _, rfl, d, _, rfl, g1 _ (.refl _), ra, _, rfl, .inl g2, p, _, rfl, d1.pot, by rw [List.length_map]; omega, by rw [List.length_map]; omega, fun j2 H2 hj2 hj3 dj2 => ?_⟩
    rw [List.length_map] at hj3
    have d2 : Dr p H H2 := d1.trans dj2
    have hg2 := hg.dr ndp d2
    have g22 : LS K H2 ra (rdf W o) := up (Dr.wo2 dj2) g2w
    obtain ⟨c, hc⟩ : ∃ c, (rdf W o)[j2.toNat]? = some c := ⟨_, List.getElem?_eq_getElem (by omega)⟩
    have hcm : c ∈ rdf W o := List.mem_of_getElem? hc
    refine ⟨ra, _, _, _, rfl, rfl, g22, at_map V.str (j := j2.toNat) (by omega) hc, ?_⟩
    obtain ⟨hcv, hco, hoc⟩ := pl.wf.ties o hov c hcm
    -- the one round, the other round
    obtain ⟨kvs2, hk2', hkP2⟩ := id hg2
    obtain ⟨rb, g3w, g3⟩ := hg2.getM hov
    have D2' : D2 p d H H2 := (D2.refl pot).dr d2
    have hszW : ∀ {HX : Hp} {kx : List (Key × V)} {WX : List Row}, HX d = some (.dK kx) → GD K p d HX WX → vsf WX = vsf W → kx.length < sizeLine := fun {HX kx WX} h1 h2 h3 => by
      rw [GD.size h1 h2, ← List.length_map (f := (·.1)) (as := WX), show WX.map (·.1) = vsf W from h3]
      exact Nat.lt_of_le_of_lt hvl (by decide)
    refine ⟨_, rfl, _, rfl, d, _, rfl, g3 _ (.refl _), rb, rfl, ⟨_, rd g3w⟩, fun D hD => ?_⟩
    refine lcL (K := K) (M := []) (paired_map V.str (rdf W o)) (fun G v r => v = .str r) (fun _ _ _ _ _ e => e) (fun u => if u ≠ c then some u else none) hD al_nil (Nat.lt_of_le_of_lt (hrl o hov) (by decide)) (rd g3w) (fun v u H3 Ky Kn hb e s3 al3 ky kn => ?_) (fun ys H3' s3 hD3 hp3 => ?_)
    · subst e
      refine ⟨rfl, _, rfl, _, rfl, rfl, _, rfl, ?_⟩
      by_cases q : u = c
      · rw [q, show (!decide (V.str c = V.str c)) = false by simp]
        exact iteF (kn _ (if_neg fun z => z q) (.refl _))
      · rw [show (!decide (V.str u = V.str c)) = true by simp [q]]
        exact iteT ⟨_, rfl, ky _ u _ (if_pos q) (.refl _) rfl⟩
    rw [filterMap_if] at hp3
    have hk3 := s3 _ _ hk2'
    refine ⟨_, rfl, _, rfl, d, _, rfl, DPut.k (k := Sum.inr o) hk3 (hszW hk2' hg2 rfl), ?_⟩
    have hgN := GD.fin2 (v := o) s3 hg2 hk2' d2.pot hov hD hD3 (paired_vals hp3)
    have DN : D2 p d H (upd H3' d (.dK (putK kvs2 (Sum.inr o) (.ref D)))) := (D2'.same s3).mut (GD.fin1 (.refl _)) ndp
    generalize upd H3' d (.dK (putK kvs2 (Sum.inr o) (.ref D))) = HN at *
    generalize eW1 : setR W o ((rdf W o).filter fun u => decide (u ≠ c)) = W1 at *
    have ev1 : vsf W1 = vsf W := by rw [← eW1, vsf_setR]
    have er1 : rdf W1 c = rdf W c := by rw [← eW1]; exact rdf_setR_ne hco
    have hcv1 : c ∈ vsf W1 := by rw [ev1]; exact hcv
    obtain ⟨kvs3, hk4, hkP4⟩ := id hgN
    obtain ⟨rc, g4w, g4⟩ := hgN.getM hcv1
    rw [er1] at g4w
    refine ⟨_, rfl, _, rfl, d, _, rfl, g4 _ (.refl _), rc, rfl, ⟨_, rd g4w⟩, fun D' hD' => ?_⟩
    refine lcL (K := K) (M := []) (paired_map V.str (rdf W c)) (fun G v r => v = .str r) (fun _ _ _ _ _ e => e) (fun u => if u ≠ o then some u else none) hD' al_nil (Nat.lt_of_le_of_lt (hrl c hcv) (by decide)) (rd g4w) (fun v u H3 Ky Kn hb e s3 al3 ky kn => ?_) (fun ys H5' s5 hD5 hp5 => ?_)
    · subst e
      refine ⟨rfl, _, rfl, _, rfl, rfl, _, rfl, ?_⟩
      by_cases q : u = o
      · rw [q, show (!decide (V.str o = V.str o)) = false by simp]
        exact iteF (kn _ (if_neg fun z => z q) (.refl _))
      · rw [show (!decide (V.str u = V.str o)) = true by simp [q]]
        exact iteT ⟨_, rfl, ky _ u _ (if_pos q) (.refl _) rfl⟩
    rw [filterMap_if] at hp5
    refine ⟨_, rfl, _, rfl, d, _, rfl, DPut.k (k := Sum.inr c) (s5 _ _ hk4) (hszW hk4 hgN ev1), ?_⟩
    refine kk _ (setR W1 c ((rdf W c).filter fun u => decide (u ≠ o))) ((DN.same s5).mut (GD.fin1 (.refl _)) ndp) (GD.fin2 (v := c) s5 hgN hk4 DN.pot hcv1 hD' hD5 (paired_vals hp5)) (by rw [vsf_setR, ev1]) ?_
    rw [vsf_setR, ev1]
    refine pl.cut (o := o) (q := c) ⟨hov, hcm, ?_, ?_, fun v hv h1 h2 => ?_⟩
    · rw [rdf_setR_ne (fun e => hco e.symm), ← eW1, rdf_setR_eq hov]
    · rw [rdf_setR_eq hcv1]
    · rw [rdf_setR_ne h2, ← eW1, rdf_setR_ne h1]
end
end Five
end
section
namespace Five
open PySem PySem.Spec PyProof.Rows L2
open PySem.W (Datum DatumOrd)
theorem paired_td {α : Type} {R : Addr → α → Prop} {as : List Addr} {xs : List α} (h : Paired R as xs) : ∀ n : Nat, Paired R (as.take n) (xs.take n) ∧ Paired R (as.drop n) (xs.drop n) := by
  induction h with
  | nil => intro n; simp; exact .nil
  | cons r t ih =>
    intro n
    cases n with
    | zero => exact ⟨.nil, .cons r t⟩
    | succ n => exact ⟨.cons r (ih n).1, (ih n).2⟩
theorem tied2_mono {W : List Row} {o q : Str} {co ca : Option Str} {A B A2 B2 : List Str} (ho : o ∈ vsf W) (hq : q ∈ vsf W) (hqo : o ≠ q) (c1 : Cor (rdf W o) co A B) (c2 : Cor (rdf W q) ca A2 B2) {v u : Str} (h : u ∈ rdf W v) : u ∈ rdf (tied2 W o q A B A2 B2) v := by
  unfold tied2
  by_cases e : v = q
  · subst e
    rw [rdf_setR_eq (by rw [vsf_setR]; exact hq)]
    rw [c2.app] at h
    rcases List.mem_append.mp h with z | z
    · exact List.mem_append_left _ z
    · exact List.mem_append_right _ (List.mem_cons_of_mem _ z)
  · rw [rdf_setR_ne e]
    by_cases e2 : v = o
    · subst e2
      rw [rdf_setR_eq ho]
      rw [c1.app] at h
      rcases List.mem_append.mp h with z | z
      · exact List.mem_append_left _ z
      · exact List.mem_append_right _ (List.mem_cons_of_mem _ z)
    · rw [rdf_setR_ne e2]; exact h
section
variable {P : Program} {w : World} {K : PySem.W.Frag} {mg : Str → Option Value} {base : Heap} {C : Addr} {cx : Nat → Addr}
def spFilled (K : PySem.W.Frag) : Sp := fun vs H Q _ => ∃ (p d : Addr) (W : List Row), vs = [.ref d] ∧ GD K p d H W ∧ PotAt H p ∧ d ≠ p ∧ W.length ≤ 60 ∧ Pl (vsf W) (rdf W) ∧
  ∀ (H' : Hp) (W' : List Row), D2 p d H H' → GD K p d H' W' → vsf W' = vsf W → Pl (vsf W') (rdf W') → Q .non H'
theorem ok_law_filled (T : Txt K mg C cx) : Cal P w K mg base 3 "_law_filled" (spFilled K) := by
  refine cal_of T.d_law_filled sc_law_filled (fun vs H Q E h => ?_) (fun f cdv A outer s H vs Q E hr h => ?_)
  · obtain ⟨p, d, W, rfl, _⟩ := h
    rfl
  · obtain ⟨p, d, W, rfl, hg, pot, ndp, hlen, pl, kk⟩ := h
    refine ⟨_, (pss_one (ps_for PassesOwn.never (by rfl) (pi_list (pe_callTy (call_listD rfl) (by rfl) T.n_list (by decide +kernel) (pa_cons (pv 0) pa_nil))) (pg_name (i := 1) sc_law_filled.nd rfl (Or.inl rfl)) (pss_one (ps_for PassesOwn.never (by rfl) (pi_list (pe_callTy (call_listK (K := K)) (by rfl) T.n_list (by decide +kernel) (pa_cons (pe_dget (hu_of hr) (pv 0) (pv 1) (fun _ _ => rfl)) pa_nil))) (pg_name (i := 2) sc_law_filled.nd rfl (Or.inl rfl)) (pss_cons (ps_set (i := 3) sc_law_filled.nd rfl (Or.inl rfl) (pe_c (ok_law_face T) hr (by decide) (by rfl) (pa_cons (pv 0) (pa_cons (pv 1) (pa_cons (pv 2) pa_nil)))))
      (pss_cons (ps_set (i := 4) sc_law_filled.nd rfl (Or.inl rfl) (pe_ix (ix_listK (K := K)) (pv 3) pe_int (fun _ _ => rfl)))
      (pss_one (ps_for PassesOwn.never (by rfl) (pi_list (pe_slice (sl_listK (K := K)) (pv 3) (po_some pe_int) po_none)) (pg_name (i := 5) sc_law_filled.nd rfl (Or.inl rfl)) (pss_one (ps_if (PW.pt (pw_and (pt_cmpR op_ne (pe_ix (ix_tupK (K := K)) (pv 4) pe_int (fun _ _ => rfl)) (pe_ix (ix_tupK (K := K)) (pv 5) pe_int (fun _ _ => rfl)) (nomark _)) (pw_and1 (pt_cmpR (op_notInK (K := K)) (pe_ix (ix_tupK (K := K)) (pv 5) pe_int (fun _ _ => rfl)) (pe_dget (hu_of hr) (pv 0) (pe_ix (ix_tupK (K := K)) (pv 4) pe_int (fun _ _ => rfl)) (fun _ _ => rfl)) (by rfl))))) (pss_one (ps_expr (pe_c (ok_law_put T) hr (by decide) (by rfl) (pa_cons (pv 0) (pa_cons (pe_ix (ix_tupK (K := K)) (pv 4) pe_int (fun _ _ => rfl)) (pa_cons (pe_ix (ix_tupK (K := K)) (pv 4) pe_int (fun _ _ => rfl)) (pa_cons (pe_ix (ix_tupK (K := K)) (pv 5) pe_int (fun _ _ => rfl)) (pa_cons (pe_ix (ix_tupK (K := K)) (pv 5) pe_int (fun _ _ => rfl)) pa_nil)))))))) pss_nil)))))))))), ?_⟩
    have hvl : (vsf W).length ≤ 60 := by rw [List.length_map]; exact hlen
    have hrlX : ∀ {WX : List Row}, vsf WX = vsf W → Pl (vsf WX) (rdf WX) → ∀ v ∈ vsf WX, (rdf WX v).length ≤ 60 := fun {WX} e pX v hv => Nat.le_trans (nodup_le (pX.wf.rn v hv) fun u hu => (pX.wf.ties v hv u hu).1) (by rw [e]; exact hvl)
    have hlX : ∀ {WX : List Row}, vsf WX = vsf W → WX.length ≤ 60 := fun {WX} e => by
      have := congrArg List.length e
      rw [List.length_map] at this
      omega
    obtain ⟨kvs, hk1, hkP⟩ := id hg
    refine ⟨_, rfl, d, kvs, rfl, .inl hk1, fun q hq => ?_⟩
    rw [keysV (rds_keys hkP)]
    have nqd : q ≠ d := fun e => by rw [e] at hq; exact hg.ne hq
    have nqp : q ≠ p := fun e => by rw [e] at hq; exact pot.ne hq
    have s1 : Same H (upd H q (.lst ((vsf W).map V.str))) := .new hq
    have hqv : upd H q (.lst ((vsf W).map V.str)) q = some (.lst ((vsf W).map V.str)) := upd_same
    generalize upd H q (.lst ((vsf W).map V.str)) = H1 at *
    have D1 : D2 p d H H1 := (D2.refl pot).same s1
    refine ⟨q, rfl, ⟨_, SqL.of hqv⟩, for_list (K := K) (a := q) (xs := (vsf W).map V.str) (fun i σ H' => ∃ (WX : List Row) (y1 y2 y3 y4 y5 : Option V), σ = [some (.ref d), y1, y2, y3, y4, y5] ∧ D2 p d H H' ∧ H' q = some (.lst ((vsf W).map V.str)) ∧ GD K p d H' WX ∧ vsf WX = vsf W ∧ Pl (vsf WX) (rdf WX)) ?_ ?_ ?_ ?_⟩
    · exact ⟨W, _, _, _, _, _, rfl, D1, hqv, hg.same s1, rfl, pl⟩
    · rintro i σ H' _ ⟨_, _, _, _, _, _, _, _, z, _⟩
      exact SqL.of z
    · rintro i z σ H2 hi ⟨WX, y1, y2, y3, y4, y5, rfl, a2, hQ2, hg2, ev2, pl2⟩
      obtain ⟨pv, hpv, rfl⟩ := item_str hi
      have hpX : pv ∈ vsf WX := by rw [ev2]; exact List.mem_of_getElem? hpv
      obtain ⟨ra, gw, g1⟩ := hg2.getM hpX
      refine ⟨_, rfl, _, rfl, d, _, rfl, g1 _ (.refl _), ra, _, rfl, .inl (rd gw), fun c hc => ?_⟩
      have ncd : c ≠ d := fun e => hg2.ne (by rw [← e]; exact hc)
      have ncp : c ≠ p := fun e => a2.pot.ne (by rw [← e]; exact hc)
      have ncq : c ≠ q := fun e => by rw [e, hQ2] at hc; cases hc
      have s3 : Same H2 (upd H2 c (.lst ((rdf WX pv).map V.str))) := .new hc
      have hcv : upd H2 c (.lst ((rdf WX pv).map V.str)) c = some (.lst ((rdf WX pv).map V.str)) := upd_same
      generalize upd H2 c (.lst ((rdf WX pv).map V.str)) = H3 at *
      refine ⟨c, rfl, ⟨_, SqL.of hcv⟩, for_list (K := K) (a := c) (xs := (rdf WX pv).map V.str) (fun i σ H' => ∃ (WY : List Row) (y2 y3 y4 y5 : Option V), σ = [some (.ref d), some (.str pv), y2, y3, y4, y5] ∧ D2 p d H H' ∧ H' q = some (.lst ((vsf W).map V.str)) ∧ H' c = some (.lst ((rdf WX pv).map V.str)) ∧ GD K p d H' WY ∧ vsf WY = vsf W ∧ Pl (vsf WY) (rdf WY) ∧ ∀ v u, u ∈ rdf WX v → u ∈ rdf WY v) ?_ ?_ ?_ ?_⟩
      · exact ⟨WX, _, _, _, _, rfl, a2.same s3, s3 _ _ hQ2, hcv, hg2.same s3, ev2, pl2, fun _ _ h => h⟩
      · rintro i σ H' _ ⟨_, _, _, _, _, _, _, _, z, _⟩
        exact SqL.of z
      · rintro i2 z σ H4 hi2 ⟨WY, y2, y3, y4, y5, rfl, a4, hQ4, hC4, hg4, ev4, pl4, mono4⟩
        obtain ⟨ov, hov, rfl⟩ := item_str hi2
        have hpY : pv ∈ vsf WY := by rw [ev4, ← ev2]; exact hpX
        have hoY : ov ∈ rdf WY pv := mono4 _ _ (List.mem_of_getElem? hov)
        have hdart : (pv, ov) ∈ darts (vsf WY) (rdf WY) := mem_darts.mpr ⟨hpY, hoY⟩
        obtain ⟨r, hp, hin, hrn, hlr⟩ := fd_path pl4 hdart
        have hlr2 : r.length ≤ 3600 := by
          have : (vsf WY).length * (vsf WY).length ≤ 60 * 60 := by rw [ev4]; exact Nat.mul_le_mul hvl hvl
          omega
        refine ⟨_, rfl, _, rfl, _, rfl, d, WY, pv, ov, r, rfl, hg4.rds, pl4.wf, hin, hp, hrn, hlr2, fun ls ts H5 s5 hls hL hT => ?_⟩
        have hT5 : Paired (T2 K H5) ts ((pv, ov) :: r) := upp wo_same hT
        obtain ⟨t0, ts', rfl⟩ : ∃ t0 ts', ts = t0 :: ts' := by
          cases hT5 with
          | cons _ _ => exact ⟨_, _, rfl⟩
        have ht0 : H5 t0 = some (.tup [.str pv, .str ov]) := by cases hT5 with | cons h _ => exact h
        have hTr : Paired (T2 K H5) ts' r := by cases hT5 with | cons _ h => exact h
        have a5 := a4.same s5
        refine ⟨_, rfl, ls, _, 0, _, rfl, rfl, SqL.of hL, at_map V.ref (l := t0 :: ts') (j := 0) rfl rfl, ?_⟩
        refine ⟨_, rfl, _, rfl, ls, _, rfl, SqL.of hL, fun c2 hc2 => ?_⟩
        have ecut : cutV ((t0 :: ts').map V.ref) (some (2 : Int)) none = (ts'.drop 1).map V.ref := by
          rw [show (2 : Int) = ((2 : Nat) : Int) from rfl, cut_from, List.map_cons, List.map_drop]
          rfl
        rw [ecut]
        have s6 : Same H5 (upd H5 c2 (.lst ((ts'.drop 1).map V.ref))) := .new hc2
        have hc2v : upd H5 c2 (.lst ((ts'.drop 1).map V.ref)) c2 = some (.lst ((ts'.drop 1).map V.ref)) := upd_same
        have hg5 := hg4.same s5
        have nc2d : c2 ≠ d := fun e => hg5.ne (by rw [← e]; exact hc2)
        have nc2p : c2 ≠ p := fun e => a5.pot.ne (by rw [← e]; exact hc2)
        have hTr6 : Paired (T2 K (upd H5 c2 (.lst ((ts'.drop 1).map V.ref)))) (ts'.drop 1) (r.drop 1) := (paired_td (upp s6 hTr) 1).2
        have ht06 := s6 _ _ ht0
        generalize upd H5 c2 (.lst ((ts'.drop 1).map V.ref)) = H6 at *
        have a6 := a5.same s6
        have hg6 := hg5.same s6
        have hQ6 := s6 _ _ (s5 _ _ hQ4)
        have hC6 := s6 _ _ (s5 _ _ hC4)
        obtain ⟨kv6, hk6, _⟩ := id hg6
        have keep : ∀ {HX : Hp}, D2 p d H6 HX → ∀ {t : Addr} {xs : List V}, H6 t = some (.tup xs) → HX t = some (.tup xs) := fun {HX} aX {t xs} h => by
          refine aX.get (fun e => ?_) (fun e => ?_) h
          · rw [e, hk6] at h; cases h
          · obtain ⟨x, y, hx, _⟩ := a6.pot
            rw [e, hx] at h; cases h
        have fil0 : Fil (vsf WY) (rdf WY) pv ov (r.drop 1) := Fil.start (X := r.take 1) pl4 (by rw [List.take_append_drop]; exact hin) (by rw [List.take_append_drop]; exact hp) (by rw [List.take_append_drop]; exact hrn)
        refine ⟨c2, rfl, ⟨_, SqL.of hc2v⟩, for_list (K := K) (a := c2) (xs := (ts'.drop 1).map V.ref) (fun i σ H' => ∃ (WZ : List Row) (y5 : Option V), σ = [some (.ref d), some (.str pv), some (.str ov), some (.ref ls), some (.ref t0), y5] ∧ D2 p d H6 H' ∧ GD K p d H' WZ ∧ vsf WZ = vsf W ∧ Fil (vsf WZ) (rdf WZ) pv ov ((r.drop 1).drop i) ∧ ∀ v u, u ∈ rdf WX v → u ∈ rdf WZ v) ?_ ?_ ?_ ?_⟩
        · exact ⟨WY, _, rfl, .refl a6.pot, hg6, ev4, fil0, mono4⟩
        · rintro i σ H' _ ⟨_, _, _, a, _⟩
          exact SqL.of (a.get nc2d nc2p hc2v)
        · rintro i3 z σ H7 hi3 ⟨WZ, y5, rfl, a7, hg7, ev7, fil, mono7⟩
          obtain ⟨t, ht, rfl⟩ := item_ref hi3
          obtain ⟨⟨sp, sq⟩, hs1, hs2⟩ := paired_get hTr6 i3 t ht
          have vt := keep a7 (show H6 t = some (.tup [.str sp, .str sq]) from hs2)
          have v0 := keep a7 ht06
          have eD : (r.drop 1).drop i3 = (sp, sq) :: (r.drop 1).drop (i3 + 1) := by
            obtain ⟨h1, h2⟩ := List.getElem?_eq_some_iff.mp hs1
            rw [List.drop_eq_getElem_cons h1, h2]
          rw [eD] at fil
          obtain ⟨hsq, hsp⟩ := fil.at' (sp, sq) List.mem_cons_self
          have hsq : sq ∈ vsf WZ := hsq
          have hsp : sp ∈ rdf WZ sq := hsp
          have stop : ∃ (WZ : List Row) (y5 : Option V), [some (.ref d), some (.str pv), some (.str ov), some (.ref ls), some (.ref t0), some (.ref t)] = [some (V.ref d), some (.str pv), some (.str ov), some (.ref ls), some (.ref t0), y5] ∧ D2 p d H6 H7 ∧ GD K p d H7 WZ ∧ vsf WZ = vsf W ∧ Fil (vsf WZ) (rdf WZ) pv ov ((r.drop 1).drop (i3 + 1)) ∧ ∀ v u, u ∈ rdf WX v → u ∈ rdf WZ v := ⟨WZ, _, rfl, a7, hg7, ev7, fil.skip, mono7⟩
          refine ⟨_, rfl, t0, _, _, _, rfl, rfl, SqT.of v0, rfl, _, rfl, t, _, _, _, rfl, rfl, SqT.of vt, rfl, rfl, _, rfl, ?_⟩
          by_cases hqo : sq = ov
          · rw [hqo, show (!decide (V.str ov = V.str ov)) = false by simp]
            exact iteF (iteF stop)
          rw [show (!decide (V.str ov = V.str sq)) = true by simp [Ne.symm hqo]]
          obtain ⟨rb, e6, g6⟩ := hg7.rds.getS fil.oo
          refine iteT ⟨_, rfl, t, _, _, _, rfl, rfl, SqT.of vt, rfl, _, rfl, _, rfl, t0, _, _, _, rfl, rfl, SqT.of v0, rfl, d, _, rfl, g6 _ (.refl _), rb, _, rfl, .inl e6, rfl, flat_strs _, _, rfl, ?_⟩
          rw [inV_str]
          by_cases hqin : sq ∈ rdf WZ ov
          · rw [decide_eq_true hqin]
            exact iteF stop
          rw [decide_eq_false hqin]
          obtain ⟨A1, B1, cr1⟩ := cor_of fil.ao
          obtain ⟨A2, B2, cr2⟩ := cor_of hsp
          refine iteT ⟨_, rfl, _, rfl, t0, _, _, _, rfl, rfl, SqT.of v0, rfl, _, rfl, t0, _, _, _, rfl, rfl, SqT.of v0, rfl, _, rfl, t, _, _, _, rfl, rfl, SqT.of vt, rfl, _, rfl, t, _, _, _, rfl, rfl, SqT.of vt, rfl, p, d, WZ, ov, sq, some pv, some sp, A1, B1, A2, B2, rfl, hg7, a7.pot, ndp, hlX ev7, fil.oo, hsq, fun e => hqo e.symm, hrlX ev7 fil.pl _ fil.oo, hrlX ev7 fil.pl _ hsq, cr1, cr2, fun H8 s8 hg8 => ?_⟩
          refine ⟨tied2 WZ ov sq A1 B1 A2 B2, _, rfl, a7.mut s8 ndp, hg8, by rw [vsf_tied2]; exact ev7, ?_, fun v u h => tied2_mono fil.oo hsq (fun e => hqo e.symm) cr1 cr2 (mono7 v u h)⟩
          rw [vsf_tied2]
          obtain ⟨A', rfl, _, e1⟩ := cr1
          obtain ⟨C', rfl, _, e2⟩ := cr2
          refine fil.tie (A := A') (B := B1) (C := C') (D := B2) hqo hqin (by rw [e1]; simp) ?_ (by rw [e2]; simp) ?_ (fun v hv h1 h2 => ?_)
          · unfold tied2
            rw [rdf_setR_ne (fun e => hqo e.symm), rdf_setR_eq fil.oo]; simp
          · unfold tied2
            rw [rdf_setR_eq (by rw [vsf_setR]; exact hsq)]; simp
          · unfold tied2
            rw [rdf_setR_ne h2, rdf_setR_ne h1]
        · rintro σ H7 ⟨WZ, y5, rfl, a7, hg7, ev7, fil, mono7⟩
          exact ⟨WZ, _, _, _, _, rfl, a6.trans a7, a7.get nqd nqp hQ6, a7.get ncd ncp hC6, hg7, ev7, fil.pl, mono7⟩
      · rintro σ H4 ⟨WY, y2, y3, y4, y5, rfl, a4, hQ4, hC4, hg4, ev4, pl4, mono4⟩
        exact ⟨WY, _, _, _, _, _, rfl, a4, hQ4, hg4, ev4, pl4⟩
    · rintro σ H2 ⟨WX, y1, y2, y3, y4, y5, rfl, a2, hQ2, hg2, ev2, pl2⟩
      exact kk H2 WX a2 hg2 ev2 pl2
end
end Five
end
section
namespace Five
open PySem PySem.Spec PyProof.Rows L2
open PySem.W (Datum DatumOrd)
section
variable {P : Program} {w : World} {K : PySem.W.Frag} {mg : Str → Option Value} {base : Heap} {C : Addr} {cx : Nat → Addr}
def spGrown (K : PySem.W.Frag) : Sp := fun vs H Q _ => ∃ (p ln : Addr) (names : List Str), vs = [.ref p, .ref ln] ∧ PotAt H p ∧ H ln = some (.lst (names.map V.str)) ∧ names.Nodup ∧ names.length ≤ 26 ∧
  ∀ (d : Addr) (W : List Row) (H' : Hp), Dr p H H' → H d = none → d ≠ p → GD K p d H' W → vsf W = names → Pl (vsf W) (rdf W) → Q (.ref d) H'
theorem ok_law_grown (T : Txt K mg C cx) : Cal P w K mg base 2 "_law_grown" (spGrown K) := by
  refine cal_of T.d_law_grown sc_law_grown (fun vs H Q E h => ?_) (fun f cdv A outer s H vs Q E hr h => ?_)
  · obtain ⟨p, ln, names, rfl, _⟩ := h
    rfl
  · obtain ⟨p, ln, names, rfl, pot, hln, hnn, hnl, kk⟩ := h
    refine ⟨_, (pss_cons (ps_set (i := 2) sc_law_grown.nd rfl (Or.inl rfl) pe_dnewK)
      (pss_cons (ps_for PassesOwn.never (by rfl) (pi_list (pv 1)) (pg_name (i := 3) sc_law_grown.nd rfl (Or.inl rfl)) (pss_cons (ps_set (i := 4) sc_law_grown.nd rfl (Or.inl rfl) (pe_callTy (call_listD rfl) (by rfl) T.n_list (by decide +kernel) (pa_cons (pv 2) pa_nil)))
      (pss_cons (ps_dput (hu_of hr) (pv 2) (pv 3) (pe_lst pa_nil) rfl)
      (pss_one (ps_if (PW.pt (pw_and (pt_cmpR (op_neK (K := K) (List Str) hr.units) (pv 4) (pe_lst pa_nil) (nomark _)) (pw_and1 (pt_cmpR op_gt (pe_c (ok_law_take T) hr (by decide) (by rfl) (pa_cons (pv 0) (pa_cons pe_int pa_nil))) pe_int (nomark _))))) (pss_cons (ps_set (i := 5) sc_law_grown.nd rfl (Or.inl rfl) (pe_ix (ix_listK (K := K)) (pv 4) (pe_c (ok_law_take T) hr (by decide) (by rfl) (pa_cons (pv 0) (pa_cons (pe_callB (call_lenK (K := K)) (by rfl) T.n_len (by decide +kernel) (pa_cons (pv 4) pa_nil)) pa_nil))) (fun _ _ => rfl)))
      (pss_cons (ps_set (i := 6) sc_law_grown.nd rfl (Or.inl rfl) pe_non)
      (pss_cons (ps_if (pt_cmpR (op_neK (K := K) (List Str) hr.units) (pe_dget (hu_of hr) (pv 2) (pv 5) (fun _ _ => rfl)) (pe_lst pa_nil) (nomark _)) (pss_one (ps_set (i := 6) sc_law_grown.nd rfl (Or.inl rfl) (pe_ix (ix_listK (K := K)) (pe_dget (hu_of hr) (pv 2) (pv 5) (fun _ _ => rfl)) (pe_c (ok_law_take T) hr (by decide) (by rfl) (pa_cons (pv 0) (pa_cons (pe_callB (call_lenK (K := K)) (by rfl) T.n_len (by decide +kernel) (pa_cons (pe_dget (hu_of hr) (pv 2) (pv 5) (fun _ _ => rfl)) pa_nil)) pa_nil))) (fun _ _ => rfl)))) pss_nil)
      (pss_one (ps_expr (pe_c (ok_law_put T) hr (by decide) (by rfl) (pa_cons (pv 2) (pa_cons (pv 3) (pa_cons pe_non (pa_cons (pv 5) (pa_cons (pv 6) pa_nil))))))))))) pss_nil)))))
      (pss_one (ps_ret (pv 2))))), ?_⟩
    intro d hd
    have ndp : d ≠ p := fun e => pot.ne (by rw [← e]; exact hd)
    have nld : ln ≠ d := fun e => by rw [e, hd] at hln; cases hln
    have nlp : ln ≠ p := fun e => by
      obtain ⟨x, y, hx, _⟩ := pot
      rw [e, hx] at hln
      have hln := HO.lst.inj (Option.some.inj hln)
      cases hn : names with
      | nil => rw [hn] at hln; cases hln
      | cons a r => rw [hn] at hln; cases hln
    have s0 : Same H (upd H d (.dK [])) := .new hd
    have hd0 : upd H d (.dK []) d = some (.dK []) := upd_same
    have hln0 := s0 _ _ hln
    generalize upd H d (.dK []) = H0 at *
    have pot0 := pot.same s0
    refine ⟨_, rfl, ln, rfl, ⟨_, SqL.of hln0⟩, for_list (K := K) (a := ln) (xs := names.map V.str) (fun i σ H' => ∃ (y3 y4 y5 y6 : Option V) (W : List Row), σ = [some (.ref p), some (.ref ln), some (.ref d), y3, y4, y5, y6] ∧ D2 p d H0 H' ∧ GD K p d H' W ∧ vsf W = names.take i ∧ Pl (vsf W) (rdf W)) ?_ ?_ ?_ ?_⟩
    · exact ⟨_, _, _, _, [], rfl, .refl pot0, ⟨[], hd0, .nil⟩, rfl, Pl.nil⟩
    · rintro i σ H' _ ⟨_, _, _, _, _, _, a, _⟩
      exact SqL.of (a.get nld nlp hln0)
    · rintro i z σ HB hi ⟨y3, y4, y5, y6, W, rfl, aB, hg, hv, pl⟩
      obtain ⟨nm, hnmi, rfl⟩ := item_str hi
      have hil : i < names.length := (List.getElem?_eq_some_iff.mp hnmi).1
      have hWl : W.length = i := by
        have := congrArg List.length hv
        rw [List.length_map, List.length_take] at this
        omega
      have hnm : nm ∉ vsf W := by
        rw [hv]
        intro q
        obtain ⟨k, hk, e⟩ := List.mem_take_iff_getElem.mp q
        have := idx_uniq' hnn (i := k) (j := i) (x := nm) (by rw [List.getElem?_eq_getElem (by omega), e]) hnmi
        omega
      have pot := aB.pot
      have hvl : (vsf W).length ≤ 59 := by rw [List.length_map]; omega
      have hrl : ∀ v ∈ vsf W, (rdf W v).length ≤ 59 := fun v hv => Nat.le_trans (nodup_le (pl.wf.rn v hv) fun u hu => (pl.wf.ties v hv u hu).1) hvl
      have hv2 : vsf W ++ [nm] = names.take (i + 1) := by rw [hv, List.take_add_one, hnmi]; rfl
      obtain ⟨kvs, hk1, hkP⟩ := id hg
      have hsz : kvs.length < sizeLine := by
        rw [GD.size hk1 hg]
        exact Nat.lt_of_le_of_lt (show W.length ≤ 59 by omega) (by decide)
      refine ⟨_, rfl, d, kvs, rfl, .inl hk1, fun sl hsl => ?_⟩
      rw [keysV (rds_keys hkP)]
      have hslv : upd HB sl (.lst ((vsf W).map V.str)) sl = some (.lst ((vsf W).map V.str)) := upd_same
      have sS : Same HB (upd HB sl (.lst ((vsf W).map V.str))) := .new hsl
      have nsp : sl ≠ p := fun e => pot.ne (by rw [← e]; exact hsl)
      have nsd : sl ≠ d := fun e => by rw [e, hk1] at hsl; cases hsl
      generalize upd HB sl (.lst ((vsf W).map V.str)) = HS at *
      refine ⟨Nat.zero_le _, fun c1 hc1 => ⟨_, rfl, _, rfl, d, _, rfl, DPut.k (k := Sum.inr nm) (Same.new hc1 _ _ (sS _ _ hk1)) hsz, ?_⟩⟩
      have hc10 := sS.free hc1
      have D1 : D2 p d H0 (upd (upd HS c1 (.lst [])) d (.dK (putK kvs (Sum.inr nm) (.ref c1)))) := aB.mut (GD.fin1 (sS.trans (.new hc1))) ndp
      have hg1 : GD K p d (upd (upd HS c1 (.lst [])) d (.dK (putK kvs (Sum.inr nm) (.ref c1)))) (W ++ [(nm, [])]) := GD.fin3 (sS.trans (.new hc1)) hg hk1 pot hnm hc10 (a := c1) upd_same rfl
      have hsl1 : upd (upd HS c1 (.lst [])) d (.dK (putK kvs (Sum.inr nm) (.ref c1))) sl = some (.lst ((vsf W).map V.str)) := by
        rw [upd_ne nsd]
        exact Same.new hc1 _ _ hslv
      generalize upd (upd HS c1 (.lst [])) d (.dK (putK kvs (Sum.inr nm) (.ref c1))) = H1 at *
      have ev1 : vsf (W ++ [(nm, ([] : List Str))]) = vsf W ++ [nm] := by unfold vsf; rw [List.map_append]; rfl
      have rd1 : ∀ v, v ∈ vsf W → rdf (W ++ [(nm, ([] : List Str))]) v = rdf W v := fun v hv => by
        rw [rdf_app (r := (nm, [])) hnm, if_neg]
        intro e
        exact hnm (by rw [← show v = nm from e]; exact hv)
      have rdn : rdf (W ++ [(nm, ([] : List Str))]) nm = [] := by rw [rdf_app (r := (nm, [])) hnm, if_pos rfl]
      have lone : Pl (vsf (W ++ [(nm, ([] : List Str))])) (rdf (W ++ [(nm, ([] : List Str))])) := by
        rw [ev1]
        exact pl.lone hnm rdn rd1
      refine ⟨_, rfl, Nat.zero_le _, fun e he => ?_⟩
      have s1 : Same H1 (upd H1 e (.lst [])) := .new he
      refine ⟨_, _, LS.dp (SqL.of (s1 _ _ hsl1)), nil_dp (SqL.of upd_same), _, rfl, ?_⟩
      by_cases hem : vsf W = []
      · rw [hem]
        exact iteNe (iteF ⟨_, _, _, _, W ++ [(nm, [])], rfl, D1.same s1, hg1.same s1, by rw [ev1]; exact hv2, lone⟩)
      refine iteEq hem ?_
      have D2' := D1.same s1
      have hg2 := hg1.same s1
      have hsl2 := s1 _ _ hsl1
      generalize upd H1 e (.lst []) = H2 at *
      have hsn : 0 < (vsf W).length := List.length_pos_iff.mpr hem
      refine ⟨_, rfl, p, 8, rfl, D2'.pot, by decide, by decide, fun dg H3 hd0 hd1 dj => ⟨_, _, rfl, rfl, _, rfl, ?_⟩⟩
      have D3 := D2'.dr dj
      have hg3 := hg2.dr ndp dj
      have hsl3 : H3 sl = some (.lst ((vsf W).map V.str)) := dj.get nsp hsl2
      by_cases hdg : dg > 0
      case neg => exact iteNo hdg ⟨_, _, _, _, W ++ [(nm, [])], rfl, D3, hg3, by rw [ev1]; exact hv2, lone⟩
      refine iteYes hdg ⟨_, rfl, _, rfl, _, rfl, sl, _, rfl, .inl (SqL.of hsl3), p, _, rfl, D3.pot, by rw [List.length_map]; omega, by rw [List.length_map]; omega, fun j H4 hj0 hj1 dj4 => ?_⟩
      rw [List.length_map] at hj1
      have D4 := D3.dr dj4
      have hg4 := hg3.dr ndp dj4
      obtain ⟨o, ho⟩ : ∃ o, (vsf W)[j.toNat]? = some o := ⟨_, List.getElem?_eq_getElem (by omega)⟩
      have hov : o ∈ vsf W := List.mem_of_getElem? ho
      have hno : nm ≠ o := fun q => hnm (by rw [q]; exact hov)
      have hov1 : o ∈ vsf (W ++ [(nm, ([] : List Str))]) := by rw [ev1]; exact List.mem_append_left _ hov
      have hnv1 : nm ∈ vsf (W ++ [(nm, ([] : List Str))]) := by rw [ev1]; simp
      refine ⟨sl, _, _, _, rfl, rfl, SqL.of (dj4.get nsp hsl3), at_map V.str (j := j.toNat) (by omega) ho, ?_⟩
      obtain ⟨ra, g2w, g1⟩ := hg4.getM hov1
      rw [rd1 o hov] at g2w
      refine ⟨_, rfl, _, rfl, d, _, rfl, g1 _ (.refl _), Nat.zero_le _, fun e2 he2 => ?_⟩
      have s5 : Same H4 (upd H4 e2 (.lst [])) := .new he2
      refine ⟨_, _, (up s5 (rd g2w)).dp, nil_dp (SqL.of upd_same), _, rfl, ?_⟩
      have D5 := D4.same s5
      have hg5 := hg4.same s5
      have g25 : LS K (upd H4 e2 (.lst [])) ra (rdf W o) := up s5 (rd g2w)
      have g15 := g1 _ s5
      generalize upd H4 e2 (.lst []) = H5 at *
      have hrl1 := hrl o hov
      have hl1 : (W ++ [(nm, ([] : List Str))]).length ≤ 60 := by rw [List.length_append]; simp; omega
      refine joinN (fun σ' H' => ∃ (co : Option Str) (A B : List Str), σ' = [some (.ref p), some (.ref ln), some (.ref d), some (.str nm), some (.ref sl), some (.str o), some (oV' co)] ∧ D2 p d H0 H' ∧ GD K p d H' (W ++ [(nm, [])]) ∧ Cor (rdf W o) co A B) (fun hb => ?_) (fun hb rest => ?_) ?_
      · have hor : rdf W o = [] := by
          by_cases c : rdf W o = []
          · exact c
          · rw [decide_eq_true c] at hb; cases hb
        exact ⟨none, [], [], rfl, D5, hg5, rfl, hor⟩
      · have hor : rdf W o ≠ [] := of_decide_eq_true hb
        have hrp : 0 < (rdf W o).length := List.length_pos_iff.mpr hor
        refine ⟨_, rfl, _, rfl, d, _, rfl, g15, _, rfl, _, rfl, _, rfl, d, _, rfl, g15, ra, _, rfl, .inl g25, p, _, rfl, D5.pot, by rw [List.length_map]; omega, by rw [List.length_map]; omega, fun j2 H6 hj2 hj3 dj6 => ?_⟩
        rw [List.length_map] at hj3
        have g26 : LS K H6 ra (rdf W o) := by
          refine up (R := LS K) (fun b z q => ?_) g2w
          obtain ⟨q1, q2⟩ := wo_get q
          exact dj6.get (fun y => q2 (by rw [y]; simp)) (s5 _ _ q1)
        obtain ⟨c, hc⟩ : ∃ c, (rdf W o)[j2.toNat]? = some c := ⟨_, List.getElem?_eq_getElem (by omega)⟩
        obtain ⟨A1, B1, cr⟩ := cor_of (List.mem_of_getElem? hc)
        exact ⟨ra, _, _, _, rfl, rfl, g26, at_map V.str (j := j2.toNat) (by omega) hc, rest _ _ ⟨some c, A1, B1, rfl, D5.dr dj6, hg5.dr ndp dj6, cr⟩⟩
      rintro σ' H6 ⟨co, A, B, rfl, D6, hg6, cr⟩
      refine ⟨_, rfl, _, rfl, _, rfl, _, rfl, p, d, W ++ [(nm, [])], nm, o, none, co, [], [], A, B, rfl, hg6, D6.pot, ndp, hl1, hnv1, hov1, hno, by rw [rdn]; simp, by rw [rd1 o hov]; omega, ⟨rfl, rdn⟩, by rw [rd1 o hov]; exact cr, fun H7 s7 hg7 => ?_⟩
      have ev3 : vsf (tied2 (W ++ [(nm, ([] : List Str))]) nm o [] [] A B) = vsf W ++ [nm] := by rw [vsf_tied2, ev1]
      refine ⟨_, _, _, _, _, rfl, D6.mut s7 ndp, hg7, by rw [ev3]; exact hv2, ?_⟩
      rw [ev3]
      refine pl.leaf (P := A) (S := B) hnm hov ?_ cr.app ?_ fun v hv hvo => ?_
      · unfold tied2
        rw [rdf_setR_ne hno, rdf_setR_eq hnv1]; rfl
      · unfold tied2
        rw [rdf_setR_eq (by rw [vsf_setR]; exact hov1)]
      · unfold tied2
        rw [rdf_setR_ne hvo, rdf_setR_ne (fun q => hnm (by rw [← q]; exact hv)), rd1 v hv]
    · rintro σ H' ⟨y3, y4, y5, y6, W, rfl, aB, hg, hv, pl⟩
      rw [List.length_map, List.take_length] at hv
      exact ⟨_, rfl, kk d W H' ⟨fun b o e => by
        obtain ⟨q1, q2⟩ := wo_get e
        exact aB.get (ne_of_none q1 hd) (by simpa using q2) (s0 _ _ q1), aB.pot⟩ hd ndp hg hv pl⟩
end
end Five
end
section
namespace Five
open PySem PySem.Spec PyProof.Rows L2
open PySem.W (Datum DatumOrd)
section
variable {P : Program} {w : World} {K : PySem.W.Frag} {mg : Str → Option Value} {base : Heap} {C : Addr} {cx : Nat → Addr}
def spRings (K : PySem.W.Frag) : Sp := fun vs H Q _ => ∃ (p ln : Addr) (names : List Str) (m : Nat), vs = [.ref ln, .int m] ∧ PotAt H p ∧ H ln = some (.lst (names.map V.str)) ∧ names.Nodup ∧ names.length = 16 ∧ m ∈ ringS ∧
  ∀ (d : Addr) (W : List Row) (H' : Hp), Dr p H H' → H d = none → d ≠ p → GD K p d H' W → (∀ v ∈ vsf W, v ∈ names) → Pl (vsf W) (rdf W) → W.length ≤ 16 → Q (.ref d) H'
theorem ok_law_two_rings (T : Txt K mg C cx) : Cal P w K mg base 1 "_law_two_rings" (spRings K) := by
  refine cal_of T.d_law_two_rings sc_law_two_rings (fun vs H Q E h => ?_) (fun f cdv A outer s H vs Q E hr h => ?_)
  · obtain ⟨p, ln, names, m, rfl, _⟩ := h
    rfl
  · obtain ⟨p, ln, names, m, rfl, pot, hln, hnn, hnl, hm, kk⟩ := h
    refine ⟨_, (pss_cons (ps_set (i := 2) sc_law_two_rings.nd rfl (Or.inl rfl) pe_dnewK)
      (pss_cons (ps_set (i := 3) sc_law_two_rings.nd rfl (Or.inl rfl) (pe_slice (sl_listK (K := K)) (pv 0) po_none (po_some (pv 1))))
      (pss_cons (ps_set (i := 4) sc_law_two_rings.nd rfl (Or.inl rfl) (pe_slice (sl_listK (K := K)) (pv 0) (po_some (pv 1)) (po_some (pe_op op_mul pe_int (pv 1)))))
      (pss_cons (ps_asg (pe_slice (sl_listK (K := K)) (pv 0) (po_some (pe_op op_mul pe_int (pv 1))) (po_some (pe_op op_add (pe_op op_mul pe_int (pv 1)) pe_int))) (pg_lstK (K := K) 2 (by rfl) (pgs_cons (pg_name (i := 5) sc_law_two_rings.nd rfl (Or.inl rfl)) (pgs_cons (pg_name (i := 6) sc_law_two_rings.nd rfl (Or.inl rfl)) pgs_nil))))
      (pss_cons (ps_for PassesOwn.never (by rfl) (pi_range1 (by rfl) T.n_range (pa_cons (pv 1) pa_nil)) (pg_name (i := 7) sc_law_two_rings.nd rfl (Or.inl rfl)) (pss_cons (ps_set (i := 8) sc_law_two_rings.nd rfl (Or.inl rfl) (pe_op op_mod (pe_op op_add (pv 7) pe_int) (pv 1)))
      (pss_cons (ps_dput (hu_of hr) (pv 2) (pe_ix (ix_listK (K := K)) (pv 3) (pv 7) (fun _ _ => rfl)) (pe_lst (pa_cons (pv 5) (pa_cons (pe_ix (ix_listK (K := K)) (pv 3) (pe_op op_sub (pv 7) pe_int) (fun _ _ => rfl)) (pa_cons (pe_ix (ix_listK (K := K)) (pv 4) (pv 7) (fun _ _ => rfl)) (pa_cons (pe_ix (ix_listK (K := K)) (pv 4) (pv 8) (fun _ _ => rfl)) (pa_cons (pe_ix (ix_listK (K := K)) (pv 3) (pv 8) (fun _ _ => rfl)) pa_nil)))))) rfl)
      (pss_one (ps_dput (hu_of hr) (pv 2) (pe_ix (ix_listK (K := K)) (pv 4) (pv 7) (fun _ _ => rfl)) (pe_lst (pa_cons (pv 6) (pa_cons (pe_ix (ix_listK (K := K)) (pv 4) (pv 8) (fun _ _ => rfl)) (pa_cons (pe_ix (ix_listK (K := K)) (pv 3) (pv 7) (fun _ _ => rfl)) (pa_cons (pe_ix (ix_listK (K := K)) (pv 3) (pe_op op_sub (pv 7) pe_int) (fun _ _ => rfl)) (pa_cons (pe_ix (ix_listK (K := K)) (pv 4) (pe_op op_sub (pv 7) pe_int) (fun _ _ => rfl)) pa_nil)))))) rfl)))))
      (pss_cons (ps_dput (hu_of hr) (pv 2) (pv 5) (pe_callTy (call_listK (K := K)) (by rfl) T.n_list (by decide +kernel) (pa_cons (pv 3) pa_nil)) rfl)
      (pss_cons (ps_dput (hu_of hr) (pv 2) (pv 6) (pe_lstRev (K := K) (by rfl) (by rfl) T.n_list (by rfl) T.n_reversed (pv 4)) rfl)
      (pss_one (ps_ret (pv 2)))))))))), ?_⟩
    have hm3 : 3 ≤ m ∧ m ≤ 7 := by simp at hm; omega
    obtain ⟨g, hgat⟩ : ∃ g : Nat → Str, ∀ j, j < 16 → names[j]? = some (g j) := ⟨fun j => names.getD j "", fun j hj => by
      show _ = some (names.getD j "")
      rw [List.getD_eq_getElem?_getD, List.getElem?_eq_getElem (by omega)]
      rfl⟩
    have hinj : ∀ i < 2 * m + 2, ∀ j < 2 * m + 2, g i = g j → i = j := fun i hi j hj e => idx_uniq' hnn (hgat i (by omega)) (by rw [e]; exact hgat j (by omega))
    intro d hd
    have s0 : Same H (upd H d (.dK [])) := .new hd
    have hd0 : upd H d (.dK []) d = some (.dK []) := upd_same
    have hln0 := s0 _ _ hln
    generalize upd H d (.dK []) = H0 at *
    have ndp : d ≠ p := fun e => pot.ne (by rw [← e]; exact hd)
    -- the two rings of names
    refine ⟨_, rfl, _, rfl, _, rfl, ln, _, rfl, SqL.of hln0, fun i1 hi1 => ?_⟩
    have eI : cutV (names.map V.str) none (some (m : Int)) = ((List.range m).map g).map V.str := by
      rw [cut_to, ← List.map_take]
      congr 1
      refine List.ext_getElem? fun k => ?_
      by_cases hk : k < m
      · rw [List.getElem?_take_of_lt hk, hgat k (by omega), List.getElem?_map, List.getElem?_range hk]; rfl
      · rw [List.getElem?_eq_none (by rw [List.length_take]; omega), List.getElem?_eq_none (by simp; omega)]
    rw [eI]
    have s1 : Same H0 (upd H0 i1 (.lst (((List.range m).map g).map V.str))) := .new hi1
    have hi1v : upd H0 i1 (.lst (((List.range m).map g).map V.str)) i1 = some (.lst (((List.range m).map g).map V.str)) := upd_same
    have n1d : i1 ≠ d := fun e => by rw [e, hd0] at hi1; cases hi1
    have hln1 := s1 _ _ hln0
    have hd1 := s1 _ _ hd0
    generalize upd H0 i1 (.lst (((List.range m).map g).map V.str)) = H1 at *
    have hmul : CMul (2 : Int) (m : Int) := .inl ⟨by decide, by omega⟩
    have e2m : (2 : Int) * (m : Int) = ((2 * m : Nat) : Int) := by simp
    refine ⟨_, rfl, _, rfl, _, rfl, _, rfl, _, _, rfl, rfl, hmul, _, rfl, ln, _, rfl, SqL.of hln1, fun o1 ho1 => ?_⟩
    have eO : cutV (names.map V.str) (some (m : Int)) (some ((2 : Int) * (m : Int))) = ((List.range m).map fun k => g (m + k)).map V.str := by
      rw [e2m, cut_ft, List.length_map, hnl, Nat.min_eq_left (by omega), Nat.min_eq_left (by omega), ← List.map_drop, ← List.map_take]
      congr 1
      refine List.ext_getElem? fun k => ?_
      by_cases hk : k < m
      · rw [List.getElem?_take_of_lt (by omega), List.getElem?_drop, hgat _ (by omega), List.getElem?_map, List.getElem?_range hk]; rfl
      · rw [List.getElem?_eq_none (by rw [List.length_take, List.length_drop]; omega), List.getElem?_eq_none (by simp; omega)]
    rw [eO]
    have s2 : Same H1 (upd H1 o1 (.lst (((List.range m).map fun k => g (m + k)).map V.str))) := .new ho1
    have ho1v : upd H1 o1 (.lst (((List.range m).map fun k => g (m + k)).map V.str)) o1 = some (.lst (((List.range m).map fun k => g (m + k)).map V.str)) := upd_same
    have n2d : o1 ≠ d := fun e => by rw [e, hd1] at ho1; cases ho1
    have hln2 := s2 _ _ hln1
    have hd2 := s2 _ _ hd1
    have hi2 := s2 _ _ hi1v
    generalize upd H1 o1 (.lst (((List.range m).map fun k => g (m + k)).map V.str)) = H2 at *
    refine ⟨_, rfl, _, rfl, _, _, rfl, rfl, hmul, _, rfl, _, rfl, _, _, rfl, rfl, hmul, _, _, rfl, rfl, _, rfl, ln, _, rfl, SqL.of hln2, fun q1 hq1 => ?_⟩
    have eT : cutV (names.map V.str) (some ((2 : Int) * (m : Int))) (some ((2 : Int) * (m : Int) + 2)) = [V.str (g (2 * m)), V.str (g (2 * m + 1))] := by
      rw [show (2 : Int) * (m : Int) + 2 = ((2 * m + 2 : Nat) : Int) by simp, e2m, cut_ft, List.length_map, hnl, Nat.min_eq_left (by omega), Nat.min_eq_left (by omega), ← List.map_drop, ← List.map_take, show 2 * m + 2 - 2 * m = 2 by omega]
      have h1 := hgat (2 * m) (by omega)
      have h2 := hgat (2 * m + 1) (by omega)
      obtain ⟨a1, a2⟩ := List.getElem?_eq_some_iff.mp h1
      obtain ⟨b1, b2⟩ := List.getElem?_eq_some_iff.mp h2
      rw [List.drop_eq_getElem_cons a1, List.drop_eq_getElem_cons b1, a2, b2]
      rfl
    rw [eT]
    refine ⟨q1, _, rfl, SqL.of upd_same, rfl, _, _, rfl, _, _, rfl, rfl, ?_⟩
    have s3 : Same H2 (upd H2 q1 (.lst [V.str (g (2 * m)), V.str (g (2 * m + 1))])) := .new hq1
    have hd3 := s3 _ _ hd2
    have hi3 := s3 _ _ hi2
    have ho3 := s3 _ _ ho1v
    generalize upd H2 q1 (.lst [V.str (g (2 * m)), V.str (g (2 * m + 1))]) = H3 at *
    have sH : Same H H3 := ((s0.trans s1).trans s2).trans s3
    have pot3 := pot.same sH
    -- one by one
    have inAt : ∀ (e : Int) (j : Nat), e = j → j < m → atI (((List.range m).map g).map V.str) e = some (.str (g j)) := fun e j he hj => at_map V.str he (by rw [List.getElem?_map, List.getElem?_range hj]; rfl)
    have ouAt : ∀ (e : Int) (j : Nat), e = j → j < m → atI (((List.range m).map fun k => g (m + k)).map V.str) e = some (.str (g (m + j))) := fun e j he hj => at_map V.str he (by rw [List.getElem?_map, List.getElem?_range hj]; rfl)
    have emm : ((m : Nat) : Int).toNat = m := by simp
    refine ⟨_, rfl, m, rfl, by omega, by omega, for_range (lo := 0) (n := ((m : Nat) : Int).toNat) (fun i σ H' => ∃ (y7 y8 : Option V), σ = [some (.ref ln), some (.int m), some (.ref d), some (.ref i1), some (.ref o1), some (.str (g (2 * m))), some (.str (g (2 * m + 1))), y7, y8] ∧ D2 p d H3 H' ∧ GD K p d H' (rgW g m (rgI m i))) ?_ ?_ ?_⟩
    · exact ⟨_, _, rfl, .refl pot3, [], hd3, .nil⟩
    · rintro i σ H4 hi ⟨y7, y8, rfl, a4, hg4⟩
      have hi' : i < m := by omega
      have n1p : i1 ≠ p := fun e => by
        obtain ⟨x, y, hx, _⟩ := pot3
        rw [e, hx] at hi3
        have z := HO.lst.inj (Option.some.inj hi3)
        have : (List.range m).length = 2 := by simpa using (congrArg List.length z).symm
        rw [List.length_range] at this; omega
      have n2p : o1 ≠ p := fun e => by
        obtain ⟨x, y, hx, _⟩ := pot3
        rw [e, hx] at ho3
        have z := HO.lst.inj (Option.some.inj ho3)
        have : (List.range m).length = 2 := by simpa using (congrArg List.length z).symm
        rw [List.length_range] at this; omega
      have hi4 := a4.get n1d n1p hi3
      have ho4 := a4.get n2d n2p ho3
      have ek : (0 : Int) + (i : Int) = ((i : Nat) : Int) := by omega
      have ea : ((0 : Int) + (i : Int) + 1) % (m : Int) = (((i + 1) % m : Nat) : Int) := by rw [ek]; simp
      have hA : (i + 1) % m < m := Nat.mod_lt _ (by omega)
      have hB : (i + m - 1) % m < m := Nat.mod_lt _ (by omega)
      have inPr : atI (((List.range m).map g).map V.str) ((0 : Int) + (i : Int) - 1) = some (.str (g ((i + m - 1) % m))) := by
        rw [ek]
        exact ring_prev (by simp) (fun k hk => by rw [List.getElem?_map, List.getElem?_range hk]; rfl) hi'
      have ouPr : atI (((List.range m).map fun k => g (m + k)).map V.str) ((0 : Int) + (i : Int) - 1) = some (.str (g (m + (i + m - 1) % m))) := by
        rw [ek]
        exact ring_prev (g := fun k => g (m + k)) (by simp) (fun k hk => by rw [List.getElem?_map, List.getElem?_range hk]; rfl) hi'
      have rI : ringN m i = [2 * m, (i + m - 1) % m, m + i, m + (i + 1) % m, (i + 1) % m] := by unfold ringN; rw [if_pos hi']
      have rO : ringN m (m + i) = [2 * m + 1, m + (i + 1) % m, i, (i + m - 1) % m, m + (i + m - 1) % m] := by
        unfold ringN
        rw [if_neg (by omega), if_pos (by omega), show m + i - m = i by omega]
      have hlenI : ∀ {WX : List Row} {HX : Hp} {kx : List (Key × V)}, HX d = some (.dK kx) → GD K p d HX WX → WX.length ≤ 16 → kx.length < sizeLine := fun {WX HX kx} h1 h2 h3 => by
        rw [GD.size h1 h2]
        exact Nat.lt_of_le_of_lt h3 (by decide)
      refine ⟨_, rfl, _, _, rfl, rfl, _, rfl, _, _, rfl, rfl, (by show (0 : Int) < (m : Int); omega), ?_⟩
      obtain ⟨kvs, hk, _⟩ := id hg4
      refine ⟨_, rfl, _, rfl, _, rfl, _, _, rfl, rfl, i1, _, _, _, rfl, rfl, SqL.of hi4, inPr, _, rfl, _, rfl, o1, _, _, _, rfl, rfl, SqL.of ho4, ouAt _ i ek hi', _, rfl, _, rfl, o1, _, _, _, rfl, rfl, SqL.of ho4, ouAt _ _ ea hA, _, rfl, _, rfl, i1, _, _, _, rfl, rfl, SqL.of hi4, inAt _ _ ea hA, by show 5 ≤ sizeLine; decide, fun c1 hc1 => ?_⟩
      have hnI : g i ∉ vsf (rgW g m (rgI m i)) := by
        rw [vsf_rg]
        intro z
        obtain ⟨x, h1, h2⟩ := List.mem_map.mp z
        obtain ⟨k, hk, h3⟩ := mem_rgI.mp h1
        have := hinj x (by omega) i (by omega) h2
        omega
      have hl4 : (rgW g m (rgI m i)).length ≤ 16 := by unfold rgW; rw [List.length_map, rgI_len]; omega
      refine ⟨_, rfl, _, rfl, _, rfl, i1, _, _, _, rfl, rfl, SqL.of (Same.new hc1 _ _ hi4), inAt _ i ek hi', d, _, rfl, DPut.k (k := Sum.inr (g i)) (Same.new hc1 _ _ hk) (hlenI hk hg4 hl4), ?_⟩
      have hg5 := GD.fin3 (v := g i) (l := (ringN m i).map g) (vs := [V.str (g (2 * m)), V.str (g ((i + m - 1) % m)), V.str (g (m + i)), V.str (g (m + (i + 1) % m)), V.str (g ((i + 1) % m))]) (.new hc1) hg4 hk a4.pot hnI hc1 (a := c1) upd_same (by rw [rI]; rfl)
      have a5 : D2 p d H3 _ := a4.mut (GD.fin1 (o := .dK (putK kvs (Sum.inr (g i)) (.ref c1))) (.new (o := .lst [V.str (g (2 * m)), V.str (g ((i + m - 1) % m)), V.str (g (m + i)), V.str (g (m + (i + 1) % m)), V.str (g ((i + 1) % m))]) hc1)) ndp
      generalize upd (upd H4 c1 (.lst [V.str (g (2 * m)), V.str (g ((i + m - 1) % m)), V.str (g (m + i)), V.str (g (m + (i + 1) % m)), V.str (g ((i + 1) % m))])) d (.dK (putK kvs (Sum.inr (g i)) (.ref c1))) = H5 at *
      have hi5 := a5.get n1d n1p hi3
      have ho5 := a5.get n2d n2p ho3
      obtain ⟨kvs5, hk5, _⟩ := id hg5
      refine ⟨_, rfl, _, rfl, _, rfl, o1, _, _, _, rfl, rfl, SqL.of ho5, ouAt _ _ ea hA, _, rfl, _, rfl, i1, _, _, _, rfl, rfl, SqL.of hi5, inAt _ i ek hi', _, rfl, _, rfl, _, _, rfl, rfl, i1, _, _, _, rfl, rfl, SqL.of hi5, inPr, _, rfl, _, rfl, _, _, rfl, rfl, o1, _, _, _, rfl, rfl, SqL.of ho5, ouPr, by show 5 ≤ sizeLine; decide, fun c2 hc2 => ?_⟩
      have hnO : g (m + i) ∉ vsf (rgW g m (rgI m i) ++ [(g i, (ringN m i).map g)]) := by
        intro z
        have z : g (m + i) ∈ vsf (rgW g m (rgI m i)) ++ [g i] := by
          unfold vsf at z
          rw [List.map_append] at z
          exact z
        rcases List.mem_append.mp z with z | z
        · rw [vsf_rg] at z
          obtain ⟨x, h1, h2⟩ := List.mem_map.mp z
          obtain ⟨k, hk, h3⟩ := mem_rgI.mp h1
          have := hinj x (by omega) (m + i) (by omega) h2
          omega
        · have := hinj (m + i) (by omega) i (by omega) (List.mem_singleton.mp z)
          omega
      have hl5 : (rgW g m (rgI m i) ++ [(g i, (ringN m i).map g)]).length ≤ 16 := by unfold rgW; rw [List.length_append, List.length_map, rgI_len]; simp; omega
      refine ⟨_, rfl, _, rfl, _, rfl, o1, _, _, _, rfl, rfl, SqL.of (Same.new hc2 _ _ ho5), ouAt _ i ek hi', d, _, rfl, DPut.k (k := Sum.inr (g (m + i))) (Same.new hc2 _ _ hk5) (hlenI hk5 hg5 hl5), ?_⟩
      have hg6 := GD.fin3 (v := g (m + i)) (l := (ringN m (m + i)).map g) (vs := [V.str (g (2 * m + 1)), V.str (g (m + (i + 1) % m)), V.str (g i), V.str (g ((i + m - 1) % m)), V.str (g (m + (i + m - 1) % m))]) (.new hc2) hg5 hk5 a5.pot hnO hc2 (a := c2) upd_same (by rw [rO]; rfl)
      refine ⟨_, _, rfl, a5.mut (GD.fin1 (.new hc2)) ndp, ?_⟩
      have eW : rgW g m (rgI m (i + 1)) = rgW g m (rgI m i) ++ [(g i, (ringN m i).map g)] ++ [(g (m + i), (ringN m (m + i)).map g)] := by
        rw [rgI_succ]
        unfold rgW
        rw [List.map_append, List.append_assoc]
        rfl
      rw [eW]
      exact hg6
    · rintro σ H4 ⟨y7, y8, rfl, a4, hg4⟩
      rw [emm] at hg4
      have n1p : i1 ≠ p := fun e => by
        obtain ⟨x, y, hx, _⟩ := pot3
        rw [e, hx] at hi3
        have z := HO.lst.inj (Option.some.inj hi3)
        have : (List.range m).length = 2 := by simpa using (congrArg List.length z).symm
        rw [List.length_range] at this; omega
      have n2p : o1 ≠ p := fun e => by
        obtain ⟨x, y, hx, _⟩ := pot3
        rw [e, hx] at ho3
        have z := HO.lst.inj (Option.some.inj ho3)
        have : (List.range m).length = 2 := by simpa using (congrArg List.length z).symm
        rw [List.length_range] at this; omega
      have hi4 := a4.get n1d n1p hi3
      have ho4 := a4.get n2d n2p ho3
      obtain ⟨kvs, hk, _⟩ := id hg4
      have rT : ringN m (2 * m) = List.range m := by unfold ringN; rw [if_neg (by omega), if_neg (by omega), if_pos rfl]
      have rG : ringN m (2 * m + 1) = ((List.range m).map fun k => m + k).reverse := by unfold ringN; rw [if_neg (by omega), if_neg (by omega), if_neg (by omega)]
      refine ⟨_, rfl, i1, _, rfl, .inl (SqL.of hi4), fun c1 hc1 => ?_⟩
      have hnT : g (2 * m) ∉ vsf (rgW g m (rgI m m)) := by
        rw [vsf_rg]
        intro z
        obtain ⟨x, h1, h2⟩ := List.mem_map.mp z
        obtain ⟨k, hk, h3⟩ := mem_rgI.mp h1
        have := hinj x (by omega) (2 * m) (by omega) h2
        omega
      have hl4 : (rgW g m (rgI m m)).length = 2 * m := by unfold rgW; rw [List.length_map, rgI_len]
      refine ⟨_, rfl, _, rfl, d, _, rfl, DPut.k (k := Sum.inr (g (2 * m))) (Same.new hc1 _ _ hk) (by rw [GD.size hk hg4, hl4]; exact Nat.lt_of_le_of_lt (show 2 * m ≤ 14 by omega) (by decide)), ?_⟩
      have hg5 := GD.fin3 (v := g (2 * m)) (l := (ringN m (2 * m)).map g) (.new hc1) hg4 hk a4.pot hnT hc1 (a := c1) upd_same (by rw [rT])
      have a5 : D2 p d H3 _ := a4.mut (GD.fin1 (o := .dK (putK kvs (Sum.inr (g (2 * m))) (.ref c1))) (.new (o := .lst (((List.range m).map g).map V.str)) hc1)) ndp
      generalize upd (upd H4 c1 (.lst (((List.range m).map g).map V.str))) d (.dK (putK kvs (Sum.inr (g (2 * m))) (.ref c1))) = H5 at *
      have ho5 := a5.get n2d n2p ho3
      obtain ⟨kvs5, hk5, _⟩ := id hg5
      refine ⟨_, rfl, o1, _, rfl, SqL.of ho5, fun c2 hc2 => ?_⟩
      have hnG : g (2 * m + 1) ∉ vsf (rgW g m (rgI m m) ++ [(g (2 * m), (ringN m (2 * m)).map g)]) := by
        intro z
        have z : g (2 * m + 1) ∈ vsf (rgW g m (rgI m m)) ++ [g (2 * m)] := by
          unfold vsf at z
          rw [List.map_append] at z
          exact z
        rcases List.mem_append.mp z with z | z
        · rw [vsf_rg] at z
          obtain ⟨x, h1, h2⟩ := List.mem_map.mp z
          obtain ⟨k, hk, h3⟩ := mem_rgI.mp h1
          have := hinj x (by omega) (2 * m + 1) (by omega) h2
          omega
        · have := hinj (2 * m + 1) (by omega) (2 * m) (by omega) (List.mem_singleton.mp z)
          omega
      refine ⟨_, rfl, _, rfl, d, _, rfl, DPut.k (k := Sum.inr (g (2 * m + 1))) (Same.new hc2 _ _ hk5) (by rw [GD.size hk5 hg5, List.length_append, hl4]; exact Nat.lt_of_le_of_lt (show 2 * m + 1 ≤ 15 by omega) (by decide)), ?_⟩
      have hg6 := GD.fin3 (v := g (2 * m + 1)) (l := (ringN m (2 * m + 1)).map g) (vs := (((List.range m).map fun k => g (m + k)).map V.str).reverse) (.new hc2) hg5 hk5 a5.pot hnG hc2 (a := c2) upd_same (by rw [rG, ← List.map_reverse, ← List.map_reverse, ← List.map_reverse, List.map_map, List.map_map, List.map_map]; rfl)
      have eW : rgW g m (rgO m) = rgW g m (rgI m m) ++ [(g (2 * m), (ringN m (2 * m)).map g)] ++ [(g (2 * m + 1), (ringN m (2 * m + 1)).map g)] := by
        unfold rgO rgW
        rw [List.map_append, List.append_assoc]
        rfl
      rw [← eW] at hg6
      have a6 := a5.mut (GD.fin1 (o := .dK (putK kvs5 (Sum.inr (g (2 * m + 1))) (.ref c2))) (.new (o := .lst (((List.range m).map fun k => g (m + k)).map V.str).reverse) hc2)) ndp
      refine ⟨_, rfl, kk d _ _ ⟨fun b o e => ?_, a6.pot⟩ hd ndp hg6 (fun v hv => ?_) (rg_w hm hinj) ?_⟩
      · obtain ⟨q1, q2⟩ := wo_get e
        exact a6.get (ne_of_none q1 hd) (by simpa using q2) (sH _ _ q1)
      · rw [vsf_rg] at hv
        obtain ⟨x, h1, rfl⟩ := List.mem_map.mp hv
        have := List.mem_range.mp ((rg_perm m hm).mem_iff.mp h1)
        exact List.mem_of_getElem? (hgat x (by omega))
      · unfold rgW
        rw [List.length_map, (rg_perm m hm).length_eq, List.length_range]
        omega
end
end Five
end
section
namespace Five
open PySem PySem.Spec PyProof.Rows L2
open PySem.W (Datum DatumOrd)
section
variable {P : Program} {w : World} {K : PySem.W.Frag} {mg : Str → Option Value} {base : Heap} {C : Addr} {cx : Nat → Addr}
def spRounds (K : PySem.W.Frag) : Sp := fun vs H Q _ => ∃ (a : Addr) (ns : List Int) (most : Nat), vs = [.ref a, .int most] ∧ SqL K H a (ns.map V.int) ∧ 1 ≤ most ∧ most ≤ 16 ∧
  ∀ (p d : Addr) (W : List Row) (H' : Hp), Same H H' → H p = none → H d = none → d ≠ p → PotAt H' p → GD K p d H' W → Pl (vsf W) (rdf W) → (∀ v ∈ vsf W, Nm v) → W.length ≤ 16 → Q (.ref d) H'
theorem ok_law_rounds (T : Txt K mg C cx) : Cal P w K mg base 4 "_law_rounds" (spRounds K) := by
  refine cal_of T.d_law_rounds sc_law_rounds (fun vs H Q E h => ?_) (fun f cdv A outer s H vs Q E hr h => ?_)
  · obtain ⟨a, ns, most, rfl, _⟩ := h
    rfl
  · obtain ⟨a, ns, most, rfl, ha, hm1, hm2, kk⟩ := h
    refine ⟨_, (pss_cons (ps_set (i := 2) sc_law_rounds.nd rfl (Or.inl rfl) (pe_c (ok_law_pot T) hr (by decide) (by rfl) (pa_cons (pe_c (ok_law_cell T) hr (by decide) (by rfl) (pa_cons (pv 0) (pa_cons pe_int pa_nil))) pa_nil)))
      (pss_cons (ps_set (i := 3) sc_law_rounds.nd rfl (Or.inl rfl) (pe_c (ok_law_names T) hr (by decide) (by rfl) (pa_cons (pv 2) (pa_cons pe_int pa_nil))))
      (pss_cons (ps_set (i := 4) sc_law_rounds.nd rfl (Or.inl rfl) (pe_c (ok_law_take T) hr (by decide) (by rfl) (pa_cons (pv 2) (pa_cons pe_int pa_nil))))
      (pss_cons (ps_if (pt_cmpR op_eq (pv 4) pe_int (nomark _)) (pss_cons (ps_set (i := 5) sc_law_rounds.nd rfl (Or.inl rfl) (pe_c (ok_law_two_rings T) hr (by decide) (by rfl) (pa_cons (pv 3) (pa_cons (pe_op op_add pe_int (pe_c (ok_law_take T) hr (by decide) (by rfl) (pa_cons (pv 2) (pa_cons pe_int pa_nil)))) pa_nil))))
      (pss_cons (ps_for PassesOwn.never (by rfl) (pi_range1 (by rfl) T.n_range (pa_cons (pe_c (ok_law_take T) hr (by decide) (by rfl) (pa_cons (pv 2) (pa_cons pe_int pa_nil))) pa_nil)) (pg_name (i := 6) sc_law_rounds.nd rfl (Or.inl rfl)) (pss_one (ps_expr (pe_c (ok_law_untied T) hr (by decide) (by rfl) (pa_cons (pv 5) (pa_cons (pv 2) pa_nil))))))
      (pss_one (ps_ret (pv 5))))) pss_nil)
      (pss_cons (ps_set (i := 5) sc_law_rounds.nd rfl (Or.inl rfl) (pe_c (ok_law_grown T) hr (by decide) (by rfl) (pa_cons (pv 2) (pa_cons (pe_slice (sl_listK (K := K)) (pv 3) po_none (po_some (pe_op op_add pe_int (pe_c (ok_law_take T) hr (by decide) (by rfl) (pa_cons (pv 2) (pa_cons (pv 1) pa_nil)))))) pa_nil))))
      (pss_cons (ps_for PassesOwn.never (by rfl) (pi_range1 (by rfl) T.n_range (pa_cons (pe_c (ok_law_take T) hr (by decide) (by rfl) (pa_cons (pv 2) (pa_cons pe_int pa_nil))) pa_nil)) (pg_name (i := 6) sc_law_rounds.nd rfl (Or.inl rfl)) (pss_one (ps_expr (pe_c (ok_law_crossed T) hr (by decide) (by rfl) (pa_cons (pv 5) (pa_cons (pv 2) pa_nil))))))
      (pss_cons (ps_if (pt_cmpR op_eq (pv 4) pe_int (nomark _)) (pss_one (ps_expr (pe_c (ok_law_filled T) hr (by decide) (by rfl) (pa_cons (pv 5) pa_nil)))) pss_nil)
      (pss_one (ps_ret (pv 5)))))))))), ?_⟩
    refine ⟨_, rfl, a, ns, 0, rfl, ha, by decide, by decide, fun n => ⟨n, rfl, fun p H1 s1 hp pot1 => ?_⟩⟩
    refine ⟨_, rfl, p, 16, rfl, pot1, by decide, fun ln names H2 d2 hln hlnv hnl hnn hnm => ?_⟩
    have nlp : ln ≠ p := fun e => pot1.ne (by rw [← e]; exact hln)
    refine ⟨_, rfl, p, 4, rfl, d2.pot, by decide, by decide, fun wy H3 hw0 hw1 d3 => ?_⟩
    have hl3 := d3.get nlp hlnv
    have out : ∀ {HX : Hp}, Dr p H1 HX → Same H HX := fun {HX} dx b o e => dx.get (ne_of_none e hp) (s1 _ _ e)
    have d13 := d2.trans d3
    refine ⟨_, rfl, rfl, _, rfl, ?_⟩
    have fin : ∀ (d : Addr) (W : List Row) (HX : Hp), Dr p H1 HX → H1 d = none → d ≠ p → GD K p d HX W → (∀ v ∈ vsf W, v ∈ names) → Pl (vsf W) (rdf W) → W.length ≤ 16 → Q (.ref d) HX := fun d W HX dx hd ndp hg hv pl hl => kk p d W HX (out dx) hp (s1.free hd) ndp dx.pot hg pl (fun v h => hnm v (hv v h)) hl
    have lenOf : ∀ {W1 W2 : List Row}, vsf W1 = vsf W2 → W1.length = W2.length := fun {W1 W2} e => by
      have := congrArg List.length e
      rwa [List.length_map, List.length_map] at this
    by_cases hwy : wy = 0
    · rw [decide_eq_true (show V.int wy = V.int 0 by rw [hwy])]
      refine iteT ⟨_, rfl, _, rfl, p, 5, rfl, d3.pot, by decide, by decide, fun t H4 ht0 ht1 d4 => ⟨_, _, rfl, rfl, ?_⟩⟩
      obtain ⟨m, hm⟩ : ∃ m : Nat, (3 : Int) + t = (m : Int) := ⟨(3 + t).toNat, by omega⟩
      have d14 := d13.trans d4
      refine ⟨p, ln, names, m, (by show [V.ref ln, V.int (3 + t)] = _; rw [hm]), d4.pot, d4.get nlp hl3, hnn, hnl, by simp; omega, fun d W H5 d5 hd ndp hg hv pl hWl => ?_⟩
      have hd1 : H1 d = none := d14.free hd
      refine ⟨_, rfl, p, 5, rfl, d5.pot, by decide, by decide, fun n2 H6 hn0 hn1 d6 => ⟨n2, rfl, by omega, by omega, ?_⟩⟩
      have d16 := (d14.trans d5).trans d6
      refine for_range (lo := 0) (n := n2.toNat) (fun j σ H' => ∃ (y6 : Option V) (W' : List Row), σ = [some (.ref a), some (.int most), some (.ref p), some (.ref ln), some (.int wy), some (.ref d), y6] ∧ D2 p d H6 H' ∧ GD K p d H' W' ∧ vsf W' = vsf W ∧ Pl (vsf W') (rdf W')) ?_ ?_ ?_
      · exact ⟨_, W, rfl, .refl d6.pot, hg.dr ndp d6, rfl, pl⟩
      · rintro j σ H7 hj ⟨y6, W7, rfl, a7, hg7, ev7, pl7⟩
        exact ⟨_, rfl, _, rfl, p, d, W7, rfl, hg7, a7.pot, ndp, by rw [lenOf ev7]; omega, pl7, fun H8 W8 a8 hg8 ev8 pl8 => ⟨_, W8, rfl, a7.trans a8, hg8, ev8.trans ev7, pl8⟩⟩
      · rintro σ H7 ⟨y6, W7, rfl, a7, hg7, ev7, pl7⟩
        refine ⟨_, rfl, fin d W7 H7 ⟨fun b o e => ?_, a7.pot⟩ hd1 ndp hg7 (by rw [ev7]; exact hv) pl7 (by rw [lenOf ev7]; exact hWl)⟩
        obtain ⟨q1, q2⟩ := wo_get e
        exact a7.get (ne_of_none q1 hd1) (by simpa using q2) (d16.get (by simpa using q2) q1)
    rw [decide_eq_false (show ¬ V.int wy = V.int 0 from fun q => hwy (V.int.inj q))]
    refine iteF ⟨_, rfl, _, rfl, _, rfl, _, rfl, p, most, rfl, d3.pot, by omega, by omega, fun t H4 ht0 ht1 d4 => ⟨_, _, rfl, rfl, _, rfl, ln, _, rfl, SqL.of (d4.get nlp hl3), fun nl hnl0 => ?_⟩⟩
    obtain ⟨m, hm⟩ : ∃ m : Nat, (1 : Int) + t = (m : Int) := ⟨(1 + t).toNat, by omega⟩
    have ec : cutV (names.map V.str) none (some ((1 : Int) + t)) = (names.take m).map V.str := by rw [hm, cut_to, List.map_take]
    rw [ec]
    have d14 := d13.trans d4
    have s5 : Same H4 (upd H4 nl (.lst ((names.take m).map V.str))) := .new hnl0
    have hnlv : upd H4 nl (.lst ((names.take m).map V.str)) nl = some (.lst ((names.take m).map V.str)) := upd_same
    generalize upd H4 nl (.lst ((names.take m).map V.str)) = H5 at *
    have d15 := d14.same s5
    refine ⟨p, nl, names.take m, rfl, d15.pot, hnlv, hnn.sublist (List.take_sublist _ _), by rw [List.length_take]; omega, fun d W H6 d6 hd ndp hg hv pl => ?_⟩
    have hd1 : H1 d = none := d15.free hd
    have hvn : ∀ v ∈ vsf W, v ∈ names := fun v h => List.mem_of_mem_take (by rw [← hv]; exact h)
    have hWl : W.length ≤ 16 := by
      have := congrArg List.length hv
      rw [List.length_map, List.length_take] at this
      omega
    refine ⟨_, rfl, p, 25, rfl, d6.pot, by decide, by decide, fun n2 H7 hn0 hn1 d7 => ⟨n2, rfl, by omega, by omega, ?_⟩⟩
    have d17 := (d15.trans d6).trans d7
    refine for_range (lo := 0) (n := n2.toNat) (fun j σ H' => ∃ (y6 : Option V) (W' : List Row), σ = [some (.ref a), some (.int most), some (.ref p), some (.ref ln), some (.int wy), some (.ref d), y6] ∧ D2 p d H7 H' ∧ GD K p d H' W' ∧ vsf W' = vsf W ∧ Pl (vsf W') (rdf W')) ?_ ?_ ?_
    · exact ⟨_, W, rfl, .refl d7.pot, hg.dr ndp d7, rfl, pl⟩
    · rintro j σ H8 hj ⟨y6, W8, rfl, a8, hg8, ev8, pl8⟩
      exact ⟨_, rfl, _, rfl, p, d, W8, rfl, hg8, a8.pot, ndp, by rw [lenOf ev8]; omega, pl8, fun H9 W9 a9 hg9 ev9 pl9 => ⟨_, W9, rfl, a8.trans a9, hg9, ev9.trans ev8, pl9⟩⟩
    · rintro σ H8 ⟨y6, W8, rfl, a8, hg8, ev8, pl8⟩
      refine ⟨_, rfl, rfl, _, rfl, ?_⟩
      refine joinN (fun σ' H' => ∃ (W' : List Row), σ' = [some (.ref a), some (.int most), some (.ref p), some (.ref ln), some (.int wy), some (.ref d), y6] ∧ D2 p d H7 H' ∧ GD K p d H' W' ∧ vsf W' = vsf W ∧ Pl (vsf W') (rdf W')) (fun _ => ⟨W8, rfl, a8, hg8, ev8, pl8⟩) (fun _ r => ?_) ?_
      · exact ⟨_, rfl, p, d, W8, rfl, hg8, a8.pot, ndp, by rw [lenOf ev8]; omega, pl8, fun H9 W9 a9 hg9 ev9 pl9 => r _ _ ⟨W9, rfl, a8.trans a9, hg9, ev9.trans ev8, pl9⟩⟩
      rintro σ' H9 ⟨W9, rfl, a9, hg9, ev9, pl9⟩
      refine ⟨_, rfl, fin d W9 H9 ⟨fun b o e => ?_, a9.pot⟩ hd1 ndp hg9 (by rw [ev9]; exact hvn) pl9 (by rw [lenOf ev9]; exact hWl)⟩
      obtain ⟨q1, q2⟩ := wo_get e
      exact a9.get (ne_of_none q1 hd1) (by simpa using q2) (d17.get (by simpa using q2) q1)
def spRowsL (K : PySem.W.Frag) : Sp := fun vs H Q _ => ∃ (M : List Addr) (d : Addr) (W : List Row) (kvs : List (Key × V)), vs = [.ref d] ∧ d ∈ M ∧ Al M H ∧ H d = some (.dK kvs) ∧ Paired (RowKV K (wo H [d])) kvs W ∧ (vsf W).Nodup ∧ W.length ≤ 60 ∧ (∀ v ∈ vsf W, (rdf W v).length ≤ 60) ∧
  ∀ (l : Addr) (H' : Hp), Same H H' → H l = none → LR K (RowT K) (wo H' M) l W → Q (.ref l) H'
theorem ok_law_rows (T : Txt K mg C cx) : Cal P w K mg base 2 "_law_rows" (spRowsL K) := by
  refine cal_of T.d_law_rows sc_law_rows (fun vs H Q E h => ?_) (fun f cdv A outer s H vs Q E hr h => ?_)
  · obtain ⟨M, d, W, kvs, rfl, _⟩ := h
    rfl
  · obtain ⟨M, d, W, kvs, rfl, hdM, al, hd, hkP, hn, hlen, hrl, kk⟩ := h
    refine ⟨_, (pss_one (ps_ret (pe_lock (pe_lc (own := [("_law_place", 1)]) (by rfl) sc_law_rows.nd (pi_keys (pv 0)) (blkOk_by (own := [("_law_place", 1)]) (N := N_law_rows) (sc := defScope s_law_rows) (by decide +kernel)) (fun _ _ _ _ _ => (pg_name (i := 1) sc_law_rows.nd rfl (Or.inl rfl))) (fun _ _ _ _ _ => pts_nil) (fun _ _ _ _ _ => (pe_tup (pa_cons (pv 1) (pa_cons (pe_callTy (call_listK (K := K)) (by rfl) T.n_list (by decide +kernel) (pa_cons (pe_dget (hu_of hr) (pv 0) (pv 1) (fun _ _ => rfl)) pa_nil)) pa_nil)))))))), ?_⟩
    have hvl : (vsf W).length ≤ 60 := by rw [List.length_map]; exact hlen
    have hrd : RdsAt K H d W := ⟨kvs, .inl hd, Paired.mapP hkP fun _ _ q => rowKV_up wo_same.sm q⟩
    refine ⟨d, .dK kvs, hd, trivial, fun od => ?_⟩
    have hrdL : RdsAt K (upd H d (.frz od (.dK kvs))) d W := Mn.up (lock_sm hd trivial id) hrd
    have hfz : upd H d (.frz od (.dK kvs)) d = some (.frz od (.dK kvs)) := upd_same
    have alL : Al M (upd H d (.frz od (.dK kvs))) := al.upd
    refine ⟨_, rfl, d, od, rfl, .inl ⟨_, hfz, fun D hD => ?_⟩⟩
    have nDd : D ≠ d := fun e => by rw [e, upd_same] at hD; cases hD
    have hD0 : H D = none := by rw [upd_ne nDd] at hD; exact hD
    refine lcK (M := M) (l := vsf W) (rds_keys hkP) (fun G v (r : Row) => ∃ t, v = .ref t ∧ RowT K G t r) (rV_up (R := RowT K)) (fun v => some (v, rdf W v)) hD alL (Nat.lt_of_le_of_lt hvl (by decide)) hfz (fun b H3 Ky Kn hb s3 al3 ky kn => ?_) (fun ys H3 s3 hD3 hp3 => ?_)
    · obtain ⟨ra, g2, g1⟩ := hrdL.getS hb
      refine ⟨rfl, lcy ⟨_, rfl, _, rfl, _, rfl, d, _, rfl, g1 _ s3, ra, _, rfl, .inl (up s3 g2), fun c hc => ⟨by show 2 ≤ sizeLine; decide, fun t ht => ?_⟩⟩⟩
      refine ky _ (b, rdf W b) _ rfl ((Same.new hc).trans (.new ht)) ⟨t, rfl, RowT.of upd_same ((al3.same (.new hc)).fresh ht) (Same.new ht _ _ upd_same) (al3.fresh hc)⟩
    rw [filterMap_some] at hp3
    obtain ⟨ts, rfl, hts⟩ := paired_refs hp3
    obtain ⟨u1, u2, _⟩ := unlock_all (N := []) hd s3 (by simp)
    refine ⟨u1, kk D _ u2 hD0 ⟨ts, ?_, ?_⟩⟩
    · exact SqL.of (by rw [wo_out (al.fresh hD0), upd_ne nDd]; exact hD3)
    · have eW : (vsf W).map (fun v => (v, rdf W v)) = W := by
        rw [List.map_map]
        conv => rhs; rw [← List.map_id W]
        refine List.map_congr_left fun r hr' => ?_
        show (r.1, rdf W r.1) = r
        rw [rdf_of hn hr']
      rw [eW] at hts
      refine Paired.mapP hts fun _ _ q => up (R := RowT K) (fun b o e => ?_) q
      obtain ⟨q1, q2⟩ := wo_get e
      rw [wo_out fun z => q2 (List.mem_cons_of_mem _ z), upd_ne fun z => q2 (by rw [z]; exact List.mem_cons_of_mem _ hdM)]
      exact q1
end
end Five
end
section
namespace Five
open PySem PySem.Spec PyProof.Rows L2
open PySem.W (Datum DatumOrd)
section
variable {P : Program} {w : World} {K : PySem.W.Frag} {mg : Str → Option Value} {base : Heap} {C : Addr} {cx : Nat → Addr}
def spFree4 (K : PySem.W.Frag) (C : Addr) : Sp := fun vs H Q _ => ∃ (x dh : Addr) (R : List Row) (hv : List (Str × Int)) (v : Str), vs = [.ref x, .ref dh, .str v] ∧ WebAt K C H x R ∧ HuAt H dh hv ∧ v ∈ vsf R ∧ (rdf R v).length ≤ 60 ∧
  ∀ (H' : Hp), Same H H' → Q (oI (freeF (rdf R) hv v)) H'
theorem ok_free_hue (T : Txt K mg C cx) : Cal P w K mg base 2 "free_hue" (spFree4 K C) := by
  refine cal_of T.d_free_hue sc_free_hue (fun vs H Q E h => ?_) (fun f cdv A outer s H vs Q E hr h => ?_)
  · obtain ⟨x, dh, R, hv, v, rfl, _⟩ := h
    rfl
  · obtain ⟨x, dh, R, hv, v, rfl, hw, hh, hvR, hrl, k⟩ := h
    obtain ⟨a_FOUR, h_FOUR, t_FOUR⟩ := T.g_FOUR
    refine ⟨_, (pss_cons (ps_setLc (i := 3) (own := [("other", 5)]) (by rfl) sc_free_hue.nd rfl rfl (sw_true rfl rfl rfl (by decide +kernel)) (pi_list (pe_mt (ok_Web_round_of T) hr (by decide) (pv 0) (pa_cons (pv 2) pa_nil))) (blkOk_by (own := [("other", 5)]) (N := N_free_hue) (sc := defScope s_free_hue) (by decide +kernel)) (fun _ _ _ _ _ => (pg_name (i := 5) sc_free_hue.nd rfl (Or.inl rfl))) (fun _ _ _ _ _ => pts_nil) (fun _ _ _ _ _ => (pe_dget1 (hu_of hr) (pv 1) (pv 5) ⟨rfl, rfl, rfl, rfl⟩)))
      (pss_cons (ps_for PassesOwn.never (by rfl) (pi_tup (pe_glob (v := .ref a_FOUR) (by rfl) h_FOUR rfl)) (pg_name (i := 4) sc_free_hue.nd rfl (Or.inl rfl)) (pss_one (ps_if (pt_cmpR (op_notInK (K := K)) (pv 4) (pv 3) (by rfl)) (pss_one (ps_ret (pv 4))) pss_nil)))
      (pss_one (ps_ret pe_non)))), ?_⟩
    obtain ⟨wx, wdd, h1, _⟩ := hw.rds
    refine ⟨_, rfl, x, wx, _, rfl, h1, rfl, _, rfl, x, R, v, rfl, hw, hvR, fun ra hra => ?_⟩
    have s1 : Same H (upd H ra (.lst ((rdf R v).map V.str))) := .new hra
    have hrv : upd H ra (.lst ((rdf R v).map V.str)) ra = some (.lst ((rdf R v).map V.str)) := upd_same
    generalize upd H ra (.lst ((rdf R v).map V.str)) = H1 at *
    refine ⟨ra, rfl, ⟨_, SqL.of hrv⟩, fun D hD => ?_⟩
    refine lcL (K := K) (M := []) (paired_map V.str (rdf R v)) (fun G v (n : Str) => v = gv hv n) (fun _ _ _ _ _ e => e) (fun o => some o) hD al_nil (Nat.lt_of_le_of_lt hrl (by decide)) (SqL.of hrv) (fun v o H3 Ky Kn hb e s3 al3 ky kn => ?_) (fun ys H3 s3 hD3 hp3 => ?_)
    · subst e
      have hh3 := up (s1.trans s3) hh
      obtain ⟨oo, q1, q2⟩ := hh3.gv o
      refine ⟨rfl, lcy ⟨_, rfl, dh, rfl, .inl ⟨_, hh3.1⟩, _, rfl, oo, q1, ky _ o _ rfl (.refl _) q2⟩⟩
    rw [List.filterMap_some] at hp3
    rw [paired_vals hp3] at hD3
    have s3' := s1.trans s3
    refine ⟨a_FOUR, rfl, ⟨_, t_FOUR _⟩, for_tup (K := K) (a := a_FOUR) (xs := fours.map V.int) (fun i σ H' => ∃ (y4 y5 : Option V), σ = [some (.ref x), some (.ref dh), some (.str v), some (.ref D), y4, y5] ∧ H' = H3 ∧ ∀ h ∈ fours.take i, ¬ ∀ u ∈ rdf R v, u ∈ ks hv → hval hv u ≠ h) ?_ ?_ ?_ ?_⟩
    · exact ⟨_, _, rfl, rfl, fun h hh => by simp at hh⟩
    · rintro i σ H' _ _
      exact t_FOUR _
    · rintro i z σ H' hi ⟨y4, y5, rfl, rfl, hno⟩
      obtain ⟨h, hh', rfl⟩ : ∃ h, fours[i]? = some h ∧ z = V.int h := by
        rw [List.getElem?_map] at hi
        cases e : fours[i]? with
        | none => rw [e] at hi; cases hi
        | some h => rw [e] at hi; exact ⟨h, rfl, (Option.some.inj hi).symm⟩
      refine ⟨_, rfl, _, rfl, D, _, rfl, .inl (SqL.of hD3), rfl, gv_flat _ _, _, rfl, ?_⟩
      rw [show (if true = true then !inV (V.int h) ((rdf R v).map (gv hv)) else inV (V.int h) ((rdf R v).map (gv hv))) = decide (∀ u ∈ rdf R v, u ∈ ks hv → hval hv u ≠ h) by rw [if_pos rfl, inV_gv, Bool.not_not]]
      by_cases c : ∀ u ∈ rdf R v, u ∈ ks hv → hval hv u ≠ h
      · refine iteYes c ⟨_, rfl, ?_⟩
        have e : freeF (rdf R) hv v = some h := find_at (i := i) (fun y hy => decide_eq_false (hno y hy)) hh' (decide_eq_true c)
        have := k H' s3'
        rw [e] at this
        exact this
      · refine iteNo c ⟨_, _, rfl, rfl, fun y hy => ?_⟩
        rw [take_snoc hh'] at hy
        rcases List.mem_append.mp hy with q | q
        · exact hno y q
        · rw [List.mem_singleton.mp q]; exact c
    · rintro σ H' ⟨y4, y5, rfl, rfl, hno⟩
      rw [List.length_map, List.take_length] at hno
      have e : freeF (rdf R) hv v = none := find_no fun y hy => decide_eq_false (hno y hy)
      have := k H' s3'
      rw [e] at this
      exact this
/-- a pair of a text and a number -/
def TSI (K : PySem.W.Frag) (G : Hp) (t : Addr) (x : Str × Int) : Prop := G t = some (.tup [.str x.1, .int x.2])
instance {K : PySem.W.Frag} : Mn (TSI K) := ⟨fun s h => s.t _ _ trivial h⟩
theorem TSI.of {K : PySem.W.Frag} {H : Hp} {l : Addr} {M : List Addr} {x : Str} {y : Int} (h : H l = some (.tup [.str x, .int y])) (h2 : l ∉ M) : TSI K (wo H M) l (x, y) := by show wo H M l = _; rw [wo_out h2]; exact h
def spTries (K : PySem.W.Frag) (C : Addr) : Sp := fun vs H Q _ => ∃ (x dh : Addr) (R : List Row) (hv : List (Str × Int)) (v : Str), vs = [.ref x, .ref dh, .str v] ∧ WebAt K C H x R ∧ HuAt H dh hv ∧ v ∈ vsf R ∧ (rdf R v).length ≤ 60 ∧
  ∀ (l : Addr) (ts : List Addr) (H' : Hp), Same H H' → H l = none → H' l = some (.lst (ts.map V.ref)) → Paired (TSI K (nw H H')) ts (triesF (rdf R) hv v) → Q (.ref l) H'
theorem ok_tries (T : Txt K mg C cx) : Cal P w K mg base 2 "tries" (spTries K C) := by
  refine cal_of T.d_tries sc_tries (fun vs H Q E h => ?_) (fun f cdv A outer s H vs Q E hr h => ?_)
  · obtain ⟨x, dh, R, hv, v, rfl, _⟩ := h
    rfl
  · obtain ⟨x, dh, R, hv, v, rfl, hw, hh, hvR, hrl, k⟩ := h
    obtain ⟨a_FOUR, h_FOUR, t_FOUR⟩ := T.g_FOUR
    refine ⟨_, (pss_cons (ps_set (i := 3) sc_tries.nd rfl (Or.inl rfl) (pe_lst pa_nil))
      (pss_cons (ps_for PassesOwn.never (by rfl) (pi_list (pe_callB (cr_srtSK (K := K) hr.units) (by rfl) T.n_sorted (by decide +kernel) (pa_cons (pe_mt (ok_Web_round_of T) hr (by decide) (pv 0) (pa_cons (pv 2) pa_nil)) pa_nil))) (pg_name (i := 4) sc_tries.nd rfl (Or.inr rfl)) (pss_one (ps_if (pt_cmp (pc_din (hu_of hr) (pv 4) (pv 1))) (pss_one (ps_expr (pe_bm PySem.F.plainAttrs_list PySem.F.slot_list_extend PySem.F.type_list_extend mt_extend (pv 3) (pa_cons (pe_lc (own := [("hue", 5)]) (by rfl) sc_tries.nd (pi_tup (pe_glob (v := .ref a_FOUR) (by rfl) h_FOUR rfl)) (blkOk_by (own := [("hue", 5)]) (N := N_tries) (sc := defScope s_tries) (by decide +kernel)) (fun _ _ _ _ _ => (pg_name (i := 5) sc_tries.nd rfl (Or.inl rfl))) (fun _ _ _ _ _ => (pts_one (pt_cmpR op_ne (pv 5) (pe_dget (hu_of hr) (pv 1) (pv 4) (fun _ _ => rfl)) (nomark _)))) (fun _ _ _ _ _ => (pe_tup (pa_cons (pv 4) (pa_cons (pv 5) pa_nil))))) pa_nil)))) pss_nil)))
      (pss_one (ps_ret (pv 3))))), ?_⟩
    refine ⟨Nat.zero_le _, fun lf hlf => ?_⟩
    have s0 : Same H (upd H lf (.lst [])) := .new hlf
    have hl0 : upd H lf (.lst []) lf = some (.lst []) := upd_same
    generalize upd H lf (.lst []) = H0 at *
    have hw0 := up (R := WebAt K C) s0 hw
    obtain ⟨wx, wdd, h1, _⟩ := hw0.rds
    refine ⟨_, rfl, x, wx, _, rfl, h1, rfl, _, rfl, x, R, v, rfl, hw0, hvR, fun ra hra => ?_⟩
    have s1 : Same H0 (upd H0 ra (.lst ((rdf R v).map V.str))) := .new hra
    have hrv : upd H0 ra (.lst ((rdf R v).map V.str)) ra = some (.lst ((rdf R v).map V.str)) := upd_same
    have nrl : ra ≠ lf := fun e => by rw [e, hl0] at hra; cases hra
    have hl1 := s1 _ _ hl0
    generalize upd H0 ra (.lst ((rdf R v).map V.str)) = H1 at *
    refine ⟨ra, _, rfl, SqL.of hrv, fun q hq => ?_⟩
    have s2 : Same H1 (upd H1 q (.lst ((srt (rdf R v)).map V.str))) := .new hq
    have hqv : upd H1 q (.lst ((srt (rdf R v)).map V.str)) q = some (.lst ((srt (rdf R v)).map V.str)) := upd_same
    have nql : q ≠ lf := fun e => by rw [e, hl1] at hq; cases hq
    have hl2 := s2 _ _ hl1
    generalize upd H1 q (.lst ((srt (rdf R v)).map V.str)) = H2 at *
    have s02 := (s0.trans s1).trans s2
    have hlen : (srt (rdf R v)).length ≤ 60 := by rw [srt_length]; exact hrl
    refine ⟨q, rfl, ⟨_, SqL.of hqv⟩, for_list (K := K) (a := q) (xs := (srt (rdf R v)).map V.str) (fun i σ H' => ∃ (y4 y5 : Option V) (ts : List Addr), σ = [some (.ref x), some (.ref dh), some (.str v), some (.ref lf), y4, y5] ∧ Same H H' ∧ H' q = some (.lst ((srt (rdf R v)).map V.str)) ∧ H' lf = some (.lst (ts.map V.ref)) ∧ Paired (TSI K (wo (nw H H') [lf])) ts (((srt (rdf R v)).take i).flatMap fun s => if s ∈ ks hv then (fours.filter fun h => decide (h ≠ hval hv s)).map fun h => (s, h) else []) ∧ ts.length ≤ 4 * i) ?_ ?_ ?_ ?_⟩
    · exact ⟨_, _, [], rfl, s02, hqv, hl2, .nil, Nat.zero_le _⟩
    · rintro i σ H' _ ⟨_, _, _, _, _, z, _⟩
      exact SqL.of z
    · rintro i z σ H3 hi ⟨y4, y5, ts, rfl, s3, hQ3, hL3, hP3, hts⟩
      obtain ⟨st, hst, rfl⟩ := item_str hi
      have hi60 : i < 60 := Nat.lt_of_lt_of_le (List.getElem?_eq_some_iff.mp hst).1 hlen
      have hh3 := up (R := HuAt) s3 hh
      refine ⟨_, rfl, _, rfl, dh, _, rfl, hh3.get? st, _, rfl, ?_⟩
      have htake : (srt (rdf R v)).take (i + 1) = (srt (rdf R v)).take i ++ [st] := take_snoc hst
      by_cases hm : st ∈ ks hv
      case neg =>
        rw [if_neg hm]
        refine iteF ⟨_, _, ts, rfl, s3, hQ3, hL3, ?_, by omega⟩
        rw [htake, List.flatMap_append, List.flatMap_singleton, if_neg hm, List.append_nil]
        exact hP3
      rw [if_pos hm]
      refine iteT ⟨_, rfl, .inl ⟨rfl, _, SqL.of hL3⟩, a_FOUR, rfl, ⟨_, t_FOUR _⟩, fun D hD => ?_⟩
      have nDl : D ≠ lf := fun e => by rw [e, hL3] at hD; cases hD
      have nDq : D ≠ q := fun e => by rw [e, hQ3] at hD; cases hD
      have al3 : Al [lf] H3 := fun m hm' => by rw [List.mem_singleton.mp hm', hL3]; simp
      refine lcW (M := [lf]) (S := fun v (h : Int) => v = .int h) (walk_tup (K := K) (a := a_FOUR) (xs := fours.map V.int)) (fun G v (x : Str × Int) => ∃ t, v = .ref t ∧ H3 t = none ∧ TSI K G t x) (fun G G' v x s ⟨t, e1, e2, e3⟩ => ⟨t, e1, e2, s _ _ e3⟩) fours (fun h => if h ≠ hval hv st then some (st, h) else none) hD al3 rfl (by decide) (fun HX _ => t_FOUR _) (fun i H x H' hi y => ?_) (fun z h H4 Ky Kn hb e s4 al4 ky kn => ?_) (fun ys H4 s4 hD4 hp4 => ?_)
      · obtain ⟨e, y⟩ := y
        subst e
        refine ⟨rfl, ?_⟩
        rw [List.getElem?_map] at y
        cases e : fours[i]? with
        | none => rw [e] at y; cases y
        | some h => rw [e] at y; exact ⟨h, rfl, (Option.some.inj y).symm⟩
      · subst e
        have hh4 := up (R := HuAt) (s3.trans s4) hh
        refine ⟨rfl, _, rfl, _, rfl, _, rfl, dh, _, rfl, hh4.get hm, rfl, _, rfl, ?_⟩
        by_cases c : h = hval hv st
        · rw [show (!decide (V.int h = V.int (hval hv st))) = false by simp [c]]
          exact iteF (kn _ (if_neg fun z => z c) (.refl _))
        · rw [show (!decide (V.int h = V.int (hval hv st))) = true by simp [c]]
          exact iteT ⟨_, rfl, _, rfl, by show 2 ≤ sizeLine; decide, fun t ht => ky _ (st, h) _ (if_pos c) (.new ht) ⟨t, rfl, s4.free ht, TSI.of upd_same (al4.fresh ht)⟩⟩
      obtain ⟨ts2, rfl, hts2⟩ := paired_refs hp4
      have ef : fours.filterMap (fun h => if h ≠ hval hv st then some (st, h) else none) = (fours.filter fun h => decide (h ≠ hval hv st)).map fun h => (st, h) := by
        generalize fours = q
        induction q with
        | nil => rfl
        | cons o q ih =>
          rw [List.filterMap_cons, List.filter_cons]
          by_cases c : o ≠ hval hv st
          · rw [if_pos c, if_pos (decide_eq_true c), List.map_cons, ih]
          · rw [if_neg c, if_neg (by simpa using c), ih]
      rw [ef] at hts2
      have hl2' : ts2.length ≤ 4 := by
        rw [Paired.length hts2, List.length_map]
        exact Nat.le_trans (List.length_filter_le _ _) (by decide)
      have hL4 := s4 _ _ hL3
      refine ⟨lf, D, _, _, rfl, rfl, hL4, hD4, ?_, ?_⟩
      · rw [List.length_map, List.length_map]
        exact Nat.le_trans (show ts.length + ts2.length ≤ 300 by omega) (by decide)
      have sN : Same H (upd H4 lf (.lst (ts.map V.ref ++ ts2.map V.ref))) := (s3.trans s4).mut hlf
      refine ⟨_, _, ts ++ ts2, rfl, sN, by rw [upd_ne nql]; exact s4 _ _ hQ3, by rw [upd_same, List.map_append], ?_, by rw [List.length_append]; omega⟩
      rw [htake, List.flatMap_append, List.flatMap_singleton, if_pos hm]
      have up1 : ∀ b o, b ≠ lf → H b = none → H4 b = some o → wo (nw H (upd H4 lf (.lst (ts.map V.ref ++ ts2.map V.ref)))) [lf] b = some o := fun b o n h1 h2 => by
        rw [wo_out (by simpa using n), nw_of h1, upd_ne n]; exact h2
      refine paired_app (Paired.mapP hP3 fun t z q => ?_) (Paired.mapP hts2 fun t z q => ?_)
      · obtain ⟨q1, q2⟩ := wo_get (show wo (nw H H3) [lf] t = _ from q)
        obtain ⟨q3, q4⟩ := nw_get q1
        exact up1 t _ (by simpa using q2) q3 (s4 _ _ q4)
      · obtain ⟨q0, q⟩ := q
        obtain ⟨q1, q2⟩ := wo_get (show wo H4 [D, lf] t = _ from q)
        simp at q2
        exact up1 t _ q2.2 (s3.free q0) q1
    · rintro σ H3 ⟨y4, y5, ts, rfl, s3, hQ3, hL3, hP3, hts⟩
      rw [List.length_map, List.take_length] at hP3
      exact ⟨_, rfl, k lf ts H3 s3 hlf hL3 (Paired.mapP hP3 fun t z q => wo_same _ _ q)⟩
def spWith (K : PySem.W.Frag) (C : Addr) : Sp := fun vs H Q _ => ∃ (x dh t : Addr) (R : List Row) (hv : List (Str × Int)) (one : Try), vs = [.ref x, .ref dh, .ref t] ∧ WebAt K C H x R ∧ HuAt H dh hv ∧ TSI K H t one ∧ one.1 ∈ vsf R ∧ one.1 ∈ ks hv ∧ 0 ≤ one.2 ∧ one.2 ≠ hval hv one.1 ∧ Wf (vsf R) (rdf R) ∧ R.length ≤ 60 ∧
  ∀ (p : Addr) (H' : Hp), Same H H' → H p = none → SwT4 K (nw H H') p (swF (rdf R) hv one) → Q (.ref p) H'
theorem ok_with_chain (T : Txt K mg C cx) : Cal P w K mg base 4 "with_chain" (spWith K C) := by
  refine cal_of T.d_with_chain sc_with_chain (fun vs H Q E h => ?_) (fun f cdv A outer s H vs Q E hr h => ?_)
  · obtain ⟨x, dh, t, R, hv, one, rfl, _⟩ := h
    rfl
  · obtain ⟨x, dh, t, R, hv, one, rfl, hw, hh, ht, h1, h2, h3, h4, wf, hl, k⟩ := h
    refine ⟨_, (pss_one (ps_ret (pe_tup (pa_cons (pe_ix (ix_tupK (K := K)) (pv 2) pe_int (fun _ _ => rfl)) (pa_cons (pe_ix (ix_tupK (K := K)) (pv 2) pe_int (fun _ _ => rfl)) (pa_cons (pe_c (ok_chain T) hr (by decide) (by rfl) (pa_cons (pv 0) (pa_cons (pv 1) (pa_cons (pe_ix (ix_tupK (K := K)) (pv 2) pe_int (fun _ _ => rfl)) (pa_cons (pe_ix (ix_tupK (K := K)) (pv 2) pe_int (fun _ _ => rfl)) pa_nil))))) pa_nil)))))), ?_⟩
    have ht : H t = some (.tup [.str one.1, .int one.2]) := ht
    refine ⟨_, rfl, t, _, _, _, rfl, rfl, SqT.of ht, rfl, _, rfl, t, _, _, _, rfl, rfl, SqT.of ht, rfl, _, rfl, _, rfl, _, rfl, t, _, _, _, rfl, rfl, SqT.of ht, rfl, _, rfl, t, _, _, _, rfl, rfl, SqT.of ht, rfl, x, dh, R, hv, one.1, one.2, rfl, hw, hh, h1, h2, h3, h4, wf, hl, fun p c H1 s1 hp hpv hc => ⟨by show 3 ≤ sizeLine; decide, fun b hb => ?_⟩⟩
    rw [hc.chF h2 hh.2] at hpv
    exact k b _ (s1.trans (.new hb)) (s1.free hb) ⟨p, by rw [nw_of (s1.free hb), upd_same]; rfl, by rw [nw_of hp]; exact Same.new hb _ _ hpv⟩
end
end Five
end
section
namespace Five
open PySem PySem.Spec PyProof.Rows L2
open PySem.W (Datum DatumOrd)
/-- the search's own object -/
def srO (CS dx x db lp : Addr) (most n : Nat) : HO := .ins CS dx [("flat", .ref x), ("most", .int most), ("steps", .int n), ("back", .ref db), ("paper", .ref lp)]
section
variable {P : Program} {w : World} {K : PySem.W.Frag} {mg : Str → Option Value} {base : Heap} {C : Addr} {cx : Nat → Addr}
def spSrInit (K : PySem.W.Frag) (CS : Addr) : Sp := fun vs H Q _ => ∃ (a dx x : Addr) (most : Nat), vs = [.ref a, .ref x, .int most] ∧ H a = some (.ins CS dx []) ∧
  ∀ (H' : Hp) (db lp : Addr), Same (wo H [a]) H' → H db = none → H lp = none → db ≠ lp → H' a = some (srO CS dx x db lp most 0) → H' db = some (.dK []) → H' lp = some (.lst []) → Q .non H'
theorem ok_Search_init (T : Txt K mg C cx) : ∃ f fd, Mk K (cx 8) f ∧ FnOk P w K mg base CX0 1 f fd ["self", "web", "most"] (spSrInit K (cx 8)) ∧ Binds K fd ["self", "web", "most"] [] := by
  obtain ⟨f, fd, F, hm, b⟩ := T.d_Search_init
  refine ⟨f, fd, hm, F.ok sc_Search_init (fun vs H Q E h => ?_) (fun cdv A outer s H vs Q E hr h => ?_), b⟩
  · obtain ⟨a, dx, x, most, rfl, _⟩ := h
    rfl
  · obtain ⟨a, dx, x, most, rfl, ha, k⟩ := h
    refine ⟨_, (pss_cons (ps_fld (pv 0) (pv 1) rfl)
      (pss_cons (ps_fld (pv 0) (pv 2) rfl)
      (pss_cons (ps_fld (pv 0) pe_int rfl)
      (pss_cons (ps_fld (pv 0) pe_dnewK rfl)
      (pss_one (ps_fld (pv 0) (pe_lst pa_nil) rfl)))))), ?_⟩
    have fr : ∀ {G G' : Hp} {o o' : HO}, Same (wo H [a]) G → Same (wo H [a]) (upd G a o) := fun {G G' o o'} s b z e => by
      obtain ⟨q1, q2⟩ := wo_get e
      rw [upd_ne (by simpa using q2)]
      exact s _ _ e
    refine ⟨_, rfl, _, rfl, a, _, dx, _, rfl, ha, T.cl_Search, T.na_Search_flat, by decide, ?_⟩
    show (_ : TS) _ _ (upd H a (.ins (cx 8) dx [("flat", .ref x)]))
    refine ⟨_, rfl, _, rfl, a, _, dx, _, rfl, upd_same, T.cl_Search, T.na_Search_most, by show 1 < 1000; decide, ?_⟩
    rw [upd_upd]
    show (_ : TS) _ _ (upd H a (.ins (cx 8) dx [("flat", .ref x), ("most", .int most)]))
    refine ⟨_, rfl, a, _, dx, _, rfl, upd_same, T.cl_Search, T.na_Search_steps, by show 2 < 1000; decide, ?_⟩
    rw [upd_upd]
    show (_ : TS) _ _ (upd H a (.ins (cx 8) dx [("flat", .ref x), ("most", .int most), ("steps", .int 0)]))
    have ha1 : upd H a (.ins (cx 8) dx [("flat", .ref x), ("most", .int most), ("steps", .int 0)]) a = some (.ins (cx 8) dx [("flat", .ref x), ("most", .int most), ("steps", .int 0)]) := upd_same
    have s1 : Same (wo H [a]) (upd H a (.ins (cx 8) dx [("flat", .ref x), ("most", .int most), ("steps", .int 0)])) := fr (G' := H) (o' := .lst []) wo_same
    have f1 : ∀ {b : Addr}, upd H a (.ins (cx 8) dx [("flat", .ref x), ("most", .int most), ("steps", .int 0)]) b = none → H b = none := fun {b} e => by
      by_cases n : b = a
      · rw [n, upd_same] at e; cases e
      · rwa [upd_ne n] at e
    generalize upd H a (.ins (cx 8) dx [("flat", .ref x), ("most", .int most), ("steps", .int 0)]) = H1 at *
    refine fun db hdb => ?_
    have nba : db ≠ a := fun e => by rw [e, ha1] at hdb; cases hdb
    refine ⟨_, rfl, a, _, dx, _, rfl, Same.new hdb _ _ ha1, T.cl_Search, T.na_Search_back, by show 3 < 1000; decide, ?_⟩
    show (_ : TS) _ _ (upd (upd H1 db (.dK [])) a (.ins (cx 8) dx [("flat", .ref x), ("most", .int most), ("steps", .int 0), ("back", .ref db)]))
    have ha2 : upd (upd H1 db (.dK [])) a (.ins (cx 8) dx [("flat", .ref x), ("most", .int most), ("steps", .int 0), ("back", .ref db)]) a = some (.ins (cx 8) dx [("flat", .ref x), ("most", .int most), ("steps", .int 0), ("back", .ref db)]) := upd_same
    have hb2 : upd (upd H1 db (.dK [])) a (.ins (cx 8) dx [("flat", .ref x), ("most", .int most), ("steps", .int 0), ("back", .ref db)]) db = some (.dK []) := by rw [upd_ne nba, upd_same]
    have s2 : Same (wo H [a]) (upd (upd H1 db (.dK [])) a (.ins (cx 8) dx [("flat", .ref x), ("most", .int most), ("steps", .int 0), ("back", .ref db)])) := fr (G' := H) (o' := .lst []) (s1.trans (.new hdb))
    have f2 : ∀ {b : Addr}, upd (upd H1 db (.dK [])) a (.ins (cx 8) dx [("flat", .ref x), ("most", .int most), ("steps", .int 0), ("back", .ref db)]) b = none → H b = none := fun {b} e => by
      by_cases n : b = a
      · rw [n, upd_same] at e; cases e
      · rw [upd_ne n] at e
        exact f1 ((Same.new hdb).free e)
    generalize upd (upd H1 db (.dK [])) a (.ins (cx 8) dx [("flat", .ref x), ("most", .int most), ("steps", .int 0), ("back", .ref db)]) = H2 at *
    refine ⟨Nat.zero_le _, fun lp hlp => ?_⟩
    have nla : lp ≠ a := fun e => by rw [e, ha2] at hlp; cases hlp
    have nlb : db ≠ lp := fun e => by rw [← e, hb2] at hlp; cases hlp
    refine ⟨_, rfl, a, _, dx, _, rfl, Same.new hlp _ _ ha2, T.cl_Search, T.na_Search_paper, by show 4 < 1000; decide, ?_⟩
    exact k _ db lp (fr (G' := H) (o' := .lst []) (s2.trans (.new hlp))) (f1 hdb) (f2 hlp) nlb upd_same (by rw [upd_ne nba]; exact Same.new hlp _ _ hb2) (by rw [upd_ne nla, upd_same])
theorem ok_Search (T : Txt K mg C cx) : Mak P w K mg base 1 "Search" (cx 8) (spSrInit K (cx 8)) := by
  obtain ⟨f, fd, h1, h2, h3⟩ := ok_Search_init (P := P) (w := w) (base := base) T
  exact ⟨f, fd, _, h1, h2, T.mg_Search, h3⟩
def spBehind4 (K : PySem.W.Frag) (C CS : Addr) : Sp := fun vs H Q _ => ∃ (a dx x db lp dh t : Addr) (most n : Nat) (R : List Row) (hv : List (Str × Int)) (one : Try), vs = [.ref a, .ref dh, .ref t] ∧ H a = some (srO CS dx x db lp most n) ∧ WebAt K C (wo H [a]) x R ∧ HuAt (wo H [a]) dh hv ∧ TSI K H t one ∧ Try4 R hv one ∧ Web4 R ∧ Hues4 R hv ∧
  (n = most → Q .non H) ∧ (n ≠ most → ∀ (fd : Addr) (H' : Hp), Same (wo H [a]) H' → H fd = none → H' a = some (srO CS dx x db lp most (n + 1)) → H' fd = some (.dK (dk V.int (exF (rdf R) hv one))) → Q (.ref fd) H')
theorem ok_Search_behind (T : Txt K mg C cx) : Met P w K mg base 5 (cx 8) "behind" (spBehind4 K C (cx 8)) := by
  refine met_of T.cl_Search T.d_Search_behind sc_Search_behind (fun vs H Q E h => ?_) (fun f cdv A outer s H vs Q E hr h => ?_)
  · obtain ⟨a, dx, x, db, lp, dh, t, most, n, R, hv, one, rfl, _⟩ := h
    rfl
  · obtain ⟨a, dx, x, db, lp, dh, t, most, n, R, hv, one, rfl, ha, hw, hh, ht, t4, w4, h4, k0, k1⟩ := h
    refine ⟨_, (pss_cons (ps_if (pt_cmpR op_eq (pe_fld (pv 0) rfl) (pe_fld (pv 0) rfl) (nomark _)) (pss_one (ps_ret pe_non)) pss_nil)
      (pss_cons (ps_fldaug (pv 0) pe_int in_add)
      (pss_one (ps_ret (pe_c (ok_exchanged T) hr (by decide) (by rfl) (pa_cons (pe_fld (pv 0) rfl) (pa_cons (pv 1) (pa_cons (pe_ix (ix_tupK (K := K)) (pv 2) pe_int (fun _ _ => rfl)) (pa_cons (pe_ix (ix_tupK (K := K)) (pv 2) pe_int (fun _ _ => rfl)) pa_nil))))))))), ?_⟩
    refine ⟨_, rfl, a, _, dx, _, _, rfl, ha, T.cl_Search, T.na_Search_steps, rfl, _, rfl, a, _, dx, _, _, rfl, ha, T.cl_Search, T.na_Search_most, rfl, rfl, _, rfl, ?_⟩
    by_cases cm : n = most
    · rw [decide_eq_true (show V.int n = V.int most by rw [cm])]
      exact iteT (k0 cm)
    rw [decide_eq_false (show ¬ V.int n = V.int most from fun z => cm (by have := V.int.inj z; omega))]
    refine iteF ⟨_, rfl, a, _, dx, _, _, rfl, ha, T.cl_Search, T.na_Search_steps, rfl, ?_⟩
    refine ⟨_, _, rfl, rfl, dx, _, ha, by show 5 < 1000; decide, ?_⟩
    have e1 : upd H a (.ins (cx 8) dx (putF "steps" (.int ((n : Int) + 1)) [("flat", .ref x), ("most", .int most), ("steps", .int n), ("back", .ref db), ("paper", .ref lp)])) = upd H a (srO (cx 8) dx x db lp most (n + 1)) := by
      congr 1
    show (_ : TS) _ _ (upd H a (.ins (cx 8) dx (putF "steps" (.int ((n : Int) + 1)) [("flat", .ref x), ("most", .int most), ("steps", .int n), ("back", .ref db), ("paper", .ref lp)])))
    rw [e1]
    have ha1 : upd H a (srO (cx 8) dx x db lp most (n + 1)) a = some (srO (cx 8) dx x db lp most (n + 1)) := upd_same
    have s1 : Same (wo H [a]) (upd H a (srO (cx 8) dx x db lp most (n + 1))) := fun b o e => by
      obtain ⟨q1, q2⟩ := wo_get e
      rw [upd_ne (by simpa using q2)]
      exact q1
    have ht : H t = some (.tup [.str one.1, .int one.2]) := ht
    have nta : t ≠ a := fun e => by rw [e, ha] at ht; cases ht
    have ht1 : upd H a (srO (cx 8) dx x db lp most (n + 1)) t = some (.tup [.str one.1, .int one.2]) := by rw [upd_ne nta]; exact ht
    have f1 : ∀ {b : Addr}, upd H a (srO (cx 8) dx x db lp most (n + 1)) b = none → H b = none := fun {b} e => by
      by_cases z : b = a
      · rw [z, upd_same] at e; cases e
      · rwa [upd_ne z] at e
    generalize upd H a (srO (cx 8) dx x db lp most (n + 1)) = H1 at *
    refine ⟨_, rfl, a, _, dx, _, _, rfl, ha1, T.cl_Search, T.na_Search_flat, rfl, _, rfl, _, rfl, t, _, _, _, rfl, rfl, SqT.of ht1, rfl, _, rfl, t, _, _, _, rfl, rfl, SqT.of ht1, rfl, x, dh, R, hv, one.1, one.2, rfl, up s1 hw, up s1 hh, t4.inR, t4.inH, t4.ge, t4.ne, w4.wf, w4.len, h4.len w4, fun fd c H2 s2 hfd hF hc => ?_⟩
    refine k1 cm fd H2 (s1.trans s2) (f1 hfd) (s2 _ _ ha1) ?_
    rw [hF]
    unfold exF
    rw [swH_congr (hc.chF_perm t4.inH h4.nd)]
/-- what the tries of a place lead to -/
def spSingle (K : PySem.W.Frag) (C CS : Addr) : Sp := fun vs H Q _ => ∃ (a dx x db lp : Addr) (most n : Nat) (R : List Row) (hv : List (Str × Int)) (v : Str), vs = [.ref a, .str v] ∧ H a = some (srO CS dx x db lp most n) ∧ WebAt K C (wo H [a]) x R ∧ HuAt (wo H [a]) db hv ∧ v ∈ vsf R ∧ Web4 R ∧ Hues4 R hv ∧ n ≤ most ∧
  (∀ (m : Nat) (l : Addr) (H' : Hp), scanF (rdf R) most v hv (triesF (rdf R) hv v) n = (none, m) → Same (wo H [a]) H' → H l = none → H' a = some (srO CS dx x db lp most m) → H' l = some (.lst []) → Q (.ref l) H') ∧
  (∀ (t : Try) (h' : List (Str × Int)) (m : Nat) (l sw fd : Addr) (H' : Hp), scanF (rdf R) most v hv (triesF (rdf R) hv v) n = (some (t, h'), m) → Same (wo H [a]) H' → H l = none → H sw = none → H fd = none → H' a = some (srO CS dx x fd lp most m) → H' fd = some (.dK (dk V.int h')) → H' l = some (.lst [.ref sw]) → SwT4 K (nw H H') sw (swF (rdf R) hv t) → Q (.ref l) H')
theorem ok_Search_single (T : Txt K mg C cx) : Met P w K mg base 6 (cx 8) "single" (spSingle K C (cx 8)) := by
  refine met_of T.cl_Search T.d_Search_single sc_Search_single (fun vs H Q E h => ?_) (fun f cdv A outer s H vs Q E hr h => ?_)
  · obtain ⟨a, dx, x, db, lp, most, n, R, hv, v, rfl, _⟩ := h
    rfl
  · obtain ⟨a, dx, x, db, lp, most, n, R, hv, v, rfl, ha, hw, hh, hvR, w4, h4, hnm, k0, k1⟩ := h
    refine ⟨_, (pss_cons (ps_for PassesOwn.never (by rfl) (pi_list (pe_c (ok_tries T) hr (by decide) (by rfl) (pa_cons (pe_fld (pv 0) rfl) (pa_cons (pe_fld (pv 0) rfl) (pa_cons (pv 1) pa_nil))))) (pg_name (i := 2) sc_Search_single.nd rfl (Or.inl rfl)) (pss_cons (ps_set (i := 3) sc_Search_single.nd rfl (Or.inl rfl) (pe_mt (ok_Search_behind T) hr (by decide) (pv 0) (pa_cons (pe_fld (pv 0) rfl) (pa_cons (pv 2) pa_nil))))
      (pss_cons (ps_if (pt_cmpR op_isN (pv 3) pe_non (nomark _)) (pss_one (ps_ret (pe_lst pa_nil))) pss_nil)
      (pss_one (ps_if (pt_cmpR op_notN (pe_c (ok_free_hue T) hr (by decide) (by rfl) (pa_cons (pe_fld (pv 0) rfl) (pa_cons (pv 3) (pa_cons (pv 1) pa_nil)))) pe_non (nomark _)) (pss_cons (ps_set (i := 4) sc_Search_single.nd rfl (Or.inl rfl) (pe_c (ok_with_chain T) hr (by decide) (by rfl) (pa_cons (pe_fld (pv 0) rfl) (pa_cons (pe_fld (pv 0) rfl) (pa_cons (pv 2) pa_nil)))))
      (pss_cons (ps_fld (pv 0) (pv 3) rfl)
      (pss_one (ps_ret (pe_lst (pa_cons (pv 4) pa_nil)))))) pss_nil)))))
      (pss_one (ps_ret (pe_lst pa_nil)))), ?_⟩
    refine ⟨_, rfl, a, _, dx, _, _, rfl, ha, T.cl_Search, T.na_Search_flat, rfl, _, rfl, a, _, dx, _, _, rfl, ha, T.cl_Search, T.na_Search_back, rfl, _, rfl, x, db, R, hv, v, rfl, up wo_same hw, up wo_same hh, hvR, w4.rl hvR, fun ls ts H1 s1 hls hL1 hP1 => ?_⟩
    have nla : ls ≠ a := fun e => by rw [e, ha] at hls; cases hls
    have ha1 := s1 _ _ ha
    have s01 : Same (wo H [a]) H1 := wo_same.trans s1
    have hPa : ∀ {HX : Hp}, Same (wo H1 [a]) HX → Paired (TSI K HX) ts (triesF (rdf R) hv v) := fun {HX} sx => Paired.mapP hP1 fun t z q => by
      obtain ⟨q1, q2⟩ := nw_get (show nw H H1 t = _ from q)
      have : t ≠ a := fun e => by rw [e, ha] at q1; cases q1
      exact sx _ _ (by rw [wo_out (by simpa using this)]; exact q2)
    refine ⟨ls, rfl, ⟨_, SqL.of hL1⟩, for_list (K := K) (a := ls) (xs := ts.map V.ref) (fun i σ H' => ∃ (y2 y3 y4 : Option V) (m : Nat), σ = [some (.ref a), some (.str v), y2, y3, y4] ∧ Same (wo H1 [a]) H' ∧ H' a = some (srO (cx 8) dx x db lp most m) ∧ m ≤ most ∧ scanF (rdf R) most v hv (triesF (rdf R) hv v) n = scanF (rdf R) most v hv ((triesF (rdf R) hv v).drop i) m) ?_ ?_ ?_ ?_⟩
    · exact ⟨_, _, _, n, rfl, wo_same, ha1, hnm, rfl⟩
    · rintro i σ H' _ ⟨_, _, _, _, _, sx, _⟩
      exact SqL.of (sx _ _ (by rw [wo_out (by simpa using nla)]; exact hL1))
    · rintro i z σ H2 hi ⟨y2, y3, y4, m, rfl, s2, ha2, hm, hsc⟩
      obtain ⟨t, ht, rfl⟩ := item_ref hi
      obtain ⟨one, hone, htv⟩ := paired_get (hPa s2) i t ht
      have t4 : Try4 R hv one := tries4 w4 hvR (List.mem_of_getElem? hone)
      have eD : (triesF (rdf R) hv v).drop i = one :: (triesF (rdf R) hv v).drop (i + 1) := by
        obtain ⟨h1, h2⟩ := List.getElem?_eq_some_iff.mp hone
        rw [List.drop_eq_getElem_cons h1, h2]
      rw [eD] at hsc
      have wup : ∀ {HX : Hp}, Same (wo H1 [a]) HX → WebAt K C (wo HX [a]) x R ∧ HuAt (wo HX [a]) db hv := fun {HX} sx => by
        have : Same (wo H [a]) (wo HX [a]) := fun b o e => by
          obtain ⟨q1, q2⟩ := wo_get e
          rw [wo_out q2]
          exact sx _ _ (by rw [wo_out q2]; exact s1 _ _ q1)
        exact ⟨up this hw, up this hh⟩
      obtain ⟨hw2, hh2⟩ := wup s2
      refine ⟨_, rfl, a, dx, _, rfl, ha2, rfl, _, rfl, a, _, dx, _, _, rfl, ha2, T.cl_Search, T.na_Search_back, rfl, _, rfl, a, dx, x, db, lp, db, t, most, m, R, hv, one, rfl, ha2, hw2, hh2, htv, t4, w4, h4, fun e => ?_, fun hne fd H3 s3 hfd ha3 hF3 => ?_⟩
      · refine ⟨_, rfl, rfl, _, rfl, ?_⟩
        rw [show decide (V.non = V.non) = true by simp]
        refine iteT ⟨Nat.zero_le _, fun l hl => ?_⟩
        have hs : scanF (rdf R) most v hv (triesF (rdf R) hv v) n = (none, m) := by rw [hsc, scanF_cons, if_pos e]
        have nl : l ≠ a := fun e => by rw [e, ha2] at hl; cases hl
        have hl1 : H1 l = none := by
          have := s2.free hl
          rwa [wo_out (by simpa using nl)] at this
        exact k0 m l _ hs (fun b o e => Same.new hl _ _ (s2 _ _ (by
          obtain ⟨q1, q2⟩ := wo_get e
          rw [wo_out q2]; exact s1 _ _ q1))) (s1.free hl1) (Same.new hl _ _ ha2) upd_same
      have hne' : m ≠ most := hne
      have sB : Same (wo H1 [a]) H3 := fun b o e => by
        obtain ⟨q1, q2⟩ := wo_get e
        exact s3 _ _ (by rw [wo_out q2]; exact s2 _ _ e)
      obtain ⟨hw3, hh3⟩ := wup sB
      refine ⟨_, rfl, rfl, _, rfl, ?_⟩
      rw [show decide (V.ref fd = V.non) = false by simp]
      have h4' := h4.ex (rdf R) one
      refine iteF ⟨_, rfl, a, _, dx, _, _, rfl, ha3, T.cl_Search, T.na_Search_flat, rfl, _, rfl, _, rfl, x, fd, R, exF (rdf R) hv one, v, rfl, up wo_same hw3, HuAt.of hF3 h4'.nd, hvR, w4.rl hvR, fun H4 s4 => ⟨rfl, _, rfl, ?_⟩⟩
      have ha4 := s4 _ _ ha3
      have hF4 := s4 _ _ hF3
      have sC := sB.trans s4
      obtain ⟨hw4, hh4⟩ := wup sC
      have nfa : fd ≠ a := fun e => by rw [e, ha2] at hfd; cases hfd
      have hfd1 : H1 fd = none := by
        have := s2.free hfd
        rwa [wo_out (by simpa using nfa)] at this
      have hfd0 : H fd = none := s1.free hfd1
      cases ef : freeF (rdf R) (exF (rdf R) hv one) v with
      | none =>
        rw [show (!decide (oI none = V.non)) = false by simp [oI]]
        refine iteF ⟨_, _, _, m + 1, rfl, sC, ha4, by omega, ?_⟩
        rw [hsc, scanF_cons, if_neg hne', ef]
        rfl
      | some h =>
        rw [show (!decide (oI (some h) = V.non)) = true by simp [oI]]
        have hs : scanF (rdf R) most v hv (triesF (rdf R) hv v) n = (some (one, exF (rdf R) hv one), m + 1) := by rw [hsc, scanF_cons, if_neg hne', ef]; rfl
        have htv4 : TSI K H4 t one := by
          obtain ⟨z, q1, q2⟩ := paired_get (hPa sC) i t ht
          rw [hone] at q1
          cases q1
          exact q2
        refine iteT ⟨_, rfl, a, _, dx, _, _, rfl, ha4, T.cl_Search, T.na_Search_flat, rfl, _, rfl, a, _, dx, _, _, rfl, ha4, T.cl_Search, T.na_Search_back, rfl, _, rfl, x, db, t, R, hv, one, rfl, up wo_same hw4, up wo_same hh4, htv4, t4.inR, t4.inH, t4.ge, t4.ne, w4.wf, w4.len, fun sw H5 s5 hsw hS5 => ?_⟩
        have ha5 := s5 _ _ ha4
        refine ⟨_, rfl, _, rfl, a, _, dx, _, rfl, ha5, T.cl_Search, T.na_Search_back, by show 5 < 1000; decide, ?_⟩
        have e5 : upd H5 a (.ins (cx 8) dx (putF "back" (.ref fd) [("flat", .ref x), ("most", .int most), ("steps", .int ((m + 1 : Nat) : Int)), ("back", .ref db), ("paper", .ref lp)])) = upd H5 a (srO (cx 8) dx x fd lp most (m + 1)) := by congr 1
        show (_ : TS) _ _ (upd H5 a (.ins (cx 8) dx (putF "back" (.ref fd) [("flat", .ref x), ("most", .int most), ("steps", .int ((m + 1 : Nat) : Int)), ("back", .ref db), ("paper", .ref lp)])))
        rw [e5]
        have nsa : sw ≠ a := fun e => by rw [e, ha4] at hsw; cases hsw
        have hsw1 : H1 sw = none := by
          have := sC.free hsw
          rwa [wo_out (by simpa using nsa)] at this
        have hsw0 : H sw = none := s1.free hsw1
        have s6 : Same (wo H1 [a]) (upd H5 a (srO (cx 8) dx x fd lp most (m + 1))) := fun b o e => by
          obtain ⟨q1, q2⟩ := wo_get e
          rw [upd_ne (by simpa using q2)]
          exact s5 _ _ (sC _ _ e)
        refine ⟨_, rfl, by show 1 ≤ sizeLine; decide, fun l hl => ?_⟩
        have nl : l ≠ a := fun e => by rw [e, upd_same] at hl; cases hl
        have hl1 : H1 l = none := by
          have := s6.free hl
          rwa [wo_out (by simpa using nl)] at this
        refine k1 one _ (m + 1) l sw fd _ hs (fun b o e => Same.new hl _ _ (s6 _ _ (by
          obtain ⟨q1, q2⟩ := wo_get e
          rw [wo_out q2]; exact s1 _ _ q1))) (s1.free hl1) hsw0 hfd0 (Same.new hl _ _ upd_same) (Same.new hl _ _ (by rw [upd_ne nfa]; exact s5 _ _ hF4)) upd_same ?_
        refine up (R := SwT4 K) (fun b o e => ?_) hS5
        obtain ⟨q1, q2⟩ := nw_get e
        have nb : b ≠ a := fun e => by rw [e, ha4] at q1; cases q1
        have hb1 : H1 b = none := by
          have := sC.free q1
          rwa [wo_out (by simpa using nb)] at this
        rw [nw_of (s1.free hb1)]
        exact Same.new hl _ _ (by rw [upd_ne nb]; exact q2)
    · rintro σ H2 ⟨y2, y3, y4, m, rfl, s2, ha2, hm, hsc⟩
      have hlen : ts.length = (triesF (rdf R) hv v).length := Paired.length hP1
      rw [List.length_map, hlen, List.drop_length] at hsc
      refine ⟨Nat.zero_le _, fun l hl => ?_⟩
      have nl : l ≠ a := fun e => by rw [e, ha2] at hl; cases hl
      have hl1 : H1 l = none := by
        have := s2.free hl
        rwa [wo_out (by simpa using nl)] at this
      exact k0 m l _ (by rw [hsc]; rfl) (fun b o e => Same.new hl _ _ (s2 _ _ (by
        obtain ⟨q1, q2⟩ := wo_get e
        rw [wo_out q2]; exact s1 _ _ q1))) (s1.free hl1) (Same.new hl _ _ ha2) upd_same
end
end Five
end
section
namespace Five
open PySem PySem.Spec PyProof.Rows L2
open PySem.W (Datum DatumOrd)
section
variable {P : Program} {w : World} {K : PySem.W.Frag} {mg : Str → Option Value} {base : Heap} {C : Addr} {cx : Nat → Addr}
theorem wo_back {H H1 HX : Hp} {a : Addr} (s1 : Same H H1) (sx : Same (wo H1 [a]) HX) : Same (wo H [a]) HX := fun b o e => by
  obtain ⟨q1, q2⟩ := wo_get e
  exact sx _ _ (by rw [wo_out q2]; exact s1 _ _ q1)
theorem wo_up {H H1 HX : Hp} {a : Addr} (s1 : Same H H1) (sx : Same (wo H1 [a]) HX) : Same (wo H [a]) (wo HX [a]) := fun b o e => by
  obtain ⟨q1, q2⟩ := wo_get e
  rw [wo_out q2]
  exact sx _ _ (by rw [wo_out q2]; exact s1 _ _ q1)
theorem wo_free {H HX : Hp} {a l : Addr} {o : HO} (sx : Same (wo H [a]) HX) (ha : HX a = some o) (hl : HX l = none) : H l = none := by
  have nl : l ≠ a := fun e => by rw [e, ha] at hl; cases hl
  have := sx.free hl
  rwa [wo_out (by simpa using nl)] at this
theorem wo_seq {H1 H2 H3 : Hp} {a : Addr} (s2 : Same (wo H1 [a]) H2) (s3 : Same (wo H2 [a]) H3) : Same (wo H1 [a]) H3 := fun b o e => by
  obtain ⟨q1, q2⟩ := wo_get e
  exact s3 _ _ (by rw [wo_out q2]; exact s2 _ _ e)
def spSecond (K : PySem.W.Frag) (C CS : Addr) : Sp := fun vs H Q _ => ∃ (a dx x db lp dh : Addr) (most n : Nat) (R : List Row) (hv : List (Str × Int)) (v : Str), vs = [.ref a, .str v, .ref dh] ∧ H a = some (srO CS dx x db lp most n) ∧ WebAt K C (wo H [a]) x R ∧ HuAt (wo H [a]) dh hv ∧ v ∈ vsf R ∧ Web4 R ∧ Hues4 R hv ∧ n ≤ most ∧
  (∀ (m : Nat) (H' : Hp), scanF (rdf R) most v hv (triesF (rdf R) hv v) n = (none, m) → m ≤ most → Same (wo H [a]) H' → H' a = some (srO CS dx x db lp most m) → Q .non H') ∧
  (∀ (t : Try) (h' : List (Str × Int)) (m : Nat) (q to fd : Addr) (H' : Hp), scanF (rdf R) most v hv (triesF (rdf R) hv v) n = (some (t, h'), m) → Try4 R hv t → h' = exF (rdf R) hv t → Same (wo H [a]) H' → H q = none → H fd = none → H' a = some (srO CS dx x db lp most m) → H' q = some (.tup [.ref to, .ref fd]) → H' fd = some (.dK (dk V.int h')) → TSI K (nw H H') to t → Q (.ref q) H')
theorem ok_Search_second (T : Txt K mg C cx) : Met P w K mg base 6 (cx 8) "second" (spSecond K C (cx 8)) := by
  refine met_of T.cl_Search T.d_Search_second sc_Search_second (fun vs H Q E h => ?_) (fun f cdv A outer s H vs Q E hr h => ?_)
  · obtain ⟨a, dx, x, db, lp, dh, most, n, R, hv, v, rfl, _⟩ := h
    rfl
  · obtain ⟨a, dx, x, db, lp, dh, most, n, R, hv, v, rfl, ha, hw, hh, hvR, w4, h4, hnm, k0, k1⟩ := h
    refine ⟨_, (pss_cons (ps_for PassesOwn.never (by rfl) (pi_list (pe_c (ok_tries T) hr (by decide) (by rfl) (pa_cons (pe_fld (pv 0) rfl) (pa_cons (pv 2) (pa_cons (pv 1) pa_nil))))) (pg_name (i := 3) sc_Search_second.nd rfl (Or.inl rfl)) (pss_cons (ps_set (i := 4) sc_Search_second.nd rfl (Or.inl rfl) (pe_mt (ok_Search_behind T) hr (by decide) (pv 0) (pa_cons (pv 2) (pa_cons (pv 3) pa_nil))))
      (pss_cons (ps_if (pt_cmpR op_isN (pv 4) pe_non (nomark _)) (pss_one (ps_ret pe_non)) pss_nil)
      (pss_one (ps_if (pt_cmpR op_notN (pe_c (ok_free_hue T) hr (by decide) (by rfl) (pa_cons (pe_fld (pv 0) rfl) (pa_cons (pv 4) (pa_cons (pv 1) pa_nil)))) pe_non (nomark _)) (pss_one (ps_ret (pe_tup (pa_cons (pv 3) (pa_cons (pv 4) pa_nil))))) pss_nil)))))
      (pss_one (ps_ret pe_non))), ?_⟩
    refine ⟨_, rfl, a, _, dx, _, _, rfl, ha, T.cl_Search, T.na_Search_flat, rfl, _, rfl, _, rfl, x, dh, R, hv, v, rfl, up wo_same hw, up wo_same hh, hvR, w4.rl hvR, fun ls ts H1 s1 hls hL1 hP1 => ?_⟩
    have nla : ls ≠ a := fun e => by rw [e, ha] at hls; cases hls
    have ha1 := s1 _ _ ha
    have hPa : ∀ {HX : Hp}, Same (wo H1 [a]) HX → Paired (TSI K (nw H HX)) ts (triesF (rdf R) hv v) := fun {HX} sx => Paired.mapP hP1 fun t z q => by
      obtain ⟨q1, q2⟩ := nw_get (show nw H H1 t = _ from q)
      have : t ≠ a := fun e => by rw [e, ha] at q1; cases q1
      show nw H HX t = _
      rw [nw_of q1]
      exact sx _ _ (by rw [wo_out (by simpa using this)]; exact q2)
    refine ⟨ls, rfl, ⟨_, SqL.of hL1⟩, for_list (K := K) (a := ls) (xs := ts.map V.ref) (fun i σ H' => ∃ (y3 y4 : Option V) (m : Nat), σ = [some (.ref a), some (.str v), some (.ref dh), y3, y4] ∧ Same (wo H1 [a]) H' ∧ H' a = some (srO (cx 8) dx x db lp most m) ∧ m ≤ most ∧ scanF (rdf R) most v hv (triesF (rdf R) hv v) n = scanF (rdf R) most v hv ((triesF (rdf R) hv v).drop i) m) ?_ ?_ ?_ ?_⟩
    · exact ⟨_, _, n, rfl, wo_same, ha1, hnm, rfl⟩
    · rintro i σ H' _ ⟨_, _, _, _, sx, _⟩
      exact SqL.of (sx _ _ (by rw [wo_out (by simpa using nla)]; exact hL1))
    · rintro i z σ H2 hi ⟨y3, y4, m, rfl, s2, ha2, hm, hsc⟩
      obtain ⟨t, ht, rfl⟩ := item_ref hi
      obtain ⟨one, hone, htv⟩ := paired_get (hPa s2) i t ht
      have htv : TSI K H2 t one := nw_same _ _ htv
      have t4 : Try4 R hv one := tries4 w4 hvR (List.mem_of_getElem? hone)
      have eD : (triesF (rdf R) hv v).drop i = one :: (triesF (rdf R) hv v).drop (i + 1) := by
        obtain ⟨h1, h2⟩ := List.getElem?_eq_some_iff.mp hone
        rw [List.drop_eq_getElem_cons h1, h2]
      rw [eD] at hsc
      have hw2 := up (R := WebAt K C) (wo_up s1 s2) hw
      have hh2 := up (R := HuAt) (wo_up s1 s2) hh
      refine ⟨_, rfl, a, dx, _, rfl, ha2, rfl, _, rfl, _, rfl, a, dx, x, db, lp, dh, t, most, m, R, hv, one, rfl, ha2, hw2, hh2, htv, t4, w4, h4, fun e => ?_, fun hne fd H3 s3 hfd ha3 hF3 => ?_⟩
      · refine ⟨_, rfl, rfl, _, rfl, ?_⟩
        rw [show decide (V.non = V.non) = true by simp]
        exact iteT (k0 m _ (by rw [hsc, scanF_cons, if_pos e]) hm (wo_back s1 s2) ha2)
      have hne' : m ≠ most := hne
      have sB := wo_seq s2 s3
      refine ⟨_, rfl, rfl, _, rfl, ?_⟩
      rw [show decide (V.ref fd = V.non) = false by simp]
      have h4' := h4.ex (rdf R) one
      refine iteF ⟨_, rfl, a, _, dx, _, _, rfl, ha3, T.cl_Search, T.na_Search_flat, rfl, _, rfl, _, rfl, x, fd, R, exF (rdf R) hv one, v, rfl, up ((wo_up s1 sB).trans wo_same) hw, HuAt.of hF3 h4'.nd, hvR, w4.rl hvR, fun H4 s4 => ⟨rfl, _, rfl, ?_⟩⟩
      have ha4 := s4 _ _ ha3
      have hF4 := s4 _ _ hF3
      have sC := sB.trans s4
      have nfa : fd ≠ a := fun e => by rw [e, ha2] at hfd; cases hfd
      have hfd0 : H fd = none := s1.free (wo_free s2 ha2 hfd)
      cases ef : freeF (rdf R) (exF (rdf R) hv one) v with
      | none =>
        rw [show (!decide (oI none = V.non)) = false by simp [oI]]
        refine iteF ⟨_, _, m + 1, rfl, sC, ha4, by omega, ?_⟩
        rw [hsc, scanF_cons, if_neg hne', ef]
        rfl
      | some h =>
        rw [show (!decide (oI (some h) = V.non)) = true by simp [oI]]
        have hs : scanF (rdf R) most v hv (triesF (rdf R) hv v) n = (some (one, exF (rdf R) hv one), m + 1) := by rw [hsc, scanF_cons, if_neg hne', ef]; rfl
        refine iteT ⟨_, rfl, _, rfl, by show 2 ≤ sizeLine; decide, fun q hq => ?_⟩
        refine k1 one _ (m + 1) q t fd _ hs t4 rfl (wo_back s1 (sC.trans (.new hq))) (s1.free (wo_free sC ha4 hq)) hfd0 (Same.new hq _ _ ha4) upd_same (Same.new hq _ _ hF4) ?_
        obtain ⟨z, q1, q2⟩ := paired_get (hPa sC) i t ht
        rw [hone] at q1
        cases q1
        exact (nw_up (.new hq)) _ _ q2
    · rintro σ H2 ⟨y3, y4, m, rfl, s2, ha2, hm, hsc⟩
      have hlen : ts.length = (triesF (rdf R) hv v).length := Paired.length hP1
      rw [List.length_map, hlen, List.drop_length] at hsc
      exact k0 m _ (by rw [hsc]; rfl) hm (wo_back s1 s2) ha2
def spDouble (K : PySem.W.Frag) (C CS : Addr) : Sp := fun vs H Q _ => ∃ (a dx x db lp : Addr) (most n : Nat) (R : List Row) (hv : List (Str × Int)) (v : Str), vs = [.ref a, .str v] ∧ H a = some (srO CS dx x db lp most n) ∧ WebAt K C (wo H [a]) x R ∧ HuAt (wo H [a]) db hv ∧ v ∈ vsf R ∧ Web4 R ∧ Hues4 R hv ∧ n ≤ most ∧
  (∀ (m : Nat) (l : Addr) (H' : Hp), doubF (rdf R) most v hv (triesF (rdf R) hv v) n = (none, m) → Same (wo H [a]) H' → H l = none → H' a = some (srO CS dx x db lp most m) → H' l = some (.lst []) → Q (.ref l) H') ∧
  (∀ (t t2 : Try) (h' : List (Str × Int)) (m : Nat) (l sw sw2 fd : Addr) (H' : Hp), doubF (rdf R) most v hv (triesF (rdf R) hv v) n = (some (t, t2, h'), m) → Hues4 R h' → Same (wo H [a]) H' → H l = none → H fd = none → H' a = some (srO CS dx x fd lp most m) → H' fd = some (.dK (dk V.int h')) → H' l = some (.lst [.ref sw, .ref sw2]) → SwT4 K (nw H H') sw (swF (rdf R) hv t) → SwT4 K (nw H H') sw2 (swF (rdf R) (exF (rdf R) hv t) t2) → Q (.ref l) H')
theorem ok_Search_double (T : Txt K mg C cx) : Met P w K mg base 7 (cx 8) "double" (spDouble K C (cx 8)) := by
  refine met_of T.cl_Search T.d_Search_double sc_Search_double (fun vs H Q E h => ?_) (fun f cdv A outer s H vs Q E hr h => ?_)
  · obtain ⟨a, dx, x, db, lp, most, n, R, hv, v, rfl, _⟩ := h
    rfl
  · obtain ⟨a, dx, x, db, lp, most, n, R, hv, v, rfl, ha, hw, hh, hvR, w4, h4, hnm, k0, k1⟩ := h
    refine ⟨_, (pss_cons (ps_for PassesOwn.never (by rfl) (pi_list (pe_c (ok_tries T) hr (by decide) (by rfl) (pa_cons (pe_fld (pv 0) rfl) (pa_cons (pe_fld (pv 0) rfl) (pa_cons (pv 1) pa_nil))))) (pg_name (i := 2) sc_Search_double.nd rfl (Or.inl rfl)) (pss_cons (ps_set (i := 3) sc_Search_double.nd rfl (Or.inl rfl) (pe_mt (ok_Search_behind T) hr (by decide) (pv 0) (pa_cons (pe_fld (pv 0) rfl) (pa_cons (pv 2) pa_nil))))
      (pss_cons (ps_if (pt_cmpR op_isN (pv 3) pe_non (nomark _)) (pss_one (ps_ret (pe_lst pa_nil))) pss_nil)
      (pss_cons (ps_set (i := 4) sc_Search_double.nd rfl (Or.inl rfl) (pe_mt (ok_Search_second T) hr (by decide) (pv 0) (pa_cons (pv 1) (pa_cons (pv 3) pa_nil))))
      (pss_one (ps_if (pt_cmpR op_notN (pv 4) pe_non (nomark _)) (pss_cons (ps_set (i := 5) sc_Search_double.nd rfl (Or.inl rfl) (pe_lst (pa_cons (pe_c (ok_with_chain T) hr (by decide) (by rfl) (pa_cons (pe_fld (pv 0) rfl) (pa_cons (pe_fld (pv 0) rfl) (pa_cons (pv 2) pa_nil)))) (pa_cons (pe_c (ok_with_chain T) hr (by decide) (by rfl) (pa_cons (pe_fld (pv 0) rfl) (pa_cons (pv 3) (pa_cons (pe_ix (ix_tupK (K := K)) (pv 4) pe_int (fun _ _ => rfl)) pa_nil)))) pa_nil))))
      (pss_cons (ps_fld (pv 0) (pe_ix (ix_tupK (K := K)) (pv 4) pe_int (fun _ _ => rfl)) rfl)
      (pss_one (ps_ret (pv 5))))) pss_nil))))))
      (pss_one (ps_ret (pe_lst pa_nil)))), ?_⟩
    refine ⟨_, rfl, a, _, dx, _, _, rfl, ha, T.cl_Search, T.na_Search_flat, rfl, _, rfl, a, _, dx, _, _, rfl, ha, T.cl_Search, T.na_Search_back, rfl, _, rfl, x, db, R, hv, v, rfl, up wo_same hw, up wo_same hh, hvR, w4.rl hvR, fun ls ts H1 s1 hls hL1 hP1 => ?_⟩
    have nla : ls ≠ a := fun e => by rw [e, ha] at hls; cases hls
    have ha1 := s1 _ _ ha
    have hPa : ∀ {HX : Hp}, Same (wo H1 [a]) HX → Paired (TSI K HX) ts (triesF (rdf R) hv v) := fun {HX} sx => Paired.mapP hP1 fun t z q => by
      obtain ⟨q1, q2⟩ := nw_get (show nw H H1 t = _ from q)
      have : t ≠ a := fun e => by rw [e, ha] at q1; cases q1
      exact sx _ _ (by rw [wo_out (by simpa using this)]; exact q2)
    refine ⟨ls, rfl, ⟨_, SqL.of hL1⟩, for_list (K := K) (a := ls) (xs := ts.map V.ref) (fun i σ H' => ∃ (y2 y3 y4 y5 : Option V) (m : Nat), σ = [some (.ref a), some (.str v), y2, y3, y4, y5] ∧ Same (wo H1 [a]) H' ∧ H' a = some (srO (cx 8) dx x db lp most m) ∧ m ≤ most ∧ doubF (rdf R) most v hv (triesF (rdf R) hv v) n = doubF (rdf R) most v hv ((triesF (rdf R) hv v).drop i) m) ?_ ?_ ?_ ?_⟩
    · exact ⟨_, _, _, _, n, rfl, wo_same, ha1, hnm, rfl⟩
    · rintro i σ H' _ ⟨_, _, _, _, _, _, sx, _⟩
      exact SqL.of (sx _ _ (by rw [wo_out (by simpa using nla)]; exact hL1))
    · rintro i z σ H2 hi ⟨y2, y3, y4, y5, m, rfl, s2, ha2, hm, hsc⟩
      obtain ⟨t, ht, rfl⟩ := item_ref hi
      obtain ⟨one, hone, htv⟩ := paired_get (hPa s2) i t ht
      have t4 : Try4 R hv one := tries4 w4 hvR (List.mem_of_getElem? hone)
      have eD : (triesF (rdf R) hv v).drop i = one :: (triesF (rdf R) hv v).drop (i + 1) := by
        obtain ⟨h1, h2⟩ := List.getElem?_eq_some_iff.mp hone
        rw [List.drop_eq_getElem_cons h1, h2]
      rw [eD] at hsc
      have hw2 := up (R := WebAt K C) (wo_up s1 s2) hw
      have hh2 := up (R := HuAt) (wo_up s1 s2) hh
      refine ⟨_, rfl, a, dx, _, rfl, ha2, rfl, _, rfl, a, _, dx, _, _, rfl, ha2, T.cl_Search, T.na_Search_back, rfl, _, rfl, a, dx, x, db, lp, db, t, most, m, R, hv, one, rfl, ha2, hw2, hh2, htv, t4, w4, h4, fun e => ?_, fun hne fd H3 s3 hfd ha3 hF3 => ?_⟩
      · refine ⟨_, rfl, rfl, _, rfl, ?_⟩
        rw [show decide (V.non = V.non) = true by simp]
        refine iteT ⟨Nat.zero_le _, fun l hl => ?_⟩
        exact k0 m l _ (by rw [hsc, doubF_cons, if_pos e]) (wo_back s1 (s2.trans (.new hl))) (s1.free (wo_free s2 ha2 hl)) (Same.new hl _ _ ha2) upd_same
      have hne' : m ≠ most := hne
      have sB := wo_seq s2 s3
      refine ⟨_, rfl, rfl, _, rfl, ?_⟩
      rw [show decide (V.ref fd = V.non) = false by simp]
      have h4' := h4.ex (rdf R) one
      have nfa : fd ≠ a := fun e => by rw [e, ha2] at hfd; cases hfd
      have hw3 := up (R := WebAt K C) (wo_up s1 sB) hw
      refine iteF ⟨_, rfl, a, dx, _, rfl, ha3, rfl, _, rfl, _, rfl, a, dx, x, db, lp, fd, most, m + 1, R, exF (rdf R) hv one, v, rfl, ha3, hw3, HuAt.of (by rw [wo_out (by simpa using nfa)]; exact hF3) h4'.nd, hvR, w4, h4', by omega, fun m2 H4 hs2 hm2 s4 ha4 => ?_, fun t2 h2 m2 q to fd2 H4 hs2 t42 eh2 s4 hq hfd2 ha4 hqv hF2 hto => ?_⟩
      · refine ⟨_, rfl, rfl, _, rfl, ?_⟩
        rw [show (!decide (V.non = V.non)) = false by simp]
        refine iteF ⟨_, _, _, _, m2, rfl, wo_seq sB s4, ha4, hm2, ?_⟩
        rw [hsc, doubF_cons, if_neg hne', hs2]
      · refine ⟨_, rfl, rfl, _, rfl, ?_⟩
        rw [show (!decide (V.ref q = V.non)) = true by simp]
        have sC := wo_seq sB s4
        have hw4 := up (R := WebAt K C) ((wo_up s1 sC).trans wo_same) hw
        have hh4 := up (R := HuAt) ((wo_up s1 sC).trans wo_same) hh
        have hF4 : H4 fd = some (.dK (dk V.int (exF (rdf R) hv one))) := s4 _ _ (by rw [wo_out (by simpa using nfa)]; exact hF3)
        have htv4 : TSI K H4 t one := by
          obtain ⟨z, q1, q2⟩ := paired_get (hPa sC) i t ht
          rw [hone] at q1
          cases q1
          exact q2
        have hds : doubF (rdf R) most v hv (triesF (rdf R) hv v) n = (some (one, t2, h2), m2) := by rw [hsc, doubF_cons, if_neg hne', hs2]
        refine iteT ⟨_, rfl, a, _, dx, _, _, rfl, ha4, T.cl_Search, T.na_Search_flat, rfl, _, rfl, a, _, dx, _, _, rfl, ha4, T.cl_Search, T.na_Search_back, rfl, _, rfl, x, db, t, R, hv, one, rfl, hw4, hh4, htv4, t4.inR, t4.inH, t4.ge, t4.ne, w4.wf, w4.len, fun sw H5 s5 hsw hS5 => ?_⟩
        have ha5 := s5 _ _ ha4
        have hqv5 := s5 _ _ hqv
        have hto5 : TSI K H5 to t2 := s5 _ _ (nw_same _ _ hto)
        refine ⟨_, rfl, a, _, dx, _, _, rfl, ha5, T.cl_Search, T.na_Search_flat, rfl, _, rfl, _, rfl, q, _, _, _, rfl, rfl, SqT.of hqv5, rfl, x, fd, to, R, exF (rdf R) hv one, t2, rfl, up s5 hw4, HuAt.of (s5 _ _ hF4) h4'.nd, hto5, t42.inR, t42.inH, t42.ge, t42.ne, w4.wf, w4.len, fun sw2 H6 s6 hsw2 hS6 => ⟨by show 2 ≤ sizeLine; decide, fun l hl => ?_⟩⟩
        have ha6 := s6 _ _ ha5
        have s7 : Same H4 (upd H6 l (.lst [.ref sw, .ref sw2])) := (s5.trans s6).trans (.new hl)
        have ha7 := s7 _ _ ha4
        have hqv7 := s7 _ _ hqv
        refine ⟨_, rfl, q, _, _, _, rfl, rfl, SqT.of hqv7, rfl, _, rfl, a, _, dx, _, rfl, ha7, T.cl_Search, T.na_Search_back, by show 5 < 1000; decide, ?_⟩
        have e7 : upd (upd H6 l (.lst [.ref sw, .ref sw2])) a (.ins (cx 8) dx (putF "back" (.ref fd2) [("flat", .ref x), ("most", .int most), ("steps", .int (m2 : Int)), ("back", .ref db), ("paper", .ref lp)])) = upd (upd H6 l (.lst [.ref sw, .ref sw2])) a (srO (cx 8) dx x fd2 lp most m2) := by congr 1
        show (_ : TS) _ _ (upd (upd H6 l (.lst [.ref sw, .ref sw2])) a (.ins (cx 8) dx (putF "back" (.ref fd2) [("flat", .ref x), ("most", .int most), ("steps", .int (m2 : Int)), ("back", .ref db), ("paper", .ref lp)])))
        rw [e7]
        have nla' : l ≠ a := fun e => by rw [e, ha6] at hl; cases hl
        have nf2 : fd2 ≠ a := fun e => by rw [e, ha3] at hfd2; cases hfd2
        have hl0 : H l = none := s1.free (wo_free sC ha4 ((s5.trans s6).free hl))
        have hfd20 : H fd2 = none := s1.free (wo_free sB ha3 hfd2)
        have newS : ∀ {H8 H9 : Hp} {b : Addr} {xx : Swap}, Same H4 H8 → Same H9 H6 → SwT4 K (nw H8 H9) b xx → SwT4 K (nw H (upd (upd H6 l (.lst [.ref sw, .ref sw2])) a (srO (cx 8) dx x fd2 lp most m2))) b xx := fun {H8 H9 b xx} s8 s9 z => by
          refine up (R := SwT4 K) (fun b o e => ?_) z
          obtain ⟨q1, q2⟩ := nw_get e
          have q3 := s8.free q1
          have nb : b ≠ a := fun e => by rw [e, ha4] at q3; cases q3
          rw [nw_of (s1.free (wo_free sC ha4 q3)), upd_ne nb]
          exact Same.new hl _ _ (s9 _ _ q2)
        refine ⟨_, rfl, k1 one t2 h2 m2 l sw sw2 fd2 _ hds ?_ (wo_back s1 fun b o e => ?_) hl0 hfd20 upd_same ?_ ?_ (newS (.refl _) s6 hS5) (newS s5 (.refl _) hS6)⟩
        · rw [eh2]; exact h4'.ex _ _
        · obtain ⟨q1, q2⟩ := wo_get e
          rw [upd_ne (by simpa using q2)]
          exact s7 _ _ (sC _ _ e)
        · rw [upd_ne nf2]; exact s7 _ _ hF2
        · rw [upd_ne nla', upd_same]
    · rintro σ H2 ⟨y2, y3, y4, y5, m, rfl, s2, ha2, hm, hsc⟩
      have hlen : ts.length = (triesF (rdf R) hv v).length := Paired.length hP1
      rw [List.length_map, hlen, List.drop_length] at hsc
      refine ⟨Nat.zero_le _, fun l hl => ?_⟩
      exact k0 m l _ (by rw [hsc]; rfl) (wo_back s1 (s2.trans (.new hl))) (s1.free (wo_free s2 ha2 hl)) (Same.new hl _ _ ha2) upd_same
end
end Five
end
section
namespace Five
open PySem PySem.Spec PyProof.Rows L2
open PySem.W (Datum DatumOrd T3)
theorem roomF_ks {R : List Row} {most : Nat} {v : Str} {hv : List (Str × Int)} {n : Nat} (h4 : Hues4 R hv) : ks (roomF (rdf R) most v hv n).2.1 = ks hv := by
  have sc : ∀ {h : List (Str × Int)} {ts : List Try} {n m : Nat} {x : Try × List (Str × Int)}, scanF (rdf R) most v h ts n = (some x, m) → x.2 = exF (rdf R) h x.1 := by
    intro h ts
    induction ts with
    | nil => intro n m x e; cases e
    | cons t ts ih =>
      intro n m x e
      rw [scanF_cons] at e
      split at e
      · cases e
      · split at e
        · cases e; rfl
        · exact ih e
  have db : ∀ {ts : List Try} {n m : Nat} {x : Try × Try × List (Str × Int)}, doubF (rdf R) most v hv ts n = (some x, m) → ks x.2.2 = ks hv := by
    intro ts
    induction ts with
    | nil => intro n m x e; cases e
    | cons t ts ih =>
      intro n m x e
      rw [doubF_cons] at e
      split at e
      · cases e
      · split at e
        · next y k hy =>
          cases e
          show ks y.2 = _
          rw [sc hy, ks_exF, ks_exF]
        · exact ih e
  unfold roomF
  split
  · rfl
  · split
    · next x m hx =>
      show ks x.2 = _
      rw [sc hx, ks_exF]
    · split
      · next x k hx => exact db hx
      · rfl
theorem nwo {B G : Hp} {M : List Addr} {b : Addr} {o : HO} (h : B b = none) (e : wo G M b = some o) : wo (nw B G) M b = some o := by
  obtain ⟨q1, q2⟩ := wo_get e
  rw [wo_out q2, nw_of h]
  exact q1
section
variable {P : Program} {w : World} {K : PySem.W.Frag} {mg : Str → Option Value} {base : Heap} {C : Addr} {cx : Nat → Addr}
def spPut4 (K : PySem.W.Frag) (C CS : Addr) : Sp := fun vs H Q _ => ∃ (B : Hp) (a dx x db lp : Addr) (most n : Nat) (R : List Row) (hv : List (Str × Int)) (v : Str) (ts : List Addr) (pp : List Step4), vs = [.ref a, .str v] ∧ H a = some (srO CS dx x db lp most n) ∧ WebAt K C (wo H [a, db, lp]) x R ∧ H db = some (.dK (dk V.int hv)) ∧ H lp = some (.lst (ts.map V.ref)) ∧ Same B H ∧ Paired (StT4 K (wo (nw B H) [a, db, lp])) ts pp ∧ ts.length ≤ 60 ∧ v ∈ vsf R ∧ v ∉ ks hv ∧ Web4 R ∧ Hues4 R hv ∧ n ≤ most ∧
  (freeF (rdf R) (roomF (rdf R) most v hv n).2.1 v = none → ∀ (db' : Addr) (H' : Hp), Same (wo H [a, db, lp]) H' → H' a = some (srO CS dx x db' lp most (roomF (rdf R) most v hv n).2.2) → Q (.bl false) H') ∧
  (∀ h, freeF (rdf R) (roomF (rdf R) most v hv n).2.1 v = some h → ∀ (db' : Addr) (ts' : List Addr) (H' : Hp), Same (wo H [a, db, lp]) H' → (db' = db ∨ H db' = none) → H' a = some (srO CS dx x db' lp most (roomF (rdf R) most v hv n).2.2) → WebAt K C (wo H' [a, db', lp]) x R → H' db' = some (.dK (dk V.int ((roomF (rdf R) most v hv n).2.1 ++ [(v, h)]))) → H' lp = some (.lst (ts'.map V.ref)) → Paired (StT4 K (wo (nw B H') [a, db', lp])) ts' (pp ++ [(v, h, (roomF (rdf R) most v hv n).1)]) → (roomF (rdf R) most v hv n).2.2 ≤ most → Q (.bl true) H')
theorem ok_Search_put (T : Txt K mg C cx) : Met P w K mg base 8 (cx 8) "put" (spPut4 K C (cx 8)) := by
  refine met_of T.cl_Search T.d_Search_put sc_Search_put (fun vs H Q E h => ?_) (fun f cdv A outer s H vs Q E hr h => ?_)
  · obtain ⟨B, a, dx, x, db, lp, most, n, R, hv, v, ts, pp, rfl, _⟩ := h
    rfl
  · obtain ⟨B, a, dx, x, db, lp, most, n, R, hv, v, ts, pp, rfl, ha, hw, hb, hl, sBH, hP, htl, hvR, hvk, w4, h4, hnm, k0, k1⟩ := h
    refine ⟨_, (pss_cons (ps_set (i := 2) sc_Search_put.nd rfl (Or.inl rfl) (pe_lst pa_nil))
      (pss_cons (ps_if (pt_cmpR op_isN (pe_c (ok_free_hue T) hr (by decide) (by rfl) (pa_cons (pe_fld (pv 0) rfl) (pa_cons (pe_fld (pv 0) rfl) (pa_cons (pv 1) pa_nil)))) pe_non (nomark _)) (pss_cons (ps_set (i := 2) sc_Search_put.nd rfl (Or.inl rfl) (pe_mt (ok_Search_single T) hr (by decide) (pv 0) (pa_cons (pv 1) pa_nil)))
      (pss_one (ps_if (pt_cmpR (op_eqK (K := K) (List (PySem.W.T3 Str Int (List Str))) hr.units) (pv 2) (pe_lst pa_nil) (nomark _)) (pss_one (ps_set (i := 2) sc_Search_put.nd rfl (Or.inl rfl) (pe_mt (ok_Search_double T) hr (by decide) (pv 0) (pa_cons (pv 1) pa_nil)))) pss_nil))) pss_nil)
      (pss_cons (ps_set (i := 3) sc_Search_put.nd rfl (Or.inl rfl) (pe_c (ok_free_hue T) hr (by decide) (by rfl) (pa_cons (pe_fld (pv 0) rfl) (pa_cons (pe_fld (pv 0) rfl) (pa_cons (pv 1) pa_nil)))))
      (pss_cons (ps_if (pt_cmpR op_notN (pv 3) pe_non (nomark _)) (pss_cons (ps_expr (pe_bm PySem.F.plainAttrs_list PySem.F.slot_list_append PySem.F.type_list_append mt_append (pe_fld (pv 0) rfl) (pa_cons (pe_tup (pa_cons (pv 1) (pa_cons (pv 3) (pa_cons (pv 2) pa_nil)))) pa_nil)))
      (pss_one (ps_dput (hu_of hr) (pe_fld (pv 0) rfl) (pv 1) (pv 3) rfl))) pss_nil)
      (pss_one (ps_ret (pe_cmpR op_notN (pv 3) pe_non (nomark _)))))))), ?_⟩
    have nba : db ≠ a := fun e => by rw [e, ha] at hb; cases hb
    have nla : lp ≠ a := fun e => by rw [e, ha] at hl; cases hl
    have nlb : lp ≠ db := fun e => by rw [e, hb] at hl; cases hl
    refine ⟨Nat.zero_le _, fun l0 hl0 => ?_⟩
    have s0 : Same H (upd H l0 (.lst [])) := .new hl0
    have hl0v : upd H l0 (.lst []) l0 = some (.lst (([] : List Addr).map V.ref)) := upd_same
    generalize upd H l0 (.lst []) = H0 at *
    have ha0 := s0 _ _ ha
    have hb0 := s0 _ _ hb
    have less : Same (wo H [a, db, lp]) (wo H [a]) := wo_less (by simp)
    have hw1 : WebAt K C (wo H [a]) x R := up less hw
    have hh1 : HuAt (wo H [a]) db hv := HuAt.of (by rw [wo_out (by simpa using nba)]; exact hb) h4.nd
    refine ⟨_, rfl, a, _, dx, _, _, rfl, ha0, T.cl_Search, T.na_Search_flat, rfl, _, rfl, a, _, dx, _, _, rfl, ha0, T.cl_Search, T.na_Search_back, rfl, _, rfl, x, db, R, hv, v, rfl, up (wo_same.trans s0) hw1, HuAt.of hb0 h4.nd, hvR, w4.rl hvR, fun H1 s1 => ⟨rfl, _, rfl, ?_⟩⟩
    have s01 := s0.trans s1
    have ha1 := s01 _ _ ha
    have hb1 := s01 _ _ hb
    have hl1 := s1 _ _ hl0v
    -- room
    refine joinN (fun σ' H' => ∃ (y3 : Option V) (lw db' : Addr) (ss : List Addr), σ' = [some (.ref a), some (.str v), some (.ref lw), y3] ∧ Same (wo H [a]) H' ∧ (db' = db ∨ H db' = none) ∧ H lw = none ∧ H' a = some (srO (cx 8) dx x db' lp most (roomF (rdf R) most v hv n).2.2) ∧ H' db' = some (.dK (dk V.int (roomF (rdf R) most v hv n).2.1)) ∧ H' lw = some (.lst (ss.map V.ref)) ∧ Paired (SwT4 K (nw H H')) ss (roomF (rdf R) most v hv n).1 ∧ (roomF (rdf R) most v hv n).2.2 ≤ most) (fun hf => ?_) (fun hf rest => ?_) ?_
    · have hfs : (freeF (rdf R) hv v).isSome = true := by
        cases e : freeF (rdf R) hv v with
        | none => rw [e] at hf; simp [oI] at hf
        | some h => rfl
      have er : roomF (rdf R) most v hv n = ([], hv, n) := by unfold roomF; rw [if_pos hfs]
      rw [er]
      exact ⟨_, l0, db, [], rfl, wo_same.trans s01, .inl rfl, hl0, ha1, hb1, hl1, .nil, hnm⟩
    · have hfn : freeF (rdf R) hv v = none := by
        cases e : freeF (rdf R) hv v with
        | none => rfl
        | some h => rw [e] at hf; simp [oI] at hf
      have hnf : ¬ (freeF (rdf R) hv v).isSome = true := by rw [hfn]; simp
      refine ⟨_, rfl, a, dx, _, rfl, ha1, rfl, _, rfl, a, dx, x, db, lp, most, n, R, hv, v, rfl, ha1, up s01.wo hw1, up s01.wo hh1, hvR, w4, h4, hnm, fun m l H2 hs s2 hl2 ha2 hlv2 => ?_, fun t h' m l sw fd H2 hs s2 hl2 hsw2 hfd2 ha2 hF2 hlv2 hS2 => ?_⟩
      · have sA : Same (wo H [a]) H2 := fun b o e => by
          obtain ⟨q1, q2⟩ := wo_get e
          exact s2 _ _ (by rw [wo_out q2]; exact s01 _ _ q1)
        refine ⟨_, rfl, Nat.zero_le _, fun e he => ⟨_, _, sws_dp (ss := []) (Same.new he _ _ hlv2) .nil, nil_dp (SqL.of upd_same), _, rfl, ?_⟩⟩
        rw [show decide (([] : List Swap).map sw3 = []) = true by simp]
        have s3 : Same H2 (upd H2 e (.lst [])) := .new he
        have ha3 := s3 _ _ ha2
        have sB : Same (wo H [a]) (upd H2 e (.lst [])) := sA.trans s3
        generalize upd H2 e (.lst []) = H3 at *
        have sBw : Same (wo H [a]) (wo H3 [a]) := fun b o e => by
          rw [wo_out (wo_get e).2]; exact sB _ _ e
        have hmm : m ≤ most := by
          have h1 := scan_lim (rd := rdf R) (most := most) (v := v) (hv := hv) (ts := triesF (rdf R) hv v) hnm
          rw [hs] at h1
          split at h1
          · next c => rw [← h1] at c; exact c
          · cases h1; exact Nat.le_refl _
        refine iteT ⟨_, rfl, a, dx, _, rfl, ha3, rfl, _, rfl, a, dx, x, db, lp, most, m, R, hv, v, rfl, ha3, up sBw hw1, up sBw hh1, hvR, w4, h4, hmm, fun k l4 H4 hd s4 hl4 ha4 hlv4 => ?_, fun t t2 h' k l4 sw sw2 fd H4 hd h4' s4 hl4 hfd4 ha4 hF4 hlv4 hS4 hS5 => ?_⟩
        · have er : roomF (rdf R) most v hv n = ([], hv, k) := by unfold roomF; rw [if_neg hnf, hs]; simp only; rw [hd]
          have sC := wo_seq sB s4
          rw [er] at rest
          refine rest _ _ ⟨_, l4, db, [], rfl, sC, .inl rfl, wo_free sB ha3 hl4, ha4, sC _ _ (by rw [wo_out (by simpa using nba)]; exact hb), hlv4, .nil, ?_⟩
          have h1 := doub_lim (rd := rdf R) (most := most) (v := v) (hv := hv) (ts := triesF (rdf R) hv v) hmm
          rw [hd] at h1
          split at h1
          · next c => rw [← h1] at c; exact c
          · cases h1; exact Nat.le_refl _
        · have er : roomF (rdf R) most v hv n = ([swF (rdf R) hv t, swF (rdf R) (exF (rdf R) hv t) t2], h', k) := by unfold roomF; rw [if_neg hnf, hs]; simp only; rw [hd]
          have sC := wo_seq sB s4
          rw [er] at rest
          have nup : ∀ {b : Addr} {xx : Swap}, SwT4 K (nw H3 H4) b xx → SwT4 K (nw H H4) b xx := fun {b xx} z => up (R := SwT4 K) (fun b o e => by
            obtain ⟨q1, q2⟩ := nw_get e
            rw [nw_of (wo_free sB ha3 q1)]; exact q2) z
          refine rest _ _ ⟨_, l4, fd, [sw, sw2], rfl, sC, .inr (wo_free sB ha3 hfd4), wo_free sB ha3 hl4, ha4, hF4, hlv4, .cons (nup hS4) (.cons (nup hS5) .nil), ?_⟩
          have h1 := doub_lim (rd := rdf R) (most := most) (v := v) (hv := hv) (ts := triesF (rdf R) hv v) hmm
          rw [hd] at h1
          split at h1
          · next c => rw [← h1] at c; exact c
          · cases h1
      · have sA : Same (wo H [a]) H2 := fun b o e => by
          obtain ⟨q1, q2⟩ := wo_get e
          exact s2 _ _ (by rw [wo_out q2]; exact s01 _ _ q1)
        have hS2' : SwT4 K H2 sw (swF (rdf R) hv t) := up (R := SwT4 K) nw_same hS2
        refine ⟨_, rfl, Nat.zero_le _, fun e he => ⟨_, _, sws_dp (ss := [sw]) (Same.new he _ _ hlv2) (.cons (up (R := SwT4 K) (.new he) hS2') .nil), nil_dp (SqL.of upd_same), _, rfl, ?_⟩⟩
        rw [show decide (([swF (rdf R) hv t] : List Swap).map sw3 = []) = false by simp]
        have er : roomF (rdf R) most v hv n = ([swF (rdf R) hv t], h', m) := by unfold roomF; rw [if_neg hnf, hs]
        rw [er] at rest
        refine iteF (rest _ _ ⟨_, l, fd, [sw], rfl, sA.trans (.new he), .inr (s01.free hfd2), s01.free hl2, Same.new he _ _ ha2, Same.new he _ _ hF2, Same.new he _ _ hlv2, .cons (up (R := SwT4 K) (fun b o e => ?_) hS2) .nil, ?_⟩)
        · obtain ⟨q1, q2⟩ := nw_get e
          rw [nw_of (s01.free q1)]
          exact Same.new he _ _ q2
        · have h1 := scan_lim (rd := rdf R) (most := most) (v := v) (hv := hv) (ts := triesF (rdf R) hv v) hnm
          rw [hs] at h1
          split at h1
          · next c => rw [← h1] at c; exact c
          · cases h1
    rintro σ' H2 ⟨y3, lw, db', ss, rfl, s2, hdb', hlw, ha2, hb2, hlv2, hS2, hmm⟩
    have hkr : ks (roomF (rdf R) most v hv n).2.1 = ks hv := roomF_ks h4
    have hnr : (ks (roomF (rdf R) most v hv n).2.1).Nodup := by rw [hkr]; exact h4.nd
    have hlr : (roomF (rdf R) most v hv n).2.1.length ≤ 60 := by rw [← ks_length, hkr, ks_length]; exact h4.len w4
    have hvr : v ∉ ks (roomF (rdf R) most v hv n).2.1 := by rw [hkr]; exact hvk
    generalize roomF (rdf R) most v hv n = rm at *
    obtain ⟨sws, hv', m⟩ := rm
    simp only at *
    have nb'a : db' ≠ a := fun e => by rw [e, ha2] at hb2; cases hb2
    have nlb' : lp ≠ db' := fun e => by
      rcases hdb' with z | z
      · exact nlb (e.trans z)
      · rw [← e, hl] at z; cases z
    have hl2 : H2 lp = some (.lst (ts.map V.ref)) := s2 _ _ (by rw [wo_out (by simpa using nla)]; exact hl)
    refine ⟨_, rfl, a, _, dx, _, _, rfl, ha2, T.cl_Search, T.na_Search_flat, rfl, _, rfl, a, _, dx, _, _, rfl, ha2, T.cl_Search, T.na_Search_back, rfl, _, rfl, x, db', R, hv', v, rfl, up s2 hw1, HuAt.of hb2 hnr, hvR, w4.rl hvR, fun H3 s3 => ?_⟩
    have ha3 := s3 _ _ ha2
    have hb3 := s3 _ _ hb2
    have hl3 := s3 _ _ hl2
    have s23 := s2.trans s3
    cases ef : freeF (rdf R) hv' v with
    | none =>
      rw [show oI none = V.non from rfl]
      refine ⟨_, rfl, rfl, _, rfl, ?_⟩
      rw [show (!decide (V.non = V.non)) = false by simp]
      refine iteF ⟨_, rfl, rfl, ?_⟩
      rw [show (!decide (V.non = V.non)) = false by simp]
      exact k0 ef db' H3 (less.trans s23) ha3
    | some h =>
      rw [show oI (some h) = V.int h from rfl]
      refine ⟨_, rfl, rfl, _, rfl, ?_⟩
      rw [show (!decide (V.int h = V.non)) = true by simp]
      refine iteT ⟨_, rfl, a, _, dx, _, _, rfl, ha3, T.cl_Search, T.na_Search_paper, rfl, .inl ⟨rfl, _, SqL.of hl3⟩, _, rfl, _, rfl, _, rfl, by show 3 ≤ sizeLine; decide, fun t ht => ?_⟩
      have s4 : Same H3 (upd H3 t (.tup [.str v, .int h, .ref lw])) := .new ht
      have hl4 := s4 _ _ hl3
      have ha4 := s4 _ _ ha3
      have hb4 := s4 _ _ hb3
      have htv : upd H3 t (.tup [.str v, .int h, .ref lw]) t = some (.tup [.str v, .int h, .ref lw]) := upd_same
      generalize upd H3 t (.tup [.str v, .int h, .ref lw]) = H4 at *
      refine ⟨lp, _, _, rfl, rfl, hl4, by rw [List.length_map]; exact Nat.lt_of_le_of_lt htl (by decide), ?_⟩
      have hl5 : upd H4 lp (.lst (ts.map V.ref ++ [.ref t])) lp = some (.lst ((ts ++ [t]).map V.ref)) := by rw [upd_same, List.map_append]; rfl
      have ha5 : upd H4 lp (.lst (ts.map V.ref ++ [.ref t])) a = some (srO (cx 8) dx x db' lp most m) := by rw [upd_ne nla.symm]; exact ha4
      have hb5 : upd H4 lp (.lst (ts.map V.ref ++ [.ref t])) db' = some (.dK (dk V.int hv')) := by rw [upd_ne nlb'.symm]; exact hb4
      refine ⟨_, rfl, _, rfl, a, _, dx, _, _, rfl, ha5, T.cl_Search, T.na_Search_back, rfl, _, rfl, db', _, rfl, DPut.k (k := Sum.inr v) hb5 (by rw [dk_length]; exact Nat.lt_of_le_of_lt hlr (by decide)), ?_⟩
      rw [show putK (dk V.int hv') (Sum.inr v) (.int h) = dk V.int (hv' ++ [(v, h)]) from putK_dk hvr]
      refine ⟨_, rfl, rfl, ?_⟩
      rw [show (!decide (V.int h = V.non)) = true by simp]
      have keep : ∀ {b : Addr} {o : HO}, b ≠ a → b ≠ db → b ≠ lp → H b = some o → upd (upd H4 lp (.lst (ts.map V.ref ++ [.ref t]))) db' (.dK (dk V.int (hv' ++ [(v, h)]))) b = some o := fun {b o} n1 n2 n3 e => by
        have nb : b ≠ db' := fun z => by
          rcases hdb' with y | y
          · exact n2 (z.trans y)
          · rw [← z, e] at y; cases y
        rw [upd_ne nb, upd_ne n3]
        exact s4 _ _ (s23 _ _ (by rw [wo_out (by simpa using n1)]; exact e))
      have sW : Same (wo H [a, db, lp]) (wo (upd (upd H4 lp (.lst (ts.map V.ref ++ [.ref t]))) db' (.dK (dk V.int (hv' ++ [(v, h)])))) [a, db', lp]) := fun b o e => by
        obtain ⟨q1, q2⟩ := wo_get e
        simp at q2
        have nb : b ≠ db' := fun z => by
          rcases hdb' with y | y
          · exact q2.2.1 (z.trans y)
          · rw [← z, q1] at y; cases y
        rw [wo_out (by simp [q2.1, nb, q2.2.2])]
        exact keep q2.1 q2.2.1 q2.2.2 q1
      have sWn : Same (wo (nw B H) [a, db, lp]) (wo (nw B (upd (upd H4 lp (.lst (ts.map V.ref ++ [.ref t]))) db' (.dK (dk V.int (hv' ++ [(v, h)]))))) [a, db', lp]) := fun b o e => by
        obtain ⟨q1, q2⟩ := wo_get e
        obtain ⟨q3, q4⟩ := nw_get q1
        exact nwo q3 (sW _ _ (by rw [wo_out q2]; exact q4))
      have ntn : t ≠ a ∧ t ≠ db' ∧ t ≠ lp := ⟨(fun e => by rw [e, ha3] at ht; cases ht), (fun e => by rw [e, hb3] at ht; cases ht), (fun e => by rw [e, hl3] at ht; cases ht)⟩
      have nw3 : ∀ {b : Addr} {o : HO}, H b = none → b ≠ db' → H2 b = some o → wo (upd (upd H4 lp (.lst (ts.map V.ref ++ [.ref t]))) db' (.dK (dk V.int (hv' ++ [(v, h)])))) [a, db', lp] b = some o := fun {b o} q1 n q2 => by
        have n1 : b ≠ a := fun e => by rw [e, ha] at q1; cases q1
        have n2 : b ≠ lp := fun e => by rw [e, hl] at q1; cases q1
        rw [wo_out (by simp [n1, n, n2]), upd_ne n, upd_ne n2]
        exact s4 _ _ (s3 _ _ q2)
      refine k1 h ef db' (ts ++ [t]) _ (fun b o e => wo_same _ _ (sW _ _ e)) hdb' (by rw [upd_ne nb'a.symm]; exact ha5) (up sW hw) upd_same (by rw [upd_ne nlb']; exact hl5) (paired_snoc (Paired.mapP hP fun _ _ q => up (R := StT4 K) sWn q) ⟨lw, ss, ?_, ?_, ?_⟩) hmm
      · refine nwo (sBH.free (wo_free s23 ha3 ht)) ?_
        rw [wo_out (by simp [ntn]), upd_ne ntn.2.1, upd_ne ntn.2.2]
        exact htv
      · have nw' : lw ≠ db' := fun e => by rw [e, hb2] at hlv2; cases hlv2
        exact nwo (sBH.free hlw) (nw3 hlw nw' hlv2)
      · refine Paired.mapP hS2 fun b z q => ?_
        obtain ⟨bb, q1, q2⟩ := q
        obtain ⟨q3, q4⟩ := nw_get q1
        obtain ⟨q5, q6⟩ := nw_get q2
        have n1 : b ≠ db' := fun e => by rw [e, hb2] at q4; cases q4
        have n2 : bb ≠ db' := fun e => by rw [e, hb2] at q6; cases q6
        exact ⟨bb, nwo (sBH.free q3) (nw3 q3 n1 q4), nwo (sBH.free q5) (nw3 q5 n2 q6)⟩
end
end Five
end
section
namespace Five
open PySem PySem.Spec PyProof.Rows L2
open PySem.W (Datum DatumOrd T3)
/-- what four_paper tells -/
def FourT (K : PySem.W.Frag) (G : Hp) (t : Addr) (r : Option (List Step4) × Nat) : Prop := match r.1 with
  | none => G t = some (.tup [.non, .int r.2])
  | some pp => ∃ (lp : Addr) (ts : List Addr), G t = some (.tup [.ref lp, .int r.2]) ∧ G lp = some (.lst (ts.map V.ref)) ∧ Paired (StT4 K G) ts pp
theorem fourF_cons {rd : Str → List Str} {most : Nat} {v : Str} {l : List Str} {hv : List (Str × Int)} {pp : List Step4} {n : Nat} : fourF rd most (v :: l) hv pp n = match freeF rd (roomF rd most v hv n).2.1 v with
    | some h => fourF rd most l ((roomF rd most v hv n).2.1 ++ [(v, h)]) (pp ++ [(v, h, (roomF rd most v hv n).1)]) (roomF rd most v hv n).2.2
    | none => (none, (roomF rd most v hv n).2.2) := rfl
section
variable {P : Program} {w : World} {K : PySem.W.Frag} {mg : Str → Option Value} {base : Heap} {C : Addr} {cx : Nat → Addr}
def spFour (K : PySem.W.Frag) (C : Addr) : Sp := fun vs H Q _ => ∃ (x : Addr) (R : List Row) (most : Nat), vs = [.ref x, .int most] ∧ WebAt K C H x R ∧ Web4 R ∧
  ∀ (L : List Str) (t : Addr) (H' : Hp), Ord (rdf R) (vsf R) L → Same H H' → H t = none → FourT K (nw H H') t (fourF (rdf R) most L.reverse [] [] 0) → Q (.ref t) H'
theorem ok_four_paper (T : Txt K mg C cx) : Cal P w K mg base 9 "four_paper" (spFour K C) := by
  refine cal_of T.d_four_paper sc_four_paper (fun vs H Q E h => ?_) (fun f cdv A outer s H vs Q E hr h => ?_)
  · obtain ⟨x, R, most, rfl, _⟩ := h
    rfl
  · obtain ⟨x, R, most, rfl, hw, w4, k⟩ := h
    refine ⟨_, (pss_cons (ps_set (i := 2) sc_four_paper.nd rfl (Or.inl rfl) (pe_mk (ok_Search T) hr (by decide) (by rfl) (pa_cons (pv 0) (pa_cons (pv 1) pa_nil))))
      (pss_cons (ps_for PassesOwn.never (by rfl) (pi_reversed (by rfl) T.n_reversed (pa_cons (pe_c (ok_order T) hr (by decide) (by rfl) (pa_cons (pv 0) pa_nil)) pa_nil)) (pg_name (i := 3) sc_four_paper.nd rfl (Or.inl rfl)) (pss_one (ps_if (pt_not (pt_val (pe_mt (ok_Search_put T) hr (by decide) (pv 2) (pa_cons (pv 3) pa_nil)))) (pss_one (ps_ret (pe_tup (pa_cons pe_non (pa_cons (pe_fld (pv 2) rfl) pa_nil))))) pss_nil)))
      (pss_one (ps_ret (pe_tup (pa_cons (pe_fld (pv 2) rfl) (pa_cons (pe_fld (pv 2) rfl) pa_nil))))))), ?_⟩
    refine ⟨_, rfl, _, rfl, fun a dx ha hdx ne => ?_⟩
    have sN : Same H (upd (upd H dx (.own a)) a (.ins (cx 8) dx [])) := (Same.new hdx).trans (.new (by rw [upd_ne ne.symm]; exact ha))
    have han : upd (upd H dx (.own a)) a (.ins (cx 8) dx []) a = some (.ins (cx 8) dx []) := upd_same
    generalize upd (upd H dx (.own a)) a (.ins (cx 8) dx []) = HN at *
    refine ⟨a, dx, x, most, rfl, han, fun H1 db lp s1 hdb hlp nbl ha1 hb1 hl1 => ⟨rfl, ?_⟩⟩
    have s01 : Same H H1 := fun b o e => s1 _ _ (by rw [wo_out (by simpa using ne_of_none e ha)]; exact sN _ _ e)
    have hdb0 : H db = none := sN.free hdb
    have hlp0 : H lp = none := sN.free hlp
    have hw1 : WebAt K C (wo H1 [a, db, lp]) x R := up (R := WebAt K C) (fun b o e => by
      rw [wo_out (by simp [ne_of_none e ha, ne_of_none e hdb0, ne_of_none e hlp0])]; exact s01 _ _ e) hw
    refine ⟨_, rfl, x, R, rfl, up wo_same hw1, w4.len, w4.wf, fun l L H2 s2 hl2 hL2 hO => ?_⟩
    have hLm : ∀ v ∈ L, v ∈ vsf R := fun v hv => (hO.mem v).mp hv
    have hLn := hO.nodup
    have hLl : L.length ≤ 60 := by rw [hO.snoc_len w4.wf.nd, List.length_map]; exact w4.len
    have hl20 : H l = none := s01.free hl2
    have n1 : l ≠ a := fun e => by rw [e, ha1] at hl2; cases hl2
    have n2 : l ≠ db := fun e => by rw [e, hb1] at hl2; cases hl2
    have n3 : l ≠ lp := fun e => by rw [e, hl1] at hl2; cases hl2
    have hR : ∀ i (u : Str), L[L.length - 1 - i]? = some u → i < L.length → L.reverse[i]? = some u := fun i u h hi => by
      rw [List.getElem?_reverse hi]; exact h
    refine ⟨l, L.map V.str, rfl, SqL.of hL2, for_it walk_rev (fun i σ H' => ∃ (y : Option V) (dbc : Addr) (hv : List (Str × Int)) (ts : List Addr) (pp : List Step4) (n : Nat), σ = [some (.ref x), some (.int most), some (.ref a), y] ∧ Same H H' ∧ H dbc = none ∧ H' l = some (.lst (L.map V.str)) ∧ H' a = some (srO (cx 8) dx x dbc lp most n) ∧ WebAt K C (wo H' [a, dbc, lp]) x R ∧ H' dbc = some (.dK (dk V.int hv)) ∧ H' lp = some (.lst (ts.map V.ref)) ∧ Paired (StT4 K (wo (nw H H') [a, dbc, lp])) ts pp ∧ ts.length = i ∧ ks hv = L.reverse.take i ∧ n ≤ most ∧ fourF (rdf R) most L.reverse [] [] 0 = fourF (rdf R) most (L.reverse.drop i) hv pp n) ?_ (fun i σ H' _ ⟨_, _, _, _, _, _, _, _, _, q, _⟩ => SqL.of q) ?_ ?_⟩
    · exact ⟨_, db, [], [], [], 0, rfl, s01.trans s2, hdb0, hL2, s2 _ _ ha1, up s2.wo hw1, s2 _ _ hb1, s2 _ _ hl1, .nil, rfl, rfl, Nat.zero_le _, rfl⟩
    · rintro i z σ H0 H3 hi ⟨y, dbc, hv, ts, pp, n, rfl, s3, hdc, hl3, ha3, hw3, hb3, hlp3, hP3, htl, hks, hnm, hF⟩ ⟨rfl, hz⟩
      rw [List.length_map] at hi hz
      rw [List.getElem?_map] at hz
      obtain ⟨v, hv0, rfl⟩ : ∃ u, L[L.length - 1 - i]? = some u ∧ V.str u = z := by
        cases q : L[L.length - 1 - i]? with
        | none => rw [q] at hz; cases hz
        | some u => rw [q] at hz; exact ⟨u, rfl, Option.some.inj hz⟩
      have hvi := hR i v hv0 hi
      have hvR : v ∈ vsf R := hLm v (List.mem_of_getElem? hv0)
      have hnr : L.reverse.Nodup := (List.reverse_perm L).nodup_iff.mpr hLn
      have hvk : v ∉ ks hv := by
        rw [hks]
        intro q
        obtain ⟨k, hk, e⟩ := List.mem_take_iff_getElem.mp q
        have := idx_uniq' hnr (i := k) (j := i) (x := v) (by rw [List.getElem?_eq_getElem (by omega), e]) hvi
        omega
      have h4 : Hues4 R hv := ⟨by rw [hks]; exact hnr.sublist (List.take_sublist _ _), fun u hu => hLm u (List.mem_reverse.mp (List.mem_of_mem_take (by rw [← hks]; exact hu)))⟩
      have eD : L.reverse.drop i = v :: L.reverse.drop (i + 1) := by
        obtain ⟨q1, q2⟩ := List.getElem?_eq_some_iff.mp hvi
        rw [List.drop_eq_getElem_cons q1, q2]
      rw [eD, fourF_cons] at hF
      have nla : l ≠ dbc := fun e => by rw [e, hb3] at hl3; cases hl3
      have free4 : ∀ {HX : Hp}, Same (wo H3 [a, dbc, lp]) HX → Same H HX := fun {HX} sx b o e => by
        have m1 : b ≠ a := ne_of_none e ha
        have m2 : b ≠ lp := ne_of_none e hlp0
        have m3 : b ≠ dbc := ne_of_none e hdc
        exact sx _ _ (by rw [wo_out (by simp [m1, m2, m3])]; exact s3 _ _ e)
      refine ⟨_, rfl, a, dx, _, rfl, ha3, rfl, _, rfl, H, a, dx, x, dbc, lp, most, n, R, hv, v, ts, pp, rfl, ha3, hw3, hb3, hlp3, s3, hP3, by omega, hvR, hvk, w4, h4, hnm, fun ef db' H4 s4 ha4 => ⟨_, rfl, ?_⟩, fun h ef db' ts' H4 s4 hdb' ha4 hw4 hb4 hlp4 hP4 hm4 => ⟨_, rfl, ?_⟩⟩
      · rw [ef] at hF
        refine iteT ⟨_, rfl, a, _, dx, _, _, rfl, ha4, T.cl_Search, T.na_Search_steps, rfl, by show 2 ≤ sizeLine; decide, fun t ht => ?_⟩
        have s4' := free4 s4
        refine k L t _ hO (s4'.trans (.new ht)) (s4'.free ht) ?_
        rw [hF]
        show nw H _ t = _
        rw [nw_of (s4'.free ht), upd_same]
      · rw [ef] at hF
        have s4' := free4 s4
        have hl4 : H4 l = some (.lst (L.map V.str)) := s4 _ _ (by rw [wo_out (by simp [n1, n3, nla])]; exact hl3)
        have hdc4 : H db' = none := by
          rcases hdb' with z | z
          · rw [z]; exact hdc
          · exact s3.free z
        refine iteF ⟨_, db', _, ts', _, _, rfl, s4', hdc4, hl4, ha4, hw4, hb4, hlp4, hP4, ?_, ?_, hm4, hF⟩
        · have := Paired.length hP4
          rw [List.length_append, ← Paired.length hP3, htl] at this
          exact this
        · rw [ks_snoc, roomF_ks h4, hks, take_snoc hvi]
    · rintro σ H3 ⟨y, dbc, hv, ts, pp, n, rfl, s3, hdc, hl3, ha3, hw3, hb3, hlp3, hP3, htl, hks, hnm, hF⟩
      rw [List.length_map, ← List.length_reverse, List.drop_length] at hF
      refine ⟨_, rfl, a, _, dx, _, _, rfl, ha3, T.cl_Search, T.na_Search_paper, rfl, _, rfl, a, _, dx, _, _, rfl, ha3, T.cl_Search, T.na_Search_steps, rfl, by show 2 ≤ sizeLine; decide, fun t ht => ?_⟩
      refine k L t _ hO (s3.trans (.new ht)) (s3.free ht) ?_
      rw [hF]
      refine ⟨lp, ts, ?_, ?_, ?_⟩
      · rw [nw_of (s3.free ht), upd_same]; rfl
      · rw [nw_of hlp0]; exact Same.new ht _ _ hlp3
      · exact Paired.mapP hP3 fun _ _ q => up (R := StT4 K) (wo_same.trans (nw_up (.new ht))) q
end
end Five
end
section
namespace Five
open PySem PySem.Spec PyProof.Rows L2
open PySem.W (Datum DatumOrd T3)
instance deP4 : DecidableEq ((Option (List (T3 Str Int (List (T3 Str Int (List Str)))))) × Int) := inferInstance
abbrev P4D := (Option (List (T3 Str Int (List (T3 Str Int (List Str)))))) × Int
def four3 (r : Option (List Step4) × Nat) : P4D := (r.1.map (·.map st3), (r.2 : Int))
theorem FourT.dp {K : PySem.W.Frag} {G : Hp} {t : Addr} {r : Option (List Step4) × Nat} (h : FourT K G t r) : Dp K G (.ref t) (tD (four3 r)) := by
  obtain ⟨o, n⟩ := r
  cases o with
  | none => exact .tup (SqT.of h) (.cons .non (.cons (.int _) .nil))
  | some pp =>
    obtain ⟨lp, ts, h1, h2, h3⟩ := h
    exact .tup (SqT.of h1) (.cons (.lst (SqL.of h2) (dpAll_st h3)) (.cons (.int _) .nil))
theorem FourT.up {K : PySem.W.Frag} {G G' : Hp} {t : Addr} {r : Option (List Step4) × Nat} (s : Same G G') (h : FourT K G t r) : FourT K G' t r := by
  obtain ⟨o, n⟩ := r
  cases o with
  | none => exact s _ _ h
  | some pp =>
    obtain ⟨lp, ts, h1, h2, h3⟩ := h
    exact ⟨lp, ts, s _ _ h1, s _ _ h2, Paired.mapP h3 fun _ _ q => Five.up (R := StT4 K) s q⟩
theorem FourT.two {K : PySem.W.Frag} {G : Hp} {t : Addr} {r : Option (List Step4) × Nat} (h : FourT K G t r) : ∃ u, G t = some (.tup [u, .int r.2]) := by
  obtain ⟨o, n⟩ := r
  cases o with
  | none => exact ⟨_, h⟩
  | some pp =>
    obtain ⟨lp, ts, h1, h2, h3⟩ := h
    exact ⟨_, h1⟩
theorem Rot.self (W : List Row) : Rot W W := ⟨W, .refl _, by
  induction W with
  | nil => exact .nil
  | cons r W ih => exact .cons ⟨rfl, [], r.2, rfl, by simp⟩ ih⟩
end Five
end
section
namespace Five
open PySem PySem.Spec PyProof.Rows L2
open PySem.W (Datum DatumOrd)
section
variable {P : Program} {w : World} {K : PySem.W.Frag} {mg : Str → Option Value} {base : Heap} {C : Addr} {cx : Nat → Addr}
def spOther (K : PySem.W.Frag) : Sp := fun vs H Q _ => ∃ (p d : Addr) (W : List Row), vs = [.ref d, .ref p] ∧ GD K p d H W ∧ PotAt H p ∧ d ≠ p ∧ W.length ≤ 60 ∧ Pl (vsf W) (rdf W) ∧ (∀ v ∈ vsf W, Nm v) ∧
  ∀ (l : Addr) (rows : List Row) (H' : Hp), Dr p H H' → H l = none → LR K (RowT K) (wo H' [p]) l rows → RowsOk rows → Rot rows W → Q (.ref l) H'
theorem ok_law_other_rows (T : Txt K mg C cx) : Cal P w K mg base 2 "_law_other_rows" (spOther K) := by
  refine cal_of T.d_law_other_rows sc_law_other_rows (fun vs H Q E h => ?_) (fun f cdv A outer s H vs Q E hr h => ?_)
  · obtain ⟨p, d, W, rfl, _⟩ := h
    rfl
  · obtain ⟨p, d, W, rfl, hg, pot, ndp, hlen, pl, hnm, kk⟩ := h
    refine ⟨_, (pss_cons (ps_set (i := 2) sc_law_other_rows.nd rfl (Or.inl rfl) (pe_lst pa_nil))
      (pss_cons (ps_lock (ps_for PassesOwn.never (by rfl) (pi_keys (pv 0)) (pg_name (i := 3) sc_law_other_rows.nd rfl (Or.inl rfl)) (pss_cons (ps_set (i := 4) sc_law_other_rows.nd rfl (Or.inl rfl) (pe_dget (hu_of hr) (pv 0) (pv 3) (fun _ _ => rfl)))
      (pss_cons (ps_set (i := 5) sc_law_other_rows.nd rfl (Or.inl rfl) (pe_c (ok_law_take T) hr (by decide) (by rfl) (pa_cons (pv 1) (pa_cons (pe_op op_add (pe_callB (call_lenK (K := K)) (by rfl) T.n_len (by decide +kernel) (pa_cons (pv 4) pa_nil)) pe_int) pa_nil))))
      (pss_one (ps_expr (pe_bm PySem.F.plainAttrs_list PySem.F.slot_list_insert PySem.F.type_list_insert mt_insert (pv 2) (pa_cons (pe_c (ok_law_take T) hr (by decide) (by rfl) (pa_cons (pv 1) (pa_cons (pe_op op_add (pe_callB (call_lenK (K := K)) (by rfl) T.n_len (by decide +kernel) (pa_cons (pv 2) pa_nil)) pe_int) pa_nil))) (pa_cons (pe_tup (pa_cons (pv 3) (pa_cons (pe_op op_cat (pe_slice (sl_listK (K := K)) (pv 4) (po_some (pv 5)) po_none) (pe_slice (sl_listK (K := K)) (pv 4) po_none (po_some (pv 5)))) pa_nil))) pa_nil)))))))))
      (pss_one (ps_ret (pv 2))))), ?_⟩
    have hvl : (vsf W).length ≤ 60 := by rw [List.length_map]; exact hlen
    have hrl : ∀ v ∈ vsf W, (rdf W v).length ≤ 60 := fun v hv => Nat.le_trans (nodup_le (pl.wf.rn v hv) fun u hu => (pl.wf.ties v hv u hu).1) hvl
    refine ⟨Nat.zero_le _, fun rl hrl0 => ?_⟩
    have s0 : Same H (upd H rl (.lst [])) := .new hrl0
    have nrp : rl ≠ p := fun e => pot.ne (by rw [← e]; exact hrl0)
    have nrd : rl ≠ d := fun e => hg.ne (by rw [← e]; exact hrl0)
    obtain ⟨kvs, hk1, hkP⟩ := id hg
    have hk0 := s0 _ _ hk1
    refine ⟨d, .dK kvs, hk0, trivial, fun od => ?_⟩
    have hrlL : upd (upd H rl (.lst [])) d (.frz od (.dK kvs)) rl = some (.lst []) := by rw [upd_ne nrd, upd_same]
    have hkL : Paired (RowKV K (wo (upd (upd H rl (.lst [])) d (.frz od (.dK kvs))) [rl, d, p])) kvs W := by
      refine Paired.mapP hkP fun _ _ q => rowKV_up (Same.sm fun b o e => ?_) q
      obtain ⟨q1, q2⟩ := wo_get e
      have nb : b ≠ rl := ne_of_none q1 hrl0
      simp at q2
      rw [wo_out (by simp [nb, q2.1, q2.2]), upd_ne q2.1, upd_ne nb]
      exact q1
    have hdL : upd (upd H rl (.lst [])) d (.frz od (.dK kvs)) d = some (.frz od (.dK kvs)) := upd_same
    have potL : PotAt (upd (upd H rl (.lst [])) d (.frz od (.dK kvs))) p := (pot.same s0).eq (upd_ne ndp.symm)
    have back : ∀ {H' : Hp}, Dr p (upd (upd H rl (.lst [])) d (.frz od (.dK kvs))) H' ∨ Same (wo (upd (upd H rl (.lst [])) d (.frz od (.dK kvs))) [rl, p]) H' → ∀ b o, b ≠ d → b ≠ p → H b = some o → H' b = some o := fun {H'} a b o n1 n2 e => by
      have nb : b ≠ rl := ne_of_none e hrl0
      have eb : upd (upd H rl (.lst [])) d (.frz od (.dK kvs)) b = some o := by rw [upd_ne n1, upd_ne nb]; exact e
      rcases a with a | a
      · exact a.get n2 eb
      · exact a _ _ (by rw [wo_out (by simp [nb, n2])]; exact eb)
    generalize upd (upd H rl (.lst [])) d (.frz od (.dK kvs)) = HL at *
    refine ⟨_, rfl, d, od, rfl, .inl ⟨kvs, hdL, ?_⟩⟩
    have hkl : kvs.length = W.length := Paired.length hkP
    refine for_it (walk_keys (d := d) (o := od) (kvs := kvs)) (fun i σ H' => ∃ (y1 y2 y3 : Option V) (ts : List Addr) (rws : List Row), σ = [some (.ref d), some (.ref p), some (.ref rl), y1, y2, y3] ∧ Same (wo HL [rl, p]) H' ∧ PotAt H' p ∧ H' rl = some (.lst (ts.map V.ref)) ∧ Paired (RowT K (wo H' [rl, p])) ts rws ∧ Rot rws (W.take i)) ?_ ?_ ?_ ?_
    · exact ⟨_, _, _, [], [], rfl, wo_same, potL, hrlL, .nil, [], .refl _, .nil⟩
    · rintro i σ H' _ ⟨y1, y2, y3, ts, rws, _, a, _⟩
      exact a _ _ (by rw [wo_out (by simp [nrd.symm, ndp])]; exact hdL)
    · rintro i v σ H' H'' hi ⟨y1, y2, y3, ts, rws, rfl, a, pot', hL, hP, hrot⟩ ⟨rfl, k0, v0, hk0', rfl⟩
      obtain ⟨r, hr, e1, ra, e2, e3⟩ := paired_get hkL i (k0, v0) hk0'
      simp only at e1 e2
      subst e1
      subst e2
      have hrm : r ∈ W := List.mem_of_getElem? hr
      have hrv : r.1 ∈ vsf W := List.mem_map.mpr ⟨r, hrm, rfl⟩
      have er : rdf W r.1 = r.2 := rdf_of pl.wf.nd hrm
      have hrl1 : r.2.length ≤ 60 := by rw [← er]; exact hrl _ hrv
      have hi60 : i < W.length := (List.getElem?_eq_some_iff.mp hr).1
      have htl : ts.length = i := by
        rw [Paired.length hP]
        have := hrot.vs.length_eq
        rw [List.length_map, List.length_map, List.length_take] at this
        omega
      have hd'' : H'' d = some (.frz od (.dK kvs)) := a _ _ (by rw [wo_out (by simp [nrd.symm, ndp])]; exact hdL)
      have lsup : ∀ {G : Hp}, (∀ b o, b ≠ rl → b ≠ p → H'' b = some o → G b = some o) → LS K G ra r.2 := fun {G} f => by
        exact up (R := LS K) (fun b o e => by
          obtain ⟨q1, q2⟩ := wo_get e
          simp at q2
          exact f b o q2.1 q2.2.2 (a _ _ (by rw [wo_out (by simp [q2.1, q2.2.2])]; exact q1))) e3
      have ndrl : d ≠ rl := nrd.symm
      have dget : ∀ {G : Hp}, (∀ b o, b ≠ rl → b ≠ p → H'' b = some o → G b = some o) → DGet G d (.str r.1) (some (.ref ra)) := fun {G} f => by
        obtain ⟨ra', z1, z2⟩ := rowKV_get hkL hrv
        have : ra' = ra := by
          have hv1 := valV_at (rds_keys hkL) pl.wf.nd hk0'
          rw [z1] at hv1
          exact V.ref.inj (Option.some.inj hv1)
        subst this
        exact .inl ⟨kvs, Sum.inr r.1, .inr ⟨od, f _ _ ndrl ndp hd''⟩, rfl, z1.symm⟩
      refine ⟨_, rfl, _, rfl, d, _, rfl, dget fun _ _ _ _ e => e, ?_⟩
      refine ⟨_, rfl, _, rfl, ra, _, rfl, .inl (lsup fun _ _ _ _ e => e), _, _, rfl, rfl, p, _, rfl, pot', by omega, by rw [List.length_map]; omega, fun far H1 hf0 hf1 d1 => ?_⟩
      obtain ⟨fj, rfl⟩ : ∃ fj : Nat, far = (fj : Int) := ⟨far.toNat, by omega⟩
      have hL1 : H1 rl = some (.lst (ts.map V.ref)) := d1.get nrp hL
      refine ⟨_, rfl, .inl ⟨rfl, _, SqL.of hL1⟩, _, rfl, _, rfl, rl, _, rfl, .inl (SqL.of hL1), _, _, rfl, rfl, p, _, rfl, d1.pot, by omega, by rw [List.length_map]; omega, fun jx H2 hj0 hj1 d2 => ?_⟩
      rw [List.length_map] at hj1
      have hL2 : H2 rl = some (.lst (ts.map V.ref)) := d2.get nrp hL1
      have f2 : ∀ b o, b ≠ rl → b ≠ p → H'' b = some o → H2 b = some o := fun b o _ n2 e => d2.get n2 (d1.get n2 e)
      have ls2 := lsup f2
      refine ⟨_, rfl, _, rfl, _, rfl, _, rfl, ra, _, rfl, ls2, fun c1 hc1 => ⟨_, rfl, _, rfl, _, rfl, ra, _, rfl, (Same.new hc1).seq ls2, fun c2 hc2 => ⟨c1, c2, _, _, rfl, rfl, Same.new hc2 _ _ upd_same, upd_same, ?_, fun c3 hc3 => ⟨by show 2 ≤ sizeLine; decide, fun t ht => ?_⟩⟩⟩⟩
      · rw [cut_from, cut_to, List.length_drop, List.length_take, List.length_map]
        exact Nat.le_trans (show _ ≤ 60 + 60 by omega) (by decide)
      have s5 := ((Same.new (o := .lst (cutV (r.2.map V.str) (some (fj : Int)) none)) hc1).trans (.new (o := .lst (cutV (r.2.map V.str) none (some (fj : Int)))) hc2)).trans (.new (o := .lst (cutV (r.2.map V.str) (some (fj : Int)) none ++ cutV (r.2.map V.str) none (some (fj : Int)))) hc3)
      have s6 := s5.trans (.new (o := .tup [.str r.1, .ref c3]) ht)
      have al2 : Al [rl, p] H2 := fun m hm => by
        rcases List.mem_cons.mp hm with e | e
        · rw [e, hL2]; simp
        · rw [List.mem_singleton.mp e]; exact d2.pot.ne
      have hc30 : c3 ∉ [rl, p] := (al2.same ((Same.new hc1).trans (.new hc2))).fresh hc3
      refine ⟨rl, _, jx, _, rfl, rfl, s6 _ _ hL2, ?_, hj0, by omega, ?_⟩
      · rw [List.length_map, htl]
        exact Nat.lt_of_lt_of_le hi60 (Nat.le_trans hlen (by decide))
      · have e9 : (ts.map V.ref).take jx.toNat ++ [V.ref t] ++ (ts.map V.ref).drop jx.toNat = (ts.take jx.toNat ++ [t] ++ ts.drop jx.toNat).map V.ref := by
          rw [List.map_append, List.map_append, List.map_take, List.map_drop]; rfl
        have hP2 : Paired (RowT K (wo H2 [rl, p])) ts rws := Paired.mapP hP fun _ _ q => up (R := RowT K) (fun b o e => by
          obtain ⟨q1, q2⟩ := wo_get e
          rw [wo_out q2]
          simp at q2
          exact f2 b o q2.1 q2.2 q1) q
        refine ⟨_, _, _, ts.take jx.toNat ++ [t] ++ ts.drop jx.toNat, rws.take jx.toNat ++ [(r.1, r.2.drop fj ++ r.2.take fj)] ++ rws.drop jx.toNat, rfl, fun b o e => ?_, (d2.pot.same s6).eq (upd_ne nrp.symm), by rw [upd_same, e9], ?_, ?_⟩
        · obtain ⟨q1, q2⟩ := wo_get e
          simp at q2
          rw [upd_ne q2.1]
          exact s6 _ _ (f2 b o q2.1 q2.2 (a _ _ e))
        · rw [wo_mut (by simp)]
          have hPs := ups s6 hP2
          have hrow : RowT K (wo (upd (upd (upd (upd H2 c1 (.lst (cutV (r.2.map V.str) (some (fj : Int)) none))) c2 (.lst (cutV (r.2.map V.str) none (some (fj : Int))))) c3 (.lst (cutV (r.2.map V.str) (some (fj : Int)) none ++ cutV (r.2.map V.str) none (some (fj : Int))))) t (.tup [.str r.1, .ref c3])) [rl, p]) t (r.1, r.2.drop fj ++ r.2.take fj) := by
            refine RowT.of upd_same ((al2.same s5).fresh ht) ?_ hc30
            refine Same.new ht _ _ ?_
            rw [upd_same, cut_from, cut_to, List.map_append, List.map_drop, List.map_take]
          exact paired_app (paired_app (paired_td hPs jx.toNat).1 (.cons hrow .nil)) (paired_td hPs jx.toNat).2
        · rw [take_snoc hr]
          exact hrot.ins (a := (r.1, r.2.drop fj ++ r.2.take fj)) (b := r) ⟨rfl, r.2.take fj, r.2.drop fj, (List.take_append_drop _ _).symm, rfl⟩ _
    · rintro σ H' ⟨y1, y2, y3, ts, rws, rfl, a, pot', hL, hP, hrot⟩
      have hdH : H' d = some (.frz od (.dK kvs)) := a _ _ (by rw [wo_out (by simp [nrd.symm, ndp])]; exact hdL)
      rw [hkl, List.take_length] at hrot
      have ok := hrot.ok pl hnm hlen
      refine ⟨hdH, ?_⟩
      have dr2 : Dr p H (upd H' d (.dK kvs)) := by
        refine ⟨fun b o e => ?_, pot'.eq (upd_ne ndp.symm)⟩
        obtain ⟨q1, q2⟩ := wo_get e
        by_cases n : b = d
        · rw [n, upd_same]
          rw [n, hk1] at q1
          exact q1
        · rw [upd_ne n]
          exact back (.inr a) b o n (by simpa using q2) q1
      have hL2 : upd H' d (.dK kvs) rl = some (.lst (ts.map V.ref)) := by rw [upd_ne nrd]; exact hL
      have hP2 : Paired (RowT K (wo (upd H' d (.dK kvs)) [p])) ts rws := Paired.mapP hP fun t r ⟨b, q1, q2⟩ => by
        obtain ⟨z1, z2⟩ := wo_get q1
        obtain ⟨z3, z4⟩ := wo_get q2
        have n1 : t ≠ d := fun e => by rw [e, hdH] at z1; cases z1
        have n2 : b ≠ d := fun e => by rw [e, hdH] at z3; cases z3
        simp at z2 z4
        exact ⟨b, by rw [wo_out (by simp [z2.2]), upd_ne n1]; exact z1, by rw [wo_out (by simp [z4.2]), upd_ne n2]; exact z3⟩
      generalize upd H' d (.dK kvs) = H2 at *
      have alp2 : Al [p] H2 := fun m hm => by rw [List.mem_singleton.mp hm]; exact dr2.pot.ne
      have hrows : LR K (RowT K) (wo H2 [p]) rl rws := ⟨ts, .inl (.inl (by rw [wo_out (by simpa using nrp)]; exact hL2)), hP2⟩
      exact ⟨_, rfl, kk rl rws H2 dr2 hrl0 hrows ok hrot⟩
end
end Five
end
section
namespace Five
open PySem PySem.Spec PyProof.Rows L2
open PySem.W (Datum DatumOrd T3)
section
variable {rd rd' : Str → List Str} (h : ∀ v, (rd v).Perm (rd' v))
include h
theorem ch_c (hv : List (Str × Int)) (s : Str) (o : Int) : chF rd hv s o = chF rd' hv s o := chF_congr fun v u => (h v).mem_iff
theorem ex_c (hv : List (Str × Int)) (t : Try) : exF rd hv t = exF rd' hv t := by unfold exF; rw [ch_c h]
theorem sw_c (hv : List (Str × Int)) (t : Try) : swF rd hv t = swF rd' hv t := by unfold swF; rw [ch_c h]
theorem free_c (hv : List (Str × Int)) (v : Str) : freeF rd hv v = freeF rd' hv v := by
  unfold freeF
  congr 1
  funext x
  exact decide_eq_decide.mpr ⟨fun q u hu => q u ((h v).mem_iff.mpr hu), fun q u hu => q u ((h v).mem_iff.mp hu)⟩
theorem tries_c (hv : List (Str × Int)) (v : Str) : triesF rd hv v = triesF rd' hv v := by unfold triesF; rw [srt_congr (h v)]
theorem scan_c {most : Nat} {v : Str} {hv : List (Str × Int)} : ∀ {ts : List Try} {n : Nat}, scanF rd most v hv ts n = scanF rd' most v hv ts n
  | [], _ => rfl
  | t :: ts, n => by rw [scanF_cons, scanF_cons, ex_c h, free_c h, scan_c]
theorem doub_c {most : Nat} {v : Str} {hv : List (Str × Int)} : ∀ {ts : List Try} {n : Nat}, doubF rd most v hv ts n = doubF rd' most v hv ts n
  | [], _ => rfl
  | t :: ts, n => by
    rw [doubF_cons, doubF_cons, ex_c h, tries_c h, scan_c h]
    split
    · rfl
    · split
      · rfl
      · exact doub_c
theorem room_c {most : Nat} {v : Str} {hv : List (Str × Int)} {n : Nat} : roomF rd most v hv n = roomF rd' most v hv n := by
  unfold roomF
  rw [free_c h, tries_c h, scan_c h]
  split
  · rfl
  · split
    · rw [sw_c h]
    · rw [doub_c h]
      split
      · rw [sw_c h, sw_c h, ex_c h]
      · rfl
theorem four_c {most : Nat} : ∀ {l : List Str} {hv : List (Str × Int)} {pp : List Step4} {n : Nat}, fourF rd most l hv pp n = fourF rd' most l hv pp n
  | [], _, _, _ => rfl
  | v :: l, hv, pp, n => by
    rw [fourF_cons, fourF_cons, room_c h, free_c h]
    split
    · exact four_c
    · rfl
end
/-- a told paper that is being cleared: each thing stands, or is a list of the paper that is empty now -/
def ClI (H H1 G : Hp) : Prop := ∀ b o, H1 b = some o → G b = some o ∨ (H b = none ∧ (∃ xs, o = .lst xs) ∧ G b = some (.lst []))
section
variable {H H1 G : Hp} {b t l lp : Addr} {xs : List V}
theorem ClI.refl : ClI H H1 H1 := fun _ _ e => .inl e
theorem ClI.clear (h : ClI H H1 G) (h0 : H b = none) (hb : H1 b = some (.lst xs)) : ClI H H1 (upd G b (.lst [])) := fun c o e => by
  by_cases q : c = b
  · subst q
    rw [hb] at e
    cases e
    exact .inr ⟨h0, ⟨_, rfl⟩, upd_same⟩
  · rw [upd_ne q]
    exact h c o e
theorem ClI.tup (h : ClI H H1 G) (e : H1 t = some (.tup xs)) : G t = some (.tup xs) := by
  rcases h _ _ e with q | ⟨_, ⟨_, q⟩, _⟩
  · exact q
  · cases q
theorem ClI.lst (h : ClI H H1 G) (e : H1 b = some (.lst xs)) : ∃ ys, G b = some (.lst ys) ∧ (ys = xs ∨ ys = []) := by
  rcases h _ _ e with q | ⟨_, _, q⟩
  · exact ⟨_, q, .inl rfl⟩
  · exact ⟨_, q, .inr rfl⟩
theorem ClI.same (h : ClI H H1 G) (s : Same H H1) : Same H G := fun b o e => by
  rcases h _ _ (s _ _ e) with q | ⟨q, _, _⟩
  · exact q
  · rw [e] at q; cases q
theorem refs_ne_strs {a : List Addr} {l : List Str} (hl : a ≠ []) : a.map V.ref ≠ l.map V.str := by
  cases a with
  | nil => exact absurd rfl hl
  | cons x r =>
    cases l with
    | nil => exact fun e => nomatch e
    | cons y z => exact fun e => by injection e with e1 _; cases e1
theorem lst_ne {ts : List Addr} {r : List Str} (h1 : H1 lp = some (.lst (ts.map V.ref))) (h2 : H1 b = some (.lst (r.map V.str))) (hn : ts ≠ []) : lp ≠ b := fun e => by
  rw [e, h2] at h1
  injection h1 with h1
  injection h1 with h1
  exact refs_ne_strs hn h1.symm
theorem lsts_ne {K : PySem.W.Frag} {ts ss : List Addr} {v : Str} {h : Int} {ys : List Swap} (h1 : H1 lp = some (.lst (ts.map V.ref))) (ht : t ∈ ts) (h2 : H1 t = some (.tup [.str v, .int h, .ref l])) (h3 : H1 l = some (.lst (ss.map V.ref))) (h4 : Paired (SwT4 K H1) ss ys) : lp ≠ l := fun e => by
  subst e
  rw [h1] at h3
  have e2 : ts = ss := refs_inj (by injection h3 with h3; injection h3)
  subst e2
  obtain ⟨i, hi⟩ := List.mem_iff_getElem?.mp ht
  obtain ⟨y, _, b, q1, q2⟩ := paired_get h4 i t hi
  rw [h2] at q1
  injection q1 with q1
  injection q1 with q1
  injection q1 with _ q1
  injection q1 with _ q1
  injection q1 with q1 _
  injection q1 with q1
  subst q1
  exact lst_ne h1 q2 (List.ne_nil_of_mem ht) rfl
end
/-- what repr is asked of: a told paper -/
theorem four_shb {R : List Row} {most : Nat} {L : List Str} {r : Option (List Step4) × Nat} (w4 : Web4 R) (hn : ∀ v ∈ vsf R, Nm v) (hO : Ord (rdf R) (vsf R) L) (hm : most ≤ 400) (e : fourF (rdf R) most L.reverse [] [] 0 = r) : ShB (2 ^ 24) (Datum.toD (four3 r)) := by
  have hk : r.2 ≤ most := by rw [← e]; exact four_most (Nat.zero_le _)
  obtain ⟨o, k⟩ := r
  have hi : ShB 7 (.int (k : Int)) := shb_int (by omega) (by show (k : Int) < 10 ^ 6; have : k ≤ most := hk; omega)
  cases o with
  | none =>
    refine (shb_tup (b := 7) (k := 2) (xs := [.none, .int (k : Int)]) (fun x hx => ?_) (by simp)).le (by decide)
    simp only [List.mem_cons, List.not_mem_nil, or_false] at hx
    rcases hx with rfl | rfl
    · exact shb_none.le (by decide)
    · exact hi
  | some pp =>
    have hb := sh_pp hn (pap_b w4 (fun v hv => (hO.mem v).mp (List.mem_reverse.mp hv)) ((List.reverse_perm L).nodup_iff.mpr hO.nodup) e)
    refine (shb_tup (b := 5450342) (k := 2) (xs := [.list ((pp.map st3).map Datum.toD), .int (k : Int)]) (fun x hx => ?_) (by simp)).le (by decide)
    simp only [List.mem_cons, List.not_mem_nil, or_false] at hx
    rcases hx with rfl | rfl
    · exact hb
    · exact hi.le (by decide)
end Five
end
section
namespace Five
open PySem PySem.Spec PyProof.Rows L2
open PySem.W (Datum DatumOrd T3)
section
variable {P : Program} {w : World} {K : PySem.W.Frag} {mg : Str → Option Value} {base : Heap} {C f : Addr} {fd : FuncData} {cx : Nat → Addr}
def spLaw (K : PySem.W.Frag) : Sp := fun vs H Q _ => ∃ (a : Addr) (ns : List Int), vs = [.ref a] ∧ SqL K H a (ns.map V.int) ∧ ns.length ≤ 63 ∧ ∀ H', Q (.bl true) H'
theorem ok_law_fn (T : Txt K mg C cx) (F : Fun K "law" "law" s_law f fd) : FnG P w K mg base 14 f fd ["_law_script"] (spLaw K) := by
  refine fnG_of F sc_law (fun vs H Q E h => ?_) (fun cdv A outer s H vs Q E hg hr h => ?_)
  · obtain ⟨a, ns, rfl, _⟩ := h
    rfl
  · obtain ⟨a, ns, rfl, ha, hl, kk⟩ := h
    refine ⟨_, (pss_cons (ps_set (i := 1) sc_law.nd rfl (Or.inl rfl) (pe_c (ok_law_rounds T) hr (by decide) (by rfl) (pa_cons (pv 0) (pa_cons pe_int pa_nil))))
      (pss_cons (ps_for PassesOwn.never (by rfl) (pi_list (pe_slice (sl_listK (K := K)) (pv 0) (po_some pe_int) (po_some pe_int))) (pg_name (i := 2) sc_law.nd rfl (Or.inl rfl)) (pss_cons (ps_set (i := 3) sc_law.nd rfl (Or.inl rfl) (pe_c (ok_law_pot T) hr (by decide) (by rfl) (pa_cons (pv 2) pa_nil)))
      (pss_one (ps_for PassesOwn.never (by rfl) (pi_range1 (by rfl) T.n_range (pa_cons (pe_op op_add pe_int (pe_c (ok_law_take T) hr (by decide) (by rfl) (pa_cons (pv 3) (pa_cons pe_int pa_nil)))) pa_nil)) (pg_name (i := 4) sc_law.nd rfl (Or.inl rfl)) (pss_one (ps_expr (pe_c (ok_law_crossed T) hr (by decide) (by rfl) (pa_cons (pv 1) (pa_cons (pv 3) pa_nil)))))))))
      (pss_cons (ps_set (i := 3) sc_law.nd rfl (Or.inl rfl) (pe_c (ok_law_pot T) hr (by decide) (by rfl) (pa_cons (pe_op op_add (pe_c (ok_law_cell T) hr (by decide) (by rfl) (pa_cons (pv 0) (pa_cons pe_int pa_nil))) pe_int) pa_nil)))
      (pss_cons (ps_set (i := 5) sc_law.nd rfl (Or.inl rfl) (pe_c (ok_law_take T) hr (by decide) (by rfl) (pa_cons (pv 3) (pa_cons pe_int pa_nil))))
      (pss_cons (ps_set (i := 6) sc_law.nd rfl (Or.inl rfl) (pe_mk (ok_Web T) hr (by decide) (by rfl) (pa_cons (pe_c (ok_law_rows T) hr (by decide) (by rfl) (pa_cons (pv 1) pa_nil)) pa_nil)))
      (pss_cons (ps_set (i := 7) sc_law.nd rfl (Or.inl rfl) (pe_callB (call_reprD (K := K) hg hr.units) (by rfl) T.n_repr (by decide +kernel) (pa_cons (pe_c (ok_four_paper T) hr (by decide) (by rfl) (pa_cons (pv 6) (pa_cons (pv 5) pa_nil))) pa_nil)))
      (pss_cons (ps_set (i := 8) sc_law.nd rfl (Or.inl rfl) (pe_mk (ok_Web T) hr (by decide) (by rfl) (pa_cons (pe_c (ok_law_other_rows T) hr (by decide) (by rfl) (pa_cons (pv 1) (pa_cons (pv 3) pa_nil))) pa_nil)))
      (pss_cons (ps_if (PW.pt (pw_or (pt_cmpR op_ne (pe_callB (call_reprD (K := K) hg hr.units) (by rfl) T.n_repr (by decide +kernel) (pa_cons (pe_c (ok_four_paper T) hr (by decide) (by rfl) (pa_cons (pe_c (ok_mirrored T) hr (by decide) (by rfl) (pa_cons (pv 6) pa_nil)) (pa_cons (pv 5) pa_nil))) pa_nil)) (pv 7) (nomark _)) (pw_or1 (pt_cmpR op_ne (pe_callB (call_reprD (K := K) hg hr.units) (by rfl) T.n_repr (by decide +kernel) (pa_cons (pe_c (ok_four_paper T) hr (by decide) (by rfl) (pa_cons (pv 8) (pa_cons (pv 5) pa_nil))) pa_nil)) (pv 7) (nomark _))))) (pss_one (ps_ret pe_bl)) pss_nil)
      (pss_cons (ps_set (i := 9) sc_law.nd rfl (Or.inl rfl) (pe_c (ok_four_paper T) hr (by decide) (by rfl) (pa_cons (pv 6) (pa_cons (pv 5) pa_nil))))
      (pss_cons (ps_if (pt_cmpR op_notN (pe_ix (ix_tupK (K := K)) (pv 9) pe_int (fun _ _ => rfl)) pe_non (nomark _)) (pss_cons (ps_for PassesOwn.never (by rfl) (pi_list (pe_ix (ix_tupK (K := K)) (pv 9) pe_int (fun _ _ => rfl))) (pg_tupK (K := K) 3 (by rfl) (pgs_cons (pg_name (i := 10) sc_law.nd rfl (Or.inl rfl)) (pgs_cons (pg_name (i := 11) sc_law.nd rfl (Or.inl rfl)) (pgs_cons (pg_name (i := 12) sc_law.nd rfl (Or.inl rfl)) pgs_nil)))) (pss_cons (ps_for PassesOwn.never (by rfl) (pi_list (pv 12)) (pg_tupK (K := K) 3 (by rfl) (pgs_cons (pg_name (i := 13) sc_law.nd rfl (Or.inl rfl)) (pgs_cons (pg_name (i := 14) sc_law.nd rfl (Or.inl rfl)) (pgs_cons (pg_name (i := 15) sc_law.nd rfl (Or.inl rfl)) pgs_nil)))) (pss_one (ps_expr (pe_bm0 PySem.F.plainAttrs_list PySem.F.slot_list_clear PySem.F.type_list_clear mt_clear (pv 15)))))
      (pss_one (ps_expr (pe_bm0 PySem.F.plainAttrs_list PySem.F.slot_list_clear PySem.F.type_list_clear mt_clear (pv 12))))))
      (pss_one (ps_expr (pe_bm0 PySem.F.plainAttrs_list PySem.F.slot_list_clear PySem.F.type_list_clear mt_clear (pe_ix (ix_tupK (K := K)) (pv 9) pe_int (fun _ _ => rfl)))))) pss_nil)
      (pss_one (ps_ret (pe_and (pe_cmpR op_eq (pe_callB (call_reprD (K := K) hg hr.units) (by rfl) T.n_repr (by decide +kernel) (pa_cons (pe_c (ok_four_paper T) hr (by decide) (by rfl) (pa_cons (pv 6) (pa_cons (pv 5) pa_nil))) pa_nil)) (pv 7) (nomark _)) (pe_one (pe_cmpR (op_eqK (K := K) ((Option (List (PySem.W.T3 Str Int (List (PySem.W.T3 Str Int (List Str)))))) × Int) hr.units) (pe_c (ok_four_paper T) hr (by decide) (by rfl) (pa_cons (pe_mk (ok_Web T) hr (by decide) (by rfl) (pa_cons (pe_lst pa_nil) pa_nil)) (pa_cons (pv 5) pa_nil))) (pe_tup (pa_cons (pe_lst pa_nil) (pa_cons pe_int pa_nil))) (nomark _)))))))))))))))), ?_⟩
    clear hg
    refine ⟨_, rfl, a, ns, 16, rfl, ha, by decide, by decide, fun p d W H1 s1 hp hd ndp pot1 hg pl hnm hWl => ?_⟩
    have ha1 : SqL K H1 a (ns.map V.int) := s1.seq ha
    refine ⟨_, rfl, _, rfl, _, rfl, a, _, rfl, ha1, fun ls hls => ?_⟩
    have ecut : cutV (ns.map V.int) (some (1 : Int)) (some (13 : Int)) = ((ns.drop (min 1 ns.length)).take (min 13 ns.length - min 1 ns.length)).map V.int := by
      rw [show (1 : Int) = ((1 : Nat) : Int) from rfl, show (13 : Int) = ((13 : Nat) : Int) from rfl, cut_ft, List.length_map, List.map_take, List.map_drop]
    rw [ecut]
    generalize (ns.drop (min 1 ns.length)).take (min 13 ns.length - min 1 ns.length) = cs at *
    have s2 : Same H1 (upd H1 ls (.lst (cs.map V.int))) := .new hls
    have hlsv : upd H1 ls (.lst (cs.map V.int)) ls = some (.lst (cs.map V.int)) := upd_same
    generalize upd H1 ls (.lst (cs.map V.int)) = H2 at *
    have s12 := s1.trans s2
    have hls0 : H ls = none := s1.free hls
    have nld : ls ≠ d := fun e => hg.ne (by rw [← e]; exact hls)
    refine ⟨ls, rfl, ⟨_, SqL.of hlsv⟩, for_list (K := K) (a := ls) (xs := cs.map V.int) (fun i σ H' => ∃ (y2 y3 y4 : Option V) (W' : List Row) (q : Addr), σ = [some (.ref a), some (.ref d), y2, y3, y4, none, none, none, none, none, none, none, none, none, none, none] ∧ Same H H' ∧ H' ls = some (.lst (cs.map V.int)) ∧ PotAt H' q ∧ d ≠ q ∧ GD K q d H' W' ∧ vsf W' = vsf W ∧ Pl (vsf W') (rdf W')) ?_ ?_ ?_ ?_⟩
    · exact ⟨_, _, _, W, p, rfl, s12, hlsv, pot1.same s2, ndp, hg.same s2, rfl, pl⟩
    · rintro i σ H' _ ⟨_, _, _, _, _, _, _, z, _⟩
      exact SqL.of z
    · rintro i z σ H3 hi ⟨y2, y3, y4, W3, q3, rfl, s3, hls3, pot3, ndq3, hg3, ev3, pl3⟩
      obtain ⟨cell, hcell, rfl⟩ : ∃ c, cs[i]? = some c ∧ z = V.int c := by
        rw [List.getElem?_map] at hi
        cases e : cs[i]? with
        | none => rw [e] at hi; cases hi
        | some h => rw [e] at hi; exact ⟨h, rfl, (Option.some.inj hi).symm⟩
      have hWl3 : W3.length ≤ 16 := by
        have := congrArg List.length ev3
        rw [List.length_map, List.length_map] at this
        omega
      refine ⟨_, rfl, cell, rfl, fun q H4 s4 hq pot4 => ?_⟩
      have ndq : d ≠ q := fun e => hg3.ne (by rw [e]; exact hq)
      have hg4 := (hg3.same s4).repot pot4 ndq
      have hq0 : H q = none := s3.free hq
      have nlq : ls ≠ q := fun e => by rw [← e, hls3] at hq; cases hq
      refine ⟨_, rfl, q, 3, rfl, pot4, by decide, by decide, fun n2 H5 hn0 hn1 d5 => ⟨_, _, rfl, rfl, _, rfl, by omega, by omega, ?_⟩⟩
      refine for_range (lo := 0) (n := (1 + n2).toNat) (fun j σ H' => ∃ (y4 : Option V) (W' : List Row), σ = [some (.ref a), some (.ref d), some (.int cell), some (.ref q), y4, none, none, none, none, none, none, none, none, none, none, none] ∧ D2 q d H5 H' ∧ GD K q d H' W' ∧ vsf W' = vsf W ∧ Pl (vsf W') (rdf W')) ?_ ?_ ?_
      · exact ⟨_, W3, rfl, .refl d5.pot, hg4.dr ndq d5, ev3, pl3⟩
      · rintro j σ H6 hj ⟨y4, W6, rfl, a6, hg6, ev6, pl6⟩
        have hWl6 : W6.length ≤ 16 := by
          have := congrArg List.length ev6
          rw [List.length_map, List.length_map] at this
          omega
        exact ⟨_, rfl, _, rfl, q, d, W6, rfl, hg6, a6.pot, ndq, by omega, pl6, fun H7 W7 a7 hg7 ev7 pl7 => ⟨_, W7, rfl, a6.trans a7, hg7, ev7.trans ev6, pl7⟩⟩
      · rintro σ H6 ⟨y4, W6, rfl, a6, hg6, ev6, pl6⟩
        refine ⟨_, _, _, W6, q, rfl, fun b o e => ?_, a6.get nld nlq (d5.get nlq (s4 _ _ hls3)), a6.pot, ndq, hg6, ev6, pl6⟩
        exact a6.get (ne_of_none e hd) (ne_of_none e hq0) (d5.get (ne_of_none e hq0) (s4 _ _ (s3 _ _ e)))
    · rintro σ H3 ⟨y2, y3, y4, W3, q3, rfl, s3, hls3, pot3, ndq3, hg3, ev3, pl3⟩
      have hWl3 : W3.length ≤ 16 := by
        have := congrArg List.length ev3
        rw [List.length_map, List.length_map] at this
        omega
      have hnm3 : ∀ v ∈ vsf W3, Nm v := fun v h => hnm v (by rw [← ev3]; exact h)
      have hrl3 : ∀ v ∈ vsf W3, (rdf W3 v).length ≤ 16 := fun v hv => Nat.le_trans (nodup_le (pl3.wf.rn v hv) fun u hu => (pl3.wf.ties v hv u hu).1) (by rw [List.length_map]; exact hWl3)
      refine ⟨_, rfl, a, ns, 1, rfl, s3.seq ha, by decide, by decide, fun n => ⟨_, _, rfl, rfl, _, rfl, fun q H4 s4 hq pot4 => ?_⟩⟩
      have ndq : d ≠ q := fun e => hg3.ne (by rw [e]; exact hq)
      have hg4 := (hg3.same s4).repot pot4 ndq
      refine ⟨_, rfl, q, 401, rfl, pot4, by decide, by decide, fun m H5 h10 h11 d5 => ?_⟩
      obtain ⟨mo, rfl⟩ : ∃ mo : Nat, m = (mo : Int) := ⟨m.toNat, by omega⟩
      have hmo : mo ≤ 400 := by omega
      have hg5 := hg4.dr ndq d5
      have sH5 : Same H H5 := fun b o e => d5.get (ne_of_none e (s3.free hq)) (s4 _ _ (s3 _ _ e))
      have nm3 : ∀ v ∈ vsf (webRows W3), Nm v := fun v hv => hnm3 v (vsf_web_mem.mp hv)
      obtain ⟨kvs, hk, hkP⟩ := id hg5
      have al3 : Al [q, d] H5 := fun m hm => by
        rcases List.mem_cons.mp hm with e | e
        · rw [e]; exact d5.pot.ne
        · rw [List.mem_singleton.mp e, hk]; simp
      refine ⟨_, rfl, [q, d], d, W3, kvs, rfl, by simp, al3, hk, Paired.mapP hkP fun _ _ z => rowKV_up (wo_less (M := [d]) (L := [d, q]) (by simp)).sm z, pl3.wf.nd, by omega, fun v hv => Nat.le_trans (hrl3 v hv) (by decide), fun rl H6 s6 hrl hrows => ?_⟩
      have ok3 : RowsOk W3 := (Rot.self W3).ok pl3 hnm3 (by omega)
      refine fun x dx hx hdx ne => web_mk (al3.same s6) hrows ok3 hx hdx ne fun HA sA hwebM => ⟨rfl, ?_⟩
      have hwA : WebAt K C HA x (webRows W3) := up wo_same hwebM
      have w4 : Web4 (webRows W3) := ⟨wf_web ok3.pl.wf, by rw [web_len]; omega⟩
      have sHA : Same H5 HA := s6.trans sA
      refine ⟨_, rfl, _, rfl, x, webRows W3, mo, rfl, hwA, w4, fun L t HB hO sB ht hF => ?_⟩
      have hFB := hF.up nw_same
      generalize hr4 : fourF (rdf (webRows W3)) mo L.reverse [] [] 0 = r at *
      have hsh := four_shb w4 nm3 hO hmo hr4
      have hdep : (Datum.toD (four3 r)).depth ≤ 60 := Nat.le_trans (Datum.depth_le _) (by decide)
      refine ⟨t, _, rfl, hFB.dp, hsh.sh, hsh.nd, hdep, hsh.len, ?_⟩
      have sHB : Same H5 HB := sHA.trans sB
      refine ⟨_, rfl, _, rfl, q, d, W3, rfl, hg5.same sHB, d5.pot.same sHB, ndq, by omega, pl3, hnm3, fun rl2 rows HC dC hrl2 hrows2 okR rot => ?_⟩
      have alC : Al [q] HC := fun m hm => by rw [List.mem_singleton.mp hm]; exact dC.pot.ne
      refine fun y dy hy hdy ney => web_mk alC hrows2 okR hy hdy ney fun HD sD hwebD => ⟨rfl, ?_⟩
      have eR : webRows rows = webRows W3 := (web_rot rot pl3.wf.nd pl3.wf.rn).trans (web_rot (Rot.self W3) pl3.wf.nd pl3.wf.rn).symm
      rw [eR] at hwebD
      have hyD : WebAt K C HD y (webRows W3) := up wo_same hwebD
      have hwD : WebAt K C HD x (webRows W3) := up (R := WebAt K C) (fun b o e => by
        obtain ⟨q1, q2⟩ := wo_get e
        exact sD _ _ (dC.get (fun z => q2 (by rw [z]; simp)) (sB _ _ q1))) hwebM
      have okw : RowsOk (webRows W3) := ok3.web
      have main : ∀ {x' : Addr} {R' : List Row} {G : Hp} {Q' : VK} {E' : XK}, WebAt K C G x' R' → Web4 R' → (∀ v, v ∈ vsf R' ↔ v ∈ vsf (webRows W3)) → (∀ v, (rdf R' v).Perm (rdf (webRows W3) v)) →
          (∀ (t' : Addr) (G' : Hp), Same G G' → G t' = none → FourT K (nw G G') t' r → Q' (.ref t') G') → spFour K C [.ref x', .int mo] G Q' E' := fun {x' R' G Q' E'} hw w4' hv hp k => by
        refine ⟨x', R', mo, rfl, hw, w4', fun L' t' G' hO' s' ht' hF' => k t' G' s' ht' ?_⟩
        have eL : L' = L := hO'.uniq hO hv fun v _ => hp v
        subst eL
        rw [four_c hp, hr4] at hF'
        exact hF'
      have hwDn : WebAt K C (wo HD []) x (webRows W3) := up (R := WebAt K C) (fun b o e => by rw [wo_out (by simp)]; exact e) hwD
      refine ⟨_, rfl, [], x, webRows W3, rfl, al_nil, hwDn, okw, fun z HE sE hz hwz => ⟨_, rfl, ?_⟩⟩
      have hwz' : WebAt K C HE z (webRows (revR (webRows W3))) := up (R := WebAt K C) wo_same hwz
      have okm : RowsOk (revR (webRows W3)) := okw.rev
      delta tNil; dsimp only
      refine main hwz' ⟨wf_web okm.pl.wf, by rw [web_len]; exact okm.len⟩ (fun v => by rw [rot_vs (Rot.self _), vsf_revR]) (fun v => ?_) fun t1 HF1 sF1 ht1 hF1 => ?_
      · by_cases c : v ∈ vsf (webRows W3)
        · refine (rot_flp (Rot.self _) okm.pl.wf.nd (by rw [vsf_revR]; exact c)).trans ?_
          rw [rdf_revR]
          exact List.reverse_perm _
        · rw [rdf_out c, rdf_out fun q => c (by have := (rot_vs (Rot.self _) v).mp q; rwa [vsf_revR] at this)]
      refine ⟨t1, _, rfl, (hF1.up nw_same).dp, hsh.sh, hsh.nd, hdep, hsh.len, _, rfl, rfl, _, rfl, ?_⟩
      rw [decide_eq_true rfl]
      have sD1 : Same HD HF1 := sE.trans sF1
      refine iteF ⟨_, rfl, _, rfl, ?_⟩
      dsimp only
      refine (main (up (R := WebAt K C) sD1 hyD) w4 (fun _ => Iff.rfl) (fun _ => .refl _) fun t2 HF2 sF2 ht2 hF2 => ?_)
      refine ⟨t2, _, rfl, (hF2.up nw_same).dp, hsh.sh, hsh.nd, hdep, hsh.len, _, rfl, rfl, _, rfl, ?_⟩
      rw [decide_eq_true rfl]
      have hw2 : WebAt K C HF2 x (webRows W3) := up (R := WebAt K C) (sD1.trans sF2) hwD
      refine iteF ⟨_, rfl, _, rfl, ?_⟩
      dsimp only
      refine (main hw2 w4 (fun _ => Iff.rfl) (fun _ => .refl _) fun t3 HG sG ht3 hF3 => ?_)
      obtain ⟨u3, hu3⟩ := (hF3.up nw_same).two
      refine ⟨_, rfl, t3, _, 0, u3, rfl, rfl, SqT.of hu3, rfl, rfl, _, rfl, ?_⟩
      refine joinN (fun σ' H' => ∃ (y9 y10 y11 y12 y13 y14 y15 : Option V), σ' = [some (.ref a), some (.ref d), y2, some (.ref q), y4, some (.int mo), some (.ref x), some (.str (Datum.toD (four3 r)).shown), some (.ref y), y9, y10, y11, y12, y13, y14, y15] ∧ Same HF2 H') (fun _ => ⟨_, _, _, _, _, _, _, rfl, sG⟩) (fun hb k9 => ?_) ?_
      · have hF3' := hF3
        unfold FourT at hF3'
        split at hF3'
        · have e3 := (nw_get hF3').2
          rw [hu3] at e3
          injection e3 with e3
          injection e3 with e3
          injection e3 with e3 _
          subst e3
          rw [decide_eq_true rfl] at hb
          cases hb
        next pp hpp =>
        obtain ⟨lp, ts, h1, h2, h3⟩ := hF3'
        obtain ⟨h20, hlp⟩ := nw_get h2
        have hst : ∀ t ∈ ts, ∃ (v : Str) (h : Int) (l : Addr) (ss : List Addr) (ys : List Swap), HG t = some (.tup [.str v, .int h, .ref l]) ∧ HF2 l = none ∧ HG l = some (.lst (ss.map V.ref)) ∧ Paired (SwT4 K (nw HF2 HG)) ss ys := fun t ht => by
          obtain ⟨i, hi⟩ := List.mem_iff_getElem?.mp ht
          obtain ⟨st, _, l, ss, q2, q3, q4⟩ := paired_get h3 i t hi
          exact ⟨_, _, l, ss, _, (nw_get q2).2, (nw_get q3).1, (nw_get q3).2, q4⟩
        have hsw : ∀ {ss : List Addr} {ys : List Swap}, Paired (SwT4 K (nw HF2 HG)) ss ys → ∀ s ∈ ss, ∃ (v : Str) (h : Int) (b : Addr) (rw : List Str), HG s = some (.tup [.str v, .int h, .ref b]) ∧ HF2 b = none ∧ HG b = some (.lst (rw.map V.str)) := fun {ss ys} hp s hs => by
          obtain ⟨i, hi⟩ := List.mem_iff_getElem?.mp hs
          obtain ⟨y, _, b, q2, q3⟩ := paired_get hp i s hi
          exact ⟨_, _, b, _, (nw_get q2).2, (nw_get q3).1, (nw_get q3).2⟩
        have e3 := (nw_get h1).2
        refine ⟨_, rfl, t3, _, 0, .ref lp, rfl, rfl, SqT.of e3, rfl, lp, rfl, ⟨_, SqL.of hlp⟩, for_list (K := K) (a := lp) (xs := ts.map V.ref) (fun i σ G => ∃ (y10 y11 y12 y13 y14 y15 : Option V), σ = [some (.ref a), some (.ref d), y2, some (.ref q), y4, some (.int mo), some (.ref x), some (.str (Datum.toD (four3 r)).shown), some (.ref y), some (.ref t3), y10, y11, y12, y13, y14, y15] ∧ ClI HF2 HG G ∧ G lp = some (.lst (ts.map V.ref))) ?_ ?_ ?_ ?_⟩
        · exact ⟨_, _, _, _, _, _, rfl, .refl, hlp⟩
        · rintro i σ G _ ⟨_, _, _, _, _, _, _, _, z⟩
          exact SqL.of z
        · rintro i z σ G hi ⟨y10, y11, y12, y13, y14, y15, rfl, ci, hlG⟩
          obtain ⟨ta, hta, rfl⟩ := item_ref hi
          have htm := List.mem_of_getElem? hta
          have htn : ts ≠ [] := List.ne_nil_of_mem htm
          obtain ⟨v, h, l, ss, ys, q1, q2, q3, q4⟩ := hst ta htm
          have hll : lp ≠ l := lsts_ne hlp htm q1 q3 (Paired.mapP q4 fun _ _ z => up (R := SwT4 K) nw_same z)
          obtain ⟨zs, hzs, hz⟩ := ci.lst q3
          refine ⟨ta, _, rfl, SqT.of (ci.tup q1), rfl, _, _, rfl, _, _, rfl, _, _, rfl, rfl, ?_⟩
          refine ⟨_, rfl, l, rfl, ⟨_, SqL.of hzs⟩, for_list (K := K) (a := l) (xs := zs) (fun j σ G' => ∃ (y13 y14 y15 : Option V), σ = [some (.ref a), some (.ref d), y2, some (.ref q), y4, some (.int mo), some (.ref x), some (.str (Datum.toD (four3 r)).shown), some (.ref y), some (.ref t3), some (.str v), some (.int h), some (.ref l), y13, y14, y15] ∧ ClI HF2 HG G' ∧ G' lp = some (.lst (ts.map V.ref)) ∧ G' l = some (.lst zs)) ?_ ?_ ?_ ?_⟩
          · exact ⟨_, _, _, rfl, ci, hlG, hzs⟩
          · rintro j σ G' _ ⟨_, _, _, _, _, _, z⟩
            exact SqL.of z
          · rintro j z σ G' hj ⟨y13, y14, y15, rfl, ci', hlG', hzs'⟩
            have hze : zs = ss.map V.ref := by
              rcases hz with e | e
              · exact e
              · rw [e] at hj; cases hj
            have hj2 := hj
            rw [hze] at hj2
            obtain ⟨sa, hsa, rfl⟩ := item_ref hj2
            have hsm := List.mem_of_getElem? hsa
            obtain ⟨v2, h2', b, rr, r1, r2, r3⟩ := hsw q4 sa hsm
            obtain ⟨ws, hws, _⟩ := ci'.lst r3
            refine ⟨sa, _, rfl, SqT.of (ci'.tup r1), rfl, _, _, rfl, _, _, rfl, _, _, rfl, rfl, ?_⟩
            refine ⟨_, rfl, .inl ⟨rfl, _, SqL.of hws⟩, b, _, rfl, rfl, hws, ?_⟩
            exact ⟨_, _, _, rfl, ci'.clear r2 r3, by rw [upd_ne (lst_ne hlp r3 htn)]; exact hlG', by rw [upd_ne (lst_ne q3 r3 (List.ne_nil_of_mem hsm))]; exact hzs'⟩
          · rintro σ G' ⟨y13, y14, y15, rfl, ci', hlG', hzs'⟩
            refine ⟨_, rfl, .inl ⟨rfl, _, SqL.of hzs'⟩, l, _, rfl, rfl, hzs', ?_⟩
            exact ⟨_, _, _, _, _, _, rfl, ci'.clear q2 q3, by rw [upd_ne hll]; exact hlG'⟩
        · rintro σ G ⟨y10, y11, y12, y13, y14, y15, rfl, ci, hlG⟩
          refine ⟨_, rfl, t3, _, 0, .ref lp, rfl, rfl, SqT.of (ci.tup e3), rfl, .inl ⟨rfl, _, SqL.of hlG⟩, lp, _, rfl, rfl, hlG, ?_⟩
          exact k9 _ _ ⟨_, _, _, _, _, _, _, rfl, (ci.clear h20 hlp).same sG⟩
      · rintro σ' HX ⟨y9, y10, y11, y12, y13, y14, y15, rfl, sX⟩
        refine ⟨_, rfl, _, rfl, ?_⟩
        dsimp only
        refine (main (up (R := WebAt K C) sX hw2) w4 (fun _ => Iff.rfl) (fun _ => .refl _) fun t5 HY sY ht5 hF5 => ?_)
        refine ⟨t5, _, rfl, (hF5.up nw_same).dp, hsh.sh, hsh.nd, hdep, hsh.len, _, rfl, rfl, _, rfl, ?_⟩
        rw [decide_eq_true rfl]
        refine iteT ⟨Nat.zero_le _, fun rl0 hrl0 => fun x0 dx0 hx0 hdx0 ne0 => ?_⟩
        have ok0 : RowsOk [] := ⟨fun v h => (nomatch h), Pl.nil, by decide⟩
        have hr0 : LR K (RowT K) (wo (upd HY rl0 (.lst [])) []) rl0 [] := ⟨[], SqL.of (by rw [wo_out (by simp)]; exact upd_same), .nil⟩
        refine web_mk (M := []) al_nil hr0 ok0 hx0 hdx0 ne0 fun HZ sZ hweb0 => ⟨rfl, ?_⟩
        have hw0 : WebAt K C HZ x0 (webRows []) := up (R := WebAt K C) wo_same hweb0
        refine ⟨_, rfl, x0, webRows [], mo, rfl, hw0, ⟨wf_web ok0.pl.wf, by rw [web_len]; decide⟩, fun L0 t0 HW hO0 sW ht0 hF0 => ?_⟩
        have hL0 : L0 = [] := by
          cases L0 with
          | nil => rfl
          | cons z zs => exact absurd (vsf_web_mem.mp ((hO0.mem z).mp (by simp))) (by simp)
        subst hL0
        have hF00 := hF0.up nw_same
        refine ⟨Nat.zero_le _, fun l0 hl0 => ⟨by show 2 ≤ sizeLine; decide, fun t6 ht6 => ?_⟩⟩
        refine ⟨four3 (some [], 0), (some [], 0), ?_, ?_, ?_⟩
        · exact (hF00.up ((Same.new hl0).trans (.new ht6))).dp
        · refine .tup (SqT.of upd_same) (.cons (.lst (SqL.of (Same.new ht6 _ _ upd_same)) .nil) (.cons (.int _) .nil))
        · rw [decide_eq_true (show four3 (some [], 0) = ((some [], 0) : P4D) from rfl)]
          exact kk _
end
end Five
end
namespace Five
open PySem PySem.Spec PyProof.Rows L2
theorem all_mk {l : PySem.W.OpenLaw} {w : World} {K : PySem.W.Frag} {h : Heap} {mg : Str → Option Value} {fa C : Addr} {t_FOUR f1 f2 f3 f4 f5 f6 f7 f8 f9 f10 f11 f12 f13 f14 f15 f16 f17 f18 f19 f20 f21 f22 f23 f24 f25 f26 f27 f28 f29 f30 f31 f32 f33 f34 f35 f36 f37 f38 e0 e1 e2 e3 e4 e5 e6 C_Left f39 f40 f41 f42 C_Search f43 f44 f45 f46 f47 f48 f49 f50 f51 f52 f53 : Addr} (X : K.In h) (G : h.Ns mainGlobals mg) (hfa : mg "law" = some (.ref fa))
    {od_FOUR od1 an1 od2 an2 od3 an3 od4 an4 od5 an5 od6 an6 od7 an7 od8 an8 od9 an9 od10 an10 od11 an11 od12 an12 od13 an13 od14 an14 od15 an15 od16 an16 od17 an17 od18 an18 od19 an19 od20 an20 od21 an21 od22 an22 od23 an23 od24 an24 od25 an25 od26 an26 od27 an27 od28 an28 od29 an29 od30 an30 od31 an31 od32 an32 od33 an33 od34 an34 od35 an35 od36 an36 od37 an37 od38 an38 od39 an39 od40 an40 od41 an41 od42 an42 od43 an43 od44 an44 od45 an45 od46 an46 od47 an47 od48 an48 od49 an49 od50 an50 od51 an51 od52 an52 od53 an53 : Option Addr} {sl_FOUR sl1 sl2 sl3 sl4 sl5 sl6 sl7 sl8 sl9 sl10 sl11 sl12 sl13 sl14 sl15 sl16 sl17 sl18 sl19 sl20 sl21 sl22 sl23 sl24 sl25 sl26 sl27 sl28 sl29 sl30 sl31 sl32 sl33 sl34 sl35 sl36 sl37 sl38 sl39 sl40 sl41 sl42 sl43 sl44 sl45 sl46 sl47 sl48 sl49 sl50 sl51 sl52 sl53 : Array (Option Value)} {oc_FOUR oc1 kV1 dc1 pm1 cd1 ct1 oc2 kV2 dc2 pm2 cd2 ct2 oc3 kV3 dc3 pm3 cd3 ct3 oc4 kV4 dc4 pm4 cd4 ct4 oc5 kV5 dc5 pm5 cd5 ct5 oc6 kV6 dc6 pm6 cd6 ct6 oc7 kV7 dc7 pm7 cd7 ct7 oc8 kV8 dc8 pm8 cd8 ct8 oc9 kV9 dc9 pm9 cd9 ct9 oc10 kV10 dc10 pm10 cd10 ct10 oc11 kV11 dc11 pm11 cd11 ct11 oc12 kV12 dc12 pm12 cd12 ct12 oc13 kV13 dc13 pm13 cd13 ct13 oc14 kV14 dc14 pm14 cd14 ct14 oc15 kV15 dc15 pm15 cd15 ct15 oc16 kV16 dc16 pm16 cd16 ct16 oc17 kV17 dc17 pm17 cd17 ct17 oc18 kV18 dc18 pm18 cd18 ct18 oc19 kV19 dc19 pm19 cd19 ct19 oc20 kV20 dc20 pm20 cd20 ct20 oc21 kV21 dc21 pm21 cd21 ct21 oc22 kV22 dc22 pm22 cd22 ct22 oc23 kV23 dc23 pm23 cd23 ct23 oc24 kV24 dc24 pm24 cd24 ct24 oc25 kV25 dc25 pm25 cd25 ct25 oc26 kV26 dc26 pm26 cd26 ct26 oc27 kV27 dc27 pm27 cd27 ct27 oc28 kV28 dc28 pm28 cd28 ct28 oc29 kV29 dc29 pm29 cd29 ct29 oc30 kV30 dc30 pm30 cd30 ct30 oc31 kV31 dc31 pm31 cd31 ct31 oc32 kV32 dc32 pm32 cd32 ct32 oc33 kV33 dc33 pm33 cd33 ct33 oc34 kV34 dc34 pm34 cd34 ct34 oc35 kV35 dc35 pm35 cd35 ct35 oc36 kV36 dc36 pm36 cd36 ct36 oc37 kV37 dc37 pm37 cd37 ct37 oc38 kV38 dc38 pm38 cd38 ct38 oc39 kV39 dc39 pm39 cd39 ct39 oc40 kV40 dc40 pm40 cd40 ct40 oc41 kV41 dc41 pm41 cd41 ct41 oc42 kV42 dc42 pm42 cd42 ct42 oc43 kV43 dc43 pm43 cd43 ct43 oc44 kV44 dc44 pm44 cd44 ct44 oc45 kV45 dc45 pm45 cd45 ct45 oc46 kV46 dc46 pm46 cd46 ct46 oc47 kV47 dc47 pm47 cd47 ct47 oc48 kV48 dc48 pm48 cd48 ct48 oc49 kV49 dc49 pm49 cd49 ct49 oc50 kV50 dc50 pm50 cd50 ct50 oc51 kV51 dc51 pm51 cd51 ct51 oc52 kV52 dc52 pm52 cd52 ct52 oc53 kV53 dc53 pm53 cd53 ct53 : Value}
    (z_abs : PySem.W.nsIn K mainGlobals "abs" = some none)
    (z_all : PySem.W.nsIn K mainGlobals "all" = some none)
    (z_dict : PySem.W.nsIn K mainGlobals "dict" = some none)
    (z_divmod : PySem.W.nsIn K mainGlobals "divmod" = some none)
    (z_isinstance : PySem.W.nsIn K mainGlobals "isinstance" = some none)
    (z_len : PySem.W.nsIn K mainGlobals "len" = some none)
    (z_list : PySem.W.nsIn K mainGlobals "list" = some none)
    (z_max : PySem.W.nsIn K mainGlobals "max" = some none)
    (z_min : PySem.W.nsIn K mainGlobals "min" = some none)
    (z_range : PySem.W.nsIn K mainGlobals "range" = some none)
    (z_repr : PySem.W.nsIn K mainGlobals "repr" = some none)
    (z_reversed : PySem.W.nsIn K mainGlobals "reversed" = some none)
    (z_set : PySem.W.nsIn K mainGlobals "set" = some none)
    (z_sorted : PySem.W.nsIn K mainGlobals "sorted" = some none)
    (z_str : PySem.W.nsIn K mainGlobals "str" = some none)
    (z_sum : PySem.W.nsIn K mainGlobals "sum" = some none)
    {it_FOUR : Array Value} {nn_FOUR : Nat} (a_FOUR : PySem.W.nsIn K mainGlobals "FOUR" = some (some (.ref t_FOUR))) (l_FOUR : K.lookup t_FOUR = some ⟨oc_FOUR, od_FOUR, .seq it_FOUR nn_FOUR, sl_FOUR⟩) (q_FOUR : oc_FOUR = .type "tuple" ∧ ∃ u0 u1 u2 u3, it_FOUR = #[.int 0 u0, .int 1 u1, .int 2 u2, .int 3 u3])
    (c_LETTERS : ∃ t, PySem.W.nsIn K mainGlobals "LETTERS" = some (some (.str "abcdefghijklmnopqrstuvwxyz" t)))
    (c_MOST_LETTERS : ∃ t, PySem.W.nsIn K mainGlobals "MOST_LETTERS" = some (some (.int 8 t)))
    (a1 : PySem.W.nsIn K mainGlobals "_wall" = some (some (.ref f1))) (l1 : K.lookup f1 = some ⟨oc1, od1, .func (PySem.W.fnOf "_wall" "_wall" (defArgs s_wall) (defBody s_wall) (defScope s_wall) .none kV1 dc1 pm1 an1 cd1 ct1), sl1⟩) (c1 : PySem.W.codeIn K cd1 "_wall" = true) (k1 : PySem.W.keepIn K (.ref f1) = true)
    (a2 : PySem.W.nsIn K mainGlobals "come_to_chains" = some (some (.ref f2))) (l2 : K.lookup f2 = some ⟨oc2, od2, .func (PySem.W.fnOf "come_to" "come_to" (defArgs s_come_to_chains) (defBody s_come_to_chains) (defScope s_come_to_chains) .none kV2 dc2 pm2 an2 cd2 ct2), sl2⟩) (c2 : PySem.W.codeIn K cd2 "come_to" = true) (k2 : PySem.W.keepIn K (.ref f2) = true)
    (a3 : PySem.W.nsIn K mainGlobals "chain" = some (some (.ref f3))) (l3 : K.lookup f3 = some ⟨oc3, od3, .func (PySem.W.fnOf "chain" "chain" (defArgs s_chain) (defBody s_chain) (defScope s_chain) .none kV3 dc3 pm3 an3 cd3 ct3), sl3⟩) (c3 : PySem.W.codeIn K cd3 "chain" = true) (k3 : PySem.W.keepIn K (.ref f3) = true)
    (a4 : PySem.W.nsIn K mainGlobals "turned" = some (some (.ref f4))) (l4 : K.lookup f4 = some ⟨oc4, od4, .func (PySem.W.fnOf "turned" "turned" (defArgs s_turned) (defBody s_turned) (defScope s_turned) .none kV4 dc4 pm4 an4 cd4 ct4), sl4⟩) (c4 : PySem.W.codeIn K cd4 "turned" = true) (k4 : PySem.W.keepIn K (.ref f4) = true)
    (a5 : PySem.W.nsIn K mainGlobals "exchanged" = some (some (.ref f5))) (l5 : K.lookup f5 = some ⟨oc5, od5, .func (PySem.W.fnOf "exchanged" "exchanged" (defArgs s_exchanged) (defBody s_exchanged) (defScope s_exchanged) .none kV5 dc5 pm5 an5 cd5 ct5), sl5⟩) (c5 : PySem.W.codeIn K cd5 "exchanged" = true) (k5 : PySem.W.keepIn K (.ref f5) = true)
    (a6 : PySem.W.nsIn K mainGlobals "order" = some (some (.ref f6))) (l6 : K.lookup f6 = some ⟨oc6, od6, .func (PySem.W.fnOf "order" "order" (defArgs s_order) (defBody s_order) (defScope s_order) .none kV6 dc6 pm6 an6 cd6 ct6), sl6⟩) (c6 : PySem.W.codeIn K cd6 "order" = true) (k6 : PySem.W.keepIn K (.ref f6) = true)
    (a7 : PySem.W.nsIn K mainGlobals "free_hue" = some (some (.ref f7))) (l7 : K.lookup f7 = some ⟨oc7, od7, .func (PySem.W.fnOf "free_hue" "free_hue" (defArgs s_free_hue) (defBody s_free_hue) (defScope s_free_hue) .none kV7 dc7 pm7 an7 cd7 ct7), sl7⟩) (c7 : PySem.W.codeIn K cd7 "free_hue" = true) (k7 : PySem.W.keepIn K (.ref f7) = true)
    (a8 : PySem.W.nsIn K mainGlobals "tries" = some (some (.ref f8))) (l8 : K.lookup f8 = some ⟨oc8, od8, .func (PySem.W.fnOf "tries" "tries" (defArgs s_tries) (defBody s_tries) (defScope s_tries) .none kV8 dc8 pm8 an8 cd8 ct8), sl8⟩) (c8 : PySem.W.codeIn K cd8 "tries" = true) (k8 : PySem.W.keepIn K (.ref f8) = true)
    (a9 : PySem.W.nsIn K mainGlobals "with_chain" = some (some (.ref f9))) (l9 : K.lookup f9 = some ⟨oc9, od9, .func (PySem.W.fnOf "with_chain" "with_chain" (defArgs s_with_chain) (defBody s_with_chain) (defScope s_with_chain) .none kV9 dc9 pm9 an9 cd9 ct9), sl9⟩) (c9 : PySem.W.codeIn K cd9 "with_chain" = true) (k9 : PySem.W.keepIn K (.ref f9) = true)
    (a10 : PySem.W.nsIn K mainGlobals "four_paper" = some (some (.ref f10))) (l10 : K.lookup f10 = some ⟨oc10, od10, .func (PySem.W.fnOf "four_paper" "four_paper" (defArgs s_four_paper) (defBody s_four_paper) (defScope s_four_paper) .none kV10 dc10 pm10 an10 cd10 ct10), sl10⟩) (c10 : PySem.W.codeIn K cd10 "four_paper" = true) (k10 : PySem.W.keepIn K (.ref f10) = true)
    (a11 : PySem.W.nsIn K mainGlobals "is_name" = some (some (.ref f11))) (l11 : K.lookup f11 = some ⟨oc11, od11, .func (PySem.W.fnOf "is_name" "is_name" (defArgs s_is_name) (defBody s_is_name) (defScope s_is_name) .none kV11 dc11 pm11 an11 cd11 ct11), sl11⟩) (c11 : PySem.W.codeIn K cd11 "is_name" = true) (k11 : PySem.W.keepIn K (.ref f11) = true)
    (a12 : PySem.W.nsIn K mainGlobals "from_least" = some (some (.ref f12))) (l12 : K.lookup f12 = some ⟨oc12, od12, .func (PySem.W.fnOf "from_least" "from_least" (defArgs s_from_least) (defBody s_from_least) (defScope s_from_least) .none kV12 dc12 pm12 an12 cd12 ct12), sl12⟩) (c12 : PySem.W.codeIn K cd12 "from_least" = true) (k12 : PySem.W.keepIn K (.ref f12) = true)
    (a13 : PySem.W.nsIn K mainGlobals "behind" = some (some (.ref f13))) (l13 : K.lookup f13 = some ⟨oc13, od13, .func (PySem.W.fnOf "behind" "behind" (defArgs s_behind) (defBody s_behind) (defScope s_behind) .none kV13 dc13 pm13 an13 cd13 ct13), sl13⟩) (c13 : PySem.W.codeIn K cd13 "behind" = true) (k13 : PySem.W.keepIn K (.ref f13) = true)
    (a14 : PySem.W.nsIn K mainGlobals "face_from" = some (some (.ref f14))) (l14 : K.lookup f14 = some ⟨oc14, od14, .func (PySem.W.fnOf "face_from" "face_from" (defArgs s_face_from) (defBody s_face_from) (defScope s_face_from) .none kV14 dc14 pm14 an14 cd14 ct14), sl14⟩) (c14 : PySem.W.codeIn K cd14 "face_from" = true) (k14 : PySem.W.keepIn K (.ref f14) = true)
    (a15 : PySem.W.nsIn K mainGlobals "faces_in" = some (some (.ref f15))) (l15 : K.lookup f15 = some ⟨oc15, od15, .func (PySem.W.fnOf "faces_in" "faces_in" (defArgs s_faces_in) (defBody s_faces_in) (defScope s_faces_in) .none kV15 dc15 pm15 an15 cd15 ct15), sl15⟩) (c15 : PySem.W.codeIn K cd15 "faces_in" = true) (k15 : PySem.W.keepIn K (.ref f15) = true)
    (a16 : PySem.W.nsIn K mainGlobals "come_to_webs" = some (some (.ref f16))) (l16 : K.lookup f16 = some ⟨oc16, od16, .func (PySem.W.fnOf "come_to" "come_to" (defArgs s_come_to) (defBody s_come_to) (defScope s_come_to) .none kV16 dc16 pm16 an16 cd16 ct16), sl16⟩) (c16 : PySem.W.codeIn K cd16 "come_to" = true) (k16 : PySem.W.keepIn K (.ref f16) = true)
    (a17 : PySem.W.nsIn K mainGlobals "pieces_in" = some (some (.ref f17))) (l17 : K.lookup f17 = some ⟨oc17, od17, .func (PySem.W.fnOf "pieces_in" "pieces_in" (defArgs s_pieces_in) (defBody s_pieces_in) (defScope s_pieces_in) .none kV17 dc17 pm17 an17 cd17 ct17), sl17⟩) (c17 : PySem.W.codeIn K cd17 "pieces_in" = true) (k17 : PySem.W.keepIn K (.ref f17) = true)
    (a18 : PySem.W.nsIn K mainGlobals "want_names" = some (some (.ref f18))) (l18 : K.lookup f18 = some ⟨oc18, od18, .func (PySem.W.fnOf "want_names" "want_names" (defArgs s_want_names) (defBody s_want_names) (defScope s_want_names) .none kV18 dc18 pm18 an18 cd18 ct18), sl18⟩) (c18 : PySem.W.codeIn K cd18 "want_names" = true) (k18 : PySem.W.keepIn K (.ref f18) = true)
    (a19 : PySem.W.nsIn K mainGlobals "want_unlike" = some (some (.ref f19))) (l19 : K.lookup f19 = some ⟨oc19, od19, .func (PySem.W.fnOf "want_unlike" "want_unlike" (defArgs s_want_unlike) (defBody s_want_unlike) (defScope s_want_unlike) .none kV19 dc19 pm19 an19 cd19 ct19), sl19⟩) (c19 : PySem.W.codeIn K cd19 "want_unlike" = true) (k19 : PySem.W.keepIn K (.ref f19) = true)
    (a20 : PySem.W.nsIn K mainGlobals "want_back" = some (some (.ref f20))) (l20 : K.lookup f20 = some ⟨oc20, od20, .func (PySem.W.fnOf "want_back" "want_back" (defArgs s_want_back) (defBody s_want_back) (defScope s_want_back) .none kV20 dc20 pm20 an20 cd20 ct20), sl20⟩) (c20 : PySem.W.codeIn K cd20 "want_back" = true) (k20 : PySem.W.keepIn K (.ref f20) = true)
    (a21 : PySem.W.nsIn K mainGlobals "want_flat" = some (some (.ref f21))) (l21 : K.lookup f21 = some ⟨oc21, od21, .func (PySem.W.fnOf "want_flat" "want_flat" (defArgs s_want_flat) (defBody s_want_flat) (defScope s_want_flat) .none kV21 dc21 pm21 an21 cd21 ct21), sl21⟩) (c21 : PySem.W.codeIn K cd21 "want_flat" = true) (k21 : PySem.W.keepIn K (.ref f21) = true)
    (a22 : PySem.W.nsIn K mainGlobals "mirrored" = some (some (.ref f22))) (l22 : K.lookup f22 = some ⟨oc22, od22, .func (PySem.W.fnOf "mirrored" "mirrored" (defArgs s_mirrored) (defBody s_mirrored) (defScope s_mirrored) .none kV22 dc22 pm22 an22 cd22 ct22), sl22⟩) (c22 : PySem.W.codeIn K cd22 "mirrored" = true) (k22 : PySem.W.keepIn K (.ref f22) = true)
    (a23 : PySem.W.nsIn K mainGlobals "_law_cell" = some (some (.ref f23))) (l23 : K.lookup f23 = some ⟨oc23, od23, .func (PySem.W.fnOf "_law_cell" "_law_cell" (defArgs s_law_cell) (defBody s_law_cell) (defScope s_law_cell) .none kV23 dc23 pm23 an23 cd23 ct23), sl23⟩) (c23 : PySem.W.codeIn K cd23 "_law_cell" = true) (k23 : PySem.W.keepIn K (.ref f23) = true)
    (a24 : PySem.W.nsIn K mainGlobals "_law_pot" = some (some (.ref f24))) (l24 : K.lookup f24 = some ⟨oc24, od24, .func (PySem.W.fnOf "_law_pot" "_law_pot" (defArgs s_law_pot) (defBody s_law_pot) (defScope s_law_pot) .none kV24 dc24 pm24 an24 cd24 ct24), sl24⟩) (c24 : PySem.W.codeIn K cd24 "_law_pot" = true) (k24 : PySem.W.keepIn K (.ref f24) = true)
    (a25 : PySem.W.nsIn K mainGlobals "_law_take" = some (some (.ref f25))) (l25 : K.lookup f25 = some ⟨oc25, od25, .func (PySem.W.fnOf "_law_take" "_law_take" (defArgs s_law_take) (defBody s_law_take) (defScope s_law_take) .none kV25 dc25 pm25 an25 cd25 ct25), sl25⟩) (c25 : PySem.W.codeIn K cd25 "_law_take" = true) (k25 : PySem.W.keepIn K (.ref f25) = true)
    (a26 : PySem.W.nsIn K mainGlobals "_law_names" = some (some (.ref f26))) (l26 : K.lookup f26 = some ⟨oc26, od26, .func (PySem.W.fnOf "_law_names" "_law_names" (defArgs s_law_names) (defBody s_law_names) (defScope s_law_names) .none kV26 dc26 pm26 an26 cd26 ct26), sl26⟩) (c26 : PySem.W.codeIn K cd26 "_law_names" = true) (k26 : PySem.W.keepIn K (.ref f26) = true)
    (a27 : PySem.W.nsIn K mainGlobals "_law_behind" = some (some (.ref f27))) (l27 : K.lookup f27 = some ⟨oc27, od27, .func (PySem.W.fnOf "_law_behind" "_law_behind" (defArgs s_law_behind) (defBody s_law_behind) (defScope s_law_behind) .none kV27 dc27 pm27 an27 cd27 ct27), sl27⟩) (c27 : PySem.W.codeIn K cd27 "_law_behind" = true) (k27 : PySem.W.keepIn K (.ref f27) = true)
    (a28 : PySem.W.nsIn K mainGlobals "_law_face" = some (some (.ref f28))) (l28 : K.lookup f28 = some ⟨oc28, od28, .func (PySem.W.fnOf "_law_face" "_law_face" (defArgs s_law_face) (defBody s_law_face) (defScope s_law_face) .none kV28 dc28 pm28 an28 cd28 ct28), sl28⟩) (c28 : PySem.W.codeIn K cd28 "_law_face" = true) (k28 : PySem.W.keepIn K (.ref f28) = true)
    (a29 : PySem.W.nsIn K mainGlobals "_law_put" = some (some (.ref f29))) (l29 : K.lookup f29 = some ⟨oc29, od29, .func (PySem.W.fnOf "_law_put" "_law_put" (defArgs s_law_put) (defBody s_law_put) (defScope s_law_put) .none kV29 dc29 pm29 an29 cd29 ct29), sl29⟩) (c29 : PySem.W.codeIn K cd29 "_law_put" = true) (k29 : PySem.W.keepIn K (.ref f29) = true)
    (a30 : PySem.W.nsIn K mainGlobals "_law_grown" = some (some (.ref f30))) (l30 : K.lookup f30 = some ⟨oc30, od30, .func (PySem.W.fnOf "_law_grown" "_law_grown" (defArgs s_law_grown) (defBody s_law_grown) (defScope s_law_grown) .none kV30 dc30 pm30 an30 cd30 ct30), sl30⟩) (c30 : PySem.W.codeIn K cd30 "_law_grown" = true) (k30 : PySem.W.keepIn K (.ref f30) = true)
    (a31 : PySem.W.nsIn K mainGlobals "_law_crossed" = some (some (.ref f31))) (l31 : K.lookup f31 = some ⟨oc31, od31, .func (PySem.W.fnOf "_law_crossed" "_law_crossed" (defArgs s_law_crossed) (defBody s_law_crossed) (defScope s_law_crossed) .none kV31 dc31 pm31 an31 cd31 ct31), sl31⟩) (c31 : PySem.W.codeIn K cd31 "_law_crossed" = true) (k31 : PySem.W.keepIn K (.ref f31) = true)
    (a32 : PySem.W.nsIn K mainGlobals "_law_filled" = some (some (.ref f32))) (l32 : K.lookup f32 = some ⟨oc32, od32, .func (PySem.W.fnOf "_law_filled" "_law_filled" (defArgs s_law_filled) (defBody s_law_filled) (defScope s_law_filled) .none kV32 dc32 pm32 an32 cd32 ct32), sl32⟩) (c32 : PySem.W.codeIn K cd32 "_law_filled" = true) (k32 : PySem.W.keepIn K (.ref f32) = true)
    (a33 : PySem.W.nsIn K mainGlobals "_law_two_rings" = some (some (.ref f33))) (l33 : K.lookup f33 = some ⟨oc33, od33, .func (PySem.W.fnOf "_law_two_rings" "_law_two_rings" (defArgs s_law_two_rings) (defBody s_law_two_rings) (defScope s_law_two_rings) .none kV33 dc33 pm33 an33 cd33 ct33), sl33⟩) (c33 : PySem.W.codeIn K cd33 "_law_two_rings" = true) (k33 : PySem.W.keepIn K (.ref f33) = true)
    (a34 : PySem.W.nsIn K mainGlobals "_law_untied" = some (some (.ref f34))) (l34 : K.lookup f34 = some ⟨oc34, od34, .func (PySem.W.fnOf "_law_untied" "_law_untied" (defArgs s_law_untied) (defBody s_law_untied) (defScope s_law_untied) .none kV34 dc34 pm34 an34 cd34 ct34), sl34⟩) (c34 : PySem.W.codeIn K cd34 "_law_untied" = true) (k34 : PySem.W.keepIn K (.ref f34) = true)
    (a35 : PySem.W.nsIn K mainGlobals "_law_rounds" = some (some (.ref f35))) (l35 : K.lookup f35 = some ⟨oc35, od35, .func (PySem.W.fnOf "_law_rounds" "_law_rounds" (defArgs s_law_rounds) (defBody s_law_rounds) (defScope s_law_rounds) .none kV35 dc35 pm35 an35 cd35 ct35), sl35⟩) (c35 : PySem.W.codeIn K cd35 "_law_rounds" = true) (k35 : PySem.W.keepIn K (.ref f35) = true)
    (a36 : PySem.W.nsIn K mainGlobals "_law_rows" = some (some (.ref f36))) (l36 : K.lookup f36 = some ⟨oc36, od36, .func (PySem.W.fnOf "_law_rows" "_law_rows" (defArgs s_law_rows) (defBody s_law_rows) (defScope s_law_rows) .none kV36 dc36 pm36 an36 cd36 ct36), sl36⟩) (c36 : PySem.W.codeIn K cd36 "_law_rows" = true) (k36 : PySem.W.keepIn K (.ref f36) = true)
    (a37 : PySem.W.nsIn K mainGlobals "_law_other_rows" = some (some (.ref f37))) (l37 : K.lookup f37 = some ⟨oc37, od37, .func (PySem.W.fnOf "_law_other_rows" "_law_other_rows" (defArgs s_law_other_rows) (defBody s_law_other_rows) (defScope s_law_other_rows) .none kV37 dc37 pm37 an37 cd37 ct37), sl37⟩) (c37 : PySem.W.codeIn K cd37 "_law_other_rows" = true) (k37 : PySem.W.keepIn K (.ref f37) = true)
    (a38 : PySem.W.nsIn K mainGlobals "law" = some (some (.ref f38))) (l38 : K.lookup f38 = some ⟨oc38, od38, .func (PySem.W.fnOf "law" "law" (defArgs s_law) (defBody s_law) (defScope s_law) .none kV38 dc38 pm38 an38 cd38 ct38), sl38⟩) (c38 : PySem.W.codeIn K cd38 "law" = true) (k38 : PySem.W.keepIn K (.ref f38) = true)
    (g_e0 : PySem.W.nsIn K mainGlobals "HueError" = some (some (.ref e0)))
    (g_e1 : PySem.W.nsIn K mainGlobals "NoName" = some (some (.ref e1)))
    (g_e2 : PySem.W.nsIn K mainGlobals "Twice" = some (some (.ref e2)))
    (g_e3 : PySem.W.nsIn K mainGlobals "OneWay" = some (some (.ref e3)))
    (g_e4 : PySem.W.nsIn K mainGlobals "NotFlat" = some (some (.ref e4)))
    (g_e5 : PySem.W.nsIn K mainGlobals "NoPlace" = some (some (.ref e5)))
    (g_e6 : PySem.W.nsIn K mainGlobals "NoHue" = some (some (.ref e6)))
    (aC : PySem.W.nsIn K mainGlobals "Web" = some (some (.ref C))) (pg : PySem.W.plainGet K C Str.empty = true) (hd : PySem.W.hasDictIn K C = true) (po : PySem.W.plainOver K C = true) (sa : PySem.W.findIn K (.ref C) "__setattr__" = some (some (.builtin "object.__setattr__"))) (mk : PySem.W.makesIn K C = true) (kc : PySem.W.keepIn K (.ref C) = true) (nR : PySem.W.findIn K (.ref C) "rounds" = some none)
    (aCLeft : PySem.W.nsIn K mainGlobals "Left" = some (some (.ref C_Left))) (pgLeft : PySem.W.plainGet K C_Left Str.empty = true) (hdLeft : PySem.W.hasDictIn K C_Left = true) (poLeft : PySem.W.plainOver K C_Left = true) (saLeft : PySem.W.findIn K (.ref C_Left) "__setattr__" = some (some (.builtin "object.__setattr__"))) (mkLeft : PySem.W.makesIn K C_Left = true) (kcLeft : PySem.W.keepIn K (.ref C_Left) = true)
    (n_Left_rounds : PySem.W.findIn K (.ref C_Left) "rounds" = some none)
    (n_Left_many : PySem.W.findIn K (.ref C_Left) "many" = some none)
    (a39 : PySem.W.findIn K (.ref C_Left) "__init__" = some (some (.ref f39))) (i39 : PySem.W.isFn K (.ref f39) = true) (l39 : K.lookup f39 = some ⟨oc39, od39, .func (PySem.W.fnOf "__init__" "Left.__init__" (defArgs s_Left_init) (defBody s_Left_init) (defScope s_Left_init) .none kV39 dc39 pm39 an39 cd39 ct39), sl39⟩) (c39 : PySem.W.codeIn K cd39 "Left.__init__" = true) (k39 : PySem.W.keepIn K (.ref f39) = true)
    (a40 : PySem.W.findIn K (.ref C_Left) "fewest" = some (some (.ref f40))) (i40 : PySem.W.isFn K (.ref f40) = true) (l40 : K.lookup f40 = some ⟨oc40, od40, .func (PySem.W.fnOf "fewest" "Left.fewest" (defArgs s_Left_fewest) (defBody s_Left_fewest) (defScope s_Left_fewest) .none kV40 dc40 pm40 an40 cd40 ct40), sl40⟩) (c40 : PySem.W.codeIn K cd40 "Left.fewest" = true) (k40 : PySem.W.keepIn K (.ref f40) = true)
    (a41 : PySem.W.findIn K (.ref C_Left) "take_off" = some (some (.ref f41))) (i41 : PySem.W.isFn K (.ref f41) = true) (l41 : K.lookup f41 = some ⟨oc41, od41, .func (PySem.W.fnOf "take_off" "Left.take_off" (defArgs s_Left_take_off) (defBody s_Left_take_off) (defScope s_Left_take_off) .none kV41 dc41 pm41 an41 cd41 ct41), sl41⟩) (c41 : PySem.W.codeIn K cd41 "Left.take_off" = true) (k41 : PySem.W.keepIn K (.ref f41) = true)
    (a42 : PySem.W.findIn K (.ref C_Left) "is_empty" = some (some (.ref f42))) (i42 : PySem.W.isFn K (.ref f42) = true) (l42 : K.lookup f42 = some ⟨oc42, od42, .func (PySem.W.fnOf "is_empty" "Left.is_empty" (defArgs s_Left_is_empty) (defBody s_Left_is_empty) (defScope s_Left_is_empty) .none kV42 dc42 pm42 an42 cd42 ct42), sl42⟩) (c42 : PySem.W.codeIn K cd42 "Left.is_empty" = true) (k42 : PySem.W.keepIn K (.ref f42) = true)
    (aCSearch : PySem.W.nsIn K mainGlobals "Search" = some (some (.ref C_Search))) (pgSearch : PySem.W.plainGet K C_Search Str.empty = true) (hdSearch : PySem.W.hasDictIn K C_Search = true) (poSearch : PySem.W.plainOver K C_Search = true) (saSearch : PySem.W.findIn K (.ref C_Search) "__setattr__" = some (some (.builtin "object.__setattr__"))) (mkSearch : PySem.W.makesIn K C_Search = true) (kcSearch : PySem.W.keepIn K (.ref C_Search) = true)
    (n_Search_flat : PySem.W.findIn K (.ref C_Search) "flat" = some none)
    (n_Search_most : PySem.W.findIn K (.ref C_Search) "most" = some none)
    (n_Search_steps : PySem.W.findIn K (.ref C_Search) "steps" = some none)
    (n_Search_back : PySem.W.findIn K (.ref C_Search) "back" = some none)
    (n_Search_paper : PySem.W.findIn K (.ref C_Search) "paper" = some none)
    (a43 : PySem.W.findIn K (.ref C_Search) "__init__" = some (some (.ref f43))) (i43 : PySem.W.isFn K (.ref f43) = true) (l43 : K.lookup f43 = some ⟨oc43, od43, .func (PySem.W.fnOf "__init__" "Search.__init__" (defArgs s_Search_init) (defBody s_Search_init) (defScope s_Search_init) .none kV43 dc43 pm43 an43 cd43 ct43), sl43⟩) (c43 : PySem.W.codeIn K cd43 "Search.__init__" = true) (k43 : PySem.W.keepIn K (.ref f43) = true)
    (a44 : PySem.W.findIn K (.ref C_Search) "behind" = some (some (.ref f44))) (i44 : PySem.W.isFn K (.ref f44) = true) (l44 : K.lookup f44 = some ⟨oc44, od44, .func (PySem.W.fnOf "behind" "Search.behind" (defArgs s_Search_behind) (defBody s_Search_behind) (defScope s_Search_behind) .none kV44 dc44 pm44 an44 cd44 ct44), sl44⟩) (c44 : PySem.W.codeIn K cd44 "Search.behind" = true) (k44 : PySem.W.keepIn K (.ref f44) = true)
    (a45 : PySem.W.findIn K (.ref C_Search) "single" = some (some (.ref f45))) (i45 : PySem.W.isFn K (.ref f45) = true) (l45 : K.lookup f45 = some ⟨oc45, od45, .func (PySem.W.fnOf "single" "Search.single" (defArgs s_Search_single) (defBody s_Search_single) (defScope s_Search_single) .none kV45 dc45 pm45 an45 cd45 ct45), sl45⟩) (c45 : PySem.W.codeIn K cd45 "Search.single" = true) (k45 : PySem.W.keepIn K (.ref f45) = true)
    (a46 : PySem.W.findIn K (.ref C_Search) "second" = some (some (.ref f46))) (i46 : PySem.W.isFn K (.ref f46) = true) (l46 : K.lookup f46 = some ⟨oc46, od46, .func (PySem.W.fnOf "second" "Search.second" (defArgs s_Search_second) (defBody s_Search_second) (defScope s_Search_second) .none kV46 dc46 pm46 an46 cd46 ct46), sl46⟩) (c46 : PySem.W.codeIn K cd46 "Search.second" = true) (k46 : PySem.W.keepIn K (.ref f46) = true)
    (a47 : PySem.W.findIn K (.ref C_Search) "double" = some (some (.ref f47))) (i47 : PySem.W.isFn K (.ref f47) = true) (l47 : K.lookup f47 = some ⟨oc47, od47, .func (PySem.W.fnOf "double" "Search.double" (defArgs s_Search_double) (defBody s_Search_double) (defScope s_Search_double) .none kV47 dc47 pm47 an47 cd47 ct47), sl47⟩) (c47 : PySem.W.codeIn K cd47 "Search.double" = true) (k47 : PySem.W.keepIn K (.ref f47) = true)
    (a48 : PySem.W.findIn K (.ref C_Search) "put" = some (some (.ref f48))) (i48 : PySem.W.isFn K (.ref f48) = true) (l48 : K.lookup f48 = some ⟨oc48, od48, .func (PySem.W.fnOf "put" "Search.put" (defArgs s_Search_put) (defBody s_Search_put) (defScope s_Search_put) .none kV48 dc48 pm48 an48 cd48 ct48), sl48⟩) (c48 : PySem.W.codeIn K cd48 "Search.put" = true) (k48 : PySem.W.keepIn K (.ref f48) = true)
    (a49 : PySem.W.findIn K (.ref C) "__init__" = some (some (.ref f49))) (i49 : PySem.W.isFn K (.ref f49) = true) (l49 : K.lookup f49 = some ⟨oc49, od49, .func (PySem.W.fnOf "__init__" "Web.__init__" (defArgs s_Web_init) (defBody s_Web_init) (defScope s_Web_init) .none kV49 dc49 pm49 an49 cd49 ct49), sl49⟩) (c49 : PySem.W.codeIn K cd49 "Web.__init__" = true) (k49 : PySem.W.keepIn K (.ref f49) = true)
    (a50 : PySem.W.findIn K (.ref C) "places" = some (some (.ref f50))) (i50 : PySem.W.isFn K (.ref f50) = true) (l50 : K.lookup f50 = some ⟨oc50, od50, .func (PySem.W.fnOf "places" "Web.places" (defArgs s_Web_places) (defBody s_Web_places) (defScope s_Web_places) .none kV50 dc50 pm50 an50 cd50 ct50), sl50⟩) (c50 : PySem.W.codeIn K cd50 "Web.places" = true) (k50 : PySem.W.keepIn K (.ref f50) = true)
    (a51 : PySem.W.findIn K (.ref C) "round_of" = some (some (.ref f51))) (i51 : PySem.W.isFn K (.ref f51) = true) (l51 : K.lookup f51 = some ⟨oc51, od51, .func (PySem.W.fnOf "round_of" "Web.round_of" (defArgs s_Web_round_of) (defBody s_Web_round_of) (defScope s_Web_round_of) .none kV51 dc51 pm51 an51 cd51 ct51), sl51⟩) (c51 : PySem.W.codeIn K cd51 "Web.round_of" = true) (k51 : PySem.W.keepIn K (.ref f51) = true)
    (a52 : PySem.W.findIn K (.ref C) "ties" = some (some (.ref f52))) (i52 : PySem.W.isFn K (.ref f52) = true) (l52 : K.lookup f52 = some ⟨oc52, od52, .func (PySem.W.fnOf "ties" "Web.ties" (defArgs s_Web_ties) (defBody s_Web_ties) (defScope s_Web_ties) .none kV52 dc52 pm52 an52 cd52 ct52), sl52⟩) (c52 : PySem.W.codeIn K cd52 "Web.ties" = true) (k52 : PySem.W.keepIn K (.ref f52) = true)
    (a53 : PySem.W.findIn K (.ref C) "is_tied" = some (some (.ref f53))) (i53 : PySem.W.isFn K (.ref f53) = true) (l53 : K.lookup f53 = some ⟨oc53, od53, .func (PySem.W.fnOf "is_tied" "Web.is_tied" (defArgs s_Web_is_tied) (defBody s_Web_is_tied) (defScope s_Web_is_tied) .none kV53 dc53 pm53 an53 cd53 ct53), sl53⟩) (c53 : PySem.W.codeIn K cd53 "Web.is_tied" = true) (k53 : PySem.W.keepIn K (.ref f53) = true)
    : ∃ fd : FuncData, (∀ (s : Shared) (v : Value), BindsTo s fd ⟨[v], []⟩ [("_law_script", v)]) ∧ ∀ base : Heap, K.In base → base.Ns mainGlobals mg → FnG l.prog w K mg base 14 fa fd ["_law_script"] (spLaw K) := by
  have e := hfa.symm.trans (PySem.W.mg_of X G a38)
  cases e
  have F1 := fun_mk (st := s_wall) l1 c1 k1
  have b1 := F1.binds (ps := ["k"]) fun _ _ _ _ _ _ us hl => match us, hl with | [_], _ => rfl
  have F2 := fun_mk (st := s_come_to_chains) l2 c2 k2
  have b2 := F2.binds (ps := ["web", "hues", "start", "two"]) fun _ _ _ _ _ _ us hl => match us, hl with | [_, _, _, _], _ => rfl
  have F3 := fun_mk (st := s_chain) l3 c3 k3
  have b3 := F3.binds (ps := ["web", "hues", "start", "other"]) fun _ _ _ _ _ _ us hl => match us, hl with | [_, _, _, _], _ => rfl
  have F4 := fun_mk (st := s_turned) l4 c4 k4
  have b4 := F4.binds (ps := ["hues", "row", "one", "other"]) fun _ _ _ _ _ _ us hl => match us, hl with | [_, _, _, _], _ => rfl
  have F5 := fun_mk (st := s_exchanged) l5 c5 k5
  have b5 := F5.binds (ps := ["web", "hues", "start", "other"]) fun _ _ _ _ _ _ us hl => match us, hl with | [_, _, _, _], _ => rfl
  have F6 := fun_mk (st := s_order) l6 c6 k6
  have b6 := F6.binds (ps := ["web"]) fun _ _ _ _ _ _ us hl => match us, hl with | [_], _ => rfl
  have F7 := fun_mk (st := s_free_hue) l7 c7 k7
  have b7 := F7.binds (ps := ["web", "hues", "place"]) fun _ _ _ _ _ _ us hl => match us, hl with | [_, _, _], _ => rfl
  have F8 := fun_mk (st := s_tries) l8 c8 k8
  have b8 := F8.binds (ps := ["web", "hues", "place"]) fun _ _ _ _ _ _ us hl => match us, hl with | [_, _, _], _ => rfl
  have F9 := fun_mk (st := s_with_chain) l9 c9 k9
  have b9 := F9.binds (ps := ["web", "hues", "one"]) fun _ _ _ _ _ _ us hl => match us, hl with | [_, _, _], _ => rfl
  have F10 := fun_mk (st := s_four_paper) l10 c10 k10
  have b10 := F10.binds (ps := ["web", "most"]) fun _ _ _ _ _ _ us hl => match us, hl with | [_, _], _ => rfl
  have F11 := fun_mk (st := s_is_name) l11 c11 k11
  have b11 := F11.binds (ps := ["thing"]) fun _ _ _ _ _ _ us hl => match us, hl with | [_], _ => rfl
  have F12 := fun_mk (st := s_from_least) l12 c12 k12
  have b12 := F12.binds (ps := ["around"]) fun _ _ _ _ _ _ us hl => match us, hl with | [_], _ => rfl
  have F13 := fun_mk (st := s_behind) l13 c13 k13
  have b13 := F13.binds (ps := ["around", "place"]) fun _ _ _ _ _ _ us hl => match us, hl with | [_, _], _ => rfl
  have F14 := fun_mk (st := s_face_from) l14 c14 k14
  have b14 := F14.binds (ps := ["rounds", "step"]) fun _ _ _ _ _ _ us hl => match us, hl with | [_, _], _ => rfl
  have F15 := fun_mk (st := s_faces_in) l15 c15 k15
  have b15 := F15.binds (ps := ["rounds"]) fun _ _ _ _ _ _ us hl => match us, hl with | [_], _ => rfl
  have F16 := fun_mk (st := s_come_to) l16 c16 k16
  have b16 := F16.binds (ps := ["rounds", "place"]) fun _ _ _ _ _ _ us hl => match us, hl with | [_, _], _ => rfl
  have F17 := fun_mk (st := s_pieces_in) l17 c17 k17
  have b17 := F17.binds (ps := ["rounds"]) fun _ _ _ _ _ _ us hl => match us, hl with | [_], _ => rfl
  have F18 := fun_mk (st := s_want_names) l18 c18 k18
  have b18 := F18.binds (ps := ["rows"]) fun _ _ _ _ _ _ us hl => match us, hl with | [_], _ => rfl
  have F19 := fun_mk (st := s_want_unlike) l19 c19 k19
  have b19 := F19.binds (ps := ["rows"]) fun _ _ _ _ _ _ us hl => match us, hl with | [_], _ => rfl
  have F20 := fun_mk (st := s_want_back) l20 c20 k20
  have b20 := F20.binds (ps := ["rows", "rounds"]) fun _ _ _ _ _ _ us hl => match us, hl with | [_, _], _ => rfl
  have F21 := fun_mk (st := s_want_flat) l21 c21 k21
  have b21 := F21.binds (ps := ["rounds"]) fun _ _ _ _ _ _ us hl => match us, hl with | [_], _ => rfl
  have F22 := fun_mk (st := s_mirrored) l22 c22 k22
  have b22 := F22.binds (ps := ["web"]) fun _ _ _ _ _ _ us hl => match us, hl with | [_], _ => rfl
  have F23 := fun_mk (st := s_law_cell) l23 c23 k23
  have b23 := F23.binds (ps := ["_law_script", "_law_k"]) fun _ _ _ _ _ _ us hl => match us, hl with | [_, _], _ => rfl
  have F24 := fun_mk (st := s_law_pot) l24 c24 k24
  have b24 := F24.binds (ps := ["_law_cell_here"]) fun _ _ _ _ _ _ us hl => match us, hl with | [_], _ => rfl
  have F25 := fun_mk (st := s_law_take) l25 c25 k25
  have b25 := F25.binds (ps := ["_law_pot_here", "_law_many"]) fun _ _ _ _ _ _ us hl => match us, hl with | [_, _], _ => rfl
  have F26 := fun_mk (st := s_law_names) l26 c26 k26
  have b26 := F26.binds (ps := ["_law_pot_here", "_law_many"]) fun _ _ _ _ _ _ us hl => match us, hl with | [_, _], _ => rfl
  have F27 := fun_mk (st := s_law_behind) l27 c27 k27
  have b27 := F27.binds (ps := ["_law_around", "_law_place"]) fun _ _ _ _ _ _ us hl => match us, hl with | [_, _], _ => rfl
  have F28 := fun_mk (st := s_law_face) l28 c28 k28
  have b28 := F28.binds (ps := ["_law_rounds_here", "_law_p", "_law_q"]) fun _ _ _ _ _ _ us hl => match us, hl with | [_, _, _], _ => rfl
  have F29 := fun_mk (st := s_law_put) l29 c29 k29
  have b29 := F29.binds (ps := ["_law_rounds_here", "_law_one", "_law_corner_of", "_law_other", "_law_after"]) fun _ _ _ _ _ _ us hl => match us, hl with | [_, _, _, _, _], _ => rfl
  have F30 := fun_mk (st := s_law_grown) l30 c30 k30
  have b30 := F30.binds (ps := ["_law_pot_here", "_law_names_here"]) fun _ _ _ _ _ _ us hl => match us, hl with | [_, _], _ => rfl
  have F31 := fun_mk (st := s_law_crossed) l31 c31 k31
  have b31 := F31.binds (ps := ["_law_rounds_here", "_law_pot_here"]) fun _ _ _ _ _ _ us hl => match us, hl with | [_, _], _ => rfl
  have F32 := fun_mk (st := s_law_filled) l32 c32 k32
  have b32 := F32.binds (ps := ["_law_rounds_here"]) fun _ _ _ _ _ _ us hl => match us, hl with | [_], _ => rfl
  have F33 := fun_mk (st := s_law_two_rings) l33 c33 k33
  have b33 := F33.binds (ps := ["_law_names_here", "_law_many"]) fun _ _ _ _ _ _ us hl => match us, hl with | [_, _], _ => rfl
  have F34 := fun_mk (st := s_law_untied) l34 c34 k34
  have b34 := F34.binds (ps := ["_law_rounds_here", "_law_pot_here"]) fun _ _ _ _ _ _ us hl => match us, hl with | [_, _], _ => rfl
  have F35 := fun_mk (st := s_law_rounds) l35 c35 k35
  have b35 := F35.binds (ps := ["_law_script", "_law_most"]) fun _ _ _ _ _ _ us hl => match us, hl with | [_, _], _ => rfl
  have F36 := fun_mk (st := s_law_rows) l36 c36 k36
  have b36 := F36.binds (ps := ["_law_rounds_here"]) fun _ _ _ _ _ _ us hl => match us, hl with | [_], _ => rfl
  have F37 := fun_mk (st := s_law_other_rows) l37 c37 k37
  have b37 := F37.binds (ps := ["_law_rounds_here", "_law_pot_here"]) fun _ _ _ _ _ _ us hl => match us, hl with | [_, _], _ => rfl
  have F38 := fun_mk (st := s_law) l38 c38 k38
  have b38 := F38.binds (ps := ["_law_script"]) fun _ _ _ _ _ _ us hl => match us, hl with | [_], _ => rfl
  have F39 := fun_mk (st := s_Left_init) l39 c39 k39
  have b39 := F39.binds (ps := ["self", "web"]) fun _ _ _ _ _ _ us hl => match us, hl with | [_, _], _ => rfl
  have F40 := fun_mk (st := s_Left_fewest) l40 c40 k40
  have b40 := F40.binds (ps := ["self"]) fun _ _ _ _ _ _ us hl => match us, hl with | [_], _ => rfl
  have F41 := fun_mk (st := s_Left_take_off) l41 c41 k41
  have b41 := F41.binds (ps := ["self", "place"]) fun _ _ _ _ _ _ us hl => match us, hl with | [_, _], _ => rfl
  have F42 := fun_mk (st := s_Left_is_empty) l42 c42 k42
  have b42 := F42.binds (ps := ["self"]) fun _ _ _ _ _ _ us hl => match us, hl with | [_], _ => rfl
  have F43 := fun_mk (st := s_Search_init) l43 c43 k43
  have b43 := F43.binds (ps := ["self", "web", "most"]) fun _ _ _ _ _ _ us hl => match us, hl with | [_, _, _], _ => rfl
  have F44 := fun_mk (st := s_Search_behind) l44 c44 k44
  have b44 := F44.binds (ps := ["self", "hues", "one"]) fun _ _ _ _ _ _ us hl => match us, hl with | [_, _, _], _ => rfl
  have F45 := fun_mk (st := s_Search_single) l45 c45 k45
  have b45 := F45.binds (ps := ["self", "place"]) fun _ _ _ _ _ _ us hl => match us, hl with | [_, _], _ => rfl
  have F46 := fun_mk (st := s_Search_second) l46 c46 k46
  have b46 := F46.binds (ps := ["self", "place", "hues"]) fun _ _ _ _ _ _ us hl => match us, hl with | [_, _, _], _ => rfl
  have F47 := fun_mk (st := s_Search_double) l47 c47 k47
  have b47 := F47.binds (ps := ["self", "place"]) fun _ _ _ _ _ _ us hl => match us, hl with | [_, _], _ => rfl
  have F48 := fun_mk (st := s_Search_put) l48 c48 k48
  have b48 := F48.binds (ps := ["self", "place"]) fun _ _ _ _ _ _ us hl => match us, hl with | [_, _], _ => rfl
  have F49 := fun_mk (st := s_Web_init) l49 c49 k49
  have b49 := F49.binds (ps := ["self", "rows"]) fun _ _ _ _ _ _ us hl => match us, hl with | [_, _], _ => rfl
  have F50 := fun_mk (st := s_Web_places) l50 c50 k50
  have b50 := F50.binds (ps := ["self"]) fun _ _ _ _ _ _ us hl => match us, hl with | [_], _ => rfl
  have F51 := fun_mk (st := s_Web_round_of) l51 c51 k51
  have b51 := F51.binds (ps := ["self", "place"]) fun _ _ _ _ _ _ us hl => match us, hl with | [_, _], _ => rfl
  have F52 := fun_mk (st := s_Web_ties) l52 c52 k52
  have b52 := F52.binds (ps := ["self"]) fun _ _ _ _ _ _ us hl => match us, hl with | [_], _ => rfl
  have F53 := fun_mk (st := s_Web_is_tied) l53 c53 k53
  have b53 := F53.binds (ps := ["self", "one", "other"]) fun _ _ _ _ _ _ us hl => match us, hl with | [_, _, _], _ => rfl
  have T : Txt K mg C (fun i => [e0, e1, e2, e3, e4, e5, e6, C_Left, C_Search].getD i 0) := ⟨PySem.W.mg_none_of X G z_abs,
    PySem.W.mg_none_of X G z_all,
    PySem.W.mg_none_of X G z_dict,
    PySem.W.mg_none_of X G z_divmod,
    PySem.W.mg_none_of X G z_isinstance,
    PySem.W.mg_none_of X G z_len,
    PySem.W.mg_none_of X G z_list,
    PySem.W.mg_none_of X G z_max,
    PySem.W.mg_none_of X G z_min,
    PySem.W.mg_none_of X G z_range,
    PySem.W.mg_none_of X G z_repr,
    PySem.W.mg_none_of X G z_reversed,
    PySem.W.mg_none_of X G z_set,
    PySem.W.mg_none_of X G z_sorted,
    PySem.W.mg_none_of X G z_str,
    PySem.W.mg_none_of X G z_sum,
    ⟨t_FOUR, PySem.W.mg_of X G a_FOUR, fun H => .inr ⟨_, _, _, l_FOUR, q_FOUR.1, rfl, (by obtain ⟨_, u0, u1, u2, u3, e⟩ := q_FOUR; rw [e]; show 4 ≤ sizeLine; decide), (by obtain ⟨_, u0, u1, u2, u3, e⟩ := q_FOUR; rw [e]; exact .cons ⟨u0, rfl⟩ (.cons ⟨u1, rfl⟩ (.cons ⟨u2, rfl⟩ (.cons ⟨u3, rfl⟩ (.nil)))))⟩⟩,
    (c_LETTERS.elim fun t e => ⟨_, PySem.W.mg_of X G e, t, rfl⟩),
    (c_MOST_LETTERS.elim fun t e => ⟨_, PySem.W.mg_of X G e, t, rfl⟩),
    ⟨_, _, F1, PySem.W.mg_of X G a1, b1⟩,
    ⟨_, _, F2, PySem.W.mg_of X G a2, b2⟩,
    ⟨_, _, F3, PySem.W.mg_of X G a3, b3⟩,
    ⟨_, _, F4, PySem.W.mg_of X G a4, b4⟩,
    ⟨_, _, F5, PySem.W.mg_of X G a5, b5⟩,
    ⟨_, _, F6, PySem.W.mg_of X G a6, b6⟩,
    ⟨_, _, F7, PySem.W.mg_of X G a7, b7⟩,
    ⟨_, _, F8, PySem.W.mg_of X G a8, b8⟩,
    ⟨_, _, F9, PySem.W.mg_of X G a9, b9⟩,
    ⟨_, _, F10, PySem.W.mg_of X G a10, b10⟩,
    ⟨_, _, F11, PySem.W.mg_of X G a11, b11⟩,
    ⟨_, _, F12, PySem.W.mg_of X G a12, b12⟩,
    ⟨_, _, F13, PySem.W.mg_of X G a13, b13⟩,
    ⟨_, _, F14, PySem.W.mg_of X G a14, b14⟩,
    ⟨_, _, F15, PySem.W.mg_of X G a15, b15⟩,
    ⟨_, _, F16, PySem.W.mg_of X G a16, b16⟩,
    ⟨_, _, F17, PySem.W.mg_of X G a17, b17⟩,
    ⟨_, _, F18, PySem.W.mg_of X G a18, b18⟩,
    ⟨_, _, F19, PySem.W.mg_of X G a19, b19⟩,
    ⟨_, _, F20, PySem.W.mg_of X G a20, b20⟩,
    ⟨_, _, F21, PySem.W.mg_of X G a21, b21⟩,
    ⟨_, _, F22, PySem.W.mg_of X G a22, b22⟩,
    ⟨_, _, F23, PySem.W.mg_of X G a23, b23⟩,
    ⟨_, _, F24, PySem.W.mg_of X G a24, b24⟩,
    ⟨_, _, F25, PySem.W.mg_of X G a25, b25⟩,
    ⟨_, _, F26, PySem.W.mg_of X G a26, b26⟩,
    ⟨_, _, F27, PySem.W.mg_of X G a27, b27⟩,
    ⟨_, _, F28, PySem.W.mg_of X G a28, b28⟩,
    ⟨_, _, F29, PySem.W.mg_of X G a29, b29⟩,
    ⟨_, _, F30, PySem.W.mg_of X G a30, b30⟩,
    ⟨_, _, F31, PySem.W.mg_of X G a31, b31⟩,
    ⟨_, _, F32, PySem.W.mg_of X G a32, b32⟩,
    ⟨_, _, F33, PySem.W.mg_of X G a33, b33⟩,
    ⟨_, _, F34, PySem.W.mg_of X G a34, b34⟩,
    ⟨_, _, F35, PySem.W.mg_of X G a35, b35⟩,
    ⟨_, _, F36, PySem.W.mg_of X G a36, b36⟩,
    ⟨_, _, F37, PySem.W.mg_of X G a37, b37⟩,
    ⟨_, _, F38, PySem.W.mg_of X G a38, b38⟩,
    PySem.W.mg_of X G g_e0,
    PySem.W.mg_of X G g_e1,
    PySem.W.mg_of X G g_e2,
    PySem.W.mg_of X G g_e3,
    PySem.W.mg_of X G g_e4,
    PySem.W.mg_of X G g_e5,
    PySem.W.mg_of X G g_e6,
    ⟨pg, hd, po, sa⟩,
    nR,
    PySem.W.mg_of X G aC,
    ⟨pgLeft, hdLeft, poLeft, saLeft⟩,
    PySem.W.mg_of X G aCLeft,
    n_Left_rounds,
    n_Left_many,
    ⟨f39, _, F39, ⟨mkLeft, a39, i39, kcLeft⟩, b39⟩,
    ⟨f40, _, F40, ⟨a40, i40, k40⟩, b40⟩,
    ⟨f41, _, F41, ⟨a41, i41, k41⟩, b41⟩,
    ⟨f42, _, F42, ⟨a42, i42, k42⟩, b42⟩,
    ⟨pgSearch, hdSearch, poSearch, saSearch⟩,
    PySem.W.mg_of X G aCSearch,
    n_Search_flat,
    n_Search_most,
    n_Search_steps,
    n_Search_back,
    n_Search_paper,
    ⟨f43, _, F43, ⟨mkSearch, a43, i43, kcSearch⟩, b43⟩,
    ⟨f44, _, F44, ⟨a44, i44, k44⟩, b44⟩,
    ⟨f45, _, F45, ⟨a45, i45, k45⟩, b45⟩,
    ⟨f46, _, F46, ⟨a46, i46, k46⟩, b46⟩,
    ⟨f47, _, F47, ⟨a47, i47, k47⟩, b47⟩,
    ⟨f48, _, F48, ⟨a48, i48, k48⟩, b48⟩,
    ⟨f49, _, F49, ⟨mk, a49, i49, kc⟩, b49⟩,
    ⟨f50, _, F50, ⟨a50, i50, k50⟩, b50⟩,
    ⟨f51, _, F51, ⟨a51, i51, k51⟩, b51⟩,
    ⟨f52, _, F52, ⟨a52, i52, k52⟩, b52⟩,
    ⟨f53, _, F53, ⟨a53, i53, k53⟩, b53⟩⟩
  exact ⟨_, fun s v => .of_eq rfl, fun base _ _ => ok_law_fn T F38⟩
theorem walk {l : PySem.W.OpenLaw} {q : Program} {loose : List Str} {XP : (Str → Option Value) → Heap → Prop} {YP : World → Heap → Prop} {d : DefRec} {K : Params → PySem.W.Frag} (hn : l.most = some 63) (hdf : d.params.defaults = [])
    (hY : ∀ (w : World) (h : Heap), YP w h → (K w.params).In h)
    (F : ∀ (w : World) (mg : Str → Option Value) (fa : Addr) (h : Heap), (K w.params).In h → h.Ns mainGlobals mg → mg d.name = some (.ref fa) →
      ∃ fd : FuncData, (∀ (s : Shared) (u : Value), BindsTo s fd ⟨[u], []⟩ [("_law_script", u)]) ∧ ∀ base : Heap, (K w.params).In base → base.Ns mainGlobals mg → FnG l.prog w (K w.params) mg base 14 fa fd ["_law_script"] (spLaw (K w.params))) :
    PySem.W.WalkO q loose XP YP l.row.toRowW d [] (fun f vs => PySem.call f vs) :=
  walk_ofG (n := 63) (k := 14) (x := "_law_script") (sp := fun w => spLaw (K w.params)) hn (by decide) hdf ⟨rfl, by decide, by decide⟩ hY F (fun _ _ a ns hl _ hS => ⟨a, ns, rfl, hS, hl, fun _ => rfl⟩)
end Five
open PySem PySem.W PyProof.Rows in
set_option maxRecDepth 100000 in
set_option maxHeartbeats 0 in
theorem PySem.Challenge.cw_fivehues_k54_four_hues_mirrored_holds : PySem.Challenge.rw_fivehues_k54_four_hues_mirrored.Holds := by
  w_on; o_law; k_head; (case hw => w_witness2)
  k_fill
  refine Five.walk (l := PySem.Challenge.rw_fivehues_k54_four_hues_mirrored) rfl rfl (fun w h Y => PySem.W.kIn_of Y) ?F
  case F =>
    intro w mg fa h KX G hmg
    refine' Five.all_mk KX G hmg ?z_abs ?z_all ?z_dict ?z_divmod ?z_isinstance ?z_len ?z_list ?z_max ?z_min ?z_range ?z_repr ?z_reversed ?z_set ?z_sorted ?z_str ?z_sum ?a_FOUR ?l_FOUR ?q_FOUR ?c_LETTERS ?c_MOST_LETTERS ?a1 ?l1 ?c1 ?k1 ?a2 ?l2 ?c2 ?k2 ?a3 ?l3 ?c3 ?k3 ?a4 ?l4 ?c4 ?k4 ?a5 ?l5 ?c5 ?k5 ?a6 ?l6 ?c6 ?k6 ?a7 ?l7 ?c7 ?k7 ?a8 ?l8 ?c8 ?k8 ?a9 ?l9 ?c9 ?k9 ?a10 ?l10 ?c10 ?k10 ?a11 ?l11 ?c11 ?k11 ?a12 ?l12 ?c12 ?k12 ?a13 ?l13 ?c13 ?k13 ?a14 ?l14 ?c14 ?k14 ?a15 ?l15 ?c15 ?k15 ?a16 ?l16 ?c16 ?k16 ?a17 ?l17 ?c17 ?k17 ?a18 ?l18 ?c18 ?k18 ?a19 ?l19 ?c19 ?k19 ?a20 ?l20 ?c20 ?k20 ?a21 ?l21 ?c21 ?k21 ?a22 ?l22 ?c22 ?k22 ?a23 ?l23 ?c23 ?k23 ?a24 ?l24 ?c24 ?k24 ?a25 ?l25 ?c25 ?k25 ?a26 ?l26 ?c26 ?k26 ?a27 ?l27 ?c27 ?k27 ?a28 ?l28 ?c28 ?k28 ?a29 ?l29 ?c29 ?k29 ?a30 ?l30 ?c30 ?k30 ?a31 ?l31 ?c31 ?k31 ?a32 ?l32 ?c32 ?k32 ?a33 ?l33 ?c33 ?k33 ?a34 ?l34 ?c34 ?k34 ?a35 ?l35 ?c35 ?k35 ?a36 ?l36 ?c36 ?k36 ?a37 ?l37 ?c37 ?k37 ?a38 ?l38 ?c38 ?k38 ?g_e0 ?g_e1 ?g_e2 ?g_e3 ?g_e4 ?g_e5 ?g_e6 ?aC ?pg ?hd ?po ?sa ?mk ?kc ?nR ?aCLeft ?pgLeft ?hdLeft ?poLeft ?saLeft ?mkLeft ?kcLeft ?n_Left_rounds ?n_Left_many ?a39 ?i39 ?l39 ?c39 ?k39 ?a40 ?i40 ?l40 ?c40 ?k40 ?a41 ?i41 ?l41 ?c41 ?k41 ?a42 ?i42 ?l42 ?c42 ?k42 ?aCSearch ?pgSearch ?hdSearch ?poSearch ?saSearch ?mkSearch ?kcSearch ?n_Search_flat ?n_Search_most ?n_Search_steps ?n_Search_back ?n_Search_paper ?a43 ?i43 ?l43 ?c43 ?k43 ?a44 ?i44 ?l44 ?c44 ?k44 ?a45 ?i45 ?l45 ?c45 ?k45 ?a46 ?i46 ?l46 ?c46 ?k46 ?a47 ?i47 ?l47 ?c47 ?k47 ?a48 ?i48 ?l48 ?c48 ?k48 ?a49 ?i49 ?l49 ?c49 ?k49 ?a50 ?i50 ?l50 ?c50 ?k50 ?a51 ?i51 ?l51 ?c51 ?k51 ?a52 ?i52 ?l52 ?c52 ?k52 ?a53 ?i53 ?l53 ?c53 ?k53
    (case z_abs => k_is)
    (case z_all => k_is)
    (case z_dict => k_is)
    (case z_divmod => k_is)
    (case z_isinstance => k_is)
    (case z_len => k_is)
    (case z_list => k_is)
    (case z_max => k_is)
    (case z_min => k_is)
    (case z_range => k_is)
    (case z_repr => k_is)
    (case z_reversed => k_is)
    (case z_set => k_is)
    (case z_sorted => k_is)
    (case z_str => k_is)
    (case z_sum => k_is)
    (case a_FOUR => k_is)
    (case l_FOUR => k_is)
    (case q_FOUR => exact ⟨rfl, _, _, _, _,  rfl⟩)
    (case c_LETTERS => exact ⟨_, by k_is⟩)
    (case c_MOST_LETTERS => exact ⟨_, by k_is⟩)
    (case a1 => k_is)
    (case l1 => k_is)
    (case c1 => k_is)
    (case k1 => k_is)
    (case a2 => k_is)
    (case l2 => k_is)
    (case c2 => k_is)
    (case k2 => k_is)
    (case a3 => k_is)
    (case l3 => k_is)
    (case c3 => k_is)
    (case k3 => k_is)
    (case a4 => k_is)
    (case l4 => k_is)
    (case c4 => k_is)
    (case k4 => k_is)
    (case a5 => k_is)
    (case l5 => k_is)
    (case c5 => k_is)
    (case k5 => k_is)
    (case a6 => k_is)
    (case l6 => k_is)
    (case c6 => k_is)
    (case k6 => k_is)
    (case a7 => k_is)
    (case l7 => k_is)
    (case c7 => k_is)
    (case k7 => k_is)
    (case a8 => k_is)
    (case l8 => k_is)
    (case c8 => k_is)
    (case k8 => k_is)
    (case a9 => k_is)
    (case l9 => k_is)
    (case c9 => k_is)
    (case k9 => k_is)
    (case a10 => k_is)
    (case l10 => k_is)
    (case c10 => k_is)
    (case k10 => k_is)
    (case a11 => k_is)
    (case l11 => k_is)
    (case c11 => k_is)
    (case k11 => k_is)
    (case a12 => k_is)
    (case l12 => k_is)
    (case c12 => k_is)
    (case k12 => k_is)
    (case a13 => k_is)
    (case l13 => k_is)
    (case c13 => k_is)
    (case k13 => k_is)
    (case a14 => k_is)
    (case l14 => k_is)
    (case c14 => k_is)
    (case k14 => k_is)
    (case a15 => k_is)
    (case l15 => k_is)
    (case c15 => k_is)
    (case k15 => k_is)
    (case a16 => k_is)
    (case l16 => k_is)
    (case c16 => k_is)
    (case k16 => k_is)
    (case a17 => k_is)
    (case l17 => k_is)
    (case c17 => k_is)
    (case k17 => k_is)
    (case a18 => k_is)
    (case l18 => k_is)
    (case c18 => k_is)
    (case k18 => k_is)
    (case a19 => k_is)
    (case l19 => k_is)
    (case c19 => k_is)
    (case k19 => k_is)
    (case a20 => k_is)
    (case l20 => k_is)
    (case c20 => k_is)
    (case k20 => k_is)
    (case a21 => k_is)
    (case l21 => k_is)
    (case c21 => k_is)
    (case k21 => k_is)
    (case a22 => k_is)
    (case l22 => k_is)
    (case c22 => k_is)
    (case k22 => k_is)
    (case a23 => k_is)
    (case l23 => k_is)
    (case c23 => k_is)
    (case k23 => k_is)
    (case a24 => k_is)
    (case l24 => k_is)
    (case c24 => k_is)
    (case k24 => k_is)
    (case a25 => k_is)
    (case l25 => k_is)
    (case c25 => k_is)
    (case k25 => k_is)
    (case a26 => k_is)
    (case l26 => k_is)
    (case c26 => k_is)
    (case k26 => k_is)
    (case a27 => k_is)
    (case l27 => k_is)
    (case c27 => k_is)
    (case k27 => k_is)
    (case a28 => k_is)
    (case l28 => k_is)
    (case c28 => k_is)
    (case k28 => k_is)
    (case a29 => k_is)
    (case l29 => k_is)
    (case c29 => k_is)
    (case k29 => k_is)
    (case a30 => k_is)
    (case l30 => k_is)
    (case c30 => k_is)
    (case k30 => k_is)
    (case a31 => k_is)
    (case l31 => k_is)
    (case c31 => k_is)
    (case k31 => k_is)
    (case a32 => k_is)
    (case l32 => k_is)
    (case c32 => k_is)
    (case k32 => k_is)
    (case a33 => k_is)
    (case l33 => k_is)
    (case c33 => k_is)
    (case k33 => k_is)
    (case a34 => k_is)
    (case l34 => k_is)
    (case c34 => k_is)
    (case k34 => k_is)
    (case a35 => k_is)
    (case l35 => k_is)
    (case c35 => k_is)
    (case k35 => k_is)
    (case a36 => k_is)
    (case l36 => k_is)
    (case c36 => k_is)
    (case k36 => k_is)
    (case a37 => k_is)
    (case l37 => k_is)
    (case c37 => k_is)
    (case k37 => k_is)
    (case a38 => k_is)
    (case l38 => k_is)
    (case c38 => k_is)
    (case k38 => k_is)
    (case g_e0 => k_is)
    (case g_e1 => k_is)
    (case g_e2 => k_is)
    (case g_e3 => k_is)
    (case g_e4 => k_is)
    (case g_e5 => k_is)
    (case g_e6 => k_is)
    (case aC => k_is)
    (case pg => k_is)
    (case hd => k_is)
    (case po => k_is)
    (case sa => k_is)
    (case mk => k_is)
    (case kc => k_is)
    (case nR => k_is)
    (case aCLeft => k_is)
    (case pgLeft => k_is)
    (case hdLeft => k_is)
    (case poLeft => k_is)
    (case saLeft => k_is)
    (case mkLeft => k_is)
    (case kcLeft => k_is)
    (case n_Left_rounds => k_is)
    (case n_Left_many => k_is)
    (case a39 => k_is)
    (case i39 => k_is)
    (case l39 => k_is)
    (case c39 => k_is)
    (case k39 => k_is)
    (case a40 => k_is)
    (case i40 => k_is)
    (case l40 => k_is)
    (case c40 => k_is)
    (case k40 => k_is)
    (case a41 => k_is)
    (case i41 => k_is)
    (case l41 => k_is)
    (case c41 => k_is)
    (case k41 => k_is)
    (case a42 => k_is)
    (case i42 => k_is)
    (case l42 => k_is)
    (case c42 => k_is)
    (case k42 => k_is)
    (case aCSearch => k_is)
    (case pgSearch => k_is)
    (case hdSearch => k_is)
    (case poSearch => k_is)
    (case saSearch => k_is)
    (case mkSearch => k_is)
    (case kcSearch => k_is)
    (case n_Search_flat => k_is)
    (case n_Search_most => k_is)
    (case n_Search_steps => k_is)
    (case n_Search_back => k_is)
    (case n_Search_paper => k_is)
    (case a43 => k_is)
    (case i43 => k_is)
    (case l43 => k_is)
    (case c43 => k_is)
    (case k43 => k_is)
    (case a44 => k_is)
    (case i44 => k_is)
    (case l44 => k_is)
    (case c44 => k_is)
    (case k44 => k_is)
    (case a45 => k_is)
    (case i45 => k_is)
    (case l45 => k_is)
    (case c45 => k_is)
    (case k45 => k_is)
    (case a46 => k_is)
    (case i46 => k_is)
    (case l46 => k_is)
    (case c46 => k_is)
    (case k46 => k_is)
    (case a47 => k_is)
    (case i47 => k_is)
    (case l47 => k_is)
    (case c47 => k_is)
    (case k47 => k_is)
    (case a48 => k_is)
    (case i48 => k_is)
    (case l48 => k_is)
    (case c48 => k_is)
    (case k48 => k_is)
    (case a49 => k_is)
    (case i49 => k_is)
    (case l49 => k_is)
    (case c49 => k_is)
    (case k49 => k_is)
    (case a50 => k_is)
    (case i50 => k_is)
    (case l50 => k_is)
    (case c50 => k_is)
    (case k50 => k_is)
    (case a51 => k_is)
    (case i51 => k_is)
    (case l51 => k_is)
    (case c51 => k_is)
    (case k51 => k_is)
    (case a52 => k_is)
    (case i52 => k_is)
    (case l52 => k_is)
    (case c52 => k_is)
    (case k52 => k_is)
    (case a53 => k_is)
    (case i53 => k_is)
    (case l53 => k_is)
    (case c53 => k_is)
    (case k53 => k_is)
