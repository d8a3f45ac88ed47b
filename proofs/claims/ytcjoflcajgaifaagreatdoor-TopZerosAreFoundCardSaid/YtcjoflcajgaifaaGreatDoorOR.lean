/- Lemmas: what they ask stands in their statements. -/
namespace Go
theorem O.{u} {α:Sort u} {a:α}:a=a:=rfl
end Go
